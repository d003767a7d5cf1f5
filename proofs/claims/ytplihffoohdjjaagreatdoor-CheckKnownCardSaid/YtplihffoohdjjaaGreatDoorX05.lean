/- A part of the proof of 'CheckKnownCardSaid': the compiled functions, the answers found by evaluation, and what follows of them. There is no further condition. -/
import Derived.Test.YtplihffoohdjjaaGreatDoorX04
namespace Xv.Ck
open Xv
set_option maxRecDepth 100000
def cf3 : CF := ⟨3, true, (.seq (.reg [
 ci oa00 (.mv kf)]) (.seq (.seq (.reg [
 ci oa0e (.call fn4 [(ks 30 863594189015218059193342263782771614026736151091018017254017454991897958), (ki 29), (ki 15)]),
 ci oa0f (.not xa0e),
 ci oa10 (.mv xa0f),
 cg oa11 ta10 false (.call fn4 [(ks 42 68614579894706362320090213465881548082053980751883449669097072368407397678184575377680302867143882086), (ki 17), (ki 14)]),
 cg oa12 ta10 false (.not xa11),
 ci oa13 (.pick xa10 kt xa12),
 ci oa14 (.mv xa13),
 cg oa15 ta14 false (.call fn4 [(ks 29 3373405064447484340481410761372021435427564849543095095862541526398310), (ki 16), (ki 12)]),
 cg oa16 ta14 false (.not xa15),
 ci oa17 (.pick xa14 kt xa16),
 ci oa18 (.mv xa17),
 cg oa19 ta18 false (.call fn4 [(ks 18 10900067510317430874828974005793167273522534), (ki 11), (ki 15)]),
 cg oa1a ta18 false (.not xa19),
 ci oa1b (.pick xa18 kt xa1a),
 ci oa1c (.mv xa1b),
 cg oa1d ta1c false (.call fn4 [(ks 23 11984665832058873145472578467241264613280941914142438758), (ki 16), (ki 14)]),
 cg oa1e ta1c false (.not xa1d),
 ci oa1f (.pick xa1c kt xa1e),
 ci oa20 (.mv xa1f),
 cg oa21 ta20 false (.call fn4 [(ks 17 42578045042192428986362285583519068353894), (ki 12), (ki 14)]),
 cg oa22 ta20 false (.not xa21),
 ci oa23 (.pick xa20 kt xa22),
 ci oa24 (.mv xa23),
 cg oa25 ta24 false (.call fn4 [(ks 20 714341749671630816999396277768734788321905898854), (ki 11), (ki 14)]),
 cg oa26 ta24 false (.not xa25),
 ci oa27 (.pick xa24 kt xa26)]) (.cond xa27 (.seq (.reg [
 ci oa00 (.mv kf)]) .ret) .skip)) (.seq (.seq (.reg [
 ci oa28 (.call fn4 [(ks 21 182871310221166063059751608070852822021000737486182), (ki 16), (ki 14)]),
 ci oa29 (.not xa28),
 ci oa2a (.mv xa29),
 cg oa2b ta2a false (.call fn4 [(ks 21 182871487932720307669449931596824502792410809398630), (ki 18), (ki 14)]),
 cg oa2c ta2a false (.not xa2b),
 ci oa2d (.pick xa2a kt xa2c),
 ci oa2e (.mv xa2d),
 cg oa2f ta2e false (.call fn4 [(ks 23 11984755453052152469485087341296613386941678584631031142), (ki 15), (ki 14)]),
 cg oa30 ta2e false (.not xa2f),
 ci oa31 (.pick xa2e kt xa30),
 ci oa32 (.mv xa31),
 cg oa33 ta32 false (.call fn4 [(ks 31 221080112384089024172735682989129538762269093496203026818227332067051337062), (ki 26), (ki 15)]),
 cg oa34 ta32 false (.not xa33),
 ci oa35 (.pick xa32 kt xa34),
 ci oa36 (.mv xa35),
 cg oa37 ta36 false (.call fn4 [(ks 21 182873182793669715291294180957265798332210788332902), (ki 14), (ki 14)]),
 cg oa38 ta36 false (.not xa37),
 ci oa39 (.pick xa36 kt xa38),
 ci oa3a (.mv xa39),
 cg oa3b ta3a false (.call fn4 [(ks 31 221080112394373126912438744652570128707802752912961712275924906073960379750), (ki 23), (ki 14)]),
 cg oa3c ta3a false (.not xa3b),
 ci oa3d (.pick xa3a kt xa3c),
 ci oa3e (.mv xa3d),
 cg oa3f ta3e false (.call fn4 [(ks 20 714341055569114538362532748342402442383319790950), (ki 11), (ki 14)]),
 cg oa40 ta3e false (.not xa3f),
 ci oa41 (.pick xa3e kt xa40),
 ci oa42 (.mv xa41),
 cg oa43 ta42 false (.call fn4 [(ks 26 201069132047115823325615210570448715378003503160289009221924198), (ki 21), (ki 14)]),
 cg oa44 ta42 false (.not xa43),
 ci oa45 (.pick xa42 kt xa44),
 ci oa46 (.mv xa45),
 cg oa47 ta46 false (.call fn4 [(ks 21 182871310983827813730412234463236568572294954120550), (ki 17), (ki 14)]),
 cg oa48 ta46 false (.not xa47),
 ci oa49 (.pick xa46 kt xa48)]) (.cond xa49 (.seq (.reg [
 ci oa00 (.mv kf)]) .ret) .skip)) (.seq (.reg [
 ci oa01 (.mv (ks 25 202325916087150134610563092236029922167906792555222687316340))]) (.seq (.seq (.reg [
 ci oa4a (.mv xa01),
 ci oa4b (.add xa4a (ks 38 15930491273590933284102886570529933498454944058299979847425008789768494768899244795714499942)),
 ci oa4c (.call fn4 [xa4b, (ki 49), (ki 13)]),
 ci oa4d (.not xa4c),
 ci oa4e (.mv xa4d),
 cg oa4f ta4e false (.mv xa01),
 cg oa50 ta4e false (.add xa4f (ks 32 56596474257698521924818942584130533440635421367423443943924629482520657687910)),
 cg oa51 ta4e false (.call fn4 [xa50, (ki 43), (ki 12)]),
 cg oa52 ta4e false (.not xa51),
 ci oa53 (.pick xa4e kt xa52),
 ci oa54 (.mv xa53),
 cg oa55 ta54 false (.mv xa01),
 cg oa56 ta54 false (.add xa55 (ks 35 949531273459847765213423489124410643262719841258664333472892749292707321031877883238)),
 cg oa57 ta54 false (.call fn4 [xa56, (ki 46), (ki 14)]),
 cg oa58 ta54 false (.not xa57),
 ci oa59 (.pick xa54 kt xa58),
 ci oa5a (.mv xa59),
 cg oa5b ta5a false (.mv xa01),
 cg oa5c ta5a false (.add xa5b (ks 21 182871310219142941710559585438794197857724359669094)),
 cg oa5d ta5a false (.call fn4 [xa5c, (ki 41), (ki 14)]),
 cg oa5e ta5a false (.not xa5d),
 ci oa5f (.pick xa5a kt xa5e),
 ci oa60 (.mv xa5f),
 cg oa61 ta60 false (.mv xa01),
 cg oa62 ta60 false (.add xa61 (ks 23 11984665832058871802915963117095559481838339065528612198)),
 cg oa63 ta60 false (.call fn4 [xa62, (ki 41), (ki 12)]),
 cg oa64 ta60 false (.not xa63),
 ci oa65 (.pick xa60 kt xa64),
 ci oa66 (.mv xa65),
 cg oa67 ta66 false (.mv xa01),
 cg oa68 ta66 false (.add xa67 (ks 28 13177401566170065555104959212120077317086697464482251110001083839846)),
 cg oa69 ta66 false (.call fn4 [xa68, (ki 44), (ki 14)]),
 cg oa6a ta66 false (.not xa69),
 ci oa6b (.pick xa66 kt xa6a),
 ci oa6c (.mv xa6b),
 cg oa6d ta6c false (.mv xa01),
 cg oa6e ta6c false (.add xa6d (ks 42 68420847711891752462523612056771270759627522612250231618338843381256606762465105547825137683304183142)),
 cg oa6f ta6c false (.call fn4 [xa6e, (ki 64), (ki 14)]),
 cg oa70 ta6c false (.not xa6f),
 ci oa71 (.pick xa6c kt xa70)]) (.cond xa71 (.seq (.reg [
 ci oa00 (.mv kf)]) .ret) .skip)) (.seq (.seq (.reg [
 ci oa72 (.mv xa01),
 ci oa73 (.add xa72 (ks 111 1008654562217201664381308069250964297375118765486684482573054971281328238417332857870839405844569423034308930841679134164144216536025311917108808765537377167336507664569134827943570683280536653742413123339331047762660019325752950365903915732206166684294094170891384166)),
 ci oa74 (.call fn5 [xa73]),
 ci oa75 (.not xa74),
 ci oa76 (.mv xa75),
 cg oa77 ta76 false (.call fn5 [(ks 53 21175267900132219597599266482794336102406062357482610306068709050944196264753787482167606502515971885404843624931091827154384230)]),
 cg oa78 ta76 false (.not xa77),
 ci oa79 (.pick xa76 kt xa78),
 ci oa7a (.mv xa79),
 cg oa7b ta7a false (.call fn5 [(ks 63 25599328099059567186302773266023249551529110121507643368757941551183925296209310026435503289195300107480616961406418710022805539934510578142428150003046)]),
 cg oa7c ta7a false (.not xa7b),
 ci oa7d (.pick xa7a kt xa7c),
 ci oa7e (.mv xa7d),
 cg oa7f ta7e false (.call fn4 [(ks 43 17515771073518423422204896941531410597178568064521418924759182140821047680574047433715337621665011889510), (ki 42), (ki 15)]),
 cg oa80 ta7e false (.not xa7f),
 ci oa81 (.pick xa7e kt xa80),
 ci oa82 (.mv xa81),
 cg oa83 ta82 false (.call fn4 [(ks 30 863594189040520020201339793274993494182827149551691955874162002589807974), (ki 29), (ki 15)]),
 cg oa84 ta82 false (.not xa83),
 ci oa85 (.pick xa82 kt xa84)]) (.cond xa85 (.seq (.reg [
 ci oa00 (.mv kf)]) .ret) .skip)) (.seq (.seq (.reg [
 ci oa86 (.call fn6 [(ks 47 75228966692446132067041734595542170245550872823662906475662838891746154531773106208149641432313444419120539792742), (ki 0), (ki 0)]),
 ci oa87 (.not xa86),
 ci oa88 (.mv xa87),
 cg oa89 ta88 false (.call fn6 [(ks 18 10899979485343970080327668214356462390900070), (ki 13), (ki 17)]),
 cg oa8a ta88 false (.not xa89),
 ci oa8b (.pick xa88 kt xa8a),
 ci oa8c (.mv xa8b),
 cg oa8d ta8c false (.call fn6 [(ks 18 10899979485364252489931319884780409642186086), (ki 13), (ki 12)]),
 cg oa8e ta8c false (.not xa8d),
 ci oa8f (.pick xa8c kt xa8e),
 ci oa90 (.mv xa8f),
 cg oa91 ta90 false (.call fn6 [(ks 28 13177393529959610180187428748819026521841133582393490608690721355110), (ki 18), (ki 14)]),
 cg oa92 ta90 false (.not xa91),
 ci oa93 (.pick xa90 kt xa92),
 ci oa94 (.mv xa93),
 cg oa95 ta94 false (.call fn6 [(ks 23 11984654186789360770325600469032155817887868662750016870), (ki 18), (ki 17)]),
 cg oa96 ta94 false (.not xa95),
 ci oa97 (.pick xa94 kt xa96),
 ci oa98 (.mv xa97),
 cg oa99 ta98 false (.call fn6 [(ks 25 785427059969810222475900558841974603112405201263172533515622), (ki 18), (ki 17)]),
 cg oa9a ta98 false (.not xa99),
 ci oa9b (.pick xa98 kt xa9a),
 ci oa9c (.mv xa9b),
 cg oa9d ta9c false (.call fn6 [(ks 34 3709106536952530332864934221193578639566720207010978562728400302621560869913261414), (ki 20), (ki 17)]),
 cg oa9e ta9c false (.not xa9d),
 ci oa9f (.pick xa9c kt xa9e),
 ci oaa0 (.mv xa9f),
 cg oaa1 taa0 false (.call fn6 [(ks 18 10899990076776591093747460558036879830578534), (ki 11), (ki 14)]),
 cg oaa2 taa0 false (.not xaa1),
 ci oaa3 (.pick xaa0 kt xaa2)]) (.cond xaa3 (.seq (.reg [
 ci oa00 (.mv kf)]) .ret) .skip)) (.seq (.reg [
 ci oaa5 (.call fn8 [(ks 66 429485463728176601224136169661429851071182476856803128485509834623352697693267335894116754509286305234284124744134447149745533616890615281492098006622447630708)]),
 ci oaa6 (.call fn7 [xaa5]),
 ci oaa4 (.mv xaa6),
 ci oaa7 (.ext xaa4 0),
 ci oaa8 (.ext xaa4 1),
 ci oa03 (.alloc 27 [vz, vz, vz]),
 ci oa02 (.mv xaa7),
 ci none (.st 3 xa03 xaa8)]) (.seq (.seq (.reg [
 ci oaa9 (.fa xa03 2),
 ci oaaa (.ld1 xaa9),
 ci oaab (.neq (.cell (.int .i64)) xaaa (ki 0))]) (.cond xaab (.seq (.reg [
 ci oa00 (.mv kf)]) .ret) .skip)) (.seq (.reg [
 ci oaac (.mv xa02),
 ci oaad (.call fn9 [xaac]),
 ci oa04 (.mv xaad)]) (.seq (.reg [
 ci oaaf (.mv xa02),
 ci oab0 (.call fn10 [xaaf, (ki 0), (ki 46)]),
 ci oaae (.mv xab0),
 ci oab1 (.ext xaae 0),
 ci oab2 (.ext xaae 1),
 ci oa05 (.alloc 35 [vz, ve, vz, vz, ve]),
 ci none (.st 5 xa05 xab1),
 ci oa06 (.mv xab2)]) (.seq (.reg [
 ci oab4 (.mv xa02),
 ci oab5 (.build [vz, vz, vz, vz, ve, .nils] [(0, 1, (ki 26)), (1, 1, (ki 66)), (2, 1, (ki 73))]),
 ci oab6 (.call fn11 [xab4, (ki 0), xab5]),
 ci oab3 (.mv xab6),
 ci oab7 (.ext xab3 0),
 ci oab8 (.ext xab3 1),
 ci oa07 (.alloc 39 [vz, ve, ve]),
 ci none (.st 3 xa07 xab7),
 ci oa08 (.mv xab8)]) (.seq (.reg [
 ci oa09 (.mv (.k .nilp))]) (.seq (.reg [
 ci oaba (.mv xa09),
 ci oabb (.call fn10 [xaba, (ki 0), (ki 0)]),
 ci oab9 (.mv xabb),
 ci oabc (.ext xab9 0),
 ci oabd (.ext xab9 1),
 ci oa0a (.alloc 35 [vz, ve, vz, vz, ve]),
 ci none (.st 5 xa0a xabc),
 ci oa0b (.mv xabd)]) (.seq (.reg [
 ci oabf (.mv xa09),
 ci oac0 (.build [vz, vz, vz, vz, ve, .nils] []),
 ci oac1 (.call fn11 [xabf, (ki 0), xac0]),
 ci oabe (.mv xac1),
 ci oac2 (.ext xabe 0),
 ci oac3 (.ext xabe 1),
 ci oa0c (.alloc 39 [vz, ve, ve]),
 ci none (.st 3 xa0c xac2),
 ci oa0d (.mv xac3)]) (.seq (.dreg [
 ⟨0, ci oac4 (.mv xa04), .pur, 0⟩,
 ⟨1, ci oac5 (.len 1 xac4), .rd, 0⟩,
 ⟨2, ci oac6 (.eql (.cell (.int .i64)) xac5 (ki 3)), .pur, 0⟩,
 ⟨3, ci oac7 (.mv xac6), .pur, 0⟩,
 ⟨4, cg oac8 tac7 true (.mv xa04), .pur, 0⟩,
 ⟨5, cg oac9 tac7 true (.ia 9 xac8 (ki 0)), .pur, 0⟩,
 ⟨6, cg oaca tac7 true (.fa xac9 2), .pur, 0⟩,
 ⟨7, cg oacb tac7 true (.ld1 xaca), .rd, 0⟩,
 ⟨8, cg oacc tac7 true (.eql (.cell .str) xacb (ks 1 65)), .pur, 0⟩,
 ⟨9, ci oacd (.pick xac7 xacc kf), .pur, 0⟩,
 ⟨10, ci oace (.mv xacd), .pur, 0⟩,
 ⟨11, cg oacf tace true (.mv xa04), .pur, 0⟩,
 ⟨12, cg oad0 tace true (.ia 9 xacf (ki 0)), .pur, 0⟩,
 ⟨13, cg oad1 tace true (.fa xad0 4), .pur, 0⟩,
 ⟨14, cg oad2 tace true (.fa xad1 0), .pur, 0⟩,
 ⟨15, cg oad3 tace true (.ld1 xad2), .rd, 0⟩,
 ⟨16, cg oad4 tace true (.eql (.cell (.int .i64)) xad3 (ki 5)), .pur, 0⟩,
 ⟨17, ci oad5 (.pick xace xad4 kf), .pur, 0⟩,
 ⟨18, ci oad6 (.mv xad5), .pur, 0⟩,
 ⟨19, cg oad7 tad6 true (.mv xa04), .pur, 0⟩,
 ⟨20, cg oad8 tad6 true (.ia 9 xad7 (ki 1)), .pur, 0⟩,
 ⟨21, cg oad9 tad6 true (.fa xad8 4), .pur, 0⟩,
 ⟨22, cg oada tad6 true (.fa xad9 0), .pur, 0⟩,
 ⟨23, cg oadb tad6 true (.ld1 xada), .rd, 0⟩,
 ⟨24, cg oadc tad6 true (.eql (.cell (.int .i64)) xadb (ki 4)), .pur, 0⟩,
 ⟨25, ci oadd (.pick xad6 xadc kf), .pur, 0⟩,
 ⟨26, ci oade (.mv xadd), .pur, 0⟩,
 ⟨27, cg oadf tade true (.mv xa04), .pur, 0⟩,
 ⟨28, cg oae0 tade true (.ia 9 xadf (ki 2)), .pur, 0⟩,
 ⟨29, cg oae1 tade true (.fa xae0 4), .pur, 0⟩,
 ⟨30, cg oae2 tade true (.ldn 5 xae1), .rd, 0⟩,
 ⟨31, cg oae3 tade true (.mv xa04), .pur, 0⟩,
 ⟨32, cg oae4 tade true (.ia 9 xae3 (ki 0)), .pur, 0⟩,
 ⟨33, cg oae5 tade true (.fa xae4 4), .pur, 0⟩,
 ⟨34, cg oae6 tade true (.ldn 5 xae5), .rd, 0⟩,
 ⟨35, cg oae7 tade true (.eql (.strct [(.int .i64), .str, (.int .i64), (.int .i64), .str]) xae2 xae6), .pur, 0⟩,
 ⟨36, ci oae8 (.pick xade xae7 kf), .pur, 0⟩,
 ⟨37, ci oae9 (.mv xae8), .pur, 0⟩,
 ⟨38, cg oaea tae9 true (.mv xa06), .pur, 0⟩,
 ⟨39, ci oaeb (.pick xae9 xaea kf), .pur, 0⟩,
 ⟨40, ci oaec (.mv xaeb), .pur, 0⟩,
 ⟨41, cg oaed taec true (.fa xa05 0), .pur, 0⟩,
 ⟨42, cg oaee taec true (.ld1 xaed), .rd, 0⟩,
 ⟨43, cg oaef taec true (.eql (.cell (.int .i64)) xaee (ki 4)), .pur, 0⟩,
 ⟨44, ci oaf0 (.pick xaec xaef kf), .pur, 0⟩,
 ⟨45, ci oaf1 (.mv xaf0), .pur, 0⟩,
 ⟨46, cg oaf2 taf1 true (.fa xa05 1), .pur, 0⟩,
 ⟨47, cg oaf3 taf1 true (.ld1 xaf2), .rd, 0⟩,
 ⟨48, cg oaf4 taf1 true (.eql (.cell .str) xaf3 (ks 1 77)), .pur, 0⟩,
 ⟨49, ci oaf5 (.pick xaf1 xaf4 kf), .pur, 0⟩,
 ⟨50, ci oaf6 (.mv xaf5), .pur, 0⟩,
 ⟨51, cg oaf7 taf6 true (.mv xa08), .pur, 0⟩,
 ⟨52, ci oaf8 (.pick xaf6 xaf7 kf), .pur, 0⟩,
 ⟨53, ci oaf9 (.mv xaf8), .pur, 0⟩,
 ⟨54, cg oafa taf9 true (.ldn 3 xa07), .rd, 0⟩,
 ⟨55, cg oafb taf9 true (.build [vz, ve, ve] [(0, 1, (ki 1))]), .pur, 0⟩,
 ⟨56, cg oafc taf9 true (.eql (.strct [(.int .i64), .str, .str]) xafa xafb), .pur, 0⟩,
 ⟨57, ci oafd (.pick xaf9 xafc kf), .pur, 0⟩,
 ⟨58, ci oafe (.mv xafd), .pur, 0⟩,
 ⟨59, cg oaff tafe true (.mv xa09), .pur, 0⟩,
 ⟨60, cg ob00 tafe true (.call fn12 [xaff]), .ev, 0⟩,
 ⟨61, cg ob01 tafe true (.eql .ptr xb00 (.k .nilp)), .pur, 0⟩,
 ⟨62, ci ob02 (.pick xafe xb01 kf), .pur, 0⟩,
 ⟨63, ci ob03 (.mv xb02), .pur, 0⟩,
 ⟨64, cg ob04 tb03 true (.mv xa09), .pur, 0⟩,
 ⟨65, cg ob05 tb03 true (.call fn13 [xb04]), .ev, 1⟩,
 ⟨66, cg ob06 tb03 true (.eql .ptr xb05 (.k .nilp)), .pur, 0⟩,
 ⟨67, ci ob07 (.pick xb03 xb06 kf), .pur, 0⟩,
 ⟨68, ci ob08 (.mv xb07), .pur, 0⟩,
 ⟨69, cg ob09 tb08 true (.mv xa09), .pur, 0⟩,
 ⟨70, cg ob0a tb08 true (.call fn9 [xb09]), .ev, 2⟩,
 ⟨71, cg ob0b tb08 true (.len 1 xb0a), .rd, 3⟩,
 ⟨72, cg ob0c tb08 true (.eql (.cell (.int .i64)) xb0b (ki 0)), .pur, 0⟩,
 ⟨73, ci ob0d (.pick xb08 xb0c kf), .pur, 0⟩,
 ⟨74, ci ob0e (.mv xb0d), .pur, 0⟩,
 ⟨75, cg ob0f tb0e true (.mv xa0b), .pur, 0⟩,
 ⟨76, cg ob10 tb0e true (.not xb0f), .pur, 0⟩,
 ⟨77, ci ob11 (.pick xb0e xb10 kf), .pur, 0⟩,
 ⟨78, ci ob12 (.mv xb11), .pur, 0⟩,
 ⟨79, cg ob13 tb12 true (.mv xa0d), .pur, 0⟩,
 ⟨80, cg ob14 tb12 true (.not xb13), .pur, 0⟩,
 ⟨81, ci ob15 (.pick xb12 xb14 kf), .pur, 0⟩,
 ⟨82, ci ob16 (.mv xb15), .pur, 0⟩,
 ⟨83, cg ob17 tb16 true (.call fn14 []), .ev, 3⟩,
 ⟨84, ci ob18 (.pick xb16 xb17 kf), .pur, 0⟩,
 ⟨85, ci oa00 (.mv xb18), .pur, 0⟩]) .ret)))))))))))))))), [.tmp ta00]⟩
def cf4 : CF := ⟨4, true, (.seq (.reg [
 ci oa06 (.mv kf)]) (.seq (.reg [
 ci oa0a (.mv xa00),
 ci oa0b (.call fn8 [xa0a]),
 ci oa0c (.call fn7 [xa0b]),
 ci oa09 (.mv xa0c),
 ci oa0d (.ext xa09 0),
 ci oa0e (.ext xa09 1),
 ci oa08 (.alloc 27 [vz, vz, vz]),
 ci oa07 (.mv xa0d),
 ci none (.st 3 xa08 xa0e)]) (.seq (.reg [
 ci oa0f (.mv xa07),
 ci oa10 (.eql .ptr xa0f (.k .nilp)),
 ci oa11 (.mv xa10),
 cg oa12 ta11 true (.ldn 3 xa08),
 cg oa13 ta11 true (.mv xa01),
 cg oa14 ta11 true (.add xa13 (ki 10)),
 cg oa15 ta11 true (.mv xa02),
 cg oa16 ta11 true (.build [vz, vz, vz] [(0, 1, (ki 0)), (1, 1, xa14), (2, 1, xa15)]),
 cg oa17 ta11 true (.eql (.strct [(.int .i64), (.int .i64), (.int .i64)]) xa12 xa16),
 ci oa18 (.pick xa11 xa17 kf),
 ci oa06 (.mv xa18)]) .ret))), [.tmp ta06]⟩
def cf5 : CF := ⟨5, true, (.seq (.reg [
 ci oa02 (.mv kf)]) (.seq (.reg [
 ci oa06 (.mv xa00),
 ci oa07 (.call fn8 [xa06]),
 ci oa08 (.call fn7 [xa07]),
 ci oa05 (.mv xa08),
 ci oa09 (.ext xa05 0),
 ci oa0a (.ext xa05 1),
 ci oa04 (.alloc 27 [vz, vz, vz]),
 ci oa03 (.mv xa09),
 ci none (.st 3 xa04 xa0a)]) (.seq (.reg [
 ci oa0b (.mv xa03),
 ci oa0c (.neq .ptr xa0b (.k .nilp)),
 ci oa0d (.mv xa0c),
 cg oa0e ta0d true (.fa xa04 2),
 cg oa0f ta0d true (.ld1 xa0e),
 cg oa10 ta0d true (.eql (.cell (.int .i64)) xa0f (ki 0)),
 ci oa11 (.pick xa0d xa10 kf),
 ci oa02 (.mv xa11)]) .ret))), [.tmp ta02]⟩
def cf6 : CF := ⟨6, true, (.seq (.reg [
 ci oa06 (.mv kf)]) (.seq (.reg [
 ci oa0a (.mv xa00),
 ci oa0b (.add (ks 21 14811645016586015737201989842326478987236756119920) xa0a),
 ci oa0c (.build [ve, ve, vz] [(0, 1, (ks 14 2259522320544581588341771545110886)), (1, 1, xa0b)]),
 ci oa0d (.build [ve, ve, vz] [(0, 1, (ks 14 2259522320544600035085845254662502)), (1, 1, (ks 115 363193575517332508879089933129430596769097264962327637341494551859507847883869333588907207601081125594287358941840719369051395176854200802170392119422770399977229983830488407005425055365162601276196933248641796909969588304652294920411605506313575645224103319157585331257303408))]),
 ci oa0e (.bslice 53 3 2 [ve, ve, vz] [(0, xa0c), (1, xa0d)]),
 ci oa07 (.mv xa0e)]) (.seq (.reg [
 ci oa10 (.mv xa07),
 ci oa11 (.call fn7 [xa10]),
 ci oa0f (.mv xa11),
 ci oa12 (.ext xa0f 0),
 ci oa13 (.ext xa0f 1),
 ci oa09 (.alloc 27 [vz, vz, vz]),
 ci oa08 (.mv xa12),
 ci none (.st 3 xa09 xa13)]) (.seq (.seq (.reg [
 ci oa14 (.mv xa02),
 ci oa15 (.eql (.cell (.int .i64)) xa14 (ki 0))]) (.cond xa15 (.seq (.reg [
 ci oa16 (.fa xa09 2),
 ci oa17 (.ld1 xa16),
 ci oa18 (.eql (.cell (.int .i64)) xa17 (ki 0)),
 ci oa06 (.mv xa18)]) .ret) .skip)) (.seq (.reg [
 ci oa19 (.ldn 3 xa09),
 ci oa1a (.mv xa01),
 ci oa1b (.add xa1a (ki 21)),
 ci oa1c (.mv xa02),
 ci oa1d (.build [vz, vz, vz] [(0, 1, (ki 0)), (1, 1, xa1b), (2, 1, xa1c)]),
 ci oa1e (.eql (.strct [(.int .i64), (.int .i64), (.int .i64)]) xa19 xa1d),
 ci oa06 (.mv xa1e)]) .ret))))), [.tmp ta06]⟩
def cf7 : CF := ⟨7, true, (.seq (.reg [
 ci oa02 (.mv (.k .nilp)),
 ci oa03 (.alloc 27 [vz, vz, vz])]) (.seq (.reg [
 ci oa12 (.mv xa00),
 ci oa13 (.call fn15 [xa12]),
 ci oa11 (.mv xa13),
 ci oa14 (.ext xa11 0),
 ci oa15 (.ext xa11 1),
 ci oa05 (.alloc 27 [vz, vz, vz]),
 ci oa04 (.mv xa14),
 ci none (.st 3 xa05 xa15)]) (.seq (.seq (.reg [
 ci oa16 (.fa xa05 2),
 ci oa17 (.ld1 xa16),
 ci oa18 (.neq (.cell (.int .i64)) xa17 (ki 0))]) (.cond xa18 (.seq (.dreg [
 ⟨0, ci oa19 (.ldn 3 xa05), .rd, 0⟩,
 ⟨1, ci oa02 (.mv (.k .nilp)), .pur, 0⟩,
 ⟨2, ci none (.st 3 xa03 xa19), .ev, 0⟩]) .ret) .skip)) (.seq (.reg [
 ci oa1b (.mv xa04),
 ci oa1c (.call fn16 [xa1b]),
 ci oa1a (.mv xa1c),
 ci oa1d (.ext xa1a 0),
 ci oa1e (.ext xa1a 1),
 ci oa06 (.mv xa1d),
 ci none (.st 3 xa05 xa1e)]) (.seq (.seq (.reg [
 ci oa1f (.fa xa05 2),
 ci oa20 (.ld1 xa1f),
 ci oa21 (.neq (.cell (.int .i64)) xa20 (ki 0))]) (.cond xa21 (.seq (.dreg [
 ⟨0, ci oa22 (.ldn 3 xa05), .rd, 0⟩,
 ⟨1, ci oa02 (.mv (.k .nilp)), .pur, 0⟩,
 ⟨2, ci none (.st 3 xa03 xa22), .ev, 0⟩]) .ret) .skip)) (.seq (.reg [
 ci oa23 (.mv xa04),
 ci oa24 (.mv xa06),
 ci oa25 .mkmap,
 ci oa26 .mkmap,
 ci oa27 .mkmap,
 ci oa28 .mkmap,
 ci oa29 .mkmap,
 ci oa2a (.build [vz, vz, vz] []),
 ci oa2b (.box 64 3 xa2a),
 ci oa2c (.mki 62 xa2b),
 ci oa2d (.build [.nilp, .nilp, .nilm, .nilm, .nilm, .nilm, .nilm, .nili, vz, vz, ve, ve, vz] [(0, 1, xa23), (1, 1, xa24), (2, 1, xa25), (3, 1, xa26), (4, 1, xa27), (5, 1, xa28), (6, 1, xa29), (7, 1, xa2c)]),
 ci oa2e (.box 68 13 xa2d),
 ci oa07 (.mv xa2e)]) (.seq (.seq (.reg [
 ci oa2f (.mv xa04),
 ci oa30 (.call fn17 [xa2f]),
 ci oa31 (.len 1 xa30),
 ci oa32 (.mv (ki 0))]) (.block 0 (.loop (.seq (.reg [
 ci oa33 (.lss xa32 xa31)]) (.seq (.cond xa33 .skip (.exit 0)) (.seq (.block 1 (.seq (.reg [
 ci oa34 (.ia 9 xa30 xa32),
 ci oa35 (.ldn 9 xa34),
 ci oa09 (.alloc 46 [vz, vz, ve, (.bool false), vz, ve, vz, vz, ve]),
 ci none (.st 9 xa09 xa35)]) (.dreg [
 ⟨0, ci oa36 (.mv xa07), .pur, 0⟩,
 ⟨1, ci oa37 (.nilc xa36), .pur, 0⟩,
 ⟨2, ci oa38 (.fa xa37 2), .pur, 0⟩,
 ⟨3, ci oa39 (.ld1 xa38), .rd, 0⟩,
 ⟨4, ci oa3a (.fa xa09 0), .pur, 0⟩,
 ⟨5, ci oa3b (.ld1 xa3a), .rd, 0⟩,
 ⟨6, ci oa3c (.fa xa09 1), .pur, 0⟩,
 ⟨7, ci oa3d (.ld1 xa3c), .rd, 0⟩,
 ⟨8, ci oa3e (.build [vz, vz] [(0, 1, xa3b), (1, 1, xa3d)]), .pur, 0⟩,
 ⟨9, ci oa3f (.ldn 9 xa09), .rd, 0⟩,
 ⟨10, ci none (.mupd (.strct [(.int .i64), (.int .i64)]) xa39 xa3e xa3f), .ev, 0⟩]))) (.reg [
 ci oa40 (.add xa32 (ki 1)),
 ci oa32 (.mv xa40)]))))))) (.seq (.seq (.reg [
 ci oa41 (.mv xa04),
 ci oa42 (.call fn18 [xa41]),
 ci oa43 (.mv (ki 0))]) (.block 2 (.loop (.seq (.reg [
 ci oa44 (.lss xa43 xa42)]) (.seq (.cond xa44 .skip (.exit 2)) (.seq (.block 3 (.seq (.reg [
 ci oa45 (.mv xa43),
 ci oa0a (.mv xa45)]) (.seq (.reg [
 ci oa46 (.mv xa07),
 ci oa47 (.mv xa0a),
 ci oa48 (.nilc xa46),
 ci oa49 (.fa xa48 8),
 ci none (.st 1 xa49 xa47)]) (.seq (.reg [
 ci oa4a (.mv xa04),
 ci oa4b (.mv xa0a),
 ci oa4c (.call fn19 [xa4a, xa4b]),
 ci oa4d (.fld xa4c 5 1 false),
 ci oa4e (.len 1 xa4d),
 ci oa4f (.mv (ki 0))]) (.block 4 (.loop (.seq (.reg [
 ci oa50 (.lss xa4f xa4e)]) (.seq (.cond xa50 .skip (.exit 4)) (.seq (.block 5 (.seq (.reg [
 ci oa51 (.ia 6 xa4d xa4f),
 ci oa52 (.ldn 6 xa51),
 ci oa0c (.alloc 44 [vz, vz, vz, vz, ve, .nils]),
 ci none (.st 6 xa0c xa52)]) (.reg [
 ci oa53 (.mv xa07),
 ci oa54 (.ldn 6 xa0c),
 ci oa55 (.call fn20 [xa53, xa54])]))) (.reg [
 ci oa56 (.add xa4f (ki 1)),
 ci oa4f (.mv xa56)])))))))))) (.reg [
 ci oa57 (.add xa43 (ki 1)),
 ci oa43 (.mv xa57)]))))))) (.seq (.seq (.reg [
 ci oa58 (.mv xa04),
 ci oa59 (.call fn18 [xa58]),
 ci oa5a (.mv (ki 0))]) (.block 6 (.loop (.seq (.reg [
 ci oa5b (.lss xa5a xa59)]) (.seq (.cond xa5b .skip (.exit 6)) (.seq (.block 7 (.seq (.reg [
 ci oa5c (.mv xa5a),
 ci oa0d (.mv xa5c)]) (.seq (.reg [
 ci oa5d (.mv xa07),
 ci oa5e (.mv xa0d),
 ci oa5f (.nilc xa5d),
 ci oa60 (.fa xa5f 8),
 ci none (.st 1 xa60 xa5e)]) (.seq (.reg [
 ci oa61 (.mv xa04),
 ci oa62 (.mv xa0d),
 ci oa63 (.call fn19 [xa61, xa62]),
 ci oa64 (.fld xa63 5 1 false),
 ci oa65 (.len 1 xa64),
 ci oa66 (.mv (ki 0))]) (.block 8 (.loop (.seq (.reg [
 ci oa67 (.lss xa66 xa65)]) (.seq (.cond xa67 .skip (.exit 8)) (.seq (.block 9 (.seq (.reg [
 ci oa68 (.ia 6 xa64 xa66),
 ci oa69 (.ldn 6 xa68),
 ci oa0f (.alloc 44 [vz, vz, vz, vz, ve, .nils]),
 ci none (.st 6 xa0f xa69)]) (.seq (.reg [
 ci oa6a (.fa xa0f 0),
 ci oa6b (.ld1 xa6a),
 ci oa6c (.eql (.cell (.int .i64)) xa6b (ki 5))]) (.cond xa6c (.reg [
 ci oa6d (.mv xa07),
 ci oa6e (.ldn 6 xa0f),
 ci oa6f (.call fn21 [xa6d, xa6e])]) .skip)))) (.reg [
 ci oa70 (.add xa66 (ki 1)),
 ci oa66 (.mv xa70)])))))))))) (.reg [
 ci oa71 (.add xa5a (ki 1)),
 ci oa5a (.mv xa71)]))))))) (.seq (.seq (.reg [
 ci oa72 (.mv xa07),
 ci oa73 (.nilc xa72),
 ci oa74 (.fa xa73 7),
 ci oa75 (.ld1 xa74),
 ci oa76 (.inv [(62, fn341)] xa75 []),
 ci oa10 (.alloc 27 [vz, vz, vz]),
 ci none (.st 3 xa10 xa76)]) (.seq (.reg [
 ci oa77 (.fa xa10 2),
 ci oa78 (.ld1 xa77),
 ci oa79 (.neq (.cell (.int .i64)) xa78 (ki 0))]) (.cond xa79 (.seq (.dreg [
 ⟨0, ci oa7a (.ldn 3 xa10), .rd, 0⟩,
 ⟨1, ci oa02 (.mv (.k .nilp)), .pur, 0⟩,
 ⟨2, ci none (.st 3 xa03 xa7a), .ev, 0⟩]) .ret) .skip))) (.seq (.reg [
 ci oa7b (.mv xa07),
 ci oa7c (.build [vz, vz, vz] []),
 ci oa02 (.mv xa7b),
 ci none (.st 3 xa03 xa7c)]) .ret))))))))))), [.tmp ta02, .cell 3 true ta03]⟩
def cf8 : CF := ⟨8, true, (.seq (.reg [
 ci oa02 (.mv (.k .nils))]) (.seq (.reg [
 ci oa03 (.mv xa00),
 ci oa04 (.add (ks 10 49292034550601894551920) xa03),
 ci oa05 (.build [ve, ve, vz] [(0, 1, (ks 14 2259522320544581588341771545110886)), (1, 1, xa04)]),
 ci oa06 (.bslice 53 3 1 [ve, ve, vz] [(0, xa05)]),
 ci oa02 (.mv xa06)]) .ret)), [.tmp ta02]⟩
def cf9 : CF := ⟨9, true, (.seq (.reg [
 ci oa02 (.mv (.k .nils))]) (.seq (.seq (.reg [
 ci oa06 (.mv xa00),
 ci oa07 (.eql .ptr xa06 (.k .nilp))]) (.cond xa07 (.seq (.reg [
 ci oa02 (.mv (.k .nils))]) .ret) .skip)) (.seq (.reg [
 ci oa03 (.mv (.k .nils))]) (.seq (.seq (.reg [
 ci oa08 (.mv xa00),
 ci oa09 (.nilc xa08),
 ci oa0a (.fa xa09 4),
 ci oa0b (.ld1 xa0a),
 ci oa0c (.rng (.strct [(.int .i64), (.int .i64)]) xa0b)]) (.block 0 (.loop (.seq (.reg [
 ci oa0d (.nxt xa0c false),
 ci oa0e (.ext xa0d 0)]) (.seq (.cond xa0e .skip (.exit 0)) (.block 1 (.seq (.reg [
 ci oa0f (.entry xa0c),
 ci oa10 (.ext xa0f 1),
 ci oa05 (.alloc 46 [vz, vz, ve, (.bool false), vz, ve, vz, vz, ve]),
 ci none (.st 9 xa05 xa10)]) (.reg [
 ci oa11 (.mv xa03),
 ci oa12 (.ldn 9 xa05),
 ci oa13 (.bslice 46 9 1 [vz, vz, ve, (.bool false), vz, ve, vz, vz, ve] [(0, xa12)]),
 ci oa14 (.append 46 9 96 xa11 xa13),
 ci oa03 (.mv xa14)])))))))) (.seq (.reg [
 ci oa15 (.mv xa03),
 ci oa16 (.call fn22 [xa15, (.k (.func fn23 [] []))])]) (.seq (.reg [
 ci oa17 (.mv xa03),
 ci oa02 (.mv xa17)]) .ret)))))), [.tmp ta02]⟩
def cf10 : CF := ⟨10, true, (.seq (.reg [
 ci oa06 (.alloc 35 [vz, ve, vz, vz, ve]),
 ci oa07 (.mv kf)]) (.seq (.seq (.reg [
 ci oa0d (.mv xa00),
 ci oa0e (.eql .ptr xa0d (.k .nilp))]) (.cond xa0e (.seq (.reg [
 ci oa0f (.build [vz, ve, vz, vz, ve] []),
 ci none (.st 5 xa06 xa0f),
 ci oa07 (.mv kf)]) .ret) .skip)) (.seq (.seq (.reg [
 ci oa11 (.mv xa00),
 ci oa12 (.nilc xa11),
 ci oa13 (.fa xa12 3),
 ci oa14 (.ld1 xa13),
 ci oa15 (.mv xa01),
 ci oa16 (.mv xa02),
 ci oa17 (.build [vz, vz] [(0, 1, xa15), (1, 1, xa16)]),
 ci oa18 (.lkp (.strct [(.int .i64), (.int .i64)]) (.agg [vz, ve, vz, vz, ve]) xa14 xa17 true),
 ci oa10 (.mv xa18),
 ci oa19 (.ext xa10 0),
 ci oa1a (.ext xa10 1),
 ci oa08 (.alloc 35 [vz, ve, vz, vz, ve]),
 ci none (.st 5 xa08 xa19),
 ci oa09 (.mv xa1a)]) (.seq (.reg [
 ci oa1b (.mv xa09)]) (.cond xa1b (.seq (.reg [
 ci oa1c (.ldn 5 xa08),
 ci none (.st 5 xa06 xa1c),
 ci oa07 (.mv kt)]) .ret) .skip))) (.seq (.seq (.reg [
 ci oa1e (.mv xa00),
 ci oa1f (.nilc xa1e),
 ci oa20 (.fa xa1f 4),
 ci oa21 (.ld1 xa20),
 ci oa22 (.mv xa01),
 ci oa23 (.mv xa02),
 ci oa24 (.build [vz, vz] [(0, 1, xa22), (1, 1, xa23)]),
 ci oa25 (.lkp (.strct [(.int .i64), (.int .i64)]) (.agg [vz, vz, ve, (.bool false), vz, ve, vz, vz, ve]) xa21 xa24 true),
 ci oa1d (.mv xa25),
 ci oa26 (.ext xa1d 0),
 ci oa27 (.ext xa1d 1),
 ci oa0a (.alloc 46 [vz, vz, ve, (.bool false), vz, ve, vz, vz, ve]),
 ci none (.st 9 xa0a xa26),
 ci oa0b (.mv xa27)]) (.seq (.reg [
 ci oa28 (.mv xa0b)]) (.cond xa28 (.seq (.reg [
 ci oa29 (.fa xa0a 4),
 ci oa2a (.ldn 5 xa29),
 ci none (.st 5 xa06 xa2a),
 ci oa07 (.mv kt)]) .ret) .skip))) (.seq (.reg [
 ci oa2b (.mv xa00),
 ci oa2c (.nilc xa2b),
 ci oa2d (.fa xa2c 2),
 ci oa2e (.ld1 xa2d),
 ci oa2f (.mv xa01),
 ci oa30 (.mv xa02),
 ci oa31 (.build [vz, vz] [(0, 1, xa2f), (1, 1, xa30)]),
 ci oa32 (.lkp (.strct [(.int .i64), (.int .i64)]) (.agg [vz, vz, ve, (.bool false), vz, ve, vz, vz, ve]) xa2e xa31 false),
 ci oa0c (.alloc 46 [vz, vz, ve, (.bool false), vz, ve, vz, vz, ve]),
 ci none (.st 9 xa0c xa32)]) (.seq (.dreg [
 ⟨0, ci oa33 (.fa xa0c 4), .pur, 0⟩,
 ⟨1, ci oa34 (.ldn 5 xa33), .rd, 0⟩,
 ⟨2, ci oa35 (.fa xa0c 3), .pur, 0⟩,
 ⟨3, ci oa36 (.ld1 xa35), .rd, 7⟩,
 ⟨4, ci none (.st 5 xa06 xa34), .ev, 0⟩,
 ⟨5, ci oa07 (.mv xa36), .pur, 0⟩]) .ret)))))), [.cell 5 true ta06, .tmp ta07]⟩
def cf11 : CF := ⟨11, true, (.seq (.reg [
 ci oa05 (.box 44 6 xa02),
 ci oa06 (.alloc 39 [vz, ve, ve]),
 ci oa07 (.mv kf)]) (.seq (.seq (.reg [
 ci oa0a (.mv xa00),
 ci oa0b (.eql .ptr xa0a (.k .nilp))]) (.cond xa0b (.seq (.reg [
 ci oa0c (.build [vz, ve, ve] []),
 ci none (.st 3 xa06 xa0c),
 ci oa07 (.mv kf)]) .ret) .skip)) (.seq (.dreg [
 ⟨0, ci oa0e (.mv xa00), .pur, 0⟩,
 ⟨1, ci oa0f (.nilc xa0e), .pur, 0⟩,
 ⟨2, ci oa10 (.fa xa0f 5), .pur, 0⟩,
 ⟨3, ci oa11 (.ld1 xa10), .rd, 1⟩,
 ⟨4, ci oa12 (.mv xa01), .pur, 0⟩,
 ⟨5, ci oa13 (.fa xa05 0), .pur, 0⟩,
 ⟨6, ci oa14 (.ld1 xa13), .rd, 1⟩,
 ⟨7, ci oa15 (.fa xa05 1), .pur, 0⟩,
 ⟨8, ci oa16 (.ld1 xa15), .rd, 1⟩,
 ⟨9, ci oa17 (.fa xa05 2), .pur, 0⟩,
 ⟨10, ci oa18 (.ld1 xa17), .rd, 1⟩,
 ⟨11, ci oa19 (.build [vz, vz, vz, vz] [(0, 1, xa12), (1, 1, xa14), (2, 1, xa16), (3, 1, xa18)]), .pur, 0⟩,
 ⟨12, ci oa1a (.lkp (.strct [(.int .i64), (.int .i64), (.int .i64), (.int .i64)]) (.agg [vz, ve, ve, (.bool false)]) xa11 xa19 true), .rd, 1⟩,
 ⟨13, ci oa0d (.mv xa1a), .pur, 0⟩,
 ⟨14, ci oa1b (.ext xa0d 0), .pur, 0⟩,
 ⟨15, ci oa1c (.ext xa0d 1), .pur, 0⟩,
 ⟨16, ci oa08 (.alloc 81 [vz, ve, ve, (.bool false)]), .ev, 0⟩,
 ⟨17, ci none (.st 4 xa08 xa1b), .ev, 1⟩,
 ⟨18, ci oa09 (.mv xa1c), .pur, 0⟩]) (.seq (.dreg [
 ⟨0, ci oa1d (.fa xa08 0), .pur, 0⟩,
 ⟨1, ci oa1e (.ldn 3 xa1d), .rd, 0⟩,
 ⟨2, ci oa1f (.mv xa09), .pur, 0⟩,
 ⟨3, ci oa20 (.mv xa1f), .pur, 0⟩,
 ⟨4, cg oa21 ta20 true (.fa xa08 3), .pur, 0⟩,
 ⟨5, cg oa22 ta20 true (.ld1 xa21), .rd, 11⟩,
 ⟨6, cg oa23 ta20 true (.not xa22), .pur, 0⟩,
 ⟨7, ci oa24 (.pick xa20 xa23 kf), .pur, 0⟩,
 ⟨8, ci none (.st 3 xa06 xa1e), .ev, 0⟩,
 ⟨9, ci oa07 (.mv xa24), .pur, 0⟩]) .ret)))), [.cell 3 true ta06, .tmp ta07]⟩
def cf12 : CF := ⟨12, true, (.seq (.reg [
 ci oa02 (.mv (.k .nilp))]) (.seq (.seq (.reg [
 ci oa03 (.mv xa00),
 ci oa04 (.eql .ptr xa03 (.k .nilp))]) (.cond xa04 (.seq (.reg [
 ci oa02 (.mv (.k .nilp))]) .ret) .skip)) (.seq (.reg [
 ci oa05 (.mv xa00),
 ci oa06 (.nilc xa05),
 ci oa07 (.fa xa06 0),
 ci oa08 (.ld1 xa07),
 ci oa02 (.mv xa08)]) .ret))), [.tmp ta02]⟩
def cf13 : CF := ⟨13, true, (.seq (.reg [
 ci oa02 (.mv (.k .nilp))]) (.seq (.seq (.reg [
 ci oa03 (.mv xa00),
 ci oa04 (.eql .ptr xa03 (.k .nilp))]) (.cond xa04 (.seq (.reg [
 ci oa02 (.mv (.k .nilp))]) .ret) .skip)) (.seq (.reg [
 ci oa05 (.mv xa00),
 ci oa06 (.nilc xa05),
 ci oa07 (.fa xa06 1),
 ci oa08 (.ld1 xa07),
 ci oa02 (.mv xa08)]) .ret))), [.tmp ta02]⟩
def cf14 : CF := ⟨14, true, (.seq (.reg [
 ci oa00 (.mv kf)]) (.seq (.reg [
 ci oa01 (.call fn4 [(ks 45 1147909793329700035409025300076835102623378248619952558255229374243192189094265445034998320944984916476458342), (ki 40), (ki 14)]),
 ci oa02 (.mv xa01),
 cg oa03 ta02 true (.call fn4 [(ks 18 10899990076776586141987303416515780234081638), (ki 11), (ki 12)]),
 ci oa04 (.pick xa02 xa03 kf),
 ci oa05 (.mv xa04),
 cg oa06 ta05 true (.call fn5 [(ks 24 3068102888336885935281060745478224275648800535794152273254)]),
 ci oa07 (.pick xa05 xa06 kf),
 ci oa00 (.mv xa07)]) .ret)), [.tmp ta00]⟩
def cf15 : CF := ⟨15, true, (.seq (.reg [
 ci oa02 (.mv (.k .nilp)),
 ci oa03 (.alloc 27 [vz, vz, vz])]) (.seq (.reg [
 ci oa10 (.mv xa00),
 ci oa11 (.call fn26 [xa10]),
 ci oa12 .mkmap,
 ci oa13 .mkmap,
 ci oa14 .mkmap,
 ci oa15 (.build [.nils, .nils, .nils, vz, vz, vz, .nilm, .nilm, .nilm, .nils] [(0, 1, xa11), (6, 1, xa12), (7, 1, xa13), (8, 1, xa14)]),
 ci oa16 (.box 92 10 xa15),
 ci oa04 (.mv xa16)]) (.seq (.seq (.reg [
 ci oa17 (.mv xa00),
 ci oa18 (.len 1 xa17),
 ci oa19 (.mv (ki 0))]) (.block 0 (.loop (.seq (.reg [
 ci oa1a (.lss xa19 xa18)]) (.seq (.cond xa1a .skip (.exit 0)) (.seq (.block 1 (.seq (.reg [
 ci oa1b (.mv xa19),
 ci oa1c (.ia 3 xa17 xa19),
 ci oa1d (.ldn 3 xa1c),
 ci oa06 (.alloc 53 [ve, ve, vz]),
 ci oa05 (.mv xa1b),
 ci none (.st 3 xa06 xa1d)]) (.seq (.reg [
 ci oa1f (.fa xa06 0),
 ci oa20 (.ld1 xa1f),
 ci oa21 (.call fn27 [xa20]),
 ci oa1e (.mv xa21),
 ci oa22 (.ext xa1e 0),
 ci oa23 (.ext xa1e 1),
 ci oa07 (.mv xa22),
 ci oa08 (.mv xa23)]) (.seq (.seq (.dreg [
 ⟨0, ci oa24 (.mv xa08), .pur, 0⟩,
 ⟨1, ci oa25 (.not xa24), .pur, 0⟩,
 ⟨2, ci oa26 (.mv xa25), .pur, 0⟩,
 ⟨3, cg oa27 ta26 false (.mv xa05), .pur, 0⟩,
 ⟨4, cg oa28 ta26 false (.gtr xa27 (ki 0)), .pur, 0⟩,
 ⟨5, cg oa29 ta26 false (.mv xa28), .pur, 0⟩,
 ⟨6, cg oa2a ta29 true (.mv xa00), .pur, 0⟩,
 ⟨7, cg oa2b ta29 true (.mv xa05), .pur, 0⟩,
 ⟨8, cg oa2c ta29 true (.sub xa2b (ki 1)), .pur, 0⟩,
 ⟨9, cg oa2d ta29 true (.ia 3 xa2a xa2c), .pur, 0⟩,
 ⟨10, cg oa2e ta29 true (.fa xa2d 0), .pur, 0⟩,
 ⟨11, cg oa2f ta29 true (.ld1 xa2e), .rd, 0⟩,
 ⟨12, cg oa30 ta29 true (.fa xa06 0), .pur, 0⟩,
 ⟨13, cg oa31 ta29 true (.ld1 xa30), .rd, 0⟩,
 ⟨14, cg oa32 ta29 true (.call fn28 [xa2f, xa31]), .ev, 0⟩,
 ⟨15, cg oa33 ta29 true (.geq xa32 (ki 0)), .pur, 0⟩,
 ⟨16, cg oa34 ta26 false (.pick xa29 xa33 kf), .pur, 0⟩,
 ⟨17, ci oa35 (.pick xa26 kt xa34), .pur, 0⟩]) (.cond xa35 (.seq (.reg [
 ci oa36 (.build [vz, vz, vz] [(2, 1, (ki 2))]),
 ci oa02 (.mv (.k .nilp)),
 ci none (.st 3 xa03 xa36)]) .ret) .skip)) (.reg [
 ci oa37 (.mv xa04),
 ci oa38 (.mv xa04),
 ci oa39 (.nilc xa38),
 ci oa3a (.fa xa39 2),
 ci oa3b (.ld1 xa3a),
 ci oa3c (.mv xa07),
 ci oa3d (.bslice 9 1 1 [ve] [(0, xa3c)]),
 ci oa3e (.append 9 1 16 xa3b xa3d),
 ci oa3f (.nilc xa37),
 ci oa40 (.fa xa3f 2),
 ci none (.st 1 xa40 xa3e)]))))) (.reg [
 ci oa41 (.add xa19 (ki 1)),
 ci oa19 (.mv xa41)]))))))) (.seq (.seq (.reg [
 ci oa42 (.mv xa00),
 ci oa43 (.len 1 xa42),
 ci oa44 (.mv (ki 0))]) (.block 2 (.loop (.seq (.reg [
 ci oa45 (.lss xa44 xa43)]) (.seq (.cond xa45 .skip (.exit 2)) (.seq (.block 3 (.seq (.reg [
 ci oa46 (.mv xa44),
 ci oa47 (.ia 3 xa42 xa44),
 ci oa48 (.ldn 3 xa47),
 ci oa0a (.alloc 53 [ve, ve, vz]),
 ci oa09 (.mv xa46),
 ci none (.st 3 xa0a xa48)]) (.seq (.reg [
 ci oa4a (.fa xa0a 1),
 ci oa4b (.ld1 xa4a),
 ci oa4c (.call fn29 [xa4b]),
 ci oa49 (.mv xa4c),
 ci oa4d (.ext xa49 0),
 ci oa4e (.ext xa49 1),
 ci oa4f (.ext xa49 2),
 ci oa0b (.alloc 44 [vz, vz, vz, vz, ve, .nils]),
 ci none (.st 6 xa0b xa4d),
 ci oa0c (.mv xa4e),
 ci oa0d (.mv xa4f)]) (.seq (.seq (.reg [
 ci oa50 (.mv xa0d),
 ci oa51 (.neq (.cell (.int .i64)) xa50 (ki 0))]) (.cond xa51 (.reg [
 ci oa52 (.mv xa04),
 ci oa53 (.nilc xa52),
 ci oa54 (.fa xa53 3),
 ci oa55 (.mv xa09),
 ci oa56 (.mv xa0c),
 ci oa57 (.mv xa0d),
 ci oa58 (.call fn30 [xa54, xa55, xa56, xa57])]) .skip)) (.dreg [
 ⟨0, ci oa59 (.mv xa04), .pur, 0⟩,
 ⟨1, ci oa5a (.nilc xa59), .pur, 0⟩,
 ⟨2, ci oa5b (.fa xa5a 1), .pur, 0⟩,
 ⟨3, ci oa5c (.ld1 xa5b), .rd, 1⟩,
 ⟨4, ci oa5d (.ldn 6 xa0b), .rd, 1⟩,
 ⟨5, ci oa5e (.len 1 xa5c), .rd, 1⟩,
 ⟨6, ci oa5f (.bslice 44 6 1 [vz, vz, vz, vz, ve, .nils] [(0, (.k (.agg [vz, vz, vz, vz, ve, .nils])))]), .ev, 0⟩,
 ⟨7, ci oa60 (.append 44 6 72 xa5c xa5f), .ev, 1⟩,
 ⟨8, ci oa61 (.ia 6 xa60 xa5e), .pur, 0⟩,
 ⟨10, ci oa62 (.nilc xa59), .pur, 0⟩,
 ⟨11, ci oa63 (.fa xa62 1), .pur, 0⟩,
 ⟨9, ci none (.st 6 xa61 xa5d), .fst, 2⟩,
 ⟨12, ci none (.st 1 xa63 xa60), .snd, 2⟩]))))) (.reg [
 ci oa64 (.add xa44 (ki 1)),
 ci oa44 (.mv xa64)]))))))) (.seq (.seq (.reg [
 ci oa65 (.mv xa04),
 ci oa66 (.mkf fn31 [xa65] []),
 ci oa67 (.mv xa04),
 ci oa68 (.mkf fn32 [xa67] []),
 ci oa69 (.bslice 1 1 2 [.nilf] [(0, xa66), (1, xa68)]),
 ci oa6a (.len 1 xa69),
 ci oa6b (.mv (ki 0))]) (.block 4 (.loop (.seq (.reg [
 ci oa6c (.lss xa6b xa6a)]) (.seq (.cond xa6c .skip (.exit 4)) (.seq (.block 5 (.seq (.reg [
 ci oa6d (.ia 1 xa69 xa6b),
 ci oa6e (.ld1 xa6d),
 ci oa0f (.mv xa6e)]) (.seq (.reg [
 ci oa6f (.mv xa04),
 ci oa70 (.nilc xa6f),
 ci oa71 (.fa xa70 3),
 ci oa72 (.fa xa71 0),
 ci oa73 (.fa xa72 2),
 ci oa74 (.ld1 xa73),
 ci oa75 (.eql (.cell (.int .i64)) xa74 (ki 0))]) (.cond xa75 (.reg [
 ci oa76 (.mv xa0f),
 ci oa77 (.callv xa76 [])]) .skip)))) (.reg [
 ci oa78 (.add xa6b (ki 1)),
 ci oa6b (.mv xa78)]))))))) (.seq (.seq (.reg [
 ci oa79 (.mv xa04),
 ci oa7a (.nilc xa79),
 ci oa7b (.fa xa7a 3),
 ci oa7c (.fa xa7b 0),
 ci oa7d (.fa xa7c 2),
 ci oa7e (.ld1 xa7d),
 ci oa7f (.neq (.cell (.int .i64)) xa7e (ki 0))]) (.cond xa7f (.seq (.dreg [
 ⟨0, ci oa80 (.mv xa04), .pur, 0⟩,
 ⟨1, ci oa81 (.nilc xa80), .pur, 0⟩,
 ⟨2, ci oa82 (.fa xa81 3), .pur, 0⟩,
 ⟨3, ci oa83 (.fa xa82 0), .pur, 0⟩,
 ⟨4, ci oa84 (.ldn 3 xa83), .rd, 0⟩,
 ⟨5, ci oa02 (.mv (.k .nilp)), .pur, 0⟩,
 ⟨6, ci none (.st 3 xa03 xa84), .ev, 0⟩]) .ret) .skip)) (.seq (.reg [
 ci oa85 (.mv xa04),
 ci oa86 (.build [vz, vz, vz] []),
 ci oa02 (.mv xa85),
 ci none (.st 3 xa03 xa86)]) .ret))))))), [.tmp ta02, .cell 3 true ta03]⟩
def cf16 : CF := ⟨16, true, (.seq (.reg [
 ci oa02 (.mv (.k .nilp)),
 ci oa03 (.alloc 27 [vz, vz, vz])]) (.seq (.seq (.reg [
 ci oa08 (.mv xa00),
 ci oa09 (.eql .ptr xa08 (.k .nilp))]) (.cond xa09 (.seq (.reg [
 ci oa0a (.build [vz, vz, vz] [(2, 1, (ki 1))]),
 ci oa02 (.mv (.k .nilp)),
 ci none (.st 3 xa03 xa0a)]) .ret) .skip)) (.seq (.reg [
 ci oa0b (.mv xa00),
 ci oa0c .mkmap,
 ci oa0d .mkmap,
 ci oa0e .mkmap,
 ci oa0f .mkmap,
 ci oa10 (.build [.nilp, .nilm, .nilm, .nilm, .nilm, .nils] [(0, 1, xa0b), (1, 1, xa0c), (2, 1, xa0d), (3, 1, xa0e), (4, 1, xa0f)]),
 ci oa11 (.box 106 6 xa10),
 ci oa04 (.mv xa11)]) (.seq (.seq (.reg [
 ci oa12 (.mv xa00),
 ci oa13 (.call fn18 [xa12]),
 ci oa14 (.mv (ki 0))]) (.block 0 (.loop (.seq (.reg [
 ci oa15 (.lss xa14 xa13)]) (.seq (.cond xa15 .skip (.exit 0)) (.seq (.block 1 (.seq (.reg [
 ci oa16 (.mv xa14),
 ci oa05 (.mv xa16)]) (.seq (.reg [
 ci oa17 (.mv xa00),
 ci oa18 (.mv xa05),
 ci oa19 (.call fn19 [xa17, xa18]),
 ci oa1a (.fld xa19 5 1 false),
 ci oa1b (.len 1 xa1a),
 ci oa1c (.mv (ki 0))]) (.block 2 (.loop (.seq (.reg [
 ci oa1d (.lss xa1c xa1b)]) (.seq (.cond xa1d .skip (.exit 2)) (.seq (.block 3 (.seq (.reg [
 ci oa1e (.ia 6 xa1a xa1c),
 ci oa1f (.ldn 6 xa1e),
 ci oa07 (.alloc 44 [vz, vz, vz, vz, ve, .nils]),
 ci none (.st 6 xa07 xa1f)]) (.reg [
 ci oa20 (.mv xa04),
 ci oa21 (.mv xa05),
 ci oa22 (.ldn 6 xa07),
 ci oa23 (.call fn33 [xa20, xa21, xa22])]))) (.reg [
 ci oa24 (.add xa1c (ki 1)),
 ci oa1c (.mv xa24)]))))))))) (.reg [
 ci oa25 (.add xa14 (ki 1)),
 ci oa14 (.mv xa25)]))))))) (.seq (.reg [
 ci oa26 (.mv xa04),
 ci oa27 (.call fn34 [xa26])]) (.seq (.seq (.reg [
 ci oa28 (.mv xa04),
 ci oa29 (.nilc xa28),
 ci oa2a (.fa xa29 5),
 ci oa2b (.ld1 xa2a),
 ci oa2c (.len 1 xa2b),
 ci oa2d (.gtr xa2c (ki 0))]) (.cond xa2d (.seq (.reg [
 ci oa2e (.mv xa04),
 ci oa2f (.nilc xa2e),
 ci oa30 (.fa xa2f 5),
 ci oa31 (.ld1 xa30),
 ci oa32 (.call fn35 [xa31, (.k (.func fn36 [] []))]),
 ci oa02 (.mv (.k .nilp)),
 ci none (.st 3 xa03 xa32)]) .ret) .skip)) (.seq (.reg [
 ci oa33 (.mv xa04),
 ci oa34 (.build [vz, vz, vz] []),
 ci oa02 (.mv xa33),
 ci none (.st 3 xa03 xa34)]) .ret))))))), [.tmp ta02, .cell 3 true ta03]⟩
def cf17 : CF := ⟨17, true, (.seq (.reg [
 ci oa02 (.mv (.k .nils))]) (.seq (.seq (.reg [
 ci oa03 (.mv xa00),
 ci oa04 (.eql .ptr xa03 (.k .nilp))]) (.cond xa04 (.seq (.reg [
 ci oa02 (.mv (.k .nils))]) .ret) .skip)) (.seq (.reg [
 ci oa05 (.mv xa00),
 ci oa06 (.nilc xa05),
 ci oa07 (.fa xa06 9),
 ci oa08 (.ld1 xa07),
 ci oa09 (.call fn38 [xa08]),
 ci oa02 (.mv xa09)]) .ret))), [.tmp ta02]⟩
def cf18 : CF := ⟨18, true, (.seq (.reg [
 ci oa02 (.mv (ki 0))]) (.seq (.seq (.reg [
 ci oa03 (.mv xa00),
 ci oa04 (.eql .ptr xa03 (.k .nilp))]) (.cond xa04 (.seq (.reg [
 ci oa02 (.mv (ki 0))]) .ret) .skip)) (.seq (.reg [
 ci oa05 (.mv xa00),
 ci oa06 (.nilc xa05),
 ci oa07 (.fa xa06 0),
 ci oa08 (.ld1 xa07),
 ci oa09 (.len 1 xa08),
 ci oa02 (.mv xa09)]) .ret))), [.tmp ta02]⟩
def cf19 : CF := ⟨19, true, (.seq (.reg [
 ci oa04 (.alloc 44 [vz, vz, vz, vz, ve, .nils])]) (.seq (.seq (.reg [
 ci oa05 (.mv xa00),
 ci oa06 (.mv xa01),
 ci oa07 (.call fn39 [xa05, xa06]),
 ci oa08 (.not xa07)]) (.cond xa08 (.seq (.reg [
 ci oa09 (.build [vz, vz, vz, vz, ve, .nils] []),
 ci none (.st 6 xa04 xa09)]) .ret) .skip)) (.seq (.reg [
 ci oa0a (.mv xa00),
 ci oa0b (.nilc xa0a),
 ci oa0c (.fa xa0b 1),
 ci oa0d (.ld1 xa0c),
 ci oa0e (.mv xa01),
 ci oa0f (.ia 6 xa0d xa0e),
 ci oa10 (.ldn 6 xa0f),
 ci none (.st 6 xa04 xa10)]) .ret))), [.cell 6 true ta04]⟩
def cf20 : CF := ⟨20, true, (.seq (.reg [
 ci oa03 (.box 44 6 xa01)]) (.seq (.reg [
 ci oa0a .mkmap,
 ci none (.mupd (.cell (.int .i64)) xa0a (ki 2) (ki 1)),
 ci none (.mupd (.cell (.int .i64)) xa0a (ki 3) (ki 2)),
 ci none (.mupd (.cell (.int .i64)) xa0a (ki 5) (ki 3)),
 ci none (.mupd (.cell (.int .i64)) xa0a (ki 4) (ki 5)),
 ci none (.mupd (.cell (.int .i64)) xa0a (ki 7) (ki 6)),
 ci none (.mupd (.cell (.int .i64)) xa0a (ki 11) (ki 7)),
 ci none (.mupd (.cell (.int .i64)) xa0a (ki 12) (ki 7)),
 ci none (.mupd (.cell (.int .i64)) xa0a (ki 16) (ki 8)),
 ci oa0b (.mv xa0a),
 ci oa04 (.mv xa0b)]) (.seq (.seq (.reg [
 ci oa0d (.mv xa04),
 ci oa0e (.fa xa03 0),
 ci oa0f (.ld1 xa0e),
 ci oa10 (.lkp (.cell (.int .i64)) vz xa0d xa0f true),
 ci oa0c (.mv xa10),
 ci oa11 (.ext xa0c 0),
 ci oa12 (.ext xa0c 1),
 ci oa05 (.mv xa11),
 ci oa06 (.mv xa12)]) (.seq (.reg [
 ci oa13 (.mv xa06)]) (.cond xa13 (.seq (.dreg [
 ⟨0, ci oa14 (.mv xa05), .pur, 0⟩,
 ⟨1, ci oa15 (.fa xa03 4), .pur, 0⟩,
 ⟨2, ci oa16 (.ld1 xa15), .rd, 2⟩,
 ⟨3, ci oa17 (.mv xa00), .pur, 0⟩,
 ⟨4, ci oa18 (.nilc xa17), .pur, 0⟩,
 ⟨5, ci oa19 (.fa xa18 8), .pur, 0⟩,
 ⟨6, ci oa1a (.ld1 xa19), .rd, 2⟩,
 ⟨7, ci oa1b (.fa xa03 3), .pur, 0⟩,
 ⟨8, ci oa1c (.ld1 xa1b), .rd, 2⟩,
 ⟨9, ci oa1d (.mv xa00), .pur, 0⟩,
 ⟨10, ci oa1e (.nilc xa1d), .pur, 0⟩,
 ⟨11, ci oa1f (.fa xa1e 0), .pur, 0⟩,
 ⟨12, ci oa20 (.ld1 xa1f), .rd, 0⟩,
 ⟨13, ci oa21 (.mv xa00), .pur, 0⟩,
 ⟨14, ci oa22 (.nilc xa21), .pur, 0⟩,
 ⟨15, ci oa23 (.fa xa22 8), .pur, 0⟩,
 ⟨16, ci oa24 (.ld1 xa23), .rd, 0⟩,
 ⟨17, ci oa25 (.call fn40 [xa20, xa24]), .ev, 0⟩,
 ⟨18, ci oa26 (.build [vz, ve, vz, vz, ve] [(0, 1, xa14), (1, 1, xa16), (2, 1, xa1a), (3, 1, xa1c), (4, 1, xa25)]), .pur, 0⟩,
 ⟨19, ci oa07 (.alloc 35 [vz, ve, vz, vz, ve]), .late, 1⟩,
 ⟨20, ci none (.st 5 xa07 xa26), .ev, 2⟩]) (.seq (.block 0 (.seq (.reg [
 ci oa28 (.mv xa05),
 ci oa29 (.eql (.cell (.int .i64)) xa28 (ki 1)),
 ci oa27 (.mv xa29)]) (.cond xa27 (.reg [
 ci oa2a (.fa xa03 4),
 ci oa2b (.ld1 xa2a),
 ci oa2c (.fa xa07 4),
 ci none (.st 1 xa2c xa2b)]) (.seq (.reg [
 ci oa2e (.mv xa05),
 ci oa2f (.eql (.cell (.int .i64)) xa2e (ki 3)),
 ci oa30 (.mv xa2f),
 cg oa31 ta30 true (.fa xa03 5),
 cg oa32 ta30 true (.ld1 xa31),
 cg oa33 ta30 true (.ia 6 xa32 (ki 0)),
 cg oa34 ta30 true (.fa xa33 0),
 cg oa35 ta30 true (.ld1 xa34),
 cg oa36 ta30 true (.neq (.cell (.int .i64)) xa35 (ki 0)),
 ci oa37 (.pick xa30 xa36 kf),
 ci oa2d (.mv xa37)]) (.cond xa2d (.reg [
 ci oa38 (.fa xa07 0),
 ci none (.st 1 xa38 (ki 4))]) .skip))))) (.dreg [
 ⟨0, ci oa39 (.mv xa00), .pur, 0⟩,
 ⟨1, ci oa3a (.nilc xa39), .pur, 0⟩,
 ⟨2, ci oa3b (.fa xa3a 3), .pur, 0⟩,
 ⟨3, ci oa3c (.ld1 xa3b), .rd, 0⟩,
 ⟨4, ci oa3d (.mv xa00), .pur, 0⟩,
 ⟨5, ci oa3e (.nilc xa3d), .pur, 0⟩,
 ⟨6, ci oa3f (.fa xa3e 8), .pur, 0⟩,
 ⟨7, ci oa40 (.ld1 xa3f), .rd, 0⟩,
 ⟨8, ci oa41 (.fa xa03 3), .pur, 0⟩,
 ⟨9, ci oa42 (.ld1 xa41), .rd, 0⟩,
 ⟨10, ci oa43 (.build [vz, vz] [(0, 1, xa40), (1, 1, xa42)]), .pur, 0⟩,
 ⟨11, ci oa44 (.ldn 5 xa07), .rd, 0⟩,
 ⟨12, ci none (.mupd (.strct [(.int .i64), (.int .i64)]) xa3c xa43 xa44), .ev, 0⟩]))) .skip))) (.seq (.reg [
 ci oa45 (.fa xa03 5),
 ci oa46 (.ld1 xa45),
 ci oa47 (.len 1 xa46),
 ci oa48 (.mv (ki 0))]) (.block 1 (.loop (.seq (.reg [
 ci oa49 (.lss xa48 xa47)]) (.seq (.cond xa49 .skip (.exit 1)) (.seq (.block 2 (.seq (.reg [
 ci oa4a (.ia 6 xa46 xa48),
 ci oa4b (.ldn 6 xa4a),
 ci oa09 (.alloc 44 [vz, vz, vz, vz, ve, .nils]),
 ci none (.st 6 xa09 xa4b)]) (.reg [
 ci oa4c (.mv xa00),
 ci oa4d (.ldn 6 xa09),
 ci oa4e (.call fn20 [xa4c, xa4d])]))) (.reg [
 ci oa4f (.add xa48 (ki 1)),
 ci oa48 (.mv xa4f)])))))))))), []⟩
def cf21 : CF := ⟨21, true, (.seq (.reg [
 ci oa03 (.box 44 6 xa01)]) (.seq (.seq (.dreg [
 ⟨0, ci oa09 (.fa xa03 5), .pur, 0⟩,
 ⟨1, ci oa0a (.ld1 xa09), .rd, 0⟩,
 ⟨2, ci oa0b (.ia 6 xa0a (ki 0)), .pur, 0⟩,
 ⟨3, ci oa0c (.ldn 6 xa0b), .rd, 0⟩,
 ⟨5, ci oa0e (.fa xa03 5), .pur, 0⟩,
 ⟨6, ci oa0f (.ld1 xa0e), .rd, 1⟩,
 ⟨7, ci oa10 (.ia 6 xa0f (ki 1)), .pur, 0⟩,
 ⟨8, ci oa11 (.fa xa10 5), .pur, 0⟩,
 ⟨9, ci oa12 (.ld1 xa11), .rd, 1⟩,
 ⟨12, ci oa15 (.mv (ki 0)), .pur, 0⟩,
 ⟨4, ci oa0d (.bslice 44 6 1 [vz, vz, vz, vz, ve, .nils] [(0, xa0c)]), .ev, 0⟩,
 ⟨10, ci oa13 (.append 44 6 72 xa0d xa12), .ev, 1⟩,
 ⟨11, ci oa14 (.len 1 xa13), .rd, 14⟩]) (.block 0 (.loop (.seq (.reg [
 ci oa16 (.lss xa15 xa14)]) (.seq (.cond xa16 .skip (.exit 0)) (.seq (.block 1 (.seq (.reg [
 ci oa17 (.ia 6 xa13 xa15),
 ci oa18 (.ldn 6 xa17),
 ci oa05 (.alloc 44 [vz, vz, vz, vz, ve, .nils]),
 ci none (.st 6 xa05 xa18)]) (.seq (.reg [
 ci oa19 (.fa xa05 0),
 ci oa1a (.ld1 xa19),
 ci oa1b (.neq (.cell (.int .i64)) xa1a (ki 0))]) (.cond xa1b (.seq (.dreg [
 ⟨0, ci oa1d (.mv xa00), .pur, 0⟩,
 ⟨1, ci oa1e (.nilc xa1d), .pur, 0⟩,
 ⟨2, ci oa1f (.fa xa1e 1), .pur, 0⟩,
 ⟨3, ci oa20 (.ld1 xa1f), .rd, 0⟩,
 ⟨4, ci oa21 (.mv xa00), .pur, 0⟩,
 ⟨5, ci oa22 (.nilc xa21), .pur, 0⟩,
 ⟨6, ci oa23 (.fa xa22 8), .pur, 0⟩,
 ⟨7, ci oa24 (.ld1 xa23), .rd, 0⟩,
 ⟨8, ci oa25 (.fa xa05 5), .pur, 0⟩,
 ⟨9, ci oa26 (.ld1 xa25), .rd, 0⟩,
 ⟨10, ci oa27 (.ia 6 xa26 (ki 0)), .pur, 0⟩,
 ⟨11, ci oa28 (.ldn 6 xa27), .rd, 0⟩,
 ⟨12, ci oa29 (.call fn41 [xa20, xa24, xa28]), .ev, 0⟩,
 ⟨13, ci oa1c (.mv xa29), .pur, 0⟩,
 ⟨14, ci oa2a (.ext xa1c 0), .pur, 0⟩,
 ⟨15, ci oa2b (.ext xa1c 1), .pur, 0⟩,
 ⟨16, ci oa06 (.alloc 39 [vz, ve, ve]), .late, 1⟩,
 ⟨17, ci oa07 (.alloc 27 [vz, vz, vz]), .late, 2⟩,
 ⟨18, ci none (.st 3 xa06 xa2a), .ev, 3⟩,
 ⟨19, ci none (.st 3 xa07 xa2b), .ev, 4⟩]) (.dreg [
 ⟨0, ci oa2c (.mv xa00), .pur, 0⟩,
 ⟨1, ci oa2d (.nilc xa2c), .pur, 0⟩,
 ⟨2, ci oa2e (.fa xa2d 6), .pur, 0⟩,
 ⟨3, ci oa2f (.ld1 xa2e), .rd, 0⟩,
 ⟨4, ci oa30 (.mv xa00), .pur, 0⟩,
 ⟨5, ci oa31 (.nilc xa30), .pur, 0⟩,
 ⟨6, ci oa32 (.fa xa31 3), .pur, 0⟩,
 ⟨7, ci oa33 (.ld1 xa32), .rd, 0⟩,
 ⟨8, ci oa34 (.mv xa00), .pur, 0⟩,
 ⟨9, ci oa35 (.nilc xa34), .pur, 0⟩,
 ⟨10, ci oa36 (.fa xa35 8), .pur, 0⟩,
 ⟨11, ci oa37 (.ld1 xa36), .rd, 0⟩,
 ⟨12, ci oa38 (.fa xa05 3), .pur, 0⟩,
 ⟨13, ci oa39 (.ld1 xa38), .rd, 0⟩,
 ⟨14, ci oa3a (.build [vz, vz] [(0, 1, xa37), (1, 1, xa39)]), .pur, 0⟩,
 ⟨15, ci oa3b (.lkp (.strct [(.int .i64), (.int .i64)]) (.agg [vz, ve, vz, vz, ve]) xa33 xa3a false), .rd, 0⟩,
 ⟨16, ci oa3c (.ldn 3 xa06), .rd, 0⟩,
 ⟨17, ci oa3d (.build [vz, ve, ve, (.bool false)] [(0, 3, xa3c)]), .pur, 0⟩,
 ⟨18, ci none (.mupd (.strct [(.int .i64), .str, (.int .i64), (.int .i64), .str]) xa2f xa3b xa3d), .ev, 0⟩])) .skip)))) (.reg [
 ci oa3e (.add xa15 (ki 1)),
 ci oa15 (.mv xa3e)]))))))) (.seq (.dreg [
 ⟨0, ci oa40 (.mv xa00), .pur, 0⟩,
 ⟨1, ci oa41 (.mv xa00), .pur, 0⟩,
 ⟨2, ci oa42 (.nilc xa41), .pur, 0⟩,
 ⟨3, ci oa43 (.fa xa42 1), .pur, 0⟩,
 ⟨4, ci oa44 (.ld1 xa43), .rd, 0⟩,
 ⟨5, ci oa45 (.mv xa00), .pur, 0⟩,
 ⟨6, ci oa46 (.nilc xa45), .pur, 0⟩,
 ⟨7, ci oa47 (.fa xa46 8), .pur, 0⟩,
 ⟨8, ci oa48 (.ld1 xa47), .rd, 0⟩,
 ⟨9, ci oa49 (.fa xa03 5), .pur, 0⟩,
 ⟨10, ci oa4a (.ld1 xa49), .rd, 0⟩,
 ⟨11, ci oa4b (.ia 6 xa4a (ki 2)), .pur, 0⟩,
 ⟨12, ci oa4c (.ldn 6 xa4b), .rd, 0⟩,
 ⟨13, ci oa4d (.call fn41 [xa44, xa48, xa4c]), .ev, 0⟩,
 ⟨14, ci oa3f (.mv xa4d), .pur, 0⟩,
 ⟨15, ci oa4e (.ext xa3f 0), .pur, 0⟩,
 ⟨16, ci oa4f (.ext xa3f 1), .pur, 0⟩,
 ⟨17, ci oa50 (.nilc xa40), .pur, 0⟩,
 ⟨18, ci oa51 (.fa xa50 9), .pur, 0⟩,
 ⟨19, ci none (.st 3 xa51 xa4e), .ev, 1⟩]) (.seq (.reg [
 ci oa52 (.mv xa00),
 ci oa53 (.nilc xa52),
 ci oa54 (.fa xa53 12),
 ci none (.st 1 xa54 (ki 0))]) (.seq (.reg [
 ci oa55 (.fa xa03 5),
 ci oa56 (.ld1 xa55),
 ci oa57 (.ia 6 xa56 (ki 3)),
 ci oa58 (.ldn 6 xa57),
 ci oa08 (.alloc 44 [vz, vz, vz, vz, ve, .nils]),
 ci none (.st 6 xa08 xa58)]) (.seq (.reg [
 ci oa59 (.mv xa00),
 ci oa5a (.ldn 6 xa08),
 ci oa5b (.call fn42 [xa59, xa5a])]) (.seq (.reg [
 ci oa5c (.mv xa00),
 ci oa5d (.nilc xa5c),
 ci oa5e (.fa xa5d 9),
 ci oa5f (.fa xa5e 0),
 ci oa60 (.ld1 xa5f),
 ci oa61 (.neq (.cell (.int .i64)) xa60 (ki 0)),
 ci oa62 (.mv xa61),
 cg oa63 ta62 true (.ldn 6 xa08),
 cg oa64 ta62 true (.call fn43 [xa63, (ks 0 0)]),
 cg oa65 ta62 true (.not xa64),
 ci oa66 (.pick xa62 xa65 kf)]) (.cond xa66 (.reg [
 ci oa67 (.mv xa00),
 ci oa68 (.fa xa08 2),
 ci oa69 (.ld1 xa68),
 ci oa6a (.sub xa69 (ki 1)),
 ci oa6b (.call fn44 [xa67, xa6a, (ki 15)])]) .skip)))))))), []⟩
def cf22 : CF := ⟨22, true, (.seq (.reg [
 ci oa05 (.mv xa00),
 ci oa06 (.len 1 xa05),
 ci oa04 (.mv xa06)]) (.reg [
 ci oa07 (.mv xa00),
 ci oa08 (.mv xa04),
 ci oa09 (.mv xa04),
 ci oa0a (.cint .u64 xa09),
 ci oa0b (.call fn46 [xa0a]),
 ci oa0c (.mv xa01),
 ci oa0d (.call fn45 [xa07, (ki 0), xa08, xa0b, xa0c])])), []⟩
def cf23 : CF := ⟨23, true, (.seq (.reg [
 ci oa02 (.box 46 9 xa00),
 ci oa03 (.box 46 9 xa01),
 ci oa04 (.mv (ki 0))]) (.seq (.dreg [
 ⟨0, ci oa05 (.fa xa02 0), .pur, 0⟩,
 ⟨1, ci oa06 (.ld1 xa05), .rd, 0⟩,
 ⟨2, ci oa07 (.fa xa03 0), .pur, 0⟩,
 ⟨3, ci oa08 (.ld1 xa07), .rd, 0⟩,
 ⟨5, ci oa0a (.fa xa02 1), .pur, 0⟩,
 ⟨6, ci oa0b (.ld1 xa0a), .rd, 1⟩,
 ⟨7, ci oa0c (.fa xa03 1), .pur, 0⟩,
 ⟨8, ci oa0d (.ld1 xa0c), .rd, 1⟩,
 ⟨4, ci oa09 (.call fn25 [xa06, xa08]), .ev, 0⟩,
 ⟨9, ci oa0e (.call fn25 [xa0b, xa0d]), .ev, 1⟩,
 ⟨10, ci oa0f (.bslice 3 1 2 [vz] [(0, xa09), (1, xa0e)]), .ev, 2⟩,
 ⟨11, ci oa10 (.call fn24 [xa0f]), .ev, 3⟩,
 ⟨12, ci oa04 (.mv xa10), .pur, 0⟩]) .ret)), [.tmp ta04]⟩
def cf24 : CF := ⟨24, true, (.seq (.reg [
 ci oa02 (.mv (ki 0))]) (.seq (.reg [
 ci oa03 (.mv (ki 0))]) (.seq (.seq (.reg [
 ci oa06 (.mv xa00),
 ci oa07 (.len 1 xa06),
 ci oa08 (.mv (ki 0))]) (.block 0 (.loop (.seq (.reg [
 ci oa09 (.lss xa08 xa07)]) (.seq (.cond xa09 .skip (.exit 0)) (.seq (.block 1 (.seq (.reg [
 ci oa0a (.ia 1 xa06 xa08),
 ci oa0b (.ld1 xa0a),
 ci oa05 (.mv xa0b)]) (.seq (.reg [
 ci oa0c (.mv xa05),
 ci oa0d (.mv xa03),
 ci oa0e (.neq (.cell (.int .i64)) xa0c xa0d)]) (.cond xa0e (.seq (.reg [
 ci oa0f (.mv xa05),
 ci oa02 (.mv xa0f)]) .ret) .skip)))) (.reg [
 ci oa10 (.add xa08 (ki 1)),
 ci oa08 (.mv xa10)]))))))) (.seq (.reg [
 ci oa11 (.mv xa03),
 ci oa02 (.mv xa11)]) .ret)))), [.tmp ta02]⟩
def cf25 : CF := ⟨25, true, (.seq (.reg [
 ci oa04 (.mv (ki 0))]) (.seq (.reg [
 ci oa07 (.mv xa00),
 ci oa08 (.call fn47 [xa07]),
 ci oa05 (.mv xa08)]) (.seq (.reg [
 ci oa09 (.mv xa01),
 ci oa0a (.call fn47 [xa09]),
 ci oa06 (.mv xa0a)]) (.seq (.seq (.reg [
 ci oa0b (.mv xa05)]) (.cond xa0b (.seq (.seq (.reg [
 ci oa0c (.mv xa06)]) (.cond xa0c (.seq (.reg [
 ci oa04 (.mv (ki 0))]) .ret) .skip)) (.seq (.reg [
 ci oa04 (.mv (.k (.i (.negSucc 0))))]) .ret)) .skip)) (.seq (.seq (.reg [
 ci oa0d (.mv xa06)]) (.cond xa0d (.seq (.reg [
 ci oa04 (.mv (ki 1))]) .ret) .skip)) (.seq (.seq (.reg [
 ci oa0e (.mv xa00),
 ci oa0f (.mv xa01),
 ci oa10 (.lss xa0e xa0f)]) (.cond xa10 (.seq (.reg [
 ci oa04 (.mv (.k (.i (.negSucc 0))))]) .ret) .skip)) (.seq (.seq (.reg [
 ci oa11 (.mv xa00),
 ci oa12 (.mv xa01),
 ci oa13 (.gtr xa11 xa12)]) (.cond xa13 (.seq (.reg [
 ci oa04 (.mv (ki 1))]) .ret) .skip)) (.seq (.reg [
 ci oa04 (.mv (ki 0))]) .ret)))))))), [.tmp ta04]⟩
def cf26 : CF := ⟨26, true, (.seq (.reg [
 ci oa02 (.mv (.k .nils))]) (.seq (.seq (.reg [
 ci oa03 (.mv xa00),
 ci oa04 (.eql .slice xa03 (.k .nils))]) (.cond xa04 (.seq (.reg [
 ci oa02 (.mv (.k .nils))]) .ret) .skip)) (.seq (.reg [
 ci oa05 (.bslice 53 3 0 [ve, ve, vz] []),
 ci oa06 (.mv xa00),
 ci oa07 (.append 53 3 40 xa05 xa06),
 ci oa02 (.mv xa07)]) .ret))), [.tmp ta02]⟩
def cf27 : CF := ⟨27, true, (.seq (.reg [
 ci oa02 (.mv (ks 0 0)),
 ci oa03 (.mv kf)]) (.seq (.reg [
 ci oa0c (.mv xa00),
 ci oa0d (.call fn48 [xa0c, (ks 8 3399988171544226150)]),
 ci oa0b (.mv xa0d),
 ci oa0e (.ext xa0b 0),
 ci oa0f (.ext xa0b 1),
 ci oa04 (.mv xa0e),
 ci oa05 (.mv xa0f)]) (.seq (.reg [
 ci oa11 (.mv xa04),
 ci oa12 (.call fn49 [xa11, (ks 1 47)]),
 ci oa10 (.mv xa12),
 ci oa13 (.ext xa10 0),
 ci oa14 (.ext xa10 1),
 ci oa15 (.ext xa10 2),
 ci oa06 (.mv xa13),
 ci oa07 (.mv xa14),
 ci oa08 (.mv xa15)]) (.seq (.reg [
 ci oa17 (.mv xa07),
 ci oa18 (.call fn50 [xa17, (ks 3 7300910)]),
 ci oa16 (.mv xa18),
 ci oa19 (.ext xa16 0),
 ci oa1a (.ext xa16 1),
 ci oa09 (.mv xa19),
 ci oa0a (.mv xa1a)]) (.seq (.seq (.reg [
 ci oa1b (.mv xa05),
 ci oa1c (.not xa1b),
 ci oa1d (.mv xa1c),
 cg oa1e ta1d false (.mv xa08),
 cg oa1f ta1d false (.not xa1e),
 ci oa20 (.pick xa1d kt xa1f),
 ci oa21 (.mv xa20),
 cg oa22 ta21 false (.mv xa0a),
 cg oa23 ta21 false (.not xa22),
 ci oa24 (.pick xa21 kt xa23),
 ci oa25 (.mv xa24),
 cg oa26 ta25 false (.mv xa06),
 cg oa27 ta25 false (.call fn51 [xa26]),
 cg oa28 ta25 false (.not xa27),
 ci oa29 (.pick xa25 kt xa28),
 ci oa2a (.mv xa29),
 cg oa2b ta2a false (.mv xa06),
 cg oa2c ta2a false (.call fn52 [xa2b]),
 ci oa2d (.pick xa2a kt xa2c),
 ci oa2e (.mv xa2d),
 cg oa2f ta2e false (.mv xa09),
 cg oa30 ta2e false (.call fn51 [xa2f]),
 cg oa31 ta2e false (.not xa30),
 ci oa32 (.pick xa2e kt xa31)]) (.cond xa32 (.seq (.reg [
 ci oa02 (.mv (ks 0 0)),
 ci oa03 (.mv kf)]) .ret) .skip)) (.seq (.reg [
 ci oa33 (.mv xa06),
 ci oa02 (.mv xa33),
 ci oa03 (.mv kt)]) .ret)))))), [.tmp ta02, .tmp ta03]⟩
def cf28 : CF := ⟨28, true, (.seq (.reg [
 ci oa04 (.mv (ki 0))]) (.seq (.reg [
 ci oa05 (.mv xa00),
 ci oa06 (.mv xa01),
 ci oa07 (.call fn53 [xa05, xa06]),
 ci oa04 (.mv xa07)]) .ret)), [.tmp ta04]⟩
def cf29 : CF := ⟨29, true, (.seq (.reg [
 ci oa02 (.alloc 44 [vz, vz, vz, vz, ve, .nils]),
 ci oa03 (.alloc 3 [vz]),
 ci oa04 (.alloc 23 [vz])]) (.seq (.reg [
 ci oa09 (.mv xa00),
 ci oa0a (.call fn54 [xa09]),
 ci oa08 (.mv xa0a),
 ci oa0b (.ext xa08 0),
 ci oa0c (.ext xa08 1),
 ci oa0d (.ext xa08 2),
 ci oa05 (.mv xa0b),
 ci none (.st 1 xa03 xa0c),
 ci none (.st 1 xa04 xa0d)]) (.seq (.seq (.reg [
 ci oa0e (.ld1 xa04),
 ci oa0f (.neq (.cell (.int .i64)) xa0e (ki 0))]) (.cond xa0f (.seq (.dreg [
 ⟨0, ci oa10 (.build [vz, vz, vz, vz, ve, .nils] []), .pur, 0⟩,
 ⟨1, ci oa11 (.ld1 xa03), .rd, 1⟩,
 ⟨2, ci oa12 (.ld1 xa04), .rd, 2⟩,
 ⟨3, ci none (.st 6 xa02 xa10), .ev, 0⟩,
 ⟨4, ci none (.st 1 xa03 xa11), .ev, 1⟩,
 ⟨5, ci none (.st 1 xa04 xa12), .ev, 2⟩]) .ret) .skip)) (.seq (.reg [
 ci oa13 (.mkf fn55 [] [xa02, xa03, xa04]),
 ci none (.dfr xa13 [])]) (.seq (.reg [
 ci oa14 (.mv xa05),
 ci oa15 (.mv xa00),
 ci oa16 (.len 0 xa15),
 ci oa17 (.mv xa00),
 ci oa18 (.len 0 xa17),
 ci oa19 (.build [vz, ve, vz, vz] [(2, 1, xa16), (3, 1, xa18)]),
 ci oa1a (.bslice 134 4 1 [vz, ve, vz, vz] [(0, xa19)]),
 ci oa1b (.append 134 4 40 xa14 xa1a),
 ci oa1c (.build [.nils, vz, vz, (.bool false)] [(0, 1, xa1b)]),
 ci oa1d (.box 136 4 xa1c),
 ci oa06 (.mv xa1d)]) (.seq (.reg [
 ci oa1e (.mv xa06),
 ci oa1f (.mv xa00),
 ci oa20 (.len 0 xa1f),
 ci oa21 (.call fn56 [xa1e, xa20]),
 ci none (.st 6 xa02 xa21)]) (.seq (.seq (.reg [
 ci oa22 (.ldn 6 xa02),
 ci oa23 (.mv xa00),
 ci oa24 (.len 0 xa23),
 ci oa25 (.add xa24 (ki 1)),
 ci oa26 (.call fn57 [xa22, (ki 64), xa25]),
 ci oa07 (.mv xa26)]) (.seq (.reg [
 ci oa27 (.mv xa07),
 ci oa28 (.mv xa00),
 ci oa29 (.len 0 xa28),
 ci oa2a (.leq xa27 xa29)]) (.cond xa2a (.seq (.reg [
 ci oa2b (.build [vz, vz, vz, vz, ve, .nils] []),
 ci oa2c (.mv xa07),
 ci none (.st 6 xa02 xa2b),
 ci none (.st 1 xa03 xa2c),
 ci none (.st 1 xa04 (ki 3))]) .ret) .skip))) (.seq (.reg [
 ci oa2d (.ldn 6 xa02),
 ci none (.st 6 xa02 xa2d),
 ci none (.st 1 xa03 (ki 0)),
 ci none (.st 1 xa04 (ki 0))]) .ret)))))))), [.cell 6 true ta02, .cell 1 false ta03, .cell 1 false ta04]⟩
def cf31 : CF := ⟨31, true, (.seq (.reg [
 ci oa07 (.mv xa00),
 ci oa08 (.nilc xa07),
 ci oa09 (.fa xa08 1),
 ci oa0a (.ld1 xa09),
 ci oa0b (.len 1 xa0a),
 ci oa0c (.mv (ki 0))]) (.block 0 (.loop (.seq (.reg [
 ci oa0d (.lss xa0c xa0b)]) (.seq (.cond xa0d .skip (.exit 0)) (.seq (.block 1 (.seq (.reg [
 ci oa0e (.mv xa0c),
 ci oa0f (.ia 6 xa0a xa0c),
 ci oa10 (.ldn 6 xa0f),
 ci oa03 (.alloc 44 [vz, vz, vz, vz, ve, .nils]),
 ci oa02 (.mv xa0e),
 ci none (.st 6 xa03 xa10)]) (.seq (.seq (.dreg [
 ⟨0, ci oa11 (.fa xa03 4), .pur, 0⟩,
 ⟨1, ci oa12 (.ld1 xa11), .rd, 11⟩,
 ⟨2, ci oa13 (.mv xa00), .pur, 0⟩,
 ⟨3, ci oa14 (.nilc xa13), .pur, 0⟩,
 ⟨4, ci oa15 (.fa xa14 2), .pur, 0⟩,
 ⟨5, ci oa16 (.ld1 xa15), .rd, 11⟩,
 ⟨6, ci oa17 (.mv xa02), .pur, 0⟩,
 ⟨7, ci oa18 (.ia 1 xa16 xa17), .pur, 0⟩,
 ⟨8, ci oa19 (.ld1 xa18), .rd, 11⟩,
 ⟨9, ci oa1a (.neq (.cell .str) xa12 xa19), .pur, 0⟩]) (.cond xa1a (.dreg [
 ⟨0, ci oa1b (.mv xa00), .pur, 0⟩,
 ⟨1, ci oa1c (.nilc xa1b), .pur, 0⟩,
 ⟨2, ci oa1d (.fa xa1c 3), .pur, 0⟩,
 ⟨3, ci oa1e (.mv xa02), .pur, 0⟩,
 ⟨4, ci oa1f (.fa xa03 3), .pur, 0⟩,
 ⟨5, ci oa20 (.ld1 xa1f), .rd, 0⟩,
 ⟨6, ci oa21 (.call fn30 [xa1d, xa1e, xa20, (ki 9)]), .ev, 0⟩]) .skip)) (.seq (.reg [
 ci oa22 .mkmap,
 ci oa04 (.mv xa22)]) (.seq (.reg [
 ci oa23 (.fa xa03 5),
 ci oa24 (.ld1 xa23),
 ci oa25 (.len 1 xa24),
 ci oa26 (.mv (ki 0))]) (.block 2 (.loop (.seq (.reg [
 ci oa27 (.lss xa26 xa25)]) (.seq (.cond xa27 .skip (.exit 2)) (.seq (.block 3 (.seq (.reg [
 ci oa28 (.ia 6 xa24 xa26),
 ci oa29 (.ldn 6 xa28),
 ci oa06 (.alloc 44 [vz, vz, vz, vz, ve, .nils]),
 ci none (.st 6 xa06 xa29)]) (.seq (.seq (.reg [
 ci oa2a (.fa xa06 0),
 ci oa2b (.ld1 xa2a),
 ci oa2c (.neq (.cell (.int .i64)) xa2b (ki 2))]) (.cond xa2c (.exit 3) .skip)) (.seq (.seq (.reg [
 ci oa2d (.mv xa04),
 ci oa2e (.fa xa06 4),
 ci oa2f (.ld1 xa2e),
 ci oa30 (.lkp (.cell .str) vz xa2d xa2f false),
 ci oa31 (.add xa30 (ki 1)),
 ci none (.mupd (.cell .str) xa2d xa2f xa31)]) (.seq (.reg [
 ci oa32 (.mv xa04),
 ci oa33 (.fa xa06 4),
 ci oa34 (.ld1 xa33),
 ci oa35 (.lkp (.cell .str) vz xa32 xa34 false),
 ci oa36 (.gtr xa35 (ki 1))]) (.cond xa36 (.dreg [
 ⟨0, ci oa37 (.mv xa00), .pur, 0⟩,
 ⟨1, ci oa38 (.nilc xa37), .pur, 0⟩,
 ⟨2, ci oa39 (.fa xa38 3), .pur, 0⟩,
 ⟨3, ci oa3a (.mv xa02), .pur, 0⟩,
 ⟨4, ci oa3b (.fa xa06 3), .pur, 0⟩,
 ⟨5, ci oa3c (.ld1 xa3b), .rd, 0⟩,
 ⟨6, ci oa3d (.call fn30 [xa39, xa3a, xa3c, (ki 13)]), .ev, 0⟩]) .skip))) (.block 4 (.seq (.dreg [
 ⟨0, ci oa3f (.mv xa00), .pur, 0⟩,
 ⟨1, ci oa40 (.nilc xa3f), .pur, 0⟩,
 ⟨2, ci oa41 (.fa xa40 2), .pur, 0⟩,
 ⟨3, ci oa42 (.ld1 xa41), .rd, 0⟩,
 ⟨4, ci oa43 (.fa xa06 4), .pur, 0⟩,
 ⟨5, ci oa44 (.ld1 xa43), .rd, 0⟩,
 ⟨6, ci oa45 (.call fn59 [xa42, xa44]), .ev, 0⟩,
 ⟨7, ci oa46 (.not xa45), .pur, 0⟩,
 ⟨8, ci oa3e (.mv xa46), .pur, 0⟩]) (.cond xa3e (.dreg [
 ⟨0, ci oa47 (.mv xa00), .pur, 0⟩,
 ⟨1, ci oa48 (.nilc xa47), .pur, 0⟩,
 ⟨2, ci oa49 (.fa xa48 3), .pur, 0⟩,
 ⟨3, ci oa4a (.mv xa02), .pur, 0⟩,
 ⟨4, ci oa4b (.fa xa06 3), .pur, 0⟩,
 ⟨5, ci oa4c (.ld1 xa4b), .rd, 0⟩,
 ⟨6, ci oa4d (.call fn30 [xa49, xa4a, xa4c, (ki 12)]), .ev, 0⟩]) (.seq (.dreg [
 ⟨0, ci oa4f (.mv xa00), .pur, 0⟩,
 ⟨1, ci oa50 (.fa xa06 4), .pur, 0⟩,
 ⟨2, ci oa51 (.ld1 xa50), .rd, 1⟩,
 ⟨3, ci oa52 (.mv xa00), .pur, 0⟩,
 ⟨4, ci oa53 (.nilc xa52), .pur, 0⟩,
 ⟨5, ci oa54 (.fa xa53 2), .pur, 0⟩,
 ⟨6, ci oa55 (.ld1 xa54), .rd, 1⟩,
 ⟨7, ci oa56 (.mv xa02), .pur, 0⟩,
 ⟨8, ci oa57 (.ia 1 xa55 xa56), .pur, 0⟩,
 ⟨9, ci oa58 (.ld1 xa57), .rd, 1⟩,
 ⟨10, ci oa59 .mkmap, .ev, 0⟩,
 ⟨11, ci oa5a (.call fn60 [xa4f, xa51, xa58, xa59]), .ev, 1⟩,
 ⟨12, ci oa4e (.mv xa5a), .pur, 0⟩]) (.cond xa4e (.dreg [
 ⟨0, ci oa5b (.mv xa00), .pur, 0⟩,
 ⟨1, ci oa5c (.nilc xa5b), .pur, 0⟩,
 ⟨2, ci oa5d (.fa xa5c 3), .pur, 0⟩,
 ⟨3, ci oa5e (.mv xa02), .pur, 0⟩,
 ⟨4, ci oa5f (.fa xa06 3), .pur, 0⟩,
 ⟨5, ci oa60 (.ld1 xa5f), .rd, 0⟩,
 ⟨6, ci oa61 (.call fn30 [xa5d, xa5e, xa60, (ki 16)]), .ev, 0⟩]) .skip))))))))) (.reg [
 ci oa62 (.add xa26 (ki 1)),
 ci oa26 (.mv xa62)]))))))))))) (.reg [
 ci oa63 (.add xa0c (ki 1)),
 ci oa0c (.mv xa63)]))))))), []⟩
def cf32 : CF := ⟨32, true, (.seq (.reg [
 ci oa02 (.mv xa00),
 ci oa03 (.call fn61 [xa02])]) (.reg [
 ci oa04 (.mv xa00),
 ci oa05 (.call fn62 [xa04])])), []⟩
def cf33 : CF := ⟨33, true, (.seq (.reg [
 ci oa05 (.box 44 6 xa02)]) (.seq (.reg [
 ci oa12 (.mv xa00),
 ci oa13 (.nilc xa12),
 ci oa14 (.fa xa13 0),
 ci oa15 (.ld1 xa14),
 ci oa16 (.mv xa01),
 ci oa17 (.call fn40 [xa15, xa16]),
 ci oa06 (.mv xa17)]) (.seq (.reg [
 ci oa18 (.fa xa05 0),
 ci oa19 (.ld1 xa18)]) (.block 0 (.seq (.reg [
 ci oa1b (.eql (.cell (.int .i64)) xa19 (ki 3)),
 ci oa1a (.mv xa1b)]) (.cond xa1a (.seq (.reg [
 ci oa1c (.mv xa06),
 ci oa1d (.fa xa05 4),
 ci oa1e (.ld1 xa1d),
 ci oa1f (.build [vz, ve, ve] [(0, 1, (ki 5)), (1, 1, xa1c), (2, 1, xa1e)]),
 ci oa07 (.alloc 39 [vz, ve, ve]),
 ci none (.st 3 xa07 xa1f)]) (.seq (.dreg [
 ⟨0, ci oa20 (.mv xa00), .pur, 0⟩,
 ⟨1, ci oa21 (.nilc xa20), .pur, 0⟩,
 ⟨2, ci oa22 (.fa xa21 2), .pur, 0⟩,
 ⟨3, ci oa23 (.ld1 xa22), .rd, 0⟩,
 ⟨4, ci oa24 (.ldn 3 xa07), .rd, 0⟩,
 ⟨5, ci oa25 (.fa xa05 4), .pur, 0⟩,
 ⟨6, ci oa26 (.ld1 xa25), .rd, 0⟩,
 ⟨7, ci oa27 (.mv xa01), .pur, 0⟩,
 ⟨8, ci oa28 (.fa xa05 3), .pur, 0⟩,
 ⟨9, ci oa29 (.ld1 xa28), .rd, 0⟩,
 ⟨10, ci oa2a (.mv xa06), .pur, 0⟩,
 ⟨11, ci oa2b (.build [vz, ve, vz, vz, ve] [(0, 1, (ki 2)), (1, 1, xa26), (2, 1, xa27), (3, 1, xa29), (4, 1, xa2a)]), .pur, 0⟩,
 ⟨12, ci none (.mupd (.strct [(.int .i64), .str, .str]) xa23 xa24 xa2b), .ev, 0⟩]) (.seq (.reg [
 ci oa2c (.fa xa05 5),
 ci oa2d (.ld1 xa2c),
 ci oa2e (.len 1 xa2d),
 ci oa2f (.mv (ki 0))]) (.block 1 (.loop (.seq (.reg [
 ci oa30 (.lss xa2f xa2e)]) (.seq (.cond xa30 .skip (.exit 1)) (.seq (.block 2 (.seq (.reg [
 ci oa31 (.ia 6 xa2d xa2f),
 ci oa32 (.ldn 6 xa31),
 ci oa09 (.alloc 44 [vz, vz, vz, vz, ve, .nils]),
 ci none (.st 6 xa09 xa32)]) (.seq (.reg [
 ci oa34 (.mv xa00),
 ci oa35 (.mv xa01),
 ci oa36 (.ldn 6 xa09),
 ci oa37 (.call fn63 [xa34, xa35, (ki 5), xa36]),
 ci oa33 (.mv xa37),
 ci oa38 (.ext xa33 0),
 ci oa39 (.ext xa33 1),
 ci oa0a (.alloc 143 [vz, ve, vz, vz, ve, vz, ve, ve]),
 ci none (.st 8 xa0a xa38),
 ci oa0b (.mv xa39)]) (.seq (.dreg [
 ⟨0, ci oa3a (.mv xa00), .pur, 0⟩,
 ⟨1, ci oa3b (.nilc xa3a), .pur, 0⟩,
 ⟨2, ci oa3c (.fa xa3b 1), .pur, 0⟩,
 ⟨3, ci oa3d (.ld1 xa3c), .rd, 1⟩,
 ⟨4, ci oa3e (.ldn 3 xa07), .rd, 1⟩,
 ⟨5, ci oa40 (.ldn 8 xa0a), .rd, 0⟩,
 ⟨6, ci oa41 (.bslice 143 8 1 [vz, ve, vz, vz, ve, vz, ve, ve] [(0, xa40)]), .ev, 0⟩,
 ⟨7, ci oa42 (.ment (.strct [(.int .i64), .str, .str]) .nils xa3d xa3e), .ev, 1⟩,
 ⟨8, ci oa3f (.ext xa42 0), .pur, 0⟩,
 ⟨10, ci oa44 (.ext xa42 1), .pur, 0⟩,
 ⟨9, ci oa43 (.append 143 8 96 xa3f xa41), .ev, 2⟩,
 ⟨11, ci none (.estore xa3d xa44 xa43), .ev, 3⟩]) (.seq (.reg [
 ci oa45 (.mv xa0b),
 ci oa46 (.not xa45)]) (.cond xa46 (.dreg [
 ⟨0, ci oa47 (.mv xa00), .pur, 0⟩,
 ⟨1, ci oa48 (.nilc xa47), .pur, 0⟩,
 ⟨2, ci oa49 (.fa xa48 3), .pur, 0⟩,
 ⟨3, ci oa4a (.ld1 xa49), .rd, 0⟩,
 ⟨4, ci oa4b (.ldn 3 xa07), .rd, 0⟩,
 ⟨5, ci oa4c (.lkp (.strct [(.int .i64), .str, .str]) vz xa4a xa4b false), .rd, 1⟩,
 ⟨6, ci oa4d (.add xa4c (ki 1)), .pur, 0⟩,
 ⟨7, ci oa4e (.ment (.strct [(.int .i64), .str, .str]) vz xa4a xa4b), .ev, 0⟩,
 ⟨8, ci oa4f (.ext xa4e 1), .pur, 0⟩,
 ⟨9, ci none (.estore xa4a xa4f xa4d), .ev, 1⟩]) .skip)))))) (.reg [
 ci oa50 (.add xa2f (ki 1)),
 ci oa2f (.mv xa50)]))))))))) (.seq (.reg [
 ci oa52 (.eql (.cell (.int .i64)) xa19 (ki 5)),
 ci oa51 (.mv xa52)]) (.cond xa51 (.seq (.reg [
 ci oa53 (.fa xa05 4),
 ci oa54 (.ld1 xa53),
 ci oa55 (.mv xa01),
 ci oa56 (.fa xa05 3),
 ci oa57 (.ld1 xa56),
 ci oa58 (.mv xa06),
 ci oa59 (.build [vz, ve, vz, vz, ve] [(0, 1, (ki 3)), (1, 1, xa54), (2, 1, xa55), (3, 1, xa57), (4, 1, xa58)]),
 ci oa5a (.build [vz, ve, vz, vz, ve, vz, ve, ve, .nils, vz, ve, ve] [(0, 5, xa59)]),
 ci oa0c (.alloc 148 [vz, ve, vz, vz, ve, vz, ve, ve, .nils, vz, ve, ve]),
 ci none (.st 12 xa0c xa5a)]) (.seq (.seq (.reg [
 ci oa5b (.fa xa05 5),
 ci oa5c (.ld1 xa5b),
 ci oa5d (.ia 6 xa5c (ki 0)),
 ci oa5e (.ldn 6 xa5d),
 ci oa0d (.alloc 44 [vz, vz, vz, vz, ve, .nils]),
 ci none (.st 6 xa0d xa5e)]) (.seq (.reg [
 ci oa5f (.fa xa0d 0),
 ci oa60 (.ld1 xa5f),
 ci oa61 (.neq (.cell (.int .i64)) xa60 (ki 0))]) (.cond xa61 (.seq (.reg [
 ci oa62 (.fa xa0c 0),
 ci oa63 (.fa xa62 0),
 ci none (.st 1 xa63 (ki 4))]) (.reg [
 ci oa65 (.mv xa00),
 ci oa66 (.mv xa01),
 ci oa67 (.fa xa0d 5),
 ci oa68 (.ld1 xa67),
 ci oa69 (.ia 6 xa68 (ki 0)),
 ci oa6a (.ldn 6 xa69),
 ci oa6b (.call fn64 [xa65, xa66, xa6a]),
 ci oa64 (.mv xa6b),
 ci oa6c (.ext xa64 0),
 ci oa6d (.ext xa64 1),
 ci oa6e (.fa xa0c 5),
 ci none (.st 3 xa6e xa6c)])) .skip))) (.seq (.seq (.reg [
 ci oa6f (.fa xa05 5),
 ci oa70 (.ld1 xa6f),
 ci oa71 (.ia 6 xa70 (ki 1)),
 ci oa72 (.fa xa71 5),
 ci oa73 (.ld1 xa72),
 ci oa74 (.len 1 xa73),
 ci oa75 (.mv (ki 0))]) (.block 3 (.loop (.seq (.reg [
 ci oa76 (.lss xa75 xa74)]) (.seq (.cond xa76 .skip (.exit 3)) (.seq (.block 4 (.seq (.reg [
 ci oa77 (.ia 6 xa73 xa75),
 ci oa78 (.ldn 6 xa77),
 ci oa0f (.alloc 44 [vz, vz, vz, vz, ve, .nils]),
 ci none (.st 6 xa0f xa78)]) (.seq (.reg [
 ci oa7a (.mv xa00),
 ci oa7b (.mv xa01),
 ci oa7c (.ldn 6 xa0f),
 ci oa7d (.call fn63 [xa7a, xa7b, (ki 6), xa7c]),
 ci oa79 (.mv xa7d),
 ci oa7e (.ext xa79 0),
 ci oa7f (.ext xa79 1),
 ci oa10 (.alloc 143 [vz, ve, vz, vz, ve, vz, ve, ve]),
 ci none (.st 8 xa10 xa7e),
 ci oa11 (.mv xa7f)]) (.reg [
 ci oa80 (.fa xa0c 8),
 ci oa81 (.ld1 xa80),
 ci oa82 (.ldn 8 xa10),
 ci oa83 (.bslice 143 8 1 [vz, ve, vz, vz, ve, vz, ve, ve] [(0, xa82)]),
 ci oa84 (.append 143 8 96 xa81 xa83),
 ci oa85 (.fa xa0c 8),
 ci none (.st 1 xa85 xa84)])))) (.reg [
 ci oa86 (.add xa75 (ki 1)),
 ci oa75 (.mv xa86)]))))))) (.seq (.reg [
 ci oa88 (.mv xa00),
 ci oa89 (.mv xa01),
 ci oa8a (.fa xa05 5),
 ci oa8b (.ld1 xa8a),
 ci oa8c (.ia 6 xa8b (ki 2)),
 ci oa8d (.ldn 6 xa8c),
 ci oa8e (.call fn64 [xa88, xa89, xa8d]),
 ci oa87 (.mv xa8e),
 ci oa8f (.ext xa87 0),
 ci oa90 (.ext xa87 1),
 ci oa91 (.fa xa0c 9),
 ci none (.st 3 xa91 xa8f)]) (.dreg [
 ⟨0, ci oa92 (.mv xa00), .pur, 0⟩,
 ⟨1, ci oa93 (.nilc xa92), .pur, 0⟩,
 ⟨2, ci oa94 (.fa xa93 4), .pur, 0⟩,
 ⟨3, ci oa95 (.ld1 xa94), .rd, 0⟩,
 ⟨4, ci oa96 (.fa xa0c 5), .pur, 0⟩,
 ⟨5, ci oa97 (.ldn 3 xa96), .rd, 0⟩,
 ⟨6, ci oa98 (.mv xa06), .pur, 0⟩,
 ⟨7, ci oa99 (.fa xa05 4), .pur, 0⟩,
 ⟨8, ci oa9a (.ld1 xa99), .rd, 0⟩,
 ⟨9, ci oa9b (.build [vz, ve, ve, ve, ve] [(0, 3, xa97), (3, 1, xa98), (4, 1, xa9a)]), .pur, 0⟩,
 ⟨10, ci oa9c (.ldn 12 xa0c), .rd, 0⟩,
 ⟨11, ci none (.mupd (.strct [(.int .i64), .str, .str, .str, .str]) xa95 xa9b xa9c), .ev, 0⟩]))))) .skip)))))))), []⟩
def cf34 : CF := ⟨34, true, (.seq (.reg [
 ci oa09 .mkmap,
 ci oa02 (.mv xa09)]) (.seq (.seq (.reg [
 ci oa0a (.mv xa00),
 ci oa0b (.nilc xa0a),
 ci oa0c (.fa xa0b 2),
 ci oa0d (.ld1 xa0c),
 ci oa0e (.rng (.strct [(.int .i64), .str, .str]) xa0d)]) (.block 0 (.loop (.seq (.reg [
 ci oa0f (.nxt xa0e false),
 ci oa10 (.ext xa0f 0)]) (.seq (.cond xa10 .skip (.exit 0)) (.block 1 (.seq (.reg [
 ci oa11 (.entry xa0e),
 ci oa12 (.ext xa11 0),
 ci oa03 (.alloc 39 [vz, ve, ve]),
 ci none (.st 3 xa03 xa12)]) (.dreg [
 ⟨0, ci oa13 (.mv xa02), .pur, 0⟩,
 ⟨1, ci oa14 (.ldn 3 xa03), .rd, 1⟩,
 ⟨2, ci oa15 (.mv xa00), .pur, 0⟩,
 ⟨3, ci oa16 (.ldn 3 xa03), .rd, 0⟩,
 ⟨4, ci oa17 (.call fn65 [xa15, xa16]), .ev, 0⟩,
 ⟨5, ci none (.mupd (.strct [(.int .i64), .str, .str]) xa13 xa14 xa17), .ev, 1⟩])))))))) (.seq (.reg [
 ci oa18 .mkmap,
 ci oa04 (.mv xa18)]) (.seq (.reg [
 ci oa19 (.mv xa00),
 ci oa1a (.nilc xa19),
 ci oa1b (.fa xa1a 2),
 ci oa1c (.ld1 xa1b),
 ci oa1d (.rng (.strct [(.int .i64), .str, .str]) xa1c)]) (.block 2 (.loop (.seq (.reg [
 ci oa1e (.nxt xa1d false),
 ci oa1f (.ext xa1e 0)]) (.seq (.cond xa1f .skip (.exit 2)) (.block 3 (.seq (.reg [
 ci oa20 (.entry xa1d),
 ci oa21 (.ext xa20 0),
 ci oa22 (.ext xa20 1),
 ci oa05 (.alloc 39 [vz, ve, ve]),
 ci oa06 (.alloc 35 [vz, ve, vz, vz, ve]),
 ci none (.st 3 xa05 xa21),
 ci none (.st 5 xa06 xa22)]) (.seq (.dreg [
 ⟨0, ci oa23 (.mv xa00), .pur, 0⟩,
 ⟨1, ci oa24 (.nilc xa23), .pur, 0⟩,
 ⟨2, ci oa25 (.fa xa24 3), .pur, 0⟩,
 ⟨3, ci oa26 (.ld1 xa25), .rd, 17⟩,
 ⟨4, ci oa27 (.ldn 3 xa05), .rd, 17⟩,
 ⟨5, ci oa28 (.lkp (.strct [(.int .i64), .str, .str]) vz xa26 xa27 false), .rd, 17⟩,
 ⟨6, ci oa29 (.eql (.cell (.int .i64)) xa28 (ki 0)), .pur, 0⟩,
 ⟨7, ci oa2a (.mv xa29), .pur, 0⟩,
 ⟨8, cg oa2b ta2a true (.mv xa02), .pur, 0⟩,
 ⟨9, cg oa2c ta2a true (.ldn 3 xa05), .rd, 17⟩,
 ⟨10, cg oa2d ta2a true (.lkp (.strct [(.int .i64), .str, .str]) .nilm xa2b xa2c false), .rd, 17⟩,
 ⟨11, cg oa2e ta2a true (.ldn 3 xa05), .rd, 17⟩,
 ⟨12, cg oa2f ta2a true (.lkp (.strct [(.int .i64), .str, .str]) vz xa2d xa2e false), .rd, 17⟩,
 ⟨13, cg oa30 ta2a true (.eql (.cell (.int .i64)) xa2f (ki 0)), .pur, 0⟩,
 ⟨14, ci oa31 (.pick xa2a xa30 kf), .pur, 0⟩,
 ⟨15, ci oa07 (.mv xa31), .pur, 0⟩]) (.seq (.seq (.reg [
 ci oa32 (.mv xa02),
 ci oa33 (.ldn 3 xa05),
 ci oa34 (.lkp (.strct [(.int .i64), .str, .str]) .nilm xa32 xa33 false),
 ci oa35 (.rng (.strct [(.int .i64), .str, .str]) xa34)]) (.block 4 (.loop (.seq (.reg [
 ci oa36 (.nxt xa35 false),
 ci oa37 (.ext xa36 0)]) (.seq (.cond xa37 .skip (.exit 4)) (.block 5 (.seq (.reg [
 ci oa38 (.entry xa35),
 ci oa39 (.ext xa38 0),
 ci oa08 (.alloc 39 [vz, ve, ve]),
 ci none (.st 3 xa08 xa39)]) (.dreg [
 ⟨0, ci oa3a (.mv xa07), .pur, 0⟩,
 ⟨1, ci oa3b (.mv xa3a), .pur, 0⟩,
 ⟨2, cg oa3c ta3b true (.mv xa00), .pur, 0⟩,
 ⟨3, cg oa3d ta3b true (.nilc xa3c), .pur, 0⟩,
 ⟨4, cg oa3e ta3b true (.fa xa3d 3), .pur, 0⟩,
 ⟨5, cg oa3f ta3b true (.ld1 xa3e), .rd, 20⟩,
 ⟨6, cg oa40 ta3b true (.ldn 3 xa08), .rd, 20⟩,
 ⟨7, cg oa41 ta3b true (.lkp (.strct [(.int .i64), .str, .str]) vz xa3f xa40 false), .rd, 20⟩,
 ⟨8, cg oa42 ta3b true (.eql (.cell (.int .i64)) xa41 (ki 0)), .pur, 0⟩,
 ⟨9, ci oa43 (.pick xa3b xa42 kf), .pur, 0⟩,
 ⟨10, ci oa44 (.mv xa43), .pur, 0⟩,
 ⟨11, cg oa45 ta44 true (.mv xa02), .pur, 0⟩,
 ⟨12, cg oa46 ta44 true (.ldn 3 xa08), .rd, 20⟩,
 ⟨13, cg oa47 ta44 true (.lkp (.strct [(.int .i64), .str, .str]) .nilm xa45 xa46 false), .rd, 20⟩,
 ⟨14, cg oa48 ta44 true (.ldn 3 xa08), .rd, 20⟩,
 ⟨15, cg oa49 ta44 true (.lkp (.strct [(.int .i64), .str, .str]) vz xa47 xa48 false), .rd, 20⟩,
 ⟨16, cg oa4a ta44 true (.eql (.cell (.int .i64)) xa49 (ki 0)), .pur, 0⟩,
 ⟨17, ci oa4b (.pick xa44 xa4a kf), .pur, 0⟩,
 ⟨18, ci oa07 (.mv xa4b), .pur, 0⟩])))))))) (.seq (.dreg [
 ⟨0, ci oa4c (.mv xa02), .pur, 0⟩,
 ⟨1, ci oa4d (.ldn 3 xa05), .rd, 7⟩,
 ⟨2, ci oa4e (.lkp (.strct [(.int .i64), .str, .str]) .nilm xa4c xa4d false), .rd, 7⟩,
 ⟨3, ci oa4f (.ldn 3 xa05), .rd, 7⟩,
 ⟨4, ci oa50 (.lkp (.strct [(.int .i64), .str, .str]) vz xa4e xa4f false), .rd, 7⟩,
 ⟨5, ci oa51 (.gtr xa50 (ki 0)), .pur, 0⟩]) (.cond xa51 (.dreg [
 ⟨0, ci oa52 (.mv xa00), .pur, 0⟩,
 ⟨1, ci oa53 (.mv xa00), .pur, 0⟩,
 ⟨2, ci oa54 (.nilc xa53), .pur, 0⟩,
 ⟨3, ci oa55 (.fa xa54 5), .pur, 0⟩,
 ⟨4, ci oa56 (.ld1 xa55), .rd, 2⟩,
 ⟨5, ci oa57 (.fa xa06 2), .pur, 0⟩,
 ⟨6, ci oa58 (.ld1 xa57), .rd, 0⟩,
 ⟨7, ci oa59 (.fa xa06 3), .pur, 0⟩,
 ⟨8, ci oa5a (.ld1 xa59), .rd, 0⟩,
 ⟨9, ci oa5b (.call fn66 [xa58, xa5a, (ki 16)]), .ev, 0⟩,
 ⟨10, ci oa5c (.bslice 27 3 1 [vz, vz, vz] [(0, xa5b)]), .ev, 1⟩,
 ⟨11, ci oa5d (.append 27 3 24 xa56 xa5c), .ev, 2⟩,
 ⟨12, ci oa5e (.nilc xa52), .pur, 0⟩,
 ⟨13, ci oa5f (.fa xa5e 5), .pur, 0⟩,
 ⟨14, ci none (.st 1 xa5f xa5d), .ev, 3⟩]) (.seq (.reg [
 ci oa60 (.mv xa07),
 ci oa61 (.mv xa60),
 cg oa62 ta61 true (.mv xa00),
 cg oa63 ta61 true (.ldn 3 xa05),
 cg oa64 ta61 true (.mv xa04),
 cg oa65 ta61 true (.call fn67 [xa62, xa63, xa64]),
 cg oa66 ta61 true (.gtr xa65 (ki 256)),
 ci oa67 (.pick xa61 xa66 kf)]) (.cond xa67 (.dreg [
 ⟨0, ci oa68 (.mv xa00), .pur, 0⟩,
 ⟨1, ci oa69 (.mv xa00), .pur, 0⟩,
 ⟨2, ci oa6a (.nilc xa69), .pur, 0⟩,
 ⟨3, ci oa6b (.fa xa6a 5), .pur, 0⟩,
 ⟨4, ci oa6c (.ld1 xa6b), .rd, 2⟩,
 ⟨5, ci oa6d (.fa xa06 2), .pur, 0⟩,
 ⟨6, ci oa6e (.ld1 xa6d), .rd, 0⟩,
 ⟨7, ci oa6f (.fa xa06 3), .pur, 0⟩,
 ⟨8, ci oa70 (.ld1 xa6f), .rd, 0⟩,
 ⟨9, ci oa71 (.call fn66 [xa6e, xa70, (ki 3)]), .ev, 0⟩,
 ⟨10, ci oa72 (.bslice 27 3 1 [vz, vz, vz] [(0, xa71)]), .ev, 1⟩,
 ⟨11, ci oa73 (.append 27 3 24 xa6c xa72), .ev, 2⟩,
 ⟨12, ci oa74 (.nilc xa68), .pur, 0⟩,
 ⟨13, ci oa75 (.fa xa74 5), .pur, 0⟩,
 ⟨14, ci none (.st 1 xa75 xa73), .ev, 3⟩]) .skip)))))))))))))))), []⟩
def cf38 : CF := ⟨38, true, (.seq (.reg [
 ci oa02 (.mv (.k .nils))]) (.seq (.seq (.reg [
 ci oa03 (.mv xa00),
 ci oa04 (.eql .slice xa03 (.k .nils))]) (.cond xa04 (.seq (.reg [
 ci oa02 (.mv (.k .nils))]) .ret) .skip)) (.seq (.reg [
 ci oa05 (.bslice 46 9 0 [vz, vz, ve, (.bool false), vz, ve, vz, vz, ve] []),
 ci oa06 (.mv xa00),
 ci oa07 (.append 46 9 96 xa05 xa06),
 ci oa02 (.mv xa07)]) .ret))), [.tmp ta02]⟩
def cf39 : CF := ⟨39, true, (.seq (.reg [
 ci oa04 (.mv kf)]) (.seq (.reg [
 ci oa05 (.mv xa00),
 ci oa06 (.neq .ptr xa05 (.k .nilp)),
 ci oa07 (.mv xa06),
 cg oa08 ta07 true (.mv xa01),
 cg oa09 ta07 true (.geq xa08 (ki 0)),
 ci oa0a (.pick xa07 xa09 kf),
 ci oa0b (.mv xa0a),
 cg oa0c ta0b true (.mv xa01),
 cg oa0d ta0b true (.mv xa00),
 cg oa0e ta0b true (.nilc xa0d),
 cg oa0f ta0b true (.fa xa0e 0),
 cg oa10 ta0b true (.ld1 xa0f),
 cg oa11 ta0b true (.len 1 xa10),
 cg oa12 ta0b true (.lss xa0c xa11),
 ci oa13 (.pick xa0b xa12 kf),
 ci oa04 (.mv xa13)]) .ret)), [.tmp ta04]⟩
def cf40 : CF := ⟨40, true, (.seq (.reg [
 ci oa04 (.mv (ks 0 0))]) (.seq (.seq (.reg [
 ci oa05 (.mv xa00),
 ci oa06 (.mv xa01),
 ci oa07 (.call fn39 [xa05, xa06]),
 ci oa08 (.not xa07)]) (.cond xa08 (.seq (.reg [
 ci oa04 (.mv (ks 0 0))]) .ret) .skip)) (.seq (.reg [
 ci oa09 (.mv xa00),
 ci oa0a (.nilc xa09),
 ci oa0b (.fa xa0a 2),
 ci oa0c (.ld1 xa0b),
 ci oa0d (.mv xa01),
 ci oa0e (.ia 1 xa0c xa0d),
 ci oa0f (.ld1 xa0e),
 ci oa04 (.mv xa0f)]) .ret))), [.tmp ta04]⟩
def cf41 : CF := ⟨41, true, (.seq (.reg [
 ci oa05 (.box 44 6 xa02),
 ci oa06 (.alloc 39 [vz, ve, ve]),
 ci oa07 (.alloc 27 [vz, vz, vz])]) (.seq (.seq (.reg [
 ci oa08 (.mv xa00),
 ci oa09 (.call fn69 [xa08]),
 ci oa0a (.not xa09)]) (.cond xa0a (.seq (.reg [
 ci oa0b (.build [vz, ve, ve] []),
 ci oa0c (.build [vz, vz, vz] [(2, 1, (ki 1))]),
 ci none (.st 3 xa06 xa0b),
 ci none (.st 3 xa07 xa0c)]) .ret) .skip)) (.seq (.reg [
 ci oa0d (.mv xa00),
 ci oa0e (.mv xa01),
 ci oa0f (.ldn 6 xa05),
 ci oa10 (.call fn70 [xa0d, xa0e, xa0f]),
 ci oa11 (.ext xa10 0),
 ci oa12 (.ext xa10 1),
 ci none (.st 3 xa06 xa11),
 ci none (.st 3 xa07 xa12)]) .ret))), [.cell 3 true ta06, .cell 3 true ta07]⟩
def cf42 : CF := ⟨42, true, (.seq (.reg [
 ci oa03 (.box 44 6 xa01)]) (.seq (.reg [
 ci oa09 (.fa xa03 0),
 ci oa0a (.ld1 xa09)]) (.block 0 (.seq (.reg [
 ci oa0c (.eql (.cell (.int .i64)) xa0a (ki 11)),
 ci oa0b (.mv xa0c)]) (.cond xa0b (.seq (.reg [
 ci oa0d (.call fn71 []),
 ci oa04 (.alloc 81 [vz, ve, ve, (.bool false)]),
 ci none (.st 4 xa04 xa0d)]) (.seq (.seq (.reg [
 ci oa0e (.fa xa03 5),
 ci oa0f (.ld1 xa0e),
 ci oa10 (.ia 6 xa0f (ki 0)),
 ci oa11 (.fa xa10 0),
 ci oa12 (.ld1 xa11),
 ci oa13 (.neq (.cell (.int .i64)) xa12 (ki 0))]) (.cond xa13 (.reg [
 ci oa14 (.mv xa00),
 ci oa15 (.fa xa03 5),
 ci oa16 (.ld1 xa15),
 ci oa17 (.ia 6 xa16 (ki 0)),
 ci oa18 (.ldn 6 xa17),
 ci oa19 (.call fn72 [xa14, xa18]),
 ci none (.st 4 xa04 xa19)]) .skip)) (.seq (.seq (.reg [
 ci oa1a (.fa xa03 5),
 ci oa1b (.ld1 xa1a),
 ci oa1c (.ia 6 xa1b (ki 1)),
 ci oa1d (.fa xa1c 0),
 ci oa1e (.ld1 xa1d),
 ci oa1f (.neq (.cell (.int .i64)) xa1e (ki 0))]) (.cond xa1f (.seq (.dreg [
 ⟨0, ci oa20 (.mv xa00), .pur, 0⟩,
 ⟨1, ci oa21 (.fa xa03 5), .pur, 0⟩,
 ⟨2, ci oa22 (.ld1 xa21), .rd, 0⟩,
 ⟨3, ci oa23 (.ia 6 xa22 (ki 1)), .pur, 0⟩,
 ⟨4, ci oa24 (.ldn 6 xa23), .rd, 0⟩,
 ⟨5, ci oa25 (.ldn 4 xa04), .rd, 0⟩,
 ⟨6, ci oa26 (.call fn73 [xa20, xa24, xa25]), .ev, 0⟩,
 ⟨7, ci oa05 (.alloc 81 [vz, ve, ve, (.bool false)]), .late, 1⟩,
 ⟨8, ci none (.st 4 xa05 xa26), .ev, 2⟩]) (.seq (.reg [
 ci oa27 (.fa xa03 5),
 ci oa28 (.ld1 xa27),
 ci oa29 (.ia 6 xa28 (ki 0)),
 ci oa2a (.fa xa29 0),
 ci oa2b (.ld1 xa2a),
 ci oa2c (.eql (.cell (.int .i64)) xa2b (ki 0))]) (.cond xa2c (.reg [
 ci oa2d (.ldn 4 xa05),
 ci none (.st 4 xa04 xa2d)]) .skip))) .skip)) (.reg [
 ci oa2e (.mv xa00),
 ci oa2f (.ldn 6 xa03),
 ci oa30 (.ldn 4 xa04),
 ci oa31 (.call fn74 [xa2e, xa2f, xa30])])))) (.seq (.reg [
 ci oa33 (.eql (.cell (.int .i64)) xa0a (ki 12)),
 ci oa32 (.mv xa33)]) (.cond xa32 (.dreg [
 ⟨0, ci oa34 (.mv xa00), .pur, 0⟩,
 ⟨1, ci oa35 (.ldn 6 xa03), .rd, 1⟩,
 ⟨2, ci oa36 (.mv xa00), .pur, 0⟩,
 ⟨3, ci oa37 (.fa xa03 5), .pur, 0⟩,
 ⟨4, ci oa38 (.ld1 xa37), .rd, 0⟩,
 ⟨5, ci oa39 (.ia 6 xa38 (ki 0)), .pur, 0⟩,
 ⟨6, ci oa3a (.ldn 6 xa39), .rd, 0⟩,
 ⟨7, ci oa3b (.call fn75 [xa36, xa3a]), .ev, 0⟩,
 ⟨8, ci oa3c (.call fn74 [xa34, xa35, xa3b]), .ev, 1⟩]) (.seq (.reg [
 ci oa3e (.eql (.cell (.int .i64)) xa0a (ki 13)),
 ci oa3d (.mv xa3e)]) (.cond xa3d (.seq (.reg [
 ci oa3f (.mv xa00),
 ci oa40 (.fa xa03 5),
 ci oa41 (.ld1 xa40),
 ci oa42 (.ia 6 xa41 (ki 0)),
 ci oa43 (.ldn 6 xa42),
 ci oa44 (.call fn75 [xa3f, xa43]),
 ci oa06 (.alloc 81 [vz, ve, ve, (.bool false)]),
 ci none (.st 4 xa06 xa44)]) (.dreg [
 ⟨0, ci oa45 (.mv xa00), .pur, 0⟩,
 ⟨1, ci oa46 (.fa xa03 5), .pur, 0⟩,
 ⟨2, ci oa47 (.ld1 xa46), .rd, 0⟩,
 ⟨3, ci oa48 (.ia 6 xa47 (ki 1)), .pur, 0⟩,
 ⟨4, ci oa49 (.ldn 6 xa48), .rd, 0⟩,
 ⟨5, ci oa4a (.ldn 4 xa06), .rd, 0⟩,
 ⟨6, ci oa4b (.call fn73 [xa45, xa49, xa4a]), .ev, 0⟩])) (.seq (.reg [
 ci oa4d (.eql (.cell (.int .i64)) xa0a (ki 20)),
 ci oa4c (.mv xa4d)]) (.cond xa4c (.reg [
 ci oa4e (.mv xa00),
 ci oa4f (.fa xa03 5),
 ci oa50 (.ld1 xa4f),
 ci oa51 (.ia 6 xa50 (ki 0)),
 ci oa52 (.ldn 6 xa51),
 ci oa53 (.call fn76 [xa4e, xa52])]) (.seq (.reg [
 ci oa55 (.eql (.cell (.int .i64)) xa0a (ki 19)),
 ci oa54 (.mv xa55)]) (.cond xa54 (.reg [
 ci oa56 (.mv xa00),
 ci oa57 (.ldn 6 xa03),
 ci oa58 (.call fn77 [xa56, xa57])]) (.seq (.reg [
 ci oa5a (.eql (.cell (.int .i64)) xa0a (ki 14)),
 ci oa59 (.mv xa5a)]) (.cond xa59 (.seq (.dreg [
 ⟨0, ci oa5b (.mv xa00), .pur, 0⟩,
 ⟨1, ci oa5c (.fa xa03 5), .pur, 0⟩,
 ⟨2, ci oa5d (.ld1 xa5c), .rd, 1⟩,
 ⟨3, ci oa5e (.ia 6 xa5d (ki 0)), .pur, 0⟩,
 ⟨4, ci oa5f (.ldn 6 xa5e), .rd, 1⟩,
 ⟨5, ci oa60 (.call fn78 [(ki 2)]), .ev, 0⟩,
 ⟨6, ci oa61 (.call fn73 [xa5b, xa5f, xa60]), .ev, 1⟩]) (.seq (.reg [
 ci oa62 (.mv xa00),
 ci oa63 (.fa xa03 5),
 ci oa64 (.ld1 xa63),
 ci oa65 (.ia 6 xa64 (ki 1)),
 ci oa66 (.ldn 6 xa65),
 ci oa67 (.call fn42 [xa62, xa66])]) (.reg [
 ci oa68 (.mv xa00),
 ci oa69 (.fa xa03 5),
 ci oa6a (.ld1 xa69),
 ci oa6b (.ia 6 xa6a (ki 2)),
 ci oa6c (.ldn 6 xa6b),
 ci oa6d (.call fn42 [xa68, xa6c])]))) (.seq (.reg [
 ci oa6f (.eql (.cell (.int .i64)) xa0a (ki 15)),
 ci oa6e (.mv xa6f)]) (.cond xa6e (.seq (.reg [
 ci oa70 (.mv xa00),
 ci oa71 (.fa xa03 5),
 ci oa72 (.ld1 xa71),
 ci oa73 (.ia 6 xa72 (ki 0)),
 ci oa74 (.ldn 6 xa73),
 ci oa75 (.call fn42 [xa70, xa74])]) (.seq (.seq (.reg [
 ci oa76 (.fa xa03 5),
 ci oa77 (.ld1 xa76),
 ci oa78 (.ia 6 xa77 (ki 1)),
 ci oa79 (.fa xa78 0),
 ci oa7a (.ld1 xa79),
 ci oa7b (.neq (.cell (.int .i64)) xa7a (ki 0))]) (.cond xa7b (.dreg [
 ⟨0, ci oa7c (.mv xa00), .pur, 0⟩,
 ⟨1, ci oa7d (.fa xa03 5), .pur, 0⟩,
 ⟨2, ci oa7e (.ld1 xa7d), .rd, 1⟩,
 ⟨3, ci oa7f (.ia 6 xa7e (ki 1)), .pur, 0⟩,
 ⟨4, ci oa80 (.ldn 6 xa7f), .rd, 1⟩,
 ⟨5, ci oa81 (.call fn78 [(ki 2)]), .ev, 0⟩,
 ⟨6, ci oa82 (.call fn73 [xa7c, xa80, xa81]), .ev, 1⟩]) .skip)) (.seq (.reg [
 ci oa83 (.mv xa00),
 ci oa84 (.fa xa03 5),
 ci oa85 (.ld1 xa84),
 ci oa86 (.ia 6 xa85 (ki 2)),
 ci oa87 (.ldn 6 xa86),
 ci oa88 (.call fn42 [xa83, xa87])]) (.seq (.reg [
 ci oa89 (.mv xa00),
 ci oa8a (.nilc xa89),
 ci oa8b (.fa xa8a 12),
 ci oa8c (.ld1 xa8b),
 ci oa8d (.add xa8c (ki 1)),
 ci oa8e (.nilc xa89),
 ci oa8f (.fa xa8e 12),
 ci none (.st 1 xa8f xa8d)]) (.seq (.reg [
 ci oa90 (.mv xa00),
 ci oa91 (.fa xa03 5),
 ci oa92 (.ld1 xa91),
 ci oa93 (.ia 6 xa92 (ki 3)),
 ci oa94 (.ldn 6 xa93),
 ci oa95 (.call fn42 [xa90, xa94])]) (.reg [
 ci oa96 (.mv xa00),
 ci oa97 (.nilc xa96),
 ci oa98 (.fa xa97 12),
 ci oa99 (.ld1 xa98),
 ci oa9a (.sub xa99 (ki 1)),
 ci oa9b (.nilc xa96),
 ci oa9c (.fa xa9b 12),
 ci none (.st 1 xa9c xa9a)])))))) (.seq (.seq (.reg [
 ci oa9e (.eql (.cell (.int .i64)) xa0a (ki 17)),
 ci oa9d (.mv xa9e)]) (.cond xa9d .skip (.reg [
 ci oa9f (.eql (.cell (.int .i64)) xa0a (ki 18)),
 ci oa9d (.mv xa9f)]))) (.cond xa9d (.seq (.dreg [
 ⟨0, ci oaa0 (.fa xa03 4), .pur, 0⟩,
 ⟨1, ci oaa1 (.ld1 xaa0), .rd, 32⟩,
 ⟨2, ci oaa2 (.eql (.cell .str) xaa1 (ks 0 0)), .pur, 0⟩,
 ⟨3, ci oaa3 (.mv xaa2), .pur, 0⟩,
 ⟨4, cg oaa4 taa3 true (.mv xa00), .pur, 0⟩,
 ⟨5, cg oaa5 taa3 true (.nilc xaa4), .pur, 0⟩,
 ⟨6, cg oaa6 taa3 true (.fa xaa5 12), .pur, 0⟩,
 ⟨7, cg oaa7 taa3 true (.ld1 xaa6), .rd, 32⟩,
 ⟨8, cg oaa8 taa3 true (.eql (.cell (.int .i64)) xaa7 (ki 0)), .pur, 0⟩,
 ⟨9, ci oaa9 (.pick xaa3 xaa8 kf), .pur, 0⟩,
 ⟨10, ci oaaa (.mv xaa9), .pur, 0⟩,
 ⟨11, cg oaab taaa false (.fa xa03 4), .pur, 0⟩,
 ⟨12, cg oaac taaa false (.ld1 xaab), .rd, 32⟩,
 ⟨13, cg oaad taaa false (.neq (.cell .str) xaac (ks 0 0)), .pur, 0⟩,
 ⟨14, cg oaae taaa false (.mv xaad), .pur, 0⟩,
 ⟨15, cg oaaf taae true (.mv xa00), .pur, 0⟩,
 ⟨16, cg oab0 taae true (.nilc xaaf), .pur, 0⟩,
 ⟨17, cg oab1 taae true (.fa xab0 2), .pur, 0⟩,
 ⟨18, cg oab2 taae true (.ld1 xab1), .rd, 32⟩,
 ⟨19, cg oab3 taae true (.mv xa00), .pur, 0⟩,
 ⟨20, cg oab4 taae true (.nilc xab3), .pur, 0⟩,
 ⟨21, cg oab5 taae true (.fa xab4 8), .pur, 0⟩,
 ⟨22, cg oab6 taae true (.ld1 xab5), .rd, 32⟩,
 ⟨23, cg oab7 taae true (.fa xa03 3), .pur, 0⟩,
 ⟨24, cg oab8 taae true (.ld1 xab7), .rd, 32⟩,
 ⟨25, cg oab9 taae true (.build [vz, vz] [(0, 1, xab6), (1, 1, xab8)]), .pur, 0⟩,
 ⟨26, cg oaba taae true (.lkp (.strct [(.int .i64), (.int .i64)]) (.agg [vz, vz, ve, (.bool false), vz, ve, vz, vz, ve]) xab2 xab9 false), .rd, 32⟩,
 ⟨27, cg oabb taae true (.fld xaba 3 1 false), .pur, 0⟩,
 ⟨28, cg oabc taae true (.not xabb), .pur, 0⟩,
 ⟨29, cg oabd taaa false (.pick xaae xabc kf), .pur, 0⟩,
 ⟨30, ci oabe (.pick xaaa kt xabd), .pur, 0⟩]) (.cond xabe (.reg [
 ci oabf (.mv xa00),
 ci oac0 (.fa xa03 3),
 ci oac1 (.ld1 xac0),
 ci oac2 (.call fn44 [xabf, xac1, (ki 15)])]) .skip)) (.seq (.seq (.reg [
 ci oac4 (.eql (.cell (.int .i64)) xa0a (ki 10)),
 ci oac3 (.mv xac4)]) (.cond xac3 .skip (.reg [
 ci oac5 (.eql (.cell (.int .i64)) xa0a (ki 16)),
 ci oac3 (.mv xac5)]))) (.cond xac3 (.seq (.reg [
 ci oac6 (.fa xa03 5),
 ci oac7 (.ld1 xac6),
 ci oac8 (.len 1 xac7),
 ci oac9 (.mv (ki 0))]) (.block 1 (.loop (.seq (.reg [
 ci oaca (.lss xac9 xac8)]) (.seq (.cond xaca .skip (.exit 1)) (.seq (.block 2 (.seq (.reg [
 ci oacb (.ia 6 xac7 xac9),
 ci oacc (.ldn 6 xacb),
 ci oa08 (.alloc 44 [vz, vz, vz, vz, ve, .nils]),
 ci none (.st 6 xa08 xacc)]) (.reg [
 ci oacd (.mv xa00),
 ci oace (.ldn 6 xa08),
 ci oacf (.call fn42 [xacd, xace])]))) (.reg [
 ci oad0 (.add xac9 (ki 1)),
 ci oac9 (.mv xad0)]))))))) .skip))))))))))))))))))))), []⟩
def cf43 : CF := ⟨43, true, (.seq (.reg [
 ci oa02 (.box 44 6 xa00),
 ci oa04 (.mv kf)]) (.seq (.seq (.reg [
 ci oa05 (.fa xa02 0),
 ci oa06 (.ld1 xa05)]) (.block 0 (.seq (.reg [
 ci oa08 (.eql (.cell (.int .i64)) xa06 (ki 19)),
 ci oa07 (.mv xa08)]) (.cond xa07 (.seq (.reg [
 ci oa04 (.mv kt)]) .ret) (.seq (.reg [
 ci oa0a (.eql (.cell (.int .i64)) xa06 (ki 20)),
 ci oa09 (.mv xa0a)]) (.cond xa09 (.seq (.reg [
 ci oa0b (.fa xa02 5),
 ci oa0c (.ld1 xa0b),
 ci oa0d (.ia 6 xa0c (ki 0)),
 ci oa0e (.fa xa0d 0),
 ci oa0f (.ld1 xa0e),
 ci oa10 (.eql (.cell (.int .i64)) xa0f (ki 32)),
 ci oa11 (.mv xa10),
 cg oa12 ta11 true (.fa xa02 5),
 cg oa13 ta11 true (.ld1 xa12),
 cg oa14 ta11 true (.ia 6 xa13 (ki 0)),
 cg oa15 ta11 true (.fa xa14 4),
 cg oa16 ta11 true (.ld1 xa15),
 cg oa17 ta11 true (.eql (.cell .str) xa16 (ks 5 426970603888)),
 ci oa18 (.pick xa11 xa17 kf),
 ci oa04 (.mv xa18)]) .ret) (.seq (.reg [
 ci oa1a (.eql (.cell (.int .i64)) xa06 (ki 10)),
 ci oa19 (.mv xa1a)]) (.cond xa19 (.seq (.reg [
 ci oa1b (.fa xa02 5),
 ci oa1c (.ld1 xa1b),
 ci oa1d (.len 1 xa1c),
 ci oa1e (.gtr xa1d (ki 0)),
 ci oa1f (.mv xa1e),
 cg oa20 ta1f true (.fa xa02 5),
 cg oa21 ta1f true (.ld1 xa20),
 cg oa22 ta1f true (.fa xa02 5),
 cg oa23 ta1f true (.ld1 xa22),
 cg oa24 ta1f true (.len 1 xa23),
 cg oa25 ta1f true (.sub xa24 (ki 1)),
 cg oa26 ta1f true (.ia 6 xa21 xa25),
 cg oa27 ta1f true (.ldn 6 xa26),
 cg oa28 ta1f true (.call fn43 [xa27, (ks 0 0)]),
 ci oa29 (.pick xa1f xa28 kf),
 ci oa04 (.mv xa29)]) .ret) (.seq (.reg [
 ci oa2b (.eql (.cell (.int .i64)) xa06 (ki 14)),
 ci oa2a (.mv xa2b)]) (.cond xa2a (.seq (.reg [
 ci oa2c (.fa xa02 5),
 ci oa2d (.ld1 xa2c),
 ci oa2e (.ia 6 xa2d (ki 1)),
 ci oa2f (.ldn 6 xa2e),
 ci oa30 (.call fn43 [xa2f, (ks 0 0)]),
 ci oa31 (.mv xa30),
 cg oa32 ta31 true (.fa xa02 5),
 cg oa33 ta31 true (.ld1 xa32),
 cg oa34 ta31 true (.ia 6 xa33 (ki 2)),
 cg oa35 ta31 true (.ldn 6 xa34),
 cg oa36 ta31 true (.call fn43 [xa35, (ks 0 0)]),
 ci oa37 (.pick xa31 xa36 kf),
 ci oa04 (.mv xa37)]) .ret) (.seq (.reg [
 ci oa39 (.eql (.cell (.int .i64)) xa06 (ki 15)),
 ci oa38 (.mv xa39)]) (.cond xa38 (.seq (.reg [
 ci oa3a (.fa xa02 5),
 ci oa3b (.ld1 xa3a),
 ci oa3c (.ia 6 xa3b (ki 1)),
 ci oa3d (.fa xa3c 0),
 ci oa3e (.ld1 xa3d),
 ci oa3f (.eql (.cell (.int .i64)) xa3e (ki 0)),
 ci oa40 (.mv xa3f),
 cg oa41 ta40 true (.fa xa02 5),
 cg oa42 ta40 true (.ld1 xa41),
 cg oa43 ta40 true (.ia 6 xa42 (ki 3)),
 cg oa44 ta40 true (.ldn 6 xa43),
 cg oa45 ta40 true (.mv xa01),
 cg oa46 ta40 true (.call fn79 [xa44, xa45, kf]),
 cg oa47 ta40 true (.not xa46),
 ci oa48 (.pick xa40 xa47 kf),
 ci oa04 (.mv xa48)]) .ret) (.seq (.reg [
 ci oa4a (.eql (.cell (.int .i64)) xa06 (ki 16)),
 ci oa49 (.mv xa4a)]) (.cond xa49 (.seq (.dreg [
 ⟨0, ci oa4b (.fa xa02 5), .pur, 0⟩,
 ⟨1, ci oa4c (.ld1 xa4b), .rd, 0⟩,
 ⟨2, ci oa4d (.ia 6 xa4c (ki 0)), .pur, 0⟩,
 ⟨3, ci oa4e (.ldn 6 xa4d), .rd, 0⟩,
 ⟨4, ci oa4f (.fa xa02 4), .pur, 0⟩,
 ⟨5, ci oa50 (.ld1 xa4f), .rd, 0⟩,
 ⟨6, ci oa51 (.call fn43 [xa4e, xa50]), .ev, 0⟩,
 ⟨7, ci oa04 (.mv xa51), .pur, 0⟩]) .ret) .skip)))))))))))))) (.seq (.reg [
 ci oa04 (.mv kf)]) .ret))), [.tmp ta04]⟩
def cf44 : CF := ⟨44, true, (.dreg [
 ⟨0, ci oa06 (.mv xa00), .pur, 0⟩,
 ⟨1, ci oa07 (.nilc xa06), .pur, 0⟩,
 ⟨2, ci oa08 (.fa xa07 7), .pur, 0⟩,
 ⟨3, ci oa09 (.ld1 xa08), .rd, 0⟩,
 ⟨4, ci oa0a (.mv xa00), .pur, 0⟩,
 ⟨5, ci oa0b (.nilc xa0a), .pur, 0⟩,
 ⟨6, ci oa0c (.fa xa0b 8), .pur, 0⟩,
 ⟨7, ci oa0d (.ld1 xa0c), .rd, 0⟩,
 ⟨8, ci oa0e (.mv xa01), .pur, 0⟩,
 ⟨9, ci oa0f (.mv xa02), .pur, 0⟩,
 ⟨10, ci oa10 (.build [vz, vz, vz] [(0, 1, xa0d), (1, 1, xa0e), (2, 1, xa0f)]), .pur, 0⟩,
 ⟨11, ci oa11 (.nilc xa09), .pur, 0⟩,
 ⟨12, ci oa12 (.mv xa09), .pur, 0⟩,
 ⟨13, ci oa13 (.inv [(25, fn44), (62, fn342)] xa12 [xa10]), .ev, 0⟩]), []⟩
def cf45 : CF := ⟨45, true, (.seq (.reg [
 ci oa0a (.mv kt)]) (.seq (.reg [
 ci oa0b (.mv kt)]) (.block 0 (.loop (.block 1 (.seq (.reg [
 ci oa15 (.mv xa02),
 ci oa16 (.mv xa01),
 ci oa17 (.sub xa15 xa16),
 ci oa0c (.mv xa17)]) (.seq (.seq (.reg [
 ci oa18 (.mv xa0c),
 ci oa19 (.leq xa18 (ki 12))]) (.cond xa19 (.seq (.reg [
 ci oa1a (.mv xa00),
 ci oa1b (.mv xa01),
 ci oa1c (.mv xa02),
 ci oa1d (.mv xa04),
 ci oa1e (.call fn80 [xa1a, xa1b, xa1c, xa1d])]) .ret) .skip)) (.seq (.seq (.reg [
 ci oa1f (.mv xa03),
 ci oa20 (.eql (.cell (.int .i64)) xa1f (ki 0))]) (.cond xa20 (.seq (.reg [
 ci oa21 (.mv xa00),
 ci oa22 (.mv xa01),
 ci oa23 (.mv xa02),
 ci oa24 (.mv xa04),
 ci oa25 (.call fn81 [xa21, xa22, xa23, xa24])]) .ret) .skip)) (.seq (.seq (.reg [
 ci oa26 (.mv xa0a),
 ci oa27 (.not xa26)]) (.cond xa27 (.seq (.reg [
 ci oa28 (.mv xa00),
 ci oa29 (.mv xa01),
 ci oa2a (.mv xa02),
 ci oa2b (.mv xa04),
 ci oa2c (.call fn82 [xa28, xa29, xa2a, xa2b])]) (.reg [
 ci oa2d (.mv xa03),
 ci oa2e (.sub xa2d (ki 1)),
 ci oa03 (.mv xa2e)])) .skip)) (.seq (.reg [
 ci oa30 (.mv xa00),
 ci oa31 (.mv xa01),
 ci oa32 (.mv xa02),
 ci oa33 (.mv xa04),
 ci oa34 (.call fn83 [xa30, xa31, xa32, xa33]),
 ci oa2f (.mv xa34),
 ci oa35 (.ext xa2f 0),
 ci oa36 (.ext xa2f 1),
 ci oa0d (.mv xa35),
 ci oa0e (.mv xa36)]) (.seq (.seq (.reg [
 ci oa37 (.mv xa0e),
 ci oa38 (.eql (.cell (.int .i64)) xa37 (ki 2))]) (.cond xa38 (.seq (.reg [
 ci oa39 (.mv xa00),
 ci oa3a (.mv xa01),
 ci oa3b (.mv xa02),
 ci oa3c (.mv xa04),
 ci oa3d (.call fn84 [xa39, xa3a, xa3b, xa3c])]) (.seq (.reg [
 ci oa3e (.mv xa02),
 ci oa3f (.sub xa3e (ki 1)),
 ci oa40 (.mv xa0d),
 ci oa41 (.mv xa01),
 ci oa42 (.sub xa40 xa41),
 ci oa43 (.sub xa3f xa42),
 ci oa0d (.mv xa43)]) (.reg [
 ci oa0e (.mv (ki 1))]))) .skip)) (.seq (.seq (.reg [
 ci oa44 (.mv xa0a),
 ci oa45 (.mv xa44),
 cg oa46 ta45 true (.mv xa0b),
 ci oa47 (.pick xa45 xa46 kf),
 ci oa48 (.mv xa47),
 cg oa49 ta48 true (.mv xa0e),
 cg oa4a ta48 true (.eql (.cell (.int .i64)) xa49 (ki 1)),
 ci oa4b (.pick xa48 xa4a kf)]) (.cond xa4b (.seq (.reg [
 ci oa4c (.mv xa00),
 ci oa4d (.mv xa01),
 ci oa4e (.mv xa02),
 ci oa4f (.mv xa04),
 ci oa50 (.call fn85 [xa4c, xa4d, xa4e, xa4f])]) (.cond xa50 .ret .skip)) .skip)) (.seq (.seq (.dreg [
 ⟨0, ci oa51 (.mv xa01), .pur, 0⟩,
 ⟨1, ci oa52 (.gtr xa51 (ki 0)), .pur, 0⟩,
 ⟨2, ci oa53 (.mv xa52), .pur, 0⟩,
 ⟨3, cg oa54 ta53 true (.mv xa04), .pur, 0⟩,
 ⟨4, cg oa55 ta53 true (.mv xa00), .pur, 0⟩,
 ⟨5, cg oa56 ta53 true (.mv xa01), .pur, 0⟩,
 ⟨6, cg oa57 ta53 true (.sub xa56 (ki 1)), .pur, 0⟩,
 ⟨7, cg oa58 ta53 true (.ia 9 xa55 xa57), .pur, 0⟩,
 ⟨8, cg oa59 ta53 true (.ldn 9 xa58), .rd, 0⟩,
 ⟨9, cg oa5a ta53 true (.mv xa00), .pur, 0⟩,
 ⟨10, cg oa5b ta53 true (.mv xa0d), .pur, 0⟩,
 ⟨11, cg oa5c ta53 true (.ia 9 xa5a xa5b), .pur, 0⟩,
 ⟨12, cg oa5d ta53 true (.ldn 9 xa5c), .rd, 0⟩,
 ⟨13, cg oa5e ta53 true (.callv xa54 [xa59, xa5d]), .ev, 0⟩,
 ⟨14, cg oa5f ta53 true (.lss xa5e (ki 0)), .pur, 0⟩,
 ⟨15, cg oa60 ta53 true (.not xa5f), .pur, 0⟩,
 ⟨16, ci oa61 (.pick xa53 xa60 kf), .pur, 0⟩]) (.cond xa61 (.seq (.reg [
 ci oa62 (.mv xa00),
 ci oa63 (.mv xa01),
 ci oa64 (.mv xa02),
 ci oa65 (.mv xa0d),
 ci oa66 (.mv xa04),
 ci oa67 (.call fn86 [xa62, xa63, xa64, xa65, xa66]),
 ci oa0f (.mv xa67)]) (.seq (.reg [
 ci oa68 (.mv xa0f),
 ci oa01 (.mv xa68)]) (.exit 1))) .skip)) (.seq (.reg [
 ci oa6a (.mv xa00),
 ci oa6b (.mv xa01),
 ci oa6c (.mv xa02),
 ci oa6d (.mv xa0d),
 ci oa6e (.mv xa04),
 ci oa6f (.call fn87 [xa6a, xa6b, xa6c, xa6d, xa6e]),
 ci oa69 (.mv xa6f),
 ci oa70 (.ext xa69 0),
 ci oa71 (.ext xa69 1),
 ci oa10 (.mv xa70),
 ci oa11 (.mv xa71)]) (.seq (.reg [
 ci oa72 (.mv xa11),
 ci oa0b (.mv xa72)]) (.seq (.reg [
 ci oa73 (.mv xa10),
 ci oa74 (.mv xa01),
 ci oa75 (.sub xa73 xa74),
 ci oa76 (.mv xa02),
 ci oa77 (.mv xa10),
 ci oa78 (.sub xa76 xa77),
 ci oa12 (.mv xa75),
 ci oa13 (.mv xa78)]) (.seq (.reg [
 ci oa79 (.mv xa0c),
 ci oa7a (.quo xa79 (ki 8)),
 ci oa14 (.mv xa7a)]) (.seq (.reg [
 ci oa7b (.mv xa12),
 ci oa7c (.mv xa13),
 ci oa7d (.lss xa7b xa7c)]) (.cond xa7d (.seq (.reg [
 ci oa7e (.mv xa12),
 ci oa7f (.mv xa14),
 ci oa80 (.geq xa7e xa7f),
 ci oa0a (.mv xa80)]) (.seq (.reg [
 ci oa81 (.mv xa00),
 ci oa82 (.mv xa01),
 ci oa83 (.mv xa10),
 ci oa84 (.mv xa03),
 ci oa85 (.mv xa04),
 ci oa86 (.call fn45 [xa81, xa82, xa83, xa84, xa85])]) (.reg [
 ci oa87 (.mv xa10),
 ci oa88 (.add xa87 (ki 1)),
 ci oa01 (.mv xa88)]))) (.seq (.reg [
 ci oa89 (.mv xa13),
 ci oa8a (.mv xa14),
 ci oa8b (.geq xa89 xa8a),
 ci oa0a (.mv xa8b)]) (.seq (.reg [
 ci oa8c (.mv xa00),
 ci oa8d (.mv xa10),
 ci oa8e (.add xa8d (ki 1)),
 ci oa8f (.mv xa02),
 ci oa90 (.mv xa03),
 ci oa91 (.mv xa04),
 ci oa92 (.call fn45 [xa8c, xa8e, xa8f, xa90, xa91])]) (.reg [
 ci oa93 (.mv xa10),
 ci oa02 (.mv xa93)])))))))))))))))))))))), []⟩
def cf46 : CF := ⟨46, true, (.seq (.reg [
 ci oa02 (.mv (ki 0))]) (.seq (.cond kf (.seq (.reg [
 ci oa03 (.mv xa00),
 ci oa04 (.cint .u32 xa03),
 ci oa05 (.call fn88 [xa04]),
 ci oa02 (.mv xa05)]) .ret) .skip) (.seq (.reg [
 ci oa06 (.mv xa00),
 ci oa07 (.call fn89 [xa06]),
 ci oa02 (.mv xa07)]) .ret))), [.tmp ta02]⟩
def cf47 : CF := ⟨47, true, (.seq (.reg [
 ci oa02 (.mv kf)]) (.seq (.reg [
 ci oa03 (.mv xa00),
 ci oa04 (.mv xa00),
 ci oa05 (.neq (.cell (.int .i64)) xa03 xa04),
 ci oa02 (.mv xa05)]) .ret)), [.tmp ta02]⟩
def cf48 : CF := ⟨48, true, (.seq (.reg [
 ci oa04 (.mv (ks 0 0)),
 ci oa05 (.mv kf)]) (.seq (.reg [
 ci oa06 (.mv xa00),
 ci oa07 (.mv xa01),
 ci oa08 (.call fn90 [xa06, xa07]),
 ci oa09 (.ext xa08 0),
 ci oa0a (.ext xa08 1),
 ci oa04 (.mv xa09),
 ci oa05 (.mv xa0a)]) .ret)), [.tmp ta04, .tmp ta05]⟩
def cf49 : CF := ⟨49, true, (.seq (.reg [
 ci oa04 (.mv (ks 0 0)),
 ci oa05 (.mv (ks 0 0)),
 ci oa06 (.mv kf)]) (.seq (.reg [
 ci oa07 (.mv xa00),
 ci oa08 (.mv xa01),
 ci oa09 (.call fn91 [xa07, xa08]),
 ci oa0a (.ext xa09 0),
 ci oa0b (.ext xa09 1),
 ci oa0c (.ext xa09 2),
 ci oa04 (.mv xa0a),
 ci oa05 (.mv xa0b),
 ci oa06 (.mv xa0c)]) .ret)), [.tmp ta04, .tmp ta05, .tmp ta06]⟩
def cf50 : CF := ⟨50, true, (.seq (.reg [
 ci oa04 (.mv (ks 0 0)),
 ci oa05 (.mv kf)]) (.seq (.reg [
 ci oa06 (.mv xa00),
 ci oa07 (.mv xa01),
 ci oa08 (.call fn92 [xa06, xa07]),
 ci oa09 (.ext xa08 0),
 ci oa0a (.ext xa08 1),
 ci oa04 (.mv xa09),
 ci oa05 (.mv xa0a)]) .ret)), [.tmp ta04, .tmp ta05]⟩
def cf51 : CF := ⟨51, true, (.seq (.reg [
 ci oa02 (.mv kf)]) (.seq (.seq (.reg [
 ci oa04 (.mv xa00),
 ci oa05 (.eql (.cell .str) xa04 (ks 0 0)),
 ci oa06 (.mv xa05),
 cg oa07 ta06 false (.mv xa00),
 cg oa08 ta06 false (.eql (.cell .str) xa07 (ks 1 95)),
 ci oa09 (.pick xa06 kt xa08),
 ci oa0a (.mv xa09),
 cg oa0b ta0a false (.mv xa00),
 cg oa0c ta0a false (.len 0 xa0b),
 cg oa0d ta0a false (.gtr xa0c (ki 40)),
 ci oa0e (.pick xa0a kt xa0d)]) (.cond xa0e (.seq (.reg [
 ci oa02 (.mv kf)]) .ret) .skip)) (.seq (.seq (.reg [
 ci oa0f (.mv xa00),
 ci oa10 (.len 0 xa0f),
 ci oa11 (.mv (ki 0))]) (.block 0 (.loop (.seq (.reg [
 ci oa12 (.lss xa11 xa10)]) (.seq (.cond xa12 .skip (.exit 0)) (.seq (.block 1 (.seq (.reg [
 ci oa13 (.mv xa11),
 ci oa03 (.mv xa13)]) (.seq (.reg [
 ci oa14 (.mv xa00),
 ci oa15 (.mv xa03),
 ci oa16 (.ixs xa14 xa15),
 ci oa17 (.call fn93 [xa16]),
 ci oa18 (.not xa17),
 ci oa19 (.mv xa18),
 cg oa1a ta19 true (.mv xa03),
 cg oa1b ta19 true (.eql (.cell (.int .i64)) xa1a (ki 0)),
 cg oa1c ta19 true (.mv xa1b),
 cg oa1d ta1c false (.mv xa00),
 cg oa1e ta1c false (.mv xa03),
 cg oa1f ta1c false (.ixs xa1d xa1e),
 cg oa20 ta1c false (.lss xa1f (.k (.u8 48))),
 cg oa21 ta19 true (.pick xa1c kt xa20),
 cg oa22 ta19 true (.mv xa21),
 cg oa23 ta22 false (.mv xa00),
 cg oa24 ta22 false (.mv xa03),
 cg oa25 ta22 false (.ixs xa23 xa24),
 cg oa26 ta22 false (.gtr xa25 (.k (.u8 57))),
 cg oa27 ta19 true (.pick xa22 kt xa26),
 ci oa28 (.pick xa19 xa27 kf)]) (.cond xa28 (.seq (.reg [
 ci oa02 (.mv kf)]) .ret) .skip)))) (.reg [
 ci oa29 (.add xa11 (ki 1)),
 ci oa11 (.mv xa29)]))))))) (.seq (.reg [
 ci oa02 (.mv kt)]) .ret)))), [.tmp ta02]⟩
def cf52 : CF := ⟨52, true, (.seq (.reg [
 ci oa02 (.mv kf)]) (.seq (.reg [
 ci oa03 (.call fn94 [(ks 120 4354202825406757800331846196159180536089666751395040826788209806809669751207525639169844572067787981925146356781969649690634480027757858630457764300666582144565546158052496913337934365839292441259195558353020762567580199780031574836563569491496608584167036132724229084513840819351451561826)]),
 ci oa04 (.mv xa00),
 ci oa05 (.call fn59 [xa03, xa04]),
 ci oa02 (.mv xa05)]) .ret)), [.tmp ta02]⟩
def cf53 : CF := ⟨53, true, (.seq (.reg [
 ci oa04 (.mv (ki 0))]) (.seq (.reg [
 ci oa05 (.mv xa00),
 ci oa06 (.mv xa01),
 ci oa07 (.extc .cmpStr [xa05, xa06]),
 ci oa04 (.mv xa07)]) .ret)), [.tmp ta04]⟩
def cf54 : CF := ⟨54, true, (.seq (.reg [
 ci oa02 (.alloc 127 [.nils]),
 ci oa03 (.mv (ki 0)),
 ci oa04 (.mv (ki 0))]) (.seq (.seq (.reg [
 ci oa0f (.mv xa00),
 ci oa10 (.len 0 xa0f),
 ci oa11 (.gtr xa10 (ki 65536))]) (.cond xa11 (.seq (.reg [
 ci none (.st 1 xa02 (.k .nils)),
 ci oa03 (.mv (ki 65536)),
 ci oa04 (.mv (ki 3))]) .ret) .skip)) (.seq (.seq (.reg [
 ci oa12 (.mv xa00),
 ci oa13 (.call fn96 [xa12]),
 ci oa05 (.mv xa13)]) (.seq (.reg [
 ci oa14 (.mv xa05),
 ci oa15 (.geq xa14 (ki 0))]) (.cond xa15 (.seq (.reg [
 ci oa16 (.mv xa05),
 ci none (.st 1 xa02 (.k .nils)),
 ci oa03 (.mv xa16),
 ci oa04 (.mv (ki 8))]) .ret) .skip))) (.seq (.reg [
 ci oa06 (.alloc 134 [vz, ve, vz, vz])]) (.seq (.reg [
 ci oa17 (.mkf fn97 [] [xa06, xa02]),
 ci oa07 (.mv xa17)]) (.seq (.seq (.reg [
 ci oa08 (.mv (ki 0))]) (.block 0 (.loop (.seq (.seq (.reg [
 ci oa18 (.mv xa08),
 ci oa19 (.mv xa00),
 ci oa1a (.len 0 xa19),
 ci oa1b (.lss xa18 xa1a)]) (.cond xa1b .skip (.exit 0))) (.block 1 (.seq (.reg [
 ci oa1c (.mv xa00),
 ci oa1d (.mv xa08),
 ci oa1e (.slStr xa1c (some xa1d) none),
 ci oa09 (.mv xa1e)]) (.block 2 (.seq (.reg [
 ci oa37 (.mv xa09),
 ci oa38 (.ixs xa37 (ki 0)),
 ci oa39 (.call fn99 [(ks 3 854304), xa38]),
 ci oa3a (.geq xa39 (ki 0)),
 ci oa36 (.mv xa3a)]) (.cond xa36 (.reg [
 ci oa3b (.mv xa08),
 ci oa3c (.add xa3b (ki 1)),
 ci oa08 (.mv xa3c)]) (.seq (.reg [
 ci oa3e (.mv xa09),
 ci oa3f (.ixs xa3e (ki 0)),
 ci oa40 (.eql (.cell (.int .u8)) xa3f (.k (.u8 10))),
 ci oa3d (.mv xa40)]) (.cond xa3d (.seq (.reg [
 ci oa41 (.mv xa07),
 ci oa42 (.callv xa41 [])]) (.reg [
 ci oa43 (.mv xa08),
 ci oa44 (.add xa43 (ki 1)),
 ci oa08 (.mv xa44)])) (.seq (.reg [
 ci oa46 (.mv xa09),
 ci oa47 (.call fn100 [xa46, (ks 2 12079)]),
 ci oa45 (.mv xa47)]) (.cond xa45 (.seq (.reg [
 ci oa49 (.mv xa09),
 ci oa4a (.call fn49 [xa49, (ks 1 10)]),
 ci oa48 (.mv xa4a),
 ci oa4b (.ext xa48 0),
 ci oa4c (.ext xa48 1),
 ci oa4d (.ext xa48 2),
 ci oa0a (.mv xa4b),
 ci oa0b (.mv xa4c),
 ci oa0c (.mv xa4d)]) (.reg [
 ci oa4e (.mv xa08),
 ci oa4f (.mv xa0a),
 ci oa50 (.len 0 xa4f),
 ci oa51 (.add xa4e xa50),
 ci oa08 (.mv xa51)])) (.seq (.reg [
 ci oa20 (.mv xa09),
 ci oa21 (.call fn101 [xa20]),
 ci oa1f (.mv xa21),
 ci oa22 (.ext xa1f 0),
 ci oa23 (.ext xa1f 1),
 ci oa0d (.alloc 134 [vz, ve, vz, vz]),
 ci none (.st 4 xa0d xa22),
 ci oa0e (.mv xa23)]) (.seq (.seq (.reg [
 ci oa24 (.mv xa0e),
 ci oa25 (.neq (.cell (.int .i64)) xa24 (ki 0))]) (.cond xa25 (.seq (.reg [
 ci oa26 (.mv xa08),
 ci oa27 (.mv xa0e),
 ci none (.st 1 xa02 (.k .nils)),
 ci oa03 (.mv xa26),
 ci oa04 (.mv xa27)]) .ret) .skip)) (.seq (.reg [
 ci oa28 (.mv xa08),
 ci oa29 (.mv xa08),
 ci oa2a (.fa xa0d 3),
 ci oa2b (.ld1 xa2a),
 ci oa2c (.add xa29 xa2b),
 ci oa2d (.fa xa0d 2),
 ci none (.st 1 xa2d xa28),
 ci oa2e (.fa xa0d 3),
 ci none (.st 1 xa2e xa2c)]) (.dreg [
 ⟨0, ci oa2f (.ld1 xa02), .rd, 1⟩,
 ⟨1, ci oa30 (.ldn 4 xa0d), .rd, 0⟩,
 ⟨4, ci oa33 (.ldn 4 xa0d), .rd, 3⟩,
 ⟨5, ci oa34 (.fa xa0d 3), .pur, 0⟩,
 ⟨6, ci oa35 (.ld1 xa34), .rd, 11⟩,
 ⟨2, ci oa31 (.bslice 134 4 1 [vz, ve, vz, vz] [(0, xa30)]), .ev, 0⟩,
 ⟨3, ci oa32 (.append 134 4 40 xa2f xa31), .ev, 1⟩,
 ⟨7, ci none (.st 1 xa02 xa32), .ev, 2⟩,
 ⟨8, ci none (.st 4 xa06 xa33), .ev, 3⟩,
 ⟨9, ci oa08 (.mv xa35), .pur, 0⟩]))))))))))))))))) (.seq (.reg [
 ci oa52 (.mv xa07),
 ci oa53 (.callv xa52 [])]) (.seq (.reg [
 ci oa54 (.ld1 xa02),
 ci none (.st 1 xa02 xa54),
 ci oa03 (.mv (ki 0)),
 ci oa04 (.mv (ki 0))]) .ret)))))))), [.cell 1 false ta02, .tmp ta03, .tmp ta04]⟩
def cf55 : CF := ⟨55, true, (.seq (.reg [
 ci oa06 .recover]) (.block 0 (.seq (.reg [
 ci oa08 (.eql .iface xa06 (.k .nili))]) (.cond xa08 (.reg [
 ci oa03 (.mv xa06)]) (.seq (.reg [
 ci oa09 (.tas 131 (.agg [vz, vz]) xa06 true),
 ci oa0a (.ext xa09 1),
 ci oa0b (.ext xa09 0)]) (.cond xa0a (.seq (.reg [
 ci oa04 (.alloc 131 [vz, vz]),
 ci none (.st 2 xa04 xa0b)]) (.dreg [
 ⟨0, ci oa0c (.build [vz, vz, vz, vz, ve, .nils] []), .pur, 0⟩,
 ⟨1, ci oa0d (.fa xa04 0), .pur, 0⟩,
 ⟨2, ci oa0e (.ld1 xa0d), .rd, 1⟩,
 ⟨3, ci oa0f (.fa xa04 1), .pur, 0⟩,
 ⟨4, ci oa10 (.ld1 xa0f), .rd, 2⟩,
 ⟨5, ci none (.st 6 xa00 xa0c), .ev, 0⟩,
 ⟨6, ci none (.st 1 xa01 xa0e), .ev, 1⟩,
 ⟨7, ci none (.st 1 xa02 xa10), .ev, 2⟩])) (.seq (.reg [
 ci oa05 (.mv xa06)]) (.reg [
 ci oa07 (.mv xa05),
 ci none (.panic xa07)])))))))), []⟩
def cf56 : CF := ⟨56, true, (.seq (.reg [
 ci oa04 (.alloc 44 [vz, vz, vz, vz, ve, .nils])]) (.seq (.reg [
 ci oa07 (.mv xa00),
 ci oa08 (.call fn102 [xa07, (ks 7 28542640758940016)])]) (.seq (.reg [
 ci oa09 (.mv xa00),
 ci oa0a (.call fn103 [xa09, (ki 1)]),
 ci oa05 (.alloc 134 [vz, ve, vz, vz]),
 ci none (.st 4 xa05 xa0a)]) (.seq (.reg [
 ci oa0b (.mv xa00),
 ci oa0c (.call fn104 [xa0b])]) (.seq (.reg [
 ci oa06 (.mv (.k .nils))]) (.seq (.block 0 (.loop (.seq (.seq (.reg [
 ci oa0d (.mv xa00),
 ci oa0e (.bslice 9 1 1 [ve] [(0, (ks 6 128034844732777))]),
 ci oa0f (.call fn105 [xa0d, xa0e])]) (.cond xa0f .skip (.exit 0))) (.block 1 (.seq (.reg [
 ci oa10 (.mv xa06),
 ci oa11 (.mv xa00),
 ci oa12 (.call fn106 [xa11]),
 ci oa13 (.bslice 44 6 1 [vz, vz, vz, vz, ve, .nils] [(0, xa12)]),
 ci oa14 (.append 44 6 72 xa10 xa13),
 ci oa06 (.mv xa14)]) (.reg [
 ci oa15 (.mv xa00),
 ci oa16 (.call fn104 [xa15])])))))) (.seq (.block 2 (.loop (.seq (.seq (.dreg [
 ⟨0, ci oa17 (.mv xa00), .pur, 0⟩,
 ⟨1, ci oa18 (.nilc xa17), .pur, 0⟩,
 ⟨2, ci oa19 (.fa xa18 1), .pur, 0⟩,
 ⟨3, ci oa1a (.ld1 xa19), .rd, 12⟩,
 ⟨4, ci oa1b (.add xa1a (ki 1)), .pur, 0⟩,
 ⟨5, ci oa1c (.mv xa00), .pur, 0⟩,
 ⟨6, ci oa1d (.nilc xa1c), .pur, 0⟩,
 ⟨7, ci oa1e (.fa xa1d 0), .pur, 0⟩,
 ⟨8, ci oa1f (.ld1 xa1e), .rd, 12⟩,
 ⟨9, ci oa20 (.len 1 xa1f), .rd, 12⟩,
 ⟨10, ci oa21 (.lss xa1b xa20), .pur, 0⟩]) (.cond xa21 .skip (.exit 2))) (.block 3 (.seq (.seq (.reg [
 ci oa22 (.mv xa00),
 ci oa23 (.bslice 9 1 1 [ve] [(0, (ks 4 1701869940))]),
 ci oa24 (.call fn105 [xa22, xa23])]) (.cond xa24 (.reg [
 ci oa25 (.mv xa06),
 ci oa26 (.mv xa00),
 ci oa27 (.call fn107 [xa26]),
 ci oa28 (.bslice 44 6 1 [vz, vz, vz, vz, ve, .nils] [(0, xa27)]),
 ci oa29 (.append 44 6 72 xa25 xa28),
 ci oa06 (.mv xa29)]) (.reg [
 ci oa2a (.mv xa06),
 ci oa2b (.mv xa00),
 ci oa2c (.call fn108 [xa2b]),
 ci oa2d (.bslice 44 6 1 [vz, vz, vz, vz, ve, .nils] [(0, xa2c)]),
 ci oa2e (.append 44 6 72 xa2a xa2d),
 ci oa06 (.mv xa2e)]))) (.reg [
 ci oa2f (.mv xa00),
 ci oa30 (.call fn104 [xa2f])])))))) (.seq (.reg [
 ci oa31 (.mv xa01),
 ci oa32 (.fa xa05 2),
 ci oa33 (.ld1 xa32),
 ci oa34 (.fa xa05 1),
 ci oa35 (.ld1 xa34),
 ci oa36 (.mv xa06),
 ci oa37 (.build [vz, vz, vz, vz, ve, .nils] [(0, 1, (ki 1)), (2, 1, xa31), (3, 1, xa33), (4, 1, xa35), (5, 1, xa36)]),
 ci none (.st 6 xa04 xa37)]) .ret)))))))), [.cell 6 true ta04]⟩
def cf57 : CF := ⟨57, true, (.seq (.reg [
 ci oa03 (.box 44 6 xa00),
 ci oa06 (.mv (ki 0))]) (.seq (.seq (.reg [
 ci oa09 (.fa xa03 0),
 ci oa0a (.ld1 xa09),
 ci oa0b (.eql (.cell (.int .i64)) xa0a (ki 0))]) (.cond xa0b (.seq (.reg [
 ci oa0c (.mv xa02),
 ci oa06 (.mv xa0c)]) .ret) .skip)) (.seq (.seq (.reg [
 ci oa0d (.mv xa01),
 ci oa0e (.eql (.cell (.int .i64)) xa0d (ki 0))]) (.cond xa0e (.reg [
 ci oa0f (.mv xa02),
 ci oa10 (.fa xa03 3),
 ci oa11 (.ld1 xa10),
 ci oa12 (.min [xa0f, xa11]),
 ci oa02 (.mv xa12)]) .skip)) (.seq (.seq (.reg [
 ci oa13 (.fa xa03 5),
 ci oa14 (.ld1 xa13),
 ci oa15 (.len 1 xa14),
 ci oa16 (.mv (ki 0))]) (.block 0 (.loop (.seq (.reg [
 ci oa17 (.lss xa16 xa15)]) (.seq (.cond xa17 .skip (.exit 0)) (.seq (.block 1 (.seq (.reg [
 ci oa18 (.ia 6 xa14 xa16),
 ci oa19 (.ldn 6 xa18),
 ci oa08 (.alloc 44 [vz, vz, vz, vz, ve, .nils]),
 ci none (.st 6 xa08 xa19)]) (.reg [
 ci oa1a (.ldn 6 xa08),
 ci oa1b (.mv xa01),
 ci oa1c (.sub xa1b (ki 1)),
 ci oa1d (.max [(ki 0), xa1c]),
 ci oa1e (.mv xa02),
 ci oa1f (.call fn57 [xa1a, xa1d, xa1e]),
 ci oa02 (.mv xa1f)]))) (.reg [
 ci oa20 (.add xa16 (ki 1)),
 ci oa16 (.mv xa20)]))))))) (.seq (.reg [
 ci oa21 (.mv xa02),
 ci oa06 (.mv xa21)]) .ret))))), [.tmp ta06]⟩
def cf59 : CF := ⟨59, true, (.seq (.reg [
 ci oa04 (.mv kf)]) (.seq (.reg [
 ci oa05 (.mv xa00),
 ci oa06 (.mv xa01),
 ci oa07 (.call fn109 [xa05, xa06]),
 ci oa08 (.geq xa07 (ki 0)),
 ci oa04 (.mv xa08)]) .ret)), [.tmp ta04]⟩
def cf60 : CF := ⟨60, true, (.seq (.reg [
 ci oa08 (.mv kf)]) (.seq (.seq (.reg [
 ci oa0d (.mv xa01),
 ci oa0e (.mv xa02),
 ci oa0f (.eql (.cell .str) xa0d xa0e)]) (.cond xa0f (.seq (.reg [
 ci oa08 (.mv kt)]) .ret) .skip)) (.seq (.reg [
 ci oa10 (.mv xa03),
 ci oa11 (.mv xa01),
 ci oa12 (.lkp (.cell .str) vz xa10 xa11 false),
 ci oa13 (.add xa12 (ki 1)),
 ci none (.mupd (.cell .str) xa10 xa11 xa13)]) (.seq (.seq (.reg [
 ci oa14 (.mv xa00),
 ci oa15 (.nilc xa14),
 ci oa16 (.fa xa15 1),
 ci oa17 (.ld1 xa16),
 ci oa18 (.len 1 xa17),
 ci oa19 (.mv (ki 0))]) (.block 0 (.loop (.seq (.reg [
 ci oa1a (.lss xa19 xa18)]) (.seq (.cond xa1a .skip (.exit 0)) (.seq (.block 1 (.seq (.reg [
 ci oa1b (.mv xa19),
 ci oa1c (.ia 6 xa17 xa19),
 ci oa1d (.ldn 6 xa1c),
 ci oa0a (.alloc 44 [vz, vz, vz, vz, ve, .nils]),
 ci oa09 (.mv xa1b),
 ci none (.st 6 xa0a xa1d)]) (.seq (.reg [
 ci oa1e (.fa xa0a 5),
 ci oa1f (.ld1 xa1e),
 ci oa20 (.len 1 xa1f),
 ci oa21 (.mv (ki 0))]) (.block 2 (.loop (.seq (.reg [
 ci oa22 (.lss xa21 xa20)]) (.seq (.cond xa22 .skip (.exit 2)) (.seq (.block 3 (.seq (.reg [
 ci oa23 (.ia 6 xa1f xa21),
 ci oa24 (.ldn 6 xa23),
 ci oa0c (.alloc 44 [vz, vz, vz, vz, ve, .nils]),
 ci none (.st 6 xa0c xa24)]) (.seq (.reg [
 ci oa25 (.mv xa00),
 ci oa26 (.nilc xa25),
 ci oa27 (.fa xa26 2),
 ci oa28 (.ld1 xa27),
 ci oa29 (.mv xa09),
 ci oa2a (.ia 1 xa28 xa29),
 ci oa2b (.ld1 xa2a),
 ci oa2c (.mv xa01),
 ci oa2d (.eql (.cell .str) xa2b xa2c),
 ci oa2e (.mv xa2d),
 cg oa2f ta2e true (.fa xa0c 0),
 cg oa30 ta2e true (.ld1 xa2f),
 cg oa31 ta2e true (.eql (.cell (.int .i64)) xa30 (ki 2)),
 ci oa32 (.pick xa2e xa31 kf),
 ci oa33 (.mv xa32),
 cg oa34 ta33 true (.mv xa03),
 cg oa35 ta33 true (.fa xa0c 4),
 cg oa36 ta33 true (.ld1 xa35),
 cg oa37 ta33 true (.lkp (.cell .str) vz xa34 xa36 false),
 cg oa38 ta33 true (.eql (.cell (.int .i64)) xa37 (ki 0)),
 ci oa39 (.pick xa33 xa38 kf),
 ci oa3a (.mv xa39),
 cg oa3b ta3a true (.mv xa00),
 cg oa3c ta3a true (.fa xa0c 4),
 cg oa3d ta3a true (.ld1 xa3c),
 cg oa3e ta3a true (.mv xa02),
 cg oa3f ta3a true (.mv xa03),
 cg oa40 ta3a true (.call fn60 [xa3b, xa3d, xa3e, xa3f]),
 ci oa41 (.pick xa3a xa40 kf)]) (.cond xa41 (.seq (.reg [
 ci oa08 (.mv kt)]) .ret) .skip)))) (.reg [
 ci oa42 (.add xa21 (ki 1)),
 ci oa21 (.mv xa42)]))))))))) (.reg [
 ci oa43 (.add xa19 (ki 1)),
 ci oa19 (.mv xa43)]))))))) (.seq (.reg [
 ci oa08 (.mv kf)]) .ret))))), [.tmp ta08]⟩
def cf61 : CF := ⟨61, true, (.seq (.reg [
 ci oa16 .mkmap,
 ci oa02 (.mv xa16)]) (.seq (.reg [
 ci oa03 (.mv (.k .nils))]) (.seq (.seq (.reg [
 ci oa17 (.mv xa00),
 ci oa18 (.nilc xa17),
 ci oa19 (.fa xa18 1),
 ci oa1a (.ld1 xa19),
 ci oa1b (.len 1 xa1a),
 ci oa1c (.mv (ki 0))]) (.block 0 (.loop (.seq (.reg [
 ci oa1d (.lss xa1c xa1b)]) (.seq (.cond xa1d .skip (.exit 0)) (.seq (.block 1 (.seq (.reg [
 ci oa1e (.mv xa1c),
 ci oa1f (.ia 6 xa1a xa1c),
 ci oa20 (.ldn 6 xa1f),
 ci oa05 (.alloc 44 [vz, vz, vz, vz, ve, .nils]),
 ci oa04 (.mv xa1e),
 ci none (.st 6 xa05 xa20)]) (.seq (.reg [
 ci oa21 (.fa xa05 5),
 ci oa22 (.ld1 xa21),
 ci oa23 (.len 1 xa22),
 ci oa24 (.mv (ki 0))]) (.block 2 (.loop (.seq (.reg [
 ci oa25 (.lss xa24 xa23)]) (.seq (.cond xa25 .skip (.exit 2)) (.seq (.block 3 (.seq (.reg [
 ci oa26 (.ia 6 xa22 xa24),
 ci oa27 (.ldn 6 xa26),
 ci oa07 (.alloc 44 [vz, vz, vz, vz, ve, .nils]),
 ci none (.st 6 xa07 xa27)]) (.block 4 (.seq (.reg [
 ci oa46 (.fa xa07 0),
 ci oa47 (.ld1 xa46),
 ci oa48 (.eql (.cell (.int .i64)) xa47 (ki 2)),
 ci oa45 (.mv xa48)]) (.cond xa45 (.reg [
 ci oa49 (.mv xa03),
 ci oa4a (.mv xa00),
 ci oa4b (.mv xa04),
 ci oa4c (.ldn 6 xa07),
 ci oa4d (.call fn110 [xa4a, (ki 1), xa4b, xa4c]),
 ci oa4e (.bslice 35 5 1 [vz, ve, vz, vz, ve] [(0, xa4d)]),
 ci oa4f (.append 35 5 56 xa49 xa4e),
 ci oa03 (.mv xa4f)]) (.seq (.reg [
 ci oa51 (.fa xa07 0),
 ci oa52 (.ld1 xa51),
 ci oa53 (.eql (.cell (.int .i64)) xa52 (ki 3)),
 ci oa50 (.mv xa53)]) (.cond xa50 (.seq (.dreg [
 ⟨0, ci oa54 (.mv xa00), .pur, 0⟩,
 ⟨1, ci oa55 (.nilc xa54), .pur, 0⟩,
 ⟨2, ci oa56 (.fa xa55 7), .pur, 0⟩,
 ⟨3, ci oa57 (.ld1 xa56), .rd, 3⟩,
 ⟨4, ci oa58 (.mv xa00), .pur, 0⟩,
 ⟨5, ci oa59 (.nilc xa58), .pur, 0⟩,
 ⟨6, ci oa5a (.fa xa59 2), .pur, 0⟩,
 ⟨7, ci oa5b (.ld1 xa5a), .rd, 3⟩,
 ⟨8, ci oa5c (.mv xa04), .pur, 0⟩,
 ⟨9, ci oa5d (.ia 1 xa5b xa5c), .pur, 0⟩,
 ⟨10, ci oa5e (.ld1 xa5d), .rd, 3⟩,
 ⟨11, ci oa5f (.mv xa00), .pur, 0⟩,
 ⟨12, ci oa60 (.nilc xa5f), .pur, 0⟩,
 ⟨13, ci oa61 (.fa xa60 7), .pur, 0⟩,
 ⟨14, ci oa62 (.ld1 xa61), .rd, 2⟩,
 ⟨15, ci oa63 (.mv xa00), .pur, 0⟩,
 ⟨16, ci oa64 (.nilc xa63), .pur, 0⟩,
 ⟨17, ci oa65 (.fa xa64 2), .pur, 0⟩,
 ⟨18, ci oa66 (.ld1 xa65), .rd, 2⟩,
 ⟨19, ci oa67 (.mv xa04), .pur, 0⟩,
 ⟨20, ci oa68 (.ia 1 xa66 xa67), .pur, 0⟩,
 ⟨21, ci oa69 (.ld1 xa68), .rd, 2⟩,
 ⟨22, ci oa6a (.lkp (.cell .str) .nils xa62 xa69 false), .rd, 2⟩,
 ⟨23, ci oa6b (.mv xa00), .pur, 0⟩,
 ⟨24, ci oa6c (.mv xa04), .pur, 0⟩,
 ⟨25, ci oa6d (.ldn 6 xa07), .rd, 0⟩,
 ⟨26, ci oa6e (.call fn110 [xa6b, (ki 2), xa6c, xa6d]), .ev, 0⟩,
 ⟨27, ci oa6f (.bslice 35 5 1 [vz, ve, vz, vz, ve] [(0, xa6e)]), .ev, 1⟩,
 ⟨28, ci oa70 (.append 35 5 56 xa6a xa6f), .ev, 2⟩,
 ⟨29, ci none (.mupd (.cell .str) xa57 xa5e xa70), .ev, 3⟩]) (.seq (.dreg [
 ⟨0, ci oa71 (.mv xa00), .pur, 0⟩,
 ⟨1, ci oa72 (.nilc xa71), .pur, 0⟩,
 ⟨2, ci oa73 (.fa xa72 2), .pur, 0⟩,
 ⟨3, ci oa74 (.ld1 xa73), .rd, 0⟩,
 ⟨4, ci oa75 (.mv xa04), .pur, 0⟩,
 ⟨5, ci oa76 (.ia 1 xa74 xa75), .pur, 0⟩,
 ⟨6, ci oa77 (.ld1 xa76), .rd, 0⟩,
 ⟨7, ci oa78 (.fa xa07 4), .pur, 0⟩,
 ⟨8, ci oa79 (.ld1 xa78), .rd, 0⟩,
 ⟨9, ci oa7a (.call fn111 [xa77, xa79]), .ev, 0⟩,
 ⟨10, ci oa08 (.mv xa7a), .pur, 0⟩]) (.seq (.reg [
 ci oa7b (.fa xa07 5),
 ci oa7c (.ld1 xa7b),
 ci oa7d (.len 1 xa7c),
 ci oa7e (.mv (ki 0))]) (.block 5 (.loop (.seq (.reg [
 ci oa7f (.lss xa7e xa7d)]) (.seq (.cond xa7f .skip (.exit 5)) (.seq (.block 6 (.seq (.reg [
 ci oa80 (.ia 6 xa7c xa7e),
 ci oa81 (.ldn 6 xa80),
 ci oa0a (.alloc 44 [vz, vz, vz, vz, ve, .nils]),
 ci none (.st 6 xa0a xa81)]) (.dreg [
 ⟨0, ci oa82 (.mv xa00), .pur, 0⟩,
 ⟨1, ci oa83 (.nilc xa82), .pur, 0⟩,
 ⟨2, ci oa84 (.fa xa83 8), .pur, 0⟩,
 ⟨3, ci oa85 (.ld1 xa84), .rd, 3⟩,
 ⟨4, ci oa86 (.mv xa08), .pur, 0⟩,
 ⟨5, ci oa87 (.mv xa00), .pur, 0⟩,
 ⟨6, ci oa88 (.nilc xa87), .pur, 0⟩,
 ⟨7, ci oa89 (.fa xa88 8), .pur, 0⟩,
 ⟨8, ci oa8a (.ld1 xa89), .rd, 2⟩,
 ⟨9, ci oa8b (.mv xa08), .pur, 0⟩,
 ⟨10, ci oa8c (.lkp (.cell .str) .nils xa8a xa8b false), .rd, 2⟩,
 ⟨11, ci oa8d (.mv xa00), .pur, 0⟩,
 ⟨12, ci oa8e (.mv xa04), .pur, 0⟩,
 ⟨13, ci oa8f (.ldn 6 xa0a), .rd, 0⟩,
 ⟨14, ci oa90 (.call fn110 [xa8d, (ki 5), xa8e, xa8f]), .ev, 0⟩,
 ⟨15, ci oa91 (.bslice 35 5 1 [vz, ve, vz, vz, ve] [(0, xa90)]), .ev, 1⟩,
 ⟨16, ci oa92 (.append 35 5 56 xa8c xa91), .ev, 2⟩,
 ⟨17, ci none (.mupd (.cell .str) xa85 xa86 xa92), .ev, 3⟩]))) (.reg [
 ci oa93 (.add xa7e (ki 1)),
 ci oa7e (.mv xa93)]))))))))) (.seq (.reg [
 ci oa95 (.fa xa07 5),
 ci oa96 (.ld1 xa95),
 ci oa97 (.ia 6 xa96 (ki 0)),
 ci oa98 (.fa xa97 0),
 ci oa99 (.ld1 xa98),
 ci oa9a (.neq (.cell (.int .i64)) xa99 (ki 0)),
 ci oa94 (.mv xa9a)]) (.cond xa94 (.seq (.dreg [
 ⟨0, ci oa9b (.mv xa00), .pur, 0⟩,
 ⟨1, ci oa9c (.nilc xa9b), .pur, 0⟩,
 ⟨2, ci oa9d (.fa xa9c 2), .pur, 0⟩,
 ⟨3, ci oa9e (.ld1 xa9d), .rd, 0⟩,
 ⟨4, ci oa9f (.mv xa04), .pur, 0⟩,
 ⟨5, ci oaa0 (.ia 1 xa9e xa9f), .pur, 0⟩,
 ⟨6, ci oaa1 (.ld1 xaa0), .rd, 0⟩,
 ⟨7, ci oaa2 (.fa xa07 5), .pur, 0⟩,
 ⟨8, ci oaa3 (.ld1 xaa2), .rd, 0⟩,
 ⟨9, ci oaa4 (.ia 6 xaa3 (ki 0)), .pur, 0⟩,
 ⟨10, ci oaa5 (.fa xaa4 5), .pur, 0⟩,
 ⟨11, ci oaa6 (.ld1 xaa5), .rd, 0⟩,
 ⟨12, ci oaa7 (.ia 6 xaa6 (ki 0)), .pur, 0⟩,
 ⟨13, ci oaa8 (.fa xaa7 4), .pur, 0⟩,
 ⟨14, ci oaa9 (.ld1 xaa8), .rd, 0⟩,
 ⟨15, ci oaaa (.call fn111 [xaa1, xaa9]), .ev, 0⟩,
 ⟨16, ci oa0b (.mv xaaa), .pur, 0⟩]) (.dreg [
 ⟨0, ci oaab (.mv xa02), .pur, 0⟩,
 ⟨1, ci oaac (.mv xa0b), .pur, 0⟩,
 ⟨2, ci oaad (.mv xa02), .pur, 0⟩,
 ⟨3, ci oaae (.mv xa0b), .pur, 0⟩,
 ⟨4, ci oaaf (.lkp (.cell .str) .nils xaad xaae false), .rd, 2⟩,
 ⟨5, ci oab0 (.mv xa00), .pur, 0⟩,
 ⟨6, ci oab1 (.mv xa04), .pur, 0⟩,
 ⟨7, ci oab2 (.ldn 6 xa07), .rd, 0⟩,
 ⟨8, ci oab3 (.call fn110 [xab0, (ki 4), xab1, xab2]), .ev, 0⟩,
 ⟨9, ci oab4 (.bslice 35 5 1 [vz, ve, vz, vz, ve] [(0, xab3)]), .ev, 1⟩,
 ⟨10, ci oab5 (.append 35 5 56 xaaf xab4), .ev, 2⟩,
 ⟨11, ci none (.mupd (.cell .str) xaab xaac xab5), .ev, 3⟩])) (.dreg [
 ⟨0, ci oa28 (.mv xa00), .pur, 0⟩,
 ⟨1, ci oa29 (.nilc xa28), .pur, 0⟩,
 ⟨2, ci oa2a (.fa xa29 7), .pur, 0⟩,
 ⟨3, ci oa2b (.ld1 xa2a), .rd, 3⟩,
 ⟨4, ci oa2c (.mv xa00), .pur, 0⟩,
 ⟨5, ci oa2d (.nilc xa2c), .pur, 0⟩,
 ⟨6, ci oa2e (.fa xa2d 2), .pur, 0⟩,
 ⟨7, ci oa2f (.ld1 xa2e), .rd, 3⟩,
 ⟨8, ci oa30 (.mv xa04), .pur, 0⟩,
 ⟨9, ci oa31 (.ia 1 xa2f xa30), .pur, 0⟩,
 ⟨10, ci oa32 (.ld1 xa31), .rd, 3⟩,
 ⟨11, ci oa33 (.mv xa00), .pur, 0⟩,
 ⟨12, ci oa34 (.nilc xa33), .pur, 0⟩,
 ⟨13, ci oa35 (.fa xa34 7), .pur, 0⟩,
 ⟨14, ci oa36 (.ld1 xa35), .rd, 2⟩,
 ⟨15, ci oa37 (.mv xa00), .pur, 0⟩,
 ⟨16, ci oa38 (.nilc xa37), .pur, 0⟩,
 ⟨17, ci oa39 (.fa xa38 2), .pur, 0⟩,
 ⟨18, ci oa3a (.ld1 xa39), .rd, 2⟩,
 ⟨19, ci oa3b (.mv xa04), .pur, 0⟩,
 ⟨20, ci oa3c (.ia 1 xa3a xa3b), .pur, 0⟩,
 ⟨21, ci oa3d (.ld1 xa3c), .rd, 2⟩,
 ⟨22, ci oa3e (.lkp (.cell .str) .nils xa36 xa3d false), .rd, 2⟩,
 ⟨23, ci oa3f (.mv xa00), .pur, 0⟩,
 ⟨24, ci oa40 (.mv xa04), .pur, 0⟩,
 ⟨25, ci oa41 (.ldn 6 xa07), .rd, 0⟩,
 ⟨26, ci oa42 (.call fn110 [xa3f, (ki 3), xa40, xa41]), .ev, 0⟩,
 ⟨27, ci oa43 (.bslice 35 5 1 [vz, ve, vz, vz, ve] [(0, xa42)]), .ev, 1⟩,
 ⟨28, ci oa44 (.append 35 5 56 xa3e xa43), .ev, 2⟩,
 ⟨29, ci none (.mupd (.cell .str) xa2b xa32 xa44), .ev, 3⟩])))))))))) (.reg [
 ci oab6 (.add xa24 (ki 1)),
 ci oa24 (.mv xab6)]))))))))) (.reg [
 ci oab7 (.add xa1c (ki 1)),
 ci oa1c (.mv xab7)]))))))) (.seq (.seq (.reg [
 ci oab8 (.mv xa02),
 ci oab9 (.rng (.cell .str) xab8)]) (.block 7 (.loop (.seq (.reg [
 ci oaba (.nxt xab9 false),
 ci oabb (.ext xaba 0)]) (.seq (.cond xabb .skip (.exit 7)) (.block 8 (.seq (.reg [
 ci oabc (.entry xab9),
 ci oabd (.ext xabc 0),
 ci oabe (.ext xabc 1),
 ci oa0c (.mv xabd),
 ci oa0d (.mv xabe)]) (.dreg [
 ⟨0, ci oabf (.mv xa00), .pur, 0⟩,
 ⟨1, ci oac0 (.nilc xabf), .pur, 0⟩,
 ⟨2, ci oac1 (.fa xac0 8), .pur, 0⟩,
 ⟨3, ci oac2 (.ld1 xac1), .rd, 1⟩,
 ⟨4, ci oac3 (.mv xa0c), .pur, 0⟩,
 ⟨5, ci oac4 (.mv xa00), .pur, 0⟩,
 ⟨6, ci oac5 (.nilc xac4), .pur, 0⟩,
 ⟨7, ci oac6 (.fa xac5 8), .pur, 0⟩,
 ⟨8, ci oac7 (.ld1 xac6), .rd, 0⟩,
 ⟨9, ci oac8 (.mv xa0c), .pur, 0⟩,
 ⟨10, ci oac9 (.lkp (.cell .str) .nils xac7 xac8 false), .rd, 0⟩,
 ⟨11, ci oaca (.mv xa0d), .pur, 0⟩,
 ⟨12, ci oacb (.append 35 5 56 xac9 xaca), .ev, 0⟩,
 ⟨13, ci none (.mupd (.cell .str) xac2 xac3 xacb), .ev, 1⟩])))))))) (.seq (.seq (.reg [
 ci oacc (.mv xa00),
 ci oacd (.nilc xacc),
 ci oace (.fa xacd 7),
 ci oacf (.ld1 xace),
 ci oad0 (.rng (.cell .str) xacf)]) (.block 9 (.loop (.seq (.reg [
 ci oad1 (.nxt xad0 false),
 ci oad2 (.ext xad1 0)]) (.seq (.cond xad2 .skip (.exit 9)) (.block 10 (.seq (.reg [
 ci oad3 (.entry xad0),
 ci oad4 (.ext xad3 1),
 ci oa0f (.mv xad4)]) (.reg [
 ci oad5 (.mv xa00),
 ci oad6 (.mv xa0f),
 ci oad7 (.call fn112 [xad5, xad6])])))))))) (.seq (.seq (.reg [
 ci oad8 (.mv xa00),
 ci oad9 (.nilc xad8),
 ci oada (.fa xad9 8),
 ci oadb (.ld1 xada),
 ci oadc (.rng (.cell .str) xadb)]) (.block 11 (.loop (.seq (.reg [
 ci oadd (.nxt xadc false),
 ci oade (.ext xadd 0)]) (.seq (.cond xade .skip (.exit 11)) (.block 12 (.seq (.reg [
 ci oadf (.entry xadc),
 ci oae0 (.ext xadf 1),
 ci oa11 (.mv xae0)]) (.reg [
 ci oae1 (.mv xa00),
 ci oae2 (.mv xa11),
 ci oae3 (.call fn112 [xae1, xae2])])))))))) (.seq (.reg [
 ci oae4 (.mv xa03),
 ci oae5 (.len 1 xae4),
 ci oae6 (.mv (ki 0))]) (.block 13 (.loop (.seq (.reg [
 ci oae7 (.lss xae6 xae5)]) (.seq (.cond xae7 .skip (.exit 13)) (.seq (.block 14 (.seq (.reg [
 ci oae8 (.ia 5 xae4 xae6),
 ci oae9 (.ldn 5 xae8),
 ci oa13 (.alloc 35 [vz, ve, vz, vz, ve]),
 ci none (.st 5 xa13 xae9)]) (.seq (.dreg [
 ⟨0, ci oaeb (.mv xa00), .pur, 0⟩,
 ⟨1, ci oaec (.mv xa00), .pur, 0⟩,
 ⟨2, ci oaed (.nilc xaec), .pur, 0⟩,
 ⟨3, ci oaee (.fa xaed 2), .pur, 0⟩,
 ⟨4, ci oaef (.ld1 xaee), .rd, 0⟩,
 ⟨5, ci oaf0 (.fa xa13 2), .pur, 0⟩,
 ⟨6, ci oaf1 (.ld1 xaf0), .rd, 0⟩,
 ⟨7, ci oaf2 (.ia 1 xaef xaf1), .pur, 0⟩,
 ⟨8, ci oaf3 (.ld1 xaf2), .rd, 0⟩,
 ⟨9, ci oaf4 (.fa xa13 1), .pur, 0⟩,
 ⟨10, ci oaf5 (.ld1 xaf4), .rd, 0⟩,
 ⟨11, ci oaf6 (.call fn113 [xaeb, xaf3, xaf5]), .ev, 0⟩,
 ⟨12, ci oaea (.mv xaf6), .pur, 0⟩,
 ⟨13, ci oaf7 (.ext xaea 0), .pur, 0⟩,
 ⟨14, ci oaf8 (.ext xaea 1), .pur, 0⟩,
 ⟨15, ci oa14 (.alloc 35 [vz, ve, vz, vz, ve]), .late, 1⟩,
 ⟨16, ci none (.st 5 xa14 xaf7), .ev, 2⟩,
 ⟨17, ci oa15 (.mv xaf8), .pur, 0⟩]) (.seq (.reg [
 ci oaf9 (.mv xa15)]) (.cond xaf9 (.reg [
 ci oafa (.mv xa00),
 ci oafb (.fa xa13 1),
 ci oafc (.ld1 xafb),
 ci oafd (.fa xa13 2),
 ci oafe (.ld1 xafd),
 ci oaff (.fa xa13 3),
 ci ob00 (.ld1 xaff),
 ci ob01 (.build [vz, ve, vz, vz, ve] [(1, 1, xafc), (2, 1, xafe), (3, 1, xb00)]),
 ci ob02 (.fa xa13 1),
 ci ob03 (.ld1 xb02),
 ci ob04 (.fa xa14 2),
 ci ob05 (.ld1 xb04),
 ci ob06 (.fa xa14 3),
 ci ob07 (.ld1 xb06),
 ci ob08 (.build [vz, ve, vz, vz, ve] [(1, 1, xb03), (2, 1, xb05), (3, 1, xb07)]),
 ci ob09 (.bslice 35 5 2 [vz, ve, vz, vz, ve] [(0, xb01), (1, xb08)]),
 ci ob0a (.call fn112 [xafa, xb09])]) .skip))))) (.reg [
 ci ob0b (.add xae6 (ki 1)),
 ci oae6 (.mv xb0b)]))))))))))))), []⟩
def cf62 : CF := ⟨62, true, (.seq (.reg [
 ci oa01 (.box 47 1 xa00)]) (.seq (.reg [
 ci oa05 (.ld1 xa01),
 ci oa06 (.nilc xa05),
 ci oa07 (.fa xa06 1),
 ci oa08 (.ld1 xa07),
 ci oa09 (.len 1 xa08),
 ci oa0a (.mv (ki 0))]) (.block 0 (.loop (.seq (.reg [
 ci oa0b (.lss xa0a xa09)]) (.seq (.cond xa0b .skip (.exit 0)) (.seq (.block 1 (.seq (.reg [
 ci oa0c (.mv xa0a),
 ci oa0d (.ia 6 xa08 xa0a),
 ci oa0e (.ldn 6 xa0d),
 ci oa02 (.alloc 3 [vz]),
 ci oa03 (.alloc 44 [vz, vz, vz, vz, ve, .nils]),
 ci none (.st 1 xa02 xa0c),
 ci none (.st 6 xa03 xa0e)]) (.seq (.reg [
 ci oa04 (.alloc 192 [.nilf])]) (.seq (.reg [
 ci oa0f (.mkf fn114 [] [xa04, xa01, xa02]),
 ci none (.st 1 xa04 xa0f)]) (.reg [
 ci oa10 (.ld1 xa04),
 ci oa11 (.ldn 6 xa03),
 ci oa12 (.callv xa10 [xa11, (.k .nilp), (.k .nilm)])]))))) (.reg [
 ci oa13 (.add xa0a (ki 1)),
 ci oa0a (.mv xa13)])))))))), []⟩
def cf63 : CF := ⟨63, true, (.seq (.reg [
 ci oa07 (.box 44 6 xa03),
 ci oa08 (.alloc 143 [vz, ve, vz, vz, ve, vz, ve, ve]),
 ci oa09 (.mv kf)]) (.seq (.reg [
 ci oa0d (.mv xa00),
 ci oa0e (.mv xa01),
 ci oa0f (.fa xa07 5),
 ci oa10 (.ld1 xa0f),
 ci oa11 (.ia 6 xa10 (ki 0)),
 ci oa12 (.ldn 6 xa11),
 ci oa13 (.call fn64 [xa0d, xa0e, xa12]),
 ci oa0c (.mv xa13),
 ci oa14 (.ext xa0c 0),
 ci oa15 (.ext xa0c 1),
 ci oa0a (.alloc 39 [vz, ve, ve]),
 ci none (.st 3 xa0a xa14),
 ci oa0b (.mv xa15)]) (.seq (.dreg [
 ⟨0, ci oa16 (.mv xa02), .pur, 0⟩,
 ⟨1, ci oa17 (.fa xa07 4), .pur, 0⟩,
 ⟨2, ci oa18 (.ld1 xa17), .rd, 1⟩,
 ⟨3, ci oa19 (.mv xa01), .pur, 0⟩,
 ⟨4, ci oa1a (.fa xa07 3), .pur, 0⟩,
 ⟨5, ci oa1b (.ld1 xa1a), .rd, 1⟩,
 ⟨6, ci oa1c (.mv xa00), .pur, 0⟩,
 ⟨7, ci oa1d (.nilc xa1c), .pur, 0⟩,
 ⟨8, ci oa1e (.fa xa1d 0), .pur, 0⟩,
 ⟨9, ci oa1f (.ld1 xa1e), .rd, 0⟩,
 ⟨10, ci oa20 (.mv xa01), .pur, 0⟩,
 ⟨13, ci oa23 (.ldn 3 xa0a), .rd, 1⟩,
 ⟨15, ci oa25 (.mv xa0b), .pur, 0⟩,
 ⟨11, ci oa21 (.call fn40 [xa1f, xa20]), .ev, 0⟩,
 ⟨12, ci oa22 (.build [vz, ve, vz, vz, ve] [(0, 1, xa16), (1, 1, xa18), (2, 1, xa19), (3, 1, xa1b), (4, 1, xa21)]), .pur, 0⟩,
 ⟨14, ci oa24 (.build [vz, ve, vz, vz, ve, vz, ve, ve] [(0, 5, xa22), (5, 3, xa23)]), .pur, 0⟩,
 ⟨16, ci none (.st 8 xa08 xa24), .ev, 1⟩,
 ⟨17, ci oa09 (.mv xa25), .pur, 0⟩]) .ret))), [.cell 8 true ta08, .tmp ta09]⟩
def cf64 : CF := ⟨64, true, (.seq (.reg [
 ci oa05 (.box 44 6 xa02),
 ci oa06 (.alloc 39 [vz, ve, ve]),
 ci oa07 (.mv kf)]) (.seq (.reg [
 ci oa0b (.mv xa00),
 ci oa0c (.mv xa01),
 ci oa0d (.ldn 6 xa05),
 ci oa0e (.call fn70 [xa0b, xa0c, xa0d]),
 ci oa0a (.mv xa0e),
 ci oa0f (.ext xa0a 0),
 ci oa10 (.ext xa0a 1),
 ci oa08 (.alloc 39 [vz, ve, ve]),
 ci oa09 (.alloc 27 [vz, vz, vz]),
 ci none (.st 3 xa08 xa0f),
 ci none (.st 3 xa09 xa10)]) (.seq (.seq (.reg [
 ci oa11 (.fa xa09 2),
 ci oa12 (.ld1 xa11),
 ci oa13 (.neq (.cell (.int .i64)) xa12 (ki 0))]) (.cond xa13 (.dreg [
 ⟨0, ci oa14 (.mv xa00), .pur, 0⟩,
 ⟨1, ci oa15 (.mv xa00), .pur, 0⟩,
 ⟨2, ci oa16 (.nilc xa15), .pur, 0⟩,
 ⟨3, ci oa17 (.fa xa16 5), .pur, 0⟩,
 ⟨4, ci oa18 (.ld1 xa17), .rd, 1⟩,
 ⟨5, ci oa19 (.ldn 3 xa09), .rd, 0⟩,
 ⟨6, ci oa1a (.bslice 27 3 1 [vz, vz, vz] [(0, xa19)]), .ev, 0⟩,
 ⟨7, ci oa1b (.append 27 3 24 xa18 xa1a), .ev, 1⟩,
 ⟨8, ci oa1c (.nilc xa14), .pur, 0⟩,
 ⟨9, ci oa1d (.fa xa1c 5), .pur, 0⟩,
 ⟨10, ci none (.st 1 xa1d xa1b), .ev, 2⟩]) .skip)) (.seq (.dreg [
 ⟨0, ci oa1e (.ldn 3 xa08), .rd, 0⟩,
 ⟨1, ci oa1f (.fa xa09 2), .pur, 0⟩,
 ⟨2, ci oa20 (.ld1 xa1f), .rd, 7⟩,
 ⟨3, ci oa21 (.eql (.cell (.int .i64)) xa20 (ki 0)), .pur, 0⟩,
 ⟨4, ci none (.st 3 xa06 xa1e), .ev, 0⟩,
 ⟨5, ci oa07 (.mv xa21), .pur, 0⟩]) .ret)))), [.cell 3 true ta06, .tmp ta07]⟩
def cf65 : CF := ⟨65, true, (.seq (.reg [
 ci oa02 (.box 49 1 xa00),
 ci oa03 (.box 39 3 xa01),
 ci oa04 (.mv (.k .nilm))]) (.seq (.reg [
 ci oa07 .mkmap,
 ci oa05 (.alloc 102 [.nilm]),
 ci none (.st 1 xa05 xa07)]) (.seq (.reg [
 ci oa06 (.alloc 201 [.nilf])]) (.seq (.reg [
 ci oa08 (.mkf fn119 [] [xa02, xa05, xa06]),
 ci none (.st 1 xa06 xa08)]) (.seq (.reg [
 ci oa09 (.ld1 xa06),
 ci oa0a (.ldn 3 xa03),
 ci oa0b (.callv xa09 [xa0a])]) (.seq (.reg [
 ci oa0c (.ld1 xa05),
 ci oa04 (.mv xa0c)]) .ret)))))), [.tmp ta04]⟩
def cf67 : CF := ⟨67, true, (.seq (.reg [
 ci oa04 (.box 39 3 xa01),
 ci oa06 (.mv (ki 0))]) (.seq (.seq (.reg [
 ci oa0c (.fa xa04 0),
 ci oa0d (.ld1 xa0c),
 ci oa0e (.neq (.cell (.int .i64)) xa0d (ki 5))]) (.cond xa0e (.seq (.reg [
 ci oa0f (.fa xa04 0),
 ci oa10 (.ld1 xa0f),
 ci oa11 (.min [xa10, (ki 1)]),
 ci oa06 (.mv xa11)]) .ret) .skip)) (.seq (.seq (.reg [
 ci oa13 (.mv xa02),
 ci oa14 (.ldn 3 xa04),
 ci oa15 (.lkp (.strct [(.int .i64), .str, .str]) vz xa13 xa14 true),
 ci oa12 (.mv xa15),
 ci oa16 (.ext xa12 0),
 ci oa17 (.ext xa12 1),
 ci oa07 (.mv xa16),
 ci oa08 (.mv xa17)]) (.seq (.reg [
 ci oa18 (.mv xa08)]) (.cond xa18 (.seq (.reg [
 ci oa19 (.mv xa07),
 ci oa06 (.mv xa19)]) .ret) .skip))) (.seq (.reg [
 ci oa09 (.mv (ki 0))]) (.seq (.seq (.dreg [
 ⟨0, ci oa1a (.mv xa00), .pur, 0⟩,
 ⟨1, ci oa1b (.nilc xa1a), .pur, 0⟩,
 ⟨2, ci oa1c (.fa xa1b 1), .pur, 0⟩,
 ⟨3, ci oa1d (.ld1 xa1c), .rd, 9⟩,
 ⟨4, ci oa1e (.ldn 3 xa04), .rd, 9⟩,
 ⟨5, ci oa1f (.lkp (.strct [(.int .i64), .str, .str]) .nils xa1d xa1e false), .rd, 9⟩,
 ⟨6, ci oa20 (.len 1 xa1f), .rd, 9⟩,
 ⟨7, ci oa21 (.mv (ki 0)), .pur, 0⟩]) (.block 0 (.loop (.seq (.reg [
 ci oa22 (.lss xa21 xa20)]) (.seq (.cond xa22 .skip (.exit 0)) (.seq (.block 1 (.seq (.reg [
 ci oa23 (.ia 8 xa1f xa21),
 ci oa24 (.ldn 8 xa23),
 ci oa0b (.alloc 143 [vz, ve, vz, vz, ve, vz, ve, ve]),
 ci none (.st 8 xa0b xa24)]) (.reg [
 ci oa25 (.mv xa09),
 ci oa26 (.mv xa00),
 ci oa27 (.fa xa0b 5),
 ci oa28 (.ldn 3 xa27),
 ci oa29 (.mv xa02),
 ci oa2a (.call fn67 [xa26, xa28, xa29]),
 ci oa2b (.add xa25 xa2a),
 ci oa2c (.min [xa2b, (ki 257)]),
 ci oa09 (.mv xa2c)]))) (.reg [
 ci oa2d (.add xa21 (ki 1)),
 ci oa21 (.mv xa2d)]))))))) (.seq (.reg [
 ci oa2e (.mv xa02),
 ci oa2f (.ldn 3 xa04),
 ci oa30 (.mv xa09),
 ci oa31 (.max [xa30, (ki 1)]),
 ci none (.mupd (.strct [(.int .i64), .str, .str]) xa2e xa2f xa31)]) (.seq (.reg [
 ci oa32 (.mv xa02),
 ci oa33 (.ldn 3 xa04),
 ci oa34 (.lkp (.strct [(.int .i64), .str, .str]) vz xa32 xa33 false),
 ci oa06 (.mv xa34)]) .ret))))))), [.tmp ta06]⟩
def cf69 : CF := ⟨69, true, (.seq (.reg [
 ci oa02 (.mv kf)]) (.seq (.reg [
 ci oa03 (.mv xa00),
 ci oa04 (.neq .ptr xa03 (.k .nilp)),
 ci oa05 (.mv xa04),
 cg oa06 ta05 true (.mv xa00),
 cg oa07 ta05 true (.nilc xa06),
 cg oa08 ta05 true (.fa xa07 0),
 cg oa09 ta05 true (.ld1 xa08),
 cg oa0a ta05 true (.neq .ptr xa09 (.k .nilp)),
 ci oa0b (.pick xa05 xa0a kf),
 ci oa02 (.mv xa0b)]) .ret)), [.tmp ta02]⟩
def cf70 : CF := ⟨70, true, (.seq (.reg [
 ci oa05 (.box 44 6 xa02),
 ci oa06 (.alloc 39 [vz, ve, ve]),
 ci oa07 (.alloc 27 [vz, vz, vz])]) (.seq (.seq (.reg [
 ci oa0e (.fa xa05 0),
 ci oa0f (.ld1 xa0e)]) (.block 0 (.seq (.reg [
 ci oa16 (.eql (.cell (.int .i64)) xa0f (ki 0)),
 ci oa15 (.mv xa16)]) (.cond xa15 (.seq (.reg [
 ci oa17 (.build [vz, ve, ve] []),
 ci oa18 (.build [vz, vz, vz] []),
 ci none (.st 3 xa06 xa17),
 ci none (.st 3 xa07 xa18)]) .ret) (.seq (.reg [
 ci oa1a (.eql (.cell (.int .i64)) xa0f (ki 8)),
 ci oa19 (.mv xa1a)]) (.cond xa19 (.seq (.reg [
 ci oa1b (.fa xa05 4),
 ci oa1c (.ld1 xa1b),
 ci oa1d (.call fn120 [xa1c]),
 ci oa08 (.alloc 39 [vz, ve, ve]),
 ci none (.st 3 xa08 xa1d)]) (.seq (.reg [
 ci oa1e (.fa xa08 0),
 ci oa1f (.ld1 xa1e),
 ci oa20 (.neq (.cell (.int .i64)) xa1f (ki 0))]) (.cond xa20 (.seq (.reg [
 ci oa21 (.ldn 3 xa08),
 ci oa22 (.build [vz, vz, vz] []),
 ci none (.st 3 xa06 xa21),
 ci none (.st 3 xa07 xa22)]) .ret) .skip))) (.seq (.reg [
 ci oa24 (.eql (.cell (.int .i64)) xa0f (ki 9)),
 ci oa23 (.mv xa24)]) (.cond xa23 (.seq (.seq (.reg [
 ci oa25 (.fa xa05 5),
 ci oa26 (.ld1 xa25),
 ci oa27 (.len 1 xa26),
 ci oa28 (.eql (.cell (.int .i64)) xa27 (ki 0))]) (.cond xa28 (.seq (.reg [
 ci oa29 (.build [vz, ve, ve] []),
 ci oa2a (.mv xa01),
 ci oa2b (.fa xa05 3),
 ci oa2c (.ld1 xa2b),
 ci oa2d (.call fn66 [xa2a, xa2c, (ki 14)]),
 ci none (.st 3 xa06 xa29),
 ci none (.st 3 xa07 xa2d)]) .ret) .skip)) (.seq (.reg [
 ci oa2e (.fa xa05 5),
 ci oa2f (.ld1 xa2e),
 ci oa30 (.ia 6 xa2f (ki 0)),
 ci oa31 (.ldn 6 xa30),
 ci oa09 (.alloc 44 [vz, vz, vz, vz, ve, .nils]),
 ci none (.st 6 xa09 xa31)]) (.seq (.dreg [
 ⟨0, ci oa33 (.mv xa00), .pur, 0⟩,
 ⟨1, ci oa34 (.nilc xa33), .pur, 0⟩,
 ⟨2, ci oa35 (.fa xa34 0), .pur, 0⟩,
 ⟨3, ci oa36 (.ld1 xa35), .rd, 0⟩,
 ⟨4, ci oa37 (.mv xa01), .pur, 0⟩,
 ⟨5, ci oa38 (.fa xa09 3), .pur, 0⟩,
 ⟨6, ci oa39 (.ld1 xa38), .rd, 0⟩,
 ⟨7, ci oa3a (.call fn121 [xa36, xa37, xa39]), .ev, 0⟩,
 ⟨8, ci oa32 (.mv xa3a), .pur, 0⟩,
 ⟨9, ci oa3b (.ext xa32 0), .pur, 0⟩,
 ⟨10, ci oa3c (.ext xa32 1), .pur, 0⟩,
 ⟨11, ci oa0a (.alloc 46 [vz, vz, ve, (.bool false), vz, ve, vz, vz, ve]), .late, 1⟩,
 ⟨12, ci none (.st 9 xa0a xa3b), .ev, 2⟩,
 ⟨13, ci oa0b (.mv xa3c), .pur, 0⟩]) (.block 1 (.seq (.reg [
 ci oa3e (.fa xa0a 3),
 ci oa3f (.ld1 xa3e),
 ci oa40 (.not xa3f),
 ci oa3d (.mv xa40)]) (.cond xa3d (.seq (.reg [
 ci oa41 (.build [vz, ve, ve] []),
 ci oa42 (.mv xa01),
 ci oa43 (.fa xa09 3),
 ci oa44 (.ld1 xa43),
 ci oa45 (.call fn66 [xa42, xa44, (ki 12)]),
 ci none (.st 3 xa06 xa41),
 ci none (.st 3 xa07 xa45)]) .ret) (.seq (.reg [
 ci oa47 (.fa xa0a 4),
 ci oa48 (.fa xa47 0),
 ci oa49 (.ld1 xa48),
 ci oa4a (.neq (.cell (.int .i64)) xa49 (ki 1)),
 ci oa46 (.mv xa4a)]) (.cond xa46 (.seq (.reg [
 ci oa4b (.build [vz, ve, ve] []),
 ci oa4c (.mv xa01),
 ci oa4d (.fa xa09 3),
 ci oa4e (.ld1 xa4d),
 ci oa4f (.call fn66 [xa4c, xa4e, (ki 14)]),
 ci none (.st 3 xa06 xa4b),
 ci none (.st 3 xa07 xa4f)]) .ret) .skip)))))))) (.seq (.reg [
 ci oa10 (.build [vz, ve, ve] []),
 ci oa11 (.mv xa01),
 ci oa12 (.fa xa05 3),
 ci oa13 (.ld1 xa12),
 ci oa14 (.call fn66 [xa11, xa13, (ki 14)]),
 ci none (.st 3 xa06 xa10),
 ci none (.st 3 xa07 xa14)]) .ret))))))))) (.seq (.dreg [
 ⟨0, ci oa51 (.mv xa00), .pur, 0⟩,
 ⟨1, ci oa52 (.nilc xa51), .pur, 0⟩,
 ⟨2, ci oa53 (.fa xa52 0), .pur, 0⟩,
 ⟨3, ci oa54 (.ld1 xa53), .rd, 0⟩,
 ⟨4, ci oa55 (.mv xa01), .pur, 0⟩,
 ⟨5, ci oa56 (.fa xa05 3), .pur, 0⟩,
 ⟨6, ci oa57 (.ld1 xa56), .rd, 0⟩,
 ⟨7, ci oa58 (.call fn121 [xa54, xa55, xa57]), .ev, 0⟩,
 ⟨8, ci oa50 (.mv xa58), .pur, 0⟩,
 ⟨9, ci oa59 (.ext xa50 0), .pur, 0⟩,
 ⟨10, ci oa5a (.ext xa50 1), .pur, 0⟩,
 ⟨11, ci oa0c (.alloc 46 [vz, vz, ve, (.bool false), vz, ve, vz, vz, ve]), .late, 1⟩,
 ⟨12, ci none (.st 9 xa0c xa59), .ev, 2⟩,
 ⟨13, ci oa0d (.mv xa5a), .pur, 0⟩]) (.block 2 (.seq (.reg [
 ci oa64 (.fa xa0c 3),
 ci oa65 (.ld1 xa64),
 ci oa66 (.not xa65),
 ci oa63 (.mv xa66)]) (.cond xa63 (.seq (.reg [
 ci oa67 (.build [vz, ve, ve] []),
 ci oa68 (.mv xa01),
 ci oa69 (.fa xa05 3),
 ci oa6a (.ld1 xa69),
 ci oa6b (.call fn66 [xa68, xa6a, (ki 12)]),
 ci none (.st 3 xa06 xa67),
 ci none (.st 3 xa07 xa6b)]) .ret) (.seq (.reg [
 ci oa6d (.fa xa0c 4),
 ci oa6e (.fa xa6d 0),
 ci oa6f (.ld1 xa6e),
 ci oa70 (.neq (.cell (.int .i64)) xa6f (ki 2)),
 ci oa6c (.mv xa70)]) (.cond xa6c (.seq (.reg [
 ci oa71 (.build [vz, ve, ve] []),
 ci oa72 (.mv xa01),
 ci oa73 (.fa xa05 3),
 ci oa74 (.ld1 xa73),
 ci oa75 (.call fn66 [xa72, xa74, (ki 14)]),
 ci none (.st 3 xa06 xa71),
 ci none (.st 3 xa07 xa75)]) .ret) (.seq (.reg [
 ci oa77 (.fa xa05 0),
 ci oa78 (.ld1 xa77),
 ci oa79 (.eql (.cell (.int .i64)) xa78 (ki 9)),
 ci oa7a (.mv xa79),
 cg oa7b ta7a true (.fa xa05 4),
 cg oa7c ta7a true (.ld1 xa7b),
 cg oa7d ta7a true (.call fn122 [xa7c]),
 cg oa7e ta7a true (.not xa7d),
 ci oa7f (.pick xa7a xa7e kf),
 ci oa76 (.mv xa7f)]) (.cond xa76 (.seq (.reg [
 ci oa80 (.build [vz, ve, ve] []),
 ci oa81 (.mv xa01),
 ci oa82 (.fa xa05 3),
 ci oa83 (.ld1 xa82),
 ci oa84 (.call fn66 [xa81, xa83, (ki 17)]),
 ci none (.st 3 xa06 xa80),
 ci none (.st 3 xa07 xa84)]) .ret) (.seq (.reg [
 ci oa5b (.fa xa0c 4),
 ci oa5c (.fa xa5b 4),
 ci oa5d (.ld1 xa5c),
 ci oa5e (.fa xa0c 4),
 ci oa5f (.fa xa5e 1),
 ci oa60 (.ld1 xa5f),
 ci oa61 (.build [vz, ve, ve] [(0, 1, (ki 5)), (1, 1, xa5d), (2, 1, xa60)]),
 ci oa62 (.build [vz, vz, vz] []),
 ci none (.st 3 xa06 xa61),
 ci none (.st 3 xa07 xa62)]) .ret))))))))))), [.cell 3 true ta06, .cell 3 true ta07]⟩
def cf71 : CF := ⟨71, true, (.seq (.reg [
 ci oa00 (.alloc 81 [vz, ve, ve, (.bool false)])]) (.seq (.reg [
 ci oa01 (.build [vz, ve, ve, (.bool false)] [(3, 1, kt)]),
 ci none (.st 4 xa00 xa01)]) .ret)), [.cell 4 true ta00]⟩
def cf72 : CF := ⟨72, true, (.seq (.reg [
 ci oa03 (.box 44 6 xa01),
 ci oa04 (.alloc 81 [vz, ve, ve, (.bool false)])]) (.seq (.dreg [
 ⟨0, ci oa08 (.mv xa00), .pur, 0⟩,
 ⟨1, ci oa09 (.nilc xa08), .pur, 0⟩,
 ⟨2, ci oa0a (.fa xa09 1), .pur, 0⟩,
 ⟨3, ci oa0b (.ld1 xa0a), .rd, 0⟩,
 ⟨4, ci oa0c (.mv xa00), .pur, 0⟩,
 ⟨5, ci oa0d (.nilc xa0c), .pur, 0⟩,
 ⟨6, ci oa0e (.fa xa0d 8), .pur, 0⟩,
 ⟨7, ci oa0f (.ld1 xa0e), .rd, 0⟩,
 ⟨8, ci oa10 (.ldn 6 xa03), .rd, 0⟩,
 ⟨9, ci oa11 (.call fn41 [xa0b, xa0f, xa10]), .ev, 0⟩,
 ⟨10, ci oa07 (.mv xa11), .pur, 0⟩,
 ⟨11, ci oa12 (.ext xa07 0), .pur, 0⟩,
 ⟨12, ci oa13 (.ext xa07 1), .pur, 0⟩,
 ⟨13, ci oa05 (.alloc 39 [vz, ve, ve]), .late, 1⟩,
 ⟨14, ci oa06 (.alloc 27 [vz, vz, vz]), .late, 2⟩,
 ⟨15, ci none (.st 3 xa05 xa12), .ev, 3⟩,
 ⟨16, ci none (.st 3 xa06 xa13), .ev, 4⟩]) (.seq (.seq (.reg [
 ci oa14 (.fa xa06 2),
 ci oa15 (.ld1 xa14),
 ci oa16 (.neq (.cell (.int .i64)) xa15 (ki 0))]) (.cond xa16 (.seq (.dreg [
 ⟨0, ci oa17 (.mv xa00), .pur, 0⟩,
 ⟨1, ci oa18 (.nilc xa17), .pur, 0⟩,
 ⟨2, ci oa19 (.fa xa18 7), .pur, 0⟩,
 ⟨3, ci oa1a (.ld1 xa19), .rd, 0⟩,
 ⟨4, ci oa1b (.ldn 3 xa06), .rd, 0⟩,
 ⟨5, ci oa1c (.inv [(25, fn44), (62, fn342)] xa1a [xa1b]), .ev, 0⟩]) (.seq (.reg [
 ci oa1d (.call fn71 []),
 ci none (.st 4 xa04 xa1d)]) .ret)) .skip)) (.seq (.reg [
 ci oa1e (.ldn 3 xa05),
 ci oa1f (.build [vz, ve, ve, (.bool false)] [(0, 3, xa1e)]),
 ci none (.st 4 xa04 xa1f)]) .ret)))), [.cell 4 true ta04]⟩
def cf73 : CF := ⟨73, true, (.seq (.reg [
 ci oa04 (.box 44 6 xa01),
 ci oa05 (.box 81 4 xa02),
 ci oa06 (.alloc 81 [vz, ve, ve, (.bool false)])]) (.seq (.reg [
 ci oa08 (.mv xa00),
 ci oa09 (.ldn 6 xa04),
 ci oa0a (.call fn75 [xa08, xa09]),
 ci oa07 (.alloc 81 [vz, ve, ve, (.bool false)]),
 ci none (.st 4 xa07 xa0a)]) (.seq (.seq (.reg [
 ci oa0b (.ldn 4 xa07),
 ci oa0c (.call fn123 [xa0b]),
 ci oa0d (.mv xa0c),
 cg oa0e ta0d true (.ldn 4 xa05),
 cg oa0f ta0d true (.call fn123 [xa0e]),
 ci oa10 (.pick xa0d xa0f kf),
 ci oa11 (.mv xa10),
 cg oa12 ta11 true (.fa xa07 0),
 cg oa13 ta11 true (.ldn 3 xa12),
 cg oa14 ta11 true (.fa xa05 0),
 cg oa15 ta11 true (.ldn 3 xa14),
 cg oa16 ta11 true (.neq (.strct [(.int .i64), .str, .str]) xa13 xa15),
 ci oa17 (.pick xa11 xa16 kf)]) (.cond xa17 (.seq (.reg [
 ci oa18 (.mv xa00),
 ci oa19 (.fa xa04 3),
 ci oa1a (.ld1 xa19),
 ci oa1b (.call fn44 [xa18, xa1a, (ki 14)])]) (.seq (.reg [
 ci oa1c (.call fn71 []),
 ci none (.st 4 xa06 xa1c)]) .ret)) .skip)) (.seq (.reg [
 ci oa1d (.ldn 4 xa07),
 ci none (.st 4 xa06 xa1d)]) .ret)))), [.cell 4 true ta06]⟩
def cf74 : CF := ⟨74, true, (.seq (.reg [
 ci oa04 (.box 44 6 xa01),
 ci oa05 (.box 81 4 xa02)]) (.dreg [
 ⟨0, ci oa06 (.mv xa00), .pur, 0⟩,
 ⟨1, ci oa07 (.nilc xa06), .pur, 0⟩,
 ⟨2, ci oa08 (.fa xa07 6), .pur, 0⟩,
 ⟨3, ci oa09 (.ld1 xa08), .rd, 0⟩,
 ⟨4, ci oa0a (.mv xa00), .pur, 0⟩,
 ⟨5, ci oa0b (.nilc xa0a), .pur, 0⟩,
 ⟨6, ci oa0c (.fa xa0b 3), .pur, 0⟩,
 ⟨7, ci oa0d (.ld1 xa0c), .rd, 0⟩,
 ⟨8, ci oa0e (.mv xa00), .pur, 0⟩,
 ⟨9, ci oa0f (.nilc xa0e), .pur, 0⟩,
 ⟨10, ci oa10 (.fa xa0f 8), .pur, 0⟩,
 ⟨11, ci oa11 (.ld1 xa10), .rd, 0⟩,
 ⟨12, ci oa12 (.fa xa04 3), .pur, 0⟩,
 ⟨13, ci oa13 (.ld1 xa12), .rd, 0⟩,
 ⟨14, ci oa14 (.build [vz, vz] [(0, 1, xa11), (1, 1, xa13)]), .pur, 0⟩,
 ⟨15, ci oa15 (.lkp (.strct [(.int .i64), (.int .i64)]) (.agg [vz, ve, vz, vz, ve]) xa0d xa14 false), .rd, 0⟩,
 ⟨16, ci oa16 (.ldn 4 xa05), .rd, 0⟩,
 ⟨17, ci none (.mupd (.strct [(.int .i64), .str, (.int .i64), (.int .i64), .str]) xa09 xa15 xa16), .ev, 0⟩])), []⟩
def cf75 : CF := ⟨75, true, (.seq (.reg [
 ci oa03 (.box 44 6 xa01),
 ci oa04 (.alloc 81 [vz, ve, ve, (.bool false)])]) (.seq (.reg [
 ci oa06 (.mv xa00),
 ci oa07 (.ldn 6 xa03),
 ci oa08 (.call fn76 [xa06, xa07]),
 ci oa05 (.alloc 81 [vz, ve, ve, (.bool false)]),
 ci none (.st 4 xa05 xa08)]) (.seq (.seq (.reg [
 ci oa09 (.fa xa05 3),
 ci oa0a (.ld1 xa09),
 ci oa0b (.not xa0a),
 ci oa0c (.mv xa0b),
 cg oa0d ta0c true (.fa xa05 0),
 cg oa0e ta0c true (.fa xa0d 0),
 cg oa0f ta0c true (.ld1 xa0e),
 cg oa10 ta0c true (.eql (.cell (.int .i64)) xa0f (ki 0)),
 ci oa11 (.pick xa0c xa10 kf)]) (.cond xa11 (.seq (.reg [
 ci oa12 (.mv xa00),
 ci oa13 (.fa xa03 3),
 ci oa14 (.ld1 xa13),
 ci oa15 (.call fn44 [xa12, xa14, (ki 14)])]) (.seq (.reg [
 ci oa16 (.call fn71 []),
 ci none (.st 4 xa04 xa16)]) .ret)) .skip)) (.seq (.reg [
 ci oa17 (.ldn 4 xa05),
 ci none (.st 4 xa04 xa17)]) .ret)))), [.cell 4 true ta04]⟩
def cf76 : CF := ⟨76, true, (.seq (.reg [
 ci oa03 (.box 44 6 xa01),
 ci oa04 (.alloc 81 [vz, ve, ve, (.bool false)])]) (.seq (.reg [
 ci oa06 (.mv xa00),
 ci oa07 (.ldn 6 xa03),
 ci oa08 (.call fn124 [xa06, xa07]),
 ci oa05 (.alloc 81 [vz, ve, ve, (.bool false)]),
 ci none (.st 4 xa05 xa08)]) (.seq (.dreg [
 ⟨0, ci oa09 (.mv xa00), .pur, 0⟩,
 ⟨1, ci oa0a (.nilc xa09), .pur, 0⟩,
 ⟨2, ci oa0b (.fa xa0a 5), .pur, 0⟩,
 ⟨3, ci oa0c (.ld1 xa0b), .rd, 0⟩,
 ⟨4, ci oa0d (.mv xa00), .pur, 0⟩,
 ⟨5, ci oa0e (.nilc xa0d), .pur, 0⟩,
 ⟨6, ci oa0f (.fa xa0e 8), .pur, 0⟩,
 ⟨7, ci oa10 (.ld1 xa0f), .rd, 0⟩,
 ⟨8, ci oa11 (.fa xa03 0), .pur, 0⟩,
 ⟨9, ci oa12 (.ld1 xa11), .rd, 0⟩,
 ⟨10, ci oa13 (.fa xa03 1), .pur, 0⟩,
 ⟨11, ci oa14 (.ld1 xa13), .rd, 0⟩,
 ⟨12, ci oa15 (.fa xa03 2), .pur, 0⟩,
 ⟨13, ci oa16 (.ld1 xa15), .rd, 0⟩,
 ⟨14, ci oa17 (.build [vz, vz, vz, vz] [(0, 1, xa10), (1, 1, xa12), (2, 1, xa14), (3, 1, xa16)]), .pur, 0⟩,
 ⟨15, ci oa18 (.ldn 4 xa05), .rd, 0⟩,
 ⟨16, ci none (.mupd (.strct [(.int .i64), (.int .i64), (.int .i64), (.int .i64)]) xa0c xa17 xa18), .ev, 0⟩]) (.seq (.reg [
 ci oa19 (.ldn 4 xa05),
 ci none (.st 4 xa04 xa19)]) .ret)))), [.cell 4 true ta04]⟩
def cf77 : CF := ⟨77, true, (.seq (.reg [
 ci oa03 (.box 44 6 xa01)]) (.block 0 (.seq (.reg [
 ci oa05 (.fa xa03 5),
 ci oa06 (.ld1 xa05),
 ci oa07 (.len 1 xa06),
 ci oa08 (.gtr xa07 (ki 0)),
 ci oa09 (.mv xa08),
 cg oa0a ta09 true (.mv xa00),
 cg oa0b ta09 true (.nilc xa0a),
 cg oa0c ta09 true (.fa xa0b 9),
 cg oa0d ta09 true (.fa xa0c 0),
 cg oa0e ta09 true (.ld1 xa0d),
 cg oa0f ta09 true (.eql (.cell (.int .i64)) xa0e (ki 0)),
 ci oa10 (.pick xa09 xa0f kf),
 ci oa04 (.mv xa10)]) (.cond xa04 (.seq (.reg [
 ci oa11 (.mv xa00),
 ci oa12 (.fa xa03 5),
 ci oa13 (.ld1 xa12),
 ci oa14 (.ia 6 xa13 (ki 0)),
 ci oa15 (.ldn 6 xa14),
 ci oa16 (.call fn75 [xa11, xa15])]) (.reg [
 ci oa17 (.mv xa00),
 ci oa18 (.fa xa03 5),
 ci oa19 (.ld1 xa18),
 ci oa1a (.ia 6 xa19 (ki 0)),
 ci oa1b (.fa xa1a 3),
 ci oa1c (.ld1 xa1b),
 ci oa1d (.call fn44 [xa17, xa1c, (ki 14)])])) (.seq (.reg [
 ci oa1f (.fa xa03 5),
 ci oa20 (.ld1 xa1f),
 ci oa21 (.len 1 xa20),
 ci oa22 (.gtr xa21 (ki 0)),
 ci oa1e (.mv xa22)]) (.cond xa1e (.dreg [
 ⟨0, ci oa23 (.mv xa00), .pur, 0⟩,
 ⟨1, ci oa24 (.fa xa03 5), .pur, 0⟩,
 ⟨2, ci oa25 (.ld1 xa24), .rd, 0⟩,
 ⟨3, ci oa26 (.ia 6 xa25 (ki 0)), .pur, 0⟩,
 ⟨4, ci oa27 (.ldn 6 xa26), .rd, 0⟩,
 ⟨5, ci oa28 (.mv xa00), .pur, 0⟩,
 ⟨6, ci oa29 (.nilc xa28), .pur, 0⟩,
 ⟨7, ci oa2a (.fa xa29 9), .pur, 0⟩,
 ⟨8, ci oa2b (.ldn 3 xa2a), .rd, 0⟩,
 ⟨9, ci oa2c (.build [vz, ve, ve, (.bool false)] [(0, 3, xa2b)]), .pur, 0⟩,
 ⟨10, ci oa2d (.call fn73 [xa23, xa27, xa2c]), .ev, 0⟩]) (.seq (.reg [
 ci oa2f (.mv xa00),
 ci oa30 (.nilc xa2f),
 ci oa31 (.fa xa30 9),
 ci oa32 (.fa xa31 0),
 ci oa33 (.ld1 xa32),
 ci oa34 (.neq (.cell (.int .i64)) xa33 (ki 0)),
 ci oa2e (.mv xa34)]) (.cond xa2e (.reg [
 ci oa35 (.mv xa00),
 ci oa36 (.fa xa03 3),
 ci oa37 (.ld1 xa36),
 ci oa38 (.call fn44 [xa35, xa37, (ki 14)])]) .skip)))))))), []⟩
def cf78 : CF := ⟨78, true, (.seq (.reg [
 ci oa02 (.alloc 81 [vz, ve, ve, (.bool false)])]) (.seq (.reg [
 ci oa03 (.mv xa00),
 ci oa04 (.build [vz, ve, ve] [(0, 1, xa03)]),
 ci oa05 (.build [vz, ve, ve, (.bool false)] [(0, 3, xa04)]),
 ci none (.st 4 xa02 xa05)]) .ret)), [.cell 4 true ta02]⟩
def cf79 : CF := ⟨79, true, (.seq (.reg [
 ci oa03 (.box 44 6 xa00),
 ci oa04 (.box 9 1 xa01),
 ci oa05 (.box 4 1 xa02),
 ci oa06 (.mv kf)]) (.seq (.seq (.reg [
 ci oa07 (.fa xa03 0),
 ci oa08 (.ld1 xa07),
 ci oa09 (.eql (.cell (.int .i64)) xa08 (ki 17))]) (.cond xa09 (.seq (.reg [
 ci oa0a (.fa xa03 4),
 ci oa0b (.ld1 xa0a),
 ci oa0c (.ld1 xa04),
 ci oa0d (.eql (.cell .str) xa0b xa0c),
 ci oa0e (.mv xa0d),
 cg oa0f ta0e true (.ld1 xa04),
 cg oa10 ta0e true (.neq (.cell .str) xa0f (ks 0 0)),
 cg oa11 ta0e true (.mv xa10),
 cg oa12 ta11 false (.ld1 xa05),
 cg oa13 ta11 false (.not xa12),
 cg oa14 ta0e true (.pick xa11 kt xa13),
 ci oa15 (.pick xa0e xa14 kf),
 ci oa16 (.mv xa15),
 cg oa17 ta16 false (.fa xa03 4),
 cg oa18 ta16 false (.ld1 xa17),
 cg oa19 ta16 false (.eql (.cell .str) xa18 (ks 0 0)),
 cg oa1a ta16 false (.mv xa19),
 cg oa1b ta1a true (.ld1 xa05),
 cg oa1c ta1a true (.not xa1b),
 cg oa1d ta16 false (.pick xa1a xa1c kf),
 ci oa1e (.pick xa16 kt xa1d),
 ci oa06 (.mv xa1e)]) .ret) .skip)) (.seq (.reg [
 ci oa1f (.ld1 xa05),
 ci oa20 (.mv xa1f),
 cg oa21 ta20 false (.fa xa03 0),
 cg oa22 ta20 false (.ld1 xa21),
 cg oa23 ta20 false (.eql (.cell (.int .i64)) xa22 (ki 15)),
 ci oa24 (.pick xa20 kt xa23),
 ci none (.st 1 xa05 xa24)]) (.seq (.reg [
 ci oa25 (.fa xa03 5),
 ci oa26 (.ld1 xa25),
 ci oa27 (.mkf fn126 [] [xa04, xa05]),
 ci oa28 (.call fn125 [xa26, xa27]),
 ci oa06 (.mv xa28)]) .ret)))), [.tmp ta06]⟩
def cf80 : CF := ⟨80, true, (.seq (.reg [
 ci oa0a (.mv xa01),
 ci oa0b (.add xa0a (ki 1)),
 ci oa08 (.mv xa0b)]) (.block 0 (.loop (.seq (.seq (.reg [
 ci oa0c (.mv xa08),
 ci oa0d (.mv xa02),
 ci oa0e (.lss xa0c xa0d)]) (.cond xa0e .skip (.exit 0))) (.seq (.block 1 (.seq (.reg [
 ci oa11 (.mv xa08),
 ci oa09 (.mv xa11)]) (.block 2 (.loop (.seq (.seq (.dreg [
 ⟨0, ci oa12 (.mv xa09), .pur, 0⟩,
 ⟨1, ci oa13 (.mv xa01), .pur, 0⟩,
 ⟨2, ci oa14 (.gtr xa12 xa13), .pur, 0⟩,
 ⟨3, ci oa15 (.mv xa14), .pur, 0⟩,
 ⟨4, cg oa16 ta15 true (.mv xa03), .pur, 0⟩,
 ⟨5, cg oa17 ta15 true (.mv xa00), .pur, 0⟩,
 ⟨6, cg oa18 ta15 true (.mv xa09), .pur, 0⟩,
 ⟨7, cg oa19 ta15 true (.ia 9 xa17 xa18), .pur, 0⟩,
 ⟨8, cg oa1a ta15 true (.ldn 9 xa19), .rd, 0⟩,
 ⟨9, cg oa1b ta15 true (.mv xa00), .pur, 0⟩,
 ⟨10, cg oa1c ta15 true (.mv xa09), .pur, 0⟩,
 ⟨11, cg oa1d ta15 true (.sub xa1c (ki 1)), .pur, 0⟩,
 ⟨12, cg oa1e ta15 true (.ia 9 xa1b xa1d), .pur, 0⟩,
 ⟨13, cg oa1f ta15 true (.ldn 9 xa1e), .rd, 0⟩,
 ⟨14, cg oa20 ta15 true (.callv xa16 [xa1a, xa1f]), .ev, 0⟩,
 ⟨15, cg oa21 ta15 true (.lss xa20 (ki 0)), .pur, 0⟩,
 ⟨16, ci oa22 (.pick xa15 xa21 kf), .pur, 0⟩]) (.cond xa22 .skip (.exit 2))) (.seq (.block 3 (.dreg [
 ⟨0, ci oa25 (.mv xa00), .pur, 0⟩,
 ⟨1, ci oa26 (.mv xa09), .pur, 0⟩,
 ⟨2, ci oa27 (.mv xa00), .pur, 0⟩,
 ⟨3, ci oa28 (.mv xa09), .pur, 0⟩,
 ⟨4, ci oa29 (.sub xa28 (ki 1)), .pur, 0⟩,
 ⟨5, ci oa2a (.mv xa00), .pur, 0⟩,
 ⟨6, ci oa2b (.mv xa09), .pur, 0⟩,
 ⟨7, ci oa2c (.sub xa2b (ki 1)), .pur, 0⟩,
 ⟨8, ci oa2d (.ia 9 xa2a xa2c), .pur, 0⟩,
 ⟨9, ci oa2e (.ldn 9 xa2d), .rd, 0⟩,
 ⟨10, ci oa2f (.mv xa00), .pur, 0⟩,
 ⟨11, ci oa30 (.mv xa09), .pur, 0⟩,
 ⟨12, ci oa31 (.ia 9 xa2f xa30), .pur, 0⟩,
 ⟨13, ci oa32 (.ldn 9 xa31), .rd, 0⟩,
 ⟨14, ci oa33 (.ia 9 xa25 xa26), .pur, 0⟩,
 ⟨15, ci none (.st 9 xa33 xa2e), .ev, 0⟩,
 ⟨16, ci oa34 (.ia 9 xa27 xa29), .pur, 0⟩,
 ⟨17, ci none (.st 9 xa34 xa32), .ev, 1⟩])) (.reg [
 ci oa23 (.mv xa09),
 ci oa24 (.sub xa23 (ki 1)),
 ci oa09 (.mv xa24)]))))))) (.reg [
 ci oa0f (.mv xa08),
 ci oa10 (.add xa0f (ki 1)),
 ci oa08 (.mv xa10)])))))), []⟩
def cf89 : CF := ⟨89, true, (.seq (.reg [
 ci oa02 (.mv (ki 0))]) (.seq (.seq (.reg [
 ci oa03 (.mv xa00),
 ci oa04 (.geq xa03 (.k (.int .u64 (.ofNat 4294967296))))]) (.cond xa04 (.seq (.reg [
 ci oa05 (.mv xa00),
 ci oa06 (.shr xa05 (.k (.int .u64 (.ofNat 32)))),
 ci oa00 (.mv xa06)]) (.reg [
 ci oa02 (.mv (ki 32))])) .skip)) (.seq (.seq (.reg [
 ci oa07 (.mv xa00),
 ci oa08 (.geq xa07 (.k (.int .u64 (.ofNat 65536))))]) (.cond xa08 (.seq (.reg [
 ci oa09 (.mv xa00),
 ci oa0a (.shr xa09 (.k (.int .u64 (.ofNat 16)))),
 ci oa00 (.mv xa0a)]) (.reg [
 ci oa0b (.mv xa02),
 ci oa0c (.add xa0b (ki 16)),
 ci oa02 (.mv xa0c)])) .skip)) (.seq (.seq (.reg [
 ci oa0d (.mv xa00),
 ci oa0e (.geq xa0d (.k (.int .u64 (.ofNat 256))))]) (.cond xa0e (.seq (.reg [
 ci oa0f (.mv xa00),
 ci oa10 (.shr xa0f (.k (.int .u64 (.ofNat 8)))),
 ci oa00 (.mv xa10)]) (.reg [
 ci oa11 (.mv xa02),
 ci oa12 (.add xa11 (ki 8)),
 ci oa02 (.mv xa12)])) .skip)) (.seq (.reg [
 ci oa13 (.mv xa02),
 ci oa14 (.mv xa00),
 ci oa15 (.cint .u8 xa14),
 ci oa16 (.ixs (ks 256 1013866857139168856493015739252390649739422828853819106890363778118420553376247557433637691341895324351018602695588957474325319502760499485336098898398377509666851054660423406800006203933793007272033180812049178612605246075062580585469430410618860250057463399279570354286669047577758927328864388992123306212451509403152394148136105363817402562688186708175358218852349079190158732807302672745370040257219644697201681238697346923541678507645485296520536209706771857694240900605172937619415410180424934769249448772944216470541052485265558808433676546390051204254346932932316488017972311616136051587427851453983453479168) xa15),
 ci oa17 (.cint .i64 xa16),
 ci oa18 (.add xa13 xa17),
 ci oa02 (.mv xa18)]) .ret))))), [.tmp ta02]⟩
def cf90 : CF := ⟨90, true, (.seq (.reg [
 ci oa04 (.mv (ks 0 0)),
 ci oa05 (.mv kf)]) (.seq (.seq (.reg [
 ci oa06 (.mv xa00),
 ci oa07 (.mv xa01),
 ci oa08 (.call fn132 [xa06, xa07]),
 ci oa09 (.not xa08)]) (.cond xa09 (.seq (.reg [
 ci oa0a (.mv xa00),
 ci oa04 (.mv xa0a),
 ci oa05 (.mv kf)]) .ret) .skip)) (.seq (.reg [
 ci oa0b (.mv xa00),
 ci oa0c (.mv xa01),
 ci oa0d (.len 0 xa0c),
 ci oa0e (.slStr xa0b (some xa0d) none),
 ci oa04 (.mv xa0e),
 ci oa05 (.mv kt)]) .ret))), [.tmp ta04, .tmp ta05]⟩
def cf91 : CF := ⟨91, true, (.seq (.reg [
 ci oa04 (.mv (ks 0 0)),
 ci oa05 (.mv (ks 0 0)),
 ci oa06 (.mv kf)]) (.seq (.seq (.reg [
 ci oa08 (.mv xa00),
 ci oa09 (.mv xa01),
 ci oa0a (.call fn133 [xa08, xa09]),
 ci oa07 (.mv xa0a)]) (.seq (.reg [
 ci oa0b (.mv xa07),
 ci oa0c (.geq xa0b (ki 0))]) (.cond xa0c (.seq (.dreg [
 ⟨0, ci oa0d (.mv xa00), .pur, 0⟩,
 ⟨1, ci oa0e (.mv xa07), .pur, 0⟩,
 ⟨2, ci oa0f (.slStr xa0d none (some xa0e)), .pur, 0⟩,
 ⟨3, ci oa10 (.mv xa00), .pur, 0⟩,
 ⟨4, ci oa11 (.mv xa07), .pur, 0⟩,
 ⟨5, ci oa12 (.mv xa01), .pur, 0⟩,
 ⟨6, ci oa13 (.len 0 xa12), .rd, 13⟩,
 ⟨7, ci oa14 (.add xa11 xa13), .pur, 0⟩,
 ⟨8, ci oa15 (.slStr xa10 (some xa14) none), .pur, 0⟩,
 ⟨9, ci oa04 (.mv xa0f), .pur, 0⟩,
 ⟨10, ci oa05 (.mv xa15), .pur, 0⟩,
 ⟨11, ci oa06 (.mv kt), .pur, 0⟩]) .ret) .skip))) (.seq (.reg [
 ci oa16 (.mv xa00),
 ci oa04 (.mv xa16),
 ci oa05 (.mv (ks 0 0)),
 ci oa06 (.mv kf)]) .ret))), [.tmp ta04, .tmp ta05, .tmp ta06]⟩
def cf92 : CF := ⟨92, true, (.seq (.reg [
 ci oa04 (.mv (ks 0 0)),
 ci oa05 (.mv kf)]) (.seq (.seq (.reg [
 ci oa06 (.mv xa00),
 ci oa07 (.mv xa01),
 ci oa08 (.call fn134 [xa06, xa07]),
 ci oa09 (.not xa08)]) (.cond xa09 (.seq (.reg [
 ci oa0a (.mv xa00),
 ci oa04 (.mv xa0a),
 ci oa05 (.mv kf)]) .ret) .skip)) (.seq (.reg [
 ci oa0b (.mv xa00),
 ci oa0c (.mv xa00),
 ci oa0d (.len 0 xa0c),
 ci oa0e (.mv xa01),
 ci oa0f (.len 0 xa0e),
 ci oa10 (.sub xa0d xa0f),
 ci oa11 (.slStr xa0b none (some xa10)),
 ci oa04 (.mv xa11),
 ci oa05 (.mv kt)]) .ret))), [.tmp ta04, .tmp ta05]⟩
def cf93 : CF := ⟨93, true, (.seq (.reg [
 ci oa02 (.mv kf)]) (.seq (.reg [
 ci oa03 (.mv xa00),
 ci oa04 (.geq xa03 (.k (.u8 65))),
 ci oa05 (.mv xa04),
 cg oa06 ta05 true (.mv xa00),
 cg oa07 ta05 true (.leq xa06 (.k (.u8 90))),
 ci oa08 (.pick xa05 xa07 kf),
 ci oa09 (.mv xa08),
 cg oa0a ta09 false (.mv xa00),
 cg oa0b ta09 false (.geq xa0a (.k (.u8 97))),
 cg oa0c ta09 false (.mv xa0b),
 cg oa0d ta0c true (.mv xa00),
 cg oa0e ta0c true (.leq xa0d (.k (.u8 122))),
 cg oa0f ta09 false (.pick xa0c xa0e kf),
 ci oa10 (.pick xa09 kt xa0f),
 ci oa11 (.mv xa10),
 cg oa12 ta11 false (.mv xa00),
 cg oa13 ta11 false (.eql (.cell (.int .u8)) xa12 (.k (.u8 95))),
 ci oa14 (.pick xa11 kt xa13),
 ci oa02 (.mv xa14)]) .ret)), [.tmp ta02]⟩
def cf94 : CF := ⟨94, true, (.seq (.reg [
 ci oa02 (.mv (.k .nils))]) (.seq (.reg [
 ci oa03 (.mv (ki 0))]) (.seq (.reg [
 ci oa04 (.mv (ki 1))]) (.seq (.reg [
 ci oa05 (.mv (.k (.u8 0)))]) (.seq (.seq (.reg [
 ci oa06 (.mv (ki 0))]) (.block 0 (.loop (.seq (.seq (.reg [
 ci oa0d (.mv xa06),
 ci oa0e (.mv xa00),
 ci oa0f (.len 0 xa0e),
 ci oa10 (.lss xa0d xa0f)]) (.cond xa10 .skip (.exit 0))) (.seq (.block 1 (.seq (.reg [
 ci oa13 (.mv xa00),
 ci oa14 (.mv xa06),
 ci oa15 (.ixs xa13 xa14),
 ci oa07 (.mv xa15)]) (.seq (.reg [
 ci oa16 (.mv xa05),
 ci oa17 (.mv xa07),
 ci oa18 (.or xa16 xa17),
 ci oa05 (.mv xa18)]) (.seq (.reg [
 ci oa19 (.mv xa07),
 ci oa1a (.iaArr 1 256 (.k (.ptr ⟨.d15, .d0, .d0, .d1⟩ 0)) xa19),
 ci oa1b (.ld1 xa1a),
 ci oa1c (.cint .i64 xa1b),
 ci oa08 (.mv xa1c)]) (.seq (.reg [
 ci oa1d (.mv xa03),
 ci oa1e (.mv xa04),
 ci oa1f (.mv xa08),
 ci oa20 (.com xa1f),
 ci oa21 (.and xa1e xa20),
 ci oa22 (.add xa1d xa21),
 ci oa03 (.mv xa22)]) (.reg [
 ci oa23 (.mv xa08),
 ci oa04 (.mv xa23)])))))) (.reg [
 ci oa11 (.mv xa06),
 ci oa12 (.add xa11 (ki 1)),
 ci oa06 (.mv xa12)])))))) (.seq (.seq (.reg [
 ci oa24 (.mv xa05),
 ci oa25 (.geq xa24 (.k (.u8 128)))]) (.cond xa25 (.seq (.reg [
 ci oa26 (.mv xa00),
 ci oa27 (.call fn135 [xa26, (.k (.func fn136 [] []))]),
 ci oa02 (.mv xa27)]) .ret) .skip)) (.seq (.reg [
 ci oa28 (.mv xa03),
 ci oa29 (.mksl 9 1 16 [ve] xa28 xa28),
 ci oa09 (.mv xa29)]) (.seq (.reg [
 ci oa0a (.mv (ki 0))]) (.seq (.reg [
 ci oa0b (.mv (ki 0))]) (.seq (.reg [
 ci oa0c (.mv (ki 0))]) (.seq (.block 2 (.loop (.seq (.seq (.reg [
 ci oa2a (.mv xa0c),
 ci oa2b (.mv xa00),
 ci oa2c (.len 0 xa2b),
 ci oa2d (.lss xa2a xa2c),
 ci oa2e (.mv xa2d),
 cg oa2f ta2e true (.mv xa00),
 cg oa30 ta2e true (.mv xa0c),
 cg oa31 ta2e true (.ixs xa2f xa30),
 cg oa32 ta2e true (.iaArr 1 256 (.k (.ptr ⟨.d15, .d0, .d0, .d1⟩ 0)) xa31),
 cg oa33 ta2e true (.ld1 xa32),
 cg oa34 ta2e true (.neq (.cell (.int .u8)) xa33 (.k (.u8 0))),
 ci oa35 (.pick xa2e xa34 kf)]) (.cond xa35 .skip (.exit 2))) (.block 3 (.reg [
 ci oa36 (.mv xa0c),
 ci oa37 (.add xa36 (ki 1)),
 ci oa0c (.mv xa37)]))))) (.seq (.reg [
 ci oa38 (.mv xa0c),
 ci oa0b (.mv xa38)]) (.seq (.block 4 (.loop (.seq (.seq (.reg [
 ci oa39 (.mv xa0c),
 ci oa3a (.mv xa00),
 ci oa3b (.len 0 xa3a),
 ci oa3c (.lss xa39 xa3b)]) (.cond xa3c .skip (.exit 4))) (.block 5 (.seq (.seq (.reg [
 ci oa3d (.mv xa00),
 ci oa3e (.mv xa0c),
 ci oa3f (.ixs xa3d xa3e),
 ci oa40 (.iaArr 1 256 (.k (.ptr ⟨.d15, .d0, .d0, .d1⟩ 0)) xa3f),
 ci oa41 (.ld1 xa40),
 ci oa42 (.eql (.cell (.int .u8)) xa41 (.k (.u8 0)))]) (.cond xa42 (.seq (.reg [
 ci oa43 (.mv xa0c),
 ci oa44 (.add xa43 (ki 1)),
 ci oa0c (.mv xa44)]) (.exit 5)) .skip)) (.seq (.reg [
 ci oa45 (.mv xa09),
 ci oa46 (.mv xa0a),
 ci oa47 (.mv xa00),
 ci oa48 (.mv xa0b),
 ci oa49 (.mv xa0c),
 ci oa4a (.slStr xa47 (some xa48) (some xa49)),
 ci oa4b (.ia 1 xa45 xa46),
 ci none (.st 1 xa4b xa4a)]) (.seq (.reg [
 ci oa4c (.mv xa0a),
 ci oa4d (.add xa4c (ki 1)),
 ci oa0a (.mv xa4d)]) (.seq (.reg [
 ci oa4e (.mv xa0c),
 ci oa4f (.add xa4e (ki 1)),
 ci oa0c (.mv xa4f)]) (.seq (.block 6 (.loop (.seq (.seq (.reg [
 ci oa50 (.mv xa0c),
 ci oa51 (.mv xa00),
 ci oa52 (.len 0 xa51),
 ci oa53 (.lss xa50 xa52),
 ci oa54 (.mv xa53),
 cg oa55 ta54 true (.mv xa00),
 cg oa56 ta54 true (.mv xa0c),
 cg oa57 ta54 true (.ixs xa55 xa56),
 cg oa58 ta54 true (.iaArr 1 256 (.k (.ptr ⟨.d15, .d0, .d0, .d1⟩ 0)) xa57),
 cg oa59 ta54 true (.ld1 xa58),
 cg oa5a ta54 true (.neq (.cell (.int .u8)) xa59 (.k (.u8 0))),
 ci oa5b (.pick xa54 xa5a kf)]) (.cond xa5b .skip (.exit 6))) (.block 7 (.reg [
 ci oa5c (.mv xa0c),
 ci oa5d (.add xa5c (ki 1)),
 ci oa0c (.mv xa5d)]))))) (.reg [
 ci oa5e (.mv xa0c),
 ci oa0b (.mv xa5e)])))))))))) (.seq (.seq (.reg [
 ci oa5f (.mv xa0b),
 ci oa60 (.mv xa00),
 ci oa61 (.len 0 xa60),
 ci oa62 (.lss xa5f xa61)]) (.cond xa62 (.reg [
 ci oa63 (.mv xa09),
 ci oa64 (.mv xa0a),
 ci oa65 (.mv xa00),
 ci oa66 (.mv xa0b),
 ci oa67 (.slStr xa65 (some xa66) none),
 ci oa68 (.ia 1 xa63 xa64),
 ci none (.st 1 xa68 xa67)]) .skip)) (.seq (.reg [
 ci oa69 (.mv xa09),
 ci oa02 (.mv xa69)]) .ret))))))))))))))), [.tmp ta02]⟩
def cf96 : CF := ⟨96, true, (.seq (.reg [
 ci oa02 (.mv (ki 0))]) (.seq (.seq (.reg [
 ci oa03 (.mv (ki 0))]) (.block 0 (.loop (.seq (.seq (.reg [
 ci oa06 (.mv xa03),
 ci oa07 (.mv xa00),
 ci oa08 (.len 0 xa07),
 ci oa09 (.lss xa06 xa08)]) (.cond xa09 .skip (.exit 0))) (.block 1 (.seq (.reg [
 ci oa0b (.mv xa00),
 ci oa0c (.mv xa03),
 ci oa0d (.slStr xa0b (some xa0c) none),
 ci oa0e (.call fn137 [xa0d]),
 ci oa0a (.mv xa0e),
 ci oa0f (.ext xa0a 0),
 ci oa10 (.ext xa0a 1),
 ci oa04 (.mv xa0f),
 ci oa05 (.mv xa10)]) (.seq (.seq (.reg [
 ci oa11 (.mv xa05),
 ci oa12 (.eql (.cell (.int .i64)) xa11 (ki 1)),
 ci oa13 (.mv xa12),
 cg oa14 ta13 true (.mv xa00),
 cg oa15 ta13 true (.mv xa03),
 cg oa16 ta13 true (.ixs xa14 xa15),
 cg oa17 ta13 true (.geq xa16 (.k (.u8 128))),
 ci oa18 (.pick xa13 xa17 kf)]) (.cond xa18 (.seq (.reg [
 ci oa19 (.mv xa03),
 ci oa02 (.mv xa19)]) .ret) .skip)) (.reg [
 ci oa1a (.mv xa03),
 ci oa1b (.mv xa05),
 ci oa1c (.add xa1a xa1b),
 ci oa03 (.mv xa1c)])))))))) (.seq (.reg [
 ci oa02 (.mv (.k (.i (.negSucc 0))))]) .ret))), [.tmp ta02]⟩
def cf97 : CF := ⟨97, true, (.seq (.seq (.reg [
 ci oa02 (.ldn 4 xa00),
 ci oa03 (.call fn98 [xa02])]) (.cond xa03 (.reg [
 ci oa04 (.ld1 xa01),
 ci oa05 (.fa xa00 3),
 ci oa06 (.ld1 xa05),
 ci oa07 (.fa xa00 3),
 ci oa08 (.ld1 xa07),
 ci oa09 (.build [vz, ve, vz, vz] [(0, 1, (ki 7)), (1, 1, (ks 0 0)), (2, 1, xa06), (3, 1, xa08)]),
 ci oa0a (.bslice 134 4 1 [vz, ve, vz, vz] [(0, xa09)]),
 ci oa0b (.append 134 4 40 xa04 xa0a),
 ci none (.st 1 xa01 xa0b)]) .skip)) (.reg [
 ci oa0c (.build [vz, ve, vz, vz] []),
 ci none (.st 4 xa00 xa0c)])), []⟩
def cf98 : CF := ⟨98, true, (.seq (.reg [
 ci oa01 (.box 134 4 xa00),
 ci oa02 (.mv kf)]) (.seq (.seq (.reg [
 ci oa03 (.fa xa01 0),
 ci oa04 (.ld1 xa03)]) (.block 0 (.seq (.seq (.reg [
 ci oa06 (.eql (.cell (.int .i64)) xa04 (ki 1)),
 ci oa05 (.mv xa06)]) (.cond xa05 .skip (.seq (.reg [
 ci oa07 (.eql (.cell (.int .i64)) xa04 (ki 3)),
 ci oa05 (.mv xa07)]) (.cond xa05 .skip (.seq (.reg [
 ci oa08 (.eql (.cell (.int .i64)) xa04 (ki 4)),
 ci oa05 (.mv xa08)]) (.cond xa05 .skip (.reg [
 ci oa09 (.eql (.cell (.int .i64)) xa04 (ki 5)),
 ci oa05 (.mv xa09)]))))))) (.cond xa05 (.seq (.reg [
 ci oa02 (.mv kt)]) .ret) (.seq (.reg [
 ci oa0b (.eql (.cell (.int .i64)) xa04 (ki 2)),
 ci oa0a (.mv xa0b)]) (.cond xa0a (.seq (.reg [
 ci oa0c (.bslice 9 1 9 [ve] [(0, (ks 4 1702195828)), (1, (ks 5 435728179558)), (2, (ks 6 121437875889522)), (3, (ks 5 461195539042)), (4, (ks 8 7310870969309884259)), (5, (ks 3 7630441)), (6, (ks 4 1819242338)), (7, (ks 6 113723913172083)), (8, (ks 7 14696572267752550))]),
 ci oa0d (.fa xa01 1),
 ci oa0e (.ld1 xa0d),
 ci oa0f (.call fn59 [xa0c, xa0e]),
 ci oa02 (.mv xa0f)]) .ret) .skip)))))) (.seq (.reg [
 ci oa10 (.fa xa01 1),
 ci oa11 (.ld1 xa10),
 ci oa12 (.eql (.cell .str) xa11 (ks 1 41)),
 ci oa13 (.mv xa12),
 cg oa14 ta13 false (.fa xa01 1),
 cg oa15 ta13 false (.ld1 xa14),
 cg oa16 ta13 false (.eql (.cell .str) xa15 (ks 1 125)),
 ci oa17 (.pick xa13 kt xa16),
 ci oa02 (.mv xa17)]) .ret))), [.tmp ta02]⟩
def cf99 : CF := ⟨99, true, (.seq (.reg [
 ci oa04 (.mv (ki 0))]) (.seq (.reg [
 ci oa05 (.mv xa00),
 ci oa06 (.mv xa01),
 ci oa07 (.call fn138 [xa05, xa06]),
 ci oa04 (.mv xa07)]) .ret)), [.tmp ta04]⟩
def cf100 : CF := ⟨100, true, (.seq (.reg [
 ci oa04 (.mv kf)]) (.seq (.reg [
 ci oa05 (.mv xa00),
 ci oa06 (.mv xa01),
 ci oa07 (.call fn132 [xa05, xa06]),
 ci oa04 (.mv xa07)]) .ret)), [.tmp ta04]⟩
def cf101 : CF := ⟨101, true, (.seq (.reg [
 ci oa02 (.alloc 134 [vz, ve, vz, vz]),
 ci oa03 (.mv (ki 0))]) (.seq (.seq (.reg [
 ci oa0d (.mv xa00),
 ci oa0e (.call fn139 [xa0d]),
 ci oa04 (.mv xa0e)]) (.seq (.reg [
 ci oa0f (.mv xa04),
 ci oa10 (.gtr xa0f (ki 0))]) (.cond xa10 (.seq (.reg [
 ci oa11 (.mv xa00),
 ci oa12 (.mv xa04),
 ci oa13 (.slStr xa11 none (some xa12)),
 ci oa14 (.mv xa04),
 ci oa15 (.build [vz, ve, vz, vz] [(0, 1, (ki 1)), (1, 1, xa13), (2, 1, (ki 0)), (3, 1, xa14)]),
 ci oa05 (.alloc 134 [vz, ve, vz, vz]),
 ci none (.st 4 xa05 xa15)]) (.seq (.block 0 (.seq (.reg [
 ci oa17 (.fa xa05 1),
 ci oa18 (.ld1 xa17),
 ci oa19 (.call fn140 [xa18]),
 ci oa16 (.mv xa19)]) (.cond xa16 (.reg [
 ci oa1a (.fa xa05 0),
 ci none (.st 1 xa1a (ki 2))]) (.seq (.reg [
 ci oa1c (.mv xa04),
 ci oa1d (.gtr xa1c (ki 40)),
 ci oa1b (.mv xa1d)]) (.cond xa1b (.seq (.reg [
 ci oa1e (.ldn 4 xa05),
 ci none (.st 4 xa02 xa1e),
 ci oa03 (.mv (ki 3))]) .ret) (.seq (.reg [
 ci oa20 (.fa xa05 1),
 ci oa21 (.ld1 xa20),
 ci oa22 (.call fn141 [xa21]),
 ci oa23 (.not xa22),
 ci oa1f (.mv xa23)]) (.cond xa1f (.seq (.reg [
 ci oa24 (.ldn 4 xa05),
 ci none (.st 4 xa02 xa24),
 ci oa03 (.mv (ki 9))]) .ret) .skip))))))) (.seq (.reg [
 ci oa25 (.ldn 4 xa05),
 ci none (.st 4 xa02 xa25),
 ci oa03 (.mv (ki 0))]) .ret))) .skip))) (.seq (.seq (.reg [
 ci oa27 (.mv xa00),
 ci oa28 (.call fn142 [xa27]),
 ci oa26 (.mv xa28),
 ci oa29 (.ext xa26 0),
 ci oa2a (.ext xa26 1),
 ci oa06 (.mv xa29),
 ci oa07 (.mv xa2a)]) (.seq (.reg [
 ci oa2b (.mv xa07),
 ci oa2c (.gtr xa2b (ki 0))]) (.cond xa2c (.seq (.reg [
 ci oa08 (.mv (ki 0))]) (.seq (.seq (.reg [
 ci oa2d (.mv xa06),
 ci oa2e (.eql (.cell (.int .i64)) xa2d (ki 3))]) (.cond xa2e (.reg [
 ci oa30 (.mv xa00),
 ci oa31 (.mv xa07),
 ci oa32 (.slStr xa30 none (some xa31)),
 ci oa33 (.call fn143 [xa32]),
 ci oa2f (.mv xa33),
 ci oa34 (.ext xa2f 0),
 ci oa35 (.ext xa2f 1),
 ci oa08 (.mv xa35)]) (.reg [
 ci oa37 (.mv xa00),
 ci oa38 (.mv xa07),
 ci oa39 (.slStr xa37 none (some xa38)),
 ci oa3a (.call fn144 [xa39]),
 ci oa36 (.mv xa3a),
 ci oa3b (.ext xa36 0),
 ci oa3c (.ext xa36 1),
 ci oa08 (.mv xa3c)]))) (.seq (.reg [
 ci oa3d (.mv xa06),
 ci oa3e (.mv xa00),
 ci oa3f (.mv xa07),
 ci oa40 (.slStr xa3e none (some xa3f)),
 ci oa41 (.mv xa07),
 ci oa42 (.build [vz, ve, vz, vz] [(0, 1, xa3d), (1, 1, xa40), (2, 1, (ki 0)), (3, 1, xa41)]),
 ci oa43 (.mv xa08),
 ci none (.st 4 xa02 xa42),
 ci oa03 (.mv xa43)]) .ret))) .skip))) (.seq (.seq (.reg [
 ci oa45 (.mv xa00),
 ci oa46 (.call fn145 [xa45]),
 ci oa44 (.mv xa46),
 ci oa47 (.ext xa44 0),
 ci oa48 (.ext xa44 1),
 ci oa09 (.mv xa47),
 ci oa0a (.mv xa48)]) (.seq (.reg [
 ci oa49 (.mv xa0a),
 ci oa4a (.gtr xa49 (ki 0))]) (.cond xa4a (.seq (.reg [
 ci oa0b (.mv (ki 0))]) (.seq (.seq (.reg [
 ci oa4b (.mv xa09),
 ci oa4c (.len 0 xa4b),
 ci oa4d (.gtr xa4c (ki 4096))]) (.cond xa4d (.reg [
 ci oa0b (.mv (ki 3))]) .skip)) (.seq (.reg [
 ci oa4e (.mv xa00),
 ci oa4f (.mv xa0a),
 ci oa50 (.slStr xa4e none (some xa4f)),
 ci oa51 (.mv xa0a),
 ci oa52 (.build [vz, ve, vz, vz] [(0, 1, (ki 5)), (1, 1, xa50), (2, 1, (ki 0)), (3, 1, xa51)]),
 ci oa53 (.mv xa0b),
 ci none (.st 4 xa02 xa52),
 ci oa03 (.mv xa53)]) .ret))) .skip))) (.seq (.seq (.reg [
 ci oa54 (.mv xa00),
 ci oa55 (.call fn100 [xa54, (ks 1 59)])]) (.cond xa55 (.seq (.reg [
 ci oa56 (.build [vz, ve, vz, vz] [(0, 1, (ki 7)), (1, 1, (ks 1 59)), (2, 1, (ki 0)), (3, 1, (ki 1))]),
 ci none (.st 4 xa02 xa56),
 ci oa03 (.mv (ki 0))]) .ret) .skip)) (.seq (.seq (.reg [
 ci oa57 (.mv xa00),
 ci oa58 (.call fn146 [xa57]),
 ci oa0c (.mv xa58)]) (.seq (.reg [
 ci oa59 (.mv xa0c),
 ci oa5a (.gtr xa59 (ki 0))]) (.cond xa5a (.seq (.reg [
 ci oa5b (.mv xa00),
 ci oa5c (.mv xa0c),
 ci oa5d (.slStr xa5b none (some xa5c)),
 ci oa5e (.mv xa0c),
 ci oa5f (.build [vz, ve, vz, vz] [(0, 1, (ki 6)), (1, 1, xa5d), (2, 1, (ki 0)), (3, 1, xa5e)]),
 ci none (.st 4 xa02 xa5f),
 ci oa03 (.mv (ki 0))]) .ret) .skip))) (.seq (.reg [
 ci oa60 (.build [vz, ve, vz, vz] []),
 ci none (.st 4 xa02 xa60),
 ci oa03 (.mv (ki 4))]) .ret))))))), [.cell 4 true ta02, .tmp ta03]⟩
def cf102 : CF := ⟨102, true, (.seq (.reg [
 ci oa04 (.alloc 134 [vz, ve, vz, vz])]) (.seq (.seq (.reg [
 ci oa05 (.mv xa00),
 ci oa06 (.mv xa01),
 ci oa07 (.bslice 9 1 1 [ve] [(0, xa06)]),
 ci oa08 (.call fn105 [xa05, xa07]),
 ci oa09 (.not xa08)]) (.cond xa09 (.reg [
 ci oa0a (.mv xa00),
 ci oa0b (.call fn147 [xa0a, (ki 4)])]) .skip)) (.seq (.reg [
 ci oa0c (.mv xa00),
 ci oa0d (.call fn148 [xa0c]),
 ci none (.st 4 xa04 xa0d)]) .ret))), [.cell 4 true ta04]⟩
def cf103 : CF := ⟨103, true, (.seq (.reg [
 ci oa04 (.alloc 134 [vz, ve, vz, vz])]) (.seq (.seq (.reg [
 ci oa05 (.mv xa00),
 ci oa06 (.call fn149 [xa05]),
 ci oa07 (.fld xa06 0 1 false),
 ci oa08 (.mv xa01),
 ci oa09 (.neq (.cell (.int .i64)) xa07 xa08)]) (.cond xa09 (.reg [
 ci oa0a (.mv xa00),
 ci oa0b (.call fn147 [xa0a, (ki 4)])]) .skip)) (.seq (.reg [
 ci oa0c (.mv xa00),
 ci oa0d (.call fn148 [xa0c]),
 ci none (.st 4 xa04 xa0d)]) .ret))), [.cell 4 true ta04]⟩
def cf104 : CF := ⟨104, true, (.reg [
 ci oa02 (.mv xa00),
 ci oa03 (.call fn103 [xa02, (ki 7)])]), []⟩
def cf105 : CF := ⟨105, true, (.seq (.reg [
 ci oa04 (.mv kf)]) (.seq (.reg [
 ci oa06 (.mv xa00),
 ci oa07 (.call fn149 [xa06]),
 ci oa05 (.alloc 134 [vz, ve, vz, vz]),
 ci none (.st 4 xa05 xa07)]) (.seq (.reg [
 ci oa08 (.fa xa05 0),
 ci oa09 (.ld1 xa08),
 ci oa0a (.eql (.cell (.int .i64)) xa09 (ki 6)),
 ci oa0b (.mv xa0a),
 cg oa0c ta0b false (.fa xa05 0),
 cg oa0d ta0b false (.ld1 xa0c),
 cg oa0e ta0b false (.eql (.cell (.int .i64)) xa0d (ki 2)),
 ci oa0f (.pick xa0b kt xa0e),
 ci oa10 (.mv xa0f),
 cg oa11 ta10 true (.mv xa01),
 cg oa12 ta10 true (.fa xa05 1),
 cg oa13 ta10 true (.ld1 xa12),
 cg oa14 ta10 true (.call fn59 [xa11, xa13]),
 ci oa15 (.pick xa10 xa14 kf),
 ci oa04 (.mv xa15)]) .ret))), [.tmp ta04]⟩
def cf106 : CF := ⟨106, true, (.seq (.reg [
 ci oa02 (.alloc 44 [vz, vz, vz, vz, ve, .nils])]) (.seq (.reg [
 ci oa07 (.mv xa00),
 ci oa08 (.call fn102 [xa07, (ks 6 128034844732777)]),
 ci oa09 (.fld xa08 2 1 false),
 ci oa03 (.mv xa09)]) (.seq (.seq (.reg [
 ci oa0a (.mv xa00),
 ci oa0b (.call fn149 [xa0a]),
 ci oa0c (.fld xa0b 0 1 false),
 ci oa0d (.neq (.cell (.int .i64)) xa0c (ki 5))]) (.cond xa0d (.reg [
 ci oa0e (.mv xa00),
 ci oa0f (.call fn147 [xa0e, (ki 4)])]) .skip)) (.seq (.reg [
 ci oa11 (.mv xa00),
 ci oa12 (.call fn149 [xa11]),
 ci oa13 (.fld xa12 1 1 false),
 ci oa14 (.call fn150 [xa13]),
 ci oa10 (.mv xa14),
 ci oa15 (.ext xa10 0),
 ci oa16 (.ext xa10 1),
 ci oa04 (.mv xa15),
 ci oa05 (.mv xa16)]) (.seq (.seq (.reg [
 ci oa17 (.mv xa05),
 ci oa18 (.neq (.cell (.int .i64)) xa17 (ki 0)),
 ci oa19 (.mv xa18),
 cg oa1a ta19 false (.mv xa04),
 cg oa1b ta19 false (.call fn141 [xa1a]),
 cg oa1c ta19 false (.not xa1b),
 ci oa1d (.pick xa19 kt xa1c)]) (.cond xa1d (.reg [
 ci oa1e (.mv xa00),
 ci oa1f (.call fn147 [xa1e, (ki 9)])]) .skip)) (.seq (.reg [
 ci oa20 (.mv xa00),
 ci oa21 (.call fn148 [xa20]),
 ci oa06 (.alloc 134 [vz, ve, vz, vz]),
 ci none (.st 4 xa06 xa21)]) (.seq (.reg [
 ci oa22 (.mv xa00),
 ci oa23 (.mv xa03),
 ci oa24 (.fa xa06 2),
 ci oa25 (.ld1 xa24),
 ci oa26 (.mv xa04),
 ci oa27 (.call fn151 [xa22, (ki 2), xa23, xa25, xa26, (.k .nils)]),
 ci none (.st 6 xa02 xa27)]) .ret))))))), [.cell 6 true ta02]⟩
def cf107 : CF := ⟨107, true, (.seq (.reg [
 ci oa02 (.alloc 44 [vz, vz, vz, vz, ve, .nils])]) (.seq (.reg [
 ci oa06 (.mv xa00),
 ci oa07 (.call fn102 [xa06, (ks 4 1701869940)]),
 ci oa08 (.fld xa07 2 1 false),
 ci oa03 (.mv xa08)]) (.seq (.reg [
 ci oa09 (.mv xa00),
 ci oa0a (.call fn103 [xa09, (ki 1)]),
 ci oa04 (.alloc 134 [vz, ve, vz, vz]),
 ci none (.st 4 xa04 xa0a)]) (.seq (.reg [
 ci oa0b (.mv xa00),
 ci oa0c (.call fn102 [xa0b, (ks 6 127970521019507)])]) (.seq (.reg [
 ci oa0d (.mv xa00),
 ci oa0e (.mv xa00),
 ci oa0f (.mkf fn104 [xa0e] []),
 ci oa10 (.mv xa00),
 ci oa11 (.call fn153 [xa10, (ki 4)]),
 ci oa12 (.call fn152 [xa0d, (ks 1 123), (ks 1 125), xa0f, xa11]),
 ci oa05 (.mv xa12)]) (.seq (.reg [
 ci oa13 (.mv xa00),
 ci oa14 (.mv xa03),
 ci oa15 (.fa xa04 2),
 ci oa16 (.ld1 xa15),
 ci oa17 (.fa xa04 1),
 ci oa18 (.ld1 xa17),
 ci oa19 (.mv xa05),
 ci oa1a (.call fn151 [xa13, (ki 3), xa14, xa16, xa18, xa19]),
 ci none (.st 6 xa02 xa1a)]) .ret)))))), [.cell 6 true ta02]⟩
def cf108 : CF := ⟨108, true, (.seq (.reg [
 ci oa02 (.alloc 44 [vz, vz, vz, vz, ve, .nils])]) (.seq (.reg [
 ci oa0b (.mv xa00),
 ci oa0c (.call fn102 [xa0b, (ks 4 1668183398)]),
 ci oa0d (.fld xa0c 2 1 false),
 ci oa03 (.mv xa0d)]) (.seq (.reg [
 ci oa04 (.alloc 44 [vz, vz, vz, vz, ve, .nils]),
 ci oa05 (.alloc 44 [vz, vz, vz, vz, ve, .nils])]) (.seq (.seq (.reg [
 ci oa0e (.mv xa00),
 ci oa0f (.bslice 9 1 1 [ve] [(0, (ks 1 40))]),
 ci oa10 (.call fn105 [xa0e, xa0f])]) (.cond xa10 (.reg [
 ci oa11 (.mv xa00),
 ci oa12 (.call fn154 [xa11]),
 ci none (.st 6 xa04 xa12)]) .skip)) (.seq (.reg [
 ci oa13 (.mv xa00),
 ci oa14 (.call fn103 [xa13, (ki 1)]),
 ci oa06 (.alloc 134 [vz, ve, vz, vz]),
 ci none (.st 4 xa06 xa14)]) (.seq (.reg [
 ci oa15 (.mv xa00),
 ci oa16 (.call fn149 [xa15]),
 ci oa17 (.fld xa16 2 1 false),
 ci oa07 (.mv xa17)]) (.seq (.reg [
 ci oa18 (.mv xa00),
 ci oa19 (.mv xa00),
 ci oa1a (.call fn155 [xa19, (ks 1 41)]),
 ci oa1b (.mv xa00),
 ci oa1c (.call fn153 [xa1b, (ki 7)]),
 ci oa1d (.call fn152 [xa18, (ks 1 40), (ks 1 41), xa1a, xa1c]),
 ci oa08 (.mv xa1d)]) (.seq (.reg [
 ci oa1e (.mv xa00),
 ci oa1f (.mv xa07),
 ci oa20 (.mv xa07),
 ci oa21 (.mv xa08),
 ci oa22 (.call fn151 [xa1e, (ki 6), xa1f, xa20, (ks 0 0), xa21]),
 ci oa09 (.alloc 44 [vz, vz, vz, vz, ve, .nils]),
 ci none (.st 6 xa09 xa22)]) (.seq (.seq (.reg [
 ci oa23 (.mv xa00),
 ci oa24 (.bslice 9 1 1 [ve] [(0, (ks 1 123))]),
 ci oa25 (.call fn105 [xa23, xa24]),
 ci oa26 (.not xa25)]) (.cond xa26 (.reg [
 ci oa27 (.mv xa00),
 ci oa28 (.call fn156 [xa27]),
 ci none (.st 6 xa05 xa28)]) .skip)) (.seq (.reg [
 ci oa29 (.mv xa00),
 ci oa2a (.call fn157 [xa29]),
 ci oa0a (.alloc 44 [vz, vz, vz, vz, ve, .nils]),
 ci none (.st 6 xa0a xa2a)]) (.seq (.reg [
 ci oa2b (.mv xa00),
 ci oa2c (.mv xa03),
 ci oa2d (.fa xa06 2),
 ci oa2e (.ld1 xa2d),
 ci oa2f (.fa xa06 1),
 ci oa30 (.ld1 xa2f),
 ci oa31 (.ldn 6 xa04),
 ci oa32 (.ldn 6 xa09),
 ci oa33 (.ldn 6 xa05),
 ci oa34 (.ldn 6 xa0a),
 ci oa35 (.bslice 44 6 4 [vz, vz, vz, vz, ve, .nils] [(0, xa31), (1, xa32), (2, xa33), (3, xa34)]),
 ci oa36 (.call fn151 [xa2b, (ki 5), xa2c, xa2e, xa30, xa35]),
 ci none (.st 6 xa02 xa36)]) .ret))))))))))), [.cell 6 true ta02]⟩
def cf109 : CF := ⟨109, true, (.seq (.reg [
 ci oa04 (.mv (ki 0))]) (.seq (.seq (.reg [
 ci oa06 (.mv xa00),
 ci oa07 (.len 1 xa06),
 ci oa08 (.mv (ki 0))]) (.block 0 (.loop (.seq (.reg [
 ci oa09 (.lss xa08 xa07)]) (.seq (.cond xa09 .skip (.exit 0)) (.seq (.block 1 (.seq (.reg [
 ci oa0a (.mv xa08),
 ci oa05 (.mv xa0a)]) (.seq (.reg [
 ci oa0b (.mv xa01),
 ci oa0c (.mv xa00),
 ci oa0d (.mv xa05),
 ci oa0e (.ia 1 xa0c xa0d),
 ci oa0f (.ld1 xa0e),
 ci oa10 (.eql (.cell .str) xa0b xa0f)]) (.cond xa10 (.seq (.reg [
 ci oa11 (.mv xa05),
 ci oa04 (.mv xa11)]) .ret) .skip)))) (.reg [
 ci oa12 (.add xa08 (ki 1)),
 ci oa08 (.mv xa12)]))))))) (.seq (.reg [
 ci oa04 (.mv (.k (.i (.negSucc 0))))]) .ret))), [.tmp ta04]⟩
def cf110 : CF := ⟨110, true, (.seq (.reg [
 ci oa07 (.box 44 6 xa03),
 ci oa08 (.alloc 35 [vz, ve, vz, vz, ve])]) (.seq (.dreg [
 ⟨0, ci oa0a (.mv xa01), .pur, 0⟩,
 ⟨1, ci oa0b (.fa xa07 4), .pur, 0⟩,
 ⟨2, ci oa0c (.ld1 xa0b), .rd, 1⟩,
 ⟨3, ci oa0d (.mv xa02), .pur, 0⟩,
 ⟨4, ci oa0e (.fa xa07 3), .pur, 0⟩,
 ⟨5, ci oa0f (.ld1 xa0e), .rd, 1⟩,
 ⟨6, ci oa10 (.mv xa00), .pur, 0⟩,
 ⟨7, ci oa11 (.nilc xa10), .pur, 0⟩,
 ⟨8, ci oa12 (.fa xa11 2), .pur, 0⟩,
 ⟨9, ci oa13 (.ld1 xa12), .rd, 1⟩,
 ⟨10, ci oa14 (.mv xa02), .pur, 0⟩,
 ⟨11, ci oa15 (.ia 1 xa13 xa14), .pur, 0⟩,
 ⟨12, ci oa16 (.ld1 xa15), .rd, 1⟩,
 ⟨13, ci oa17 (.build [vz, ve, vz, vz, ve] [(0, 1, xa0a), (1, 1, xa0c), (2, 1, xa0d), (3, 1, xa0f), (4, 1, xa16)]), .pur, 0⟩,
 ⟨14, ci oa09 (.alloc 35 [vz, ve, vz, vz, ve]), .ev, 0⟩,
 ⟨15, ci none (.st 5 xa09 xa17), .ev, 1⟩]) (.seq (.seq (.reg [
 ci oa18 (.mv xa01),
 ci oa19 (.eql (.cell (.int .i64)) xa18 (ki 1))]) (.cond xa19 (.reg [
 ci oa1a (.fa xa07 4),
 ci oa1b (.ld1 xa1a),
 ci oa1c (.fa xa09 4),
 ci none (.st 1 xa1c xa1b)]) .skip)) (.seq (.dreg [
 ⟨0, ci oa1d (.mv xa00), .pur, 0⟩,
 ⟨1, ci oa1e (.nilc xa1d), .pur, 0⟩,
 ⟨2, ci oa1f (.fa xa1e 6), .pur, 0⟩,
 ⟨3, ci oa20 (.ld1 xa1f), .rd, 0⟩,
 ⟨4, ci oa21 (.ldn 5 xa09), .rd, 0⟩,
 ⟨5, ci oa22 (.ldn 6 xa07), .rd, 0⟩,
 ⟨6, ci none (.mupd (.strct [(.int .i64), .str, (.int .i64), (.int .i64), .str]) xa20 xa21 xa22), .ev, 0⟩]) (.seq (.reg [
 ci oa23 (.ldn 5 xa09),
 ci none (.st 5 xa08 xa23)]) .ret))))), [.cell 5 true ta08]⟩
def cf111 : CF := ⟨111, true, (.seq (.reg [
 ci oa04 (.mv (ks 0 0))]) (.seq (.reg [
 ci oa05 (.mv xa00),
 ci oa06 (.add xa05 (ks 1 32)),
 ci oa07 (.mv xa01),
 ci oa08 (.add xa06 xa07),
 ci oa04 (.mv xa08)]) .ret)), [.tmp ta04]⟩
def cf112 : CF := ⟨112, true, (.seq (.reg [
 ci oa08 .mkmap,
 ci oa04 (.mv xa08)]) (.seq (.reg [
 ci oa09 (.mv xa01),
 ci oa0a (.call fn158 [xa09]),
 ci oa05 (.mv xa0a)]) (.seq (.reg [
 ci oa0b (.mv xa05),
 ci oa0c (.call fn159 [xa0b, (.k (.func fn160 [] []))])]) (.seq (.reg [
 ci oa0d (.mv xa05),
 ci oa0e (.len 1 xa0d),
 ci oa0f (.mv (ki 0))]) (.block 0 (.loop (.seq (.reg [
 ci oa10 (.lss xa0f xa0e)]) (.seq (.cond xa10 .skip (.exit 0)) (.seq (.block 1 (.seq (.reg [
 ci oa11 (.ia 5 xa0d xa0f),
 ci oa12 (.ldn 5 xa11),
 ci oa07 (.alloc 35 [vz, ve, vz, vz, ve]),
 ci none (.st 5 xa07 xa12)]) (.seq (.reg [
 ci oa13 (.mv xa04),
 ci oa14 (.fa xa07 1),
 ci oa15 (.ld1 xa14),
 ci oa16 (.lkp (.cell .str) vz xa13 xa15 false),
 ci oa17 (.add xa16 (ki 1)),
 ci none (.mupd (.cell .str) xa13 xa15 xa17)]) (.seq (.reg [
 ci oa18 (.mv xa04),
 ci oa19 (.fa xa07 1),
 ci oa1a (.ld1 xa19),
 ci oa1b (.lkp (.cell .str) vz xa18 xa1a false),
 ci oa1c (.gtr xa1b (ki 1))]) (.cond xa1c (.dreg [
 ⟨0, ci oa1d (.mv xa00), .pur, 0⟩,
 ⟨1, ci oa1e (.nilc xa1d), .pur, 0⟩,
 ⟨2, ci oa1f (.fa xa1e 3), .pur, 0⟩,
 ⟨3, ci oa20 (.fa xa07 2), .pur, 0⟩,
 ⟨4, ci oa21 (.ld1 xa20), .rd, 0⟩,
 ⟨5, ci oa22 (.fa xa07 3), .pur, 0⟩,
 ⟨6, ci oa23 (.ld1 xa22), .rd, 0⟩,
 ⟨7, ci oa24 (.call fn30 [xa1f, xa21, xa23, (ki 13)]), .ev, 0⟩]) .skip))))) (.reg [
 ci oa25 (.add xa0f (ki 1)),
 ci oa0f (.mv xa25)])))))))))), []⟩
def cf113 : CF := ⟨113, true, (.seq (.reg [
 ci oa06 (.alloc 35 [vz, ve, vz, vz, ve]),
 ci oa07 (.mv kf)]) (.seq (.reg [
 ci oa08 (.mv xa00),
 ci oa09 (.mv xa01),
 ci oa0a (.call fn162 [xa08, xa09]),
 ci oa0b (.mv xa02),
 ci oa0c (.call fn161 [xa0a, xa0b]),
 ci oa0d (.ext xa0c 0),
 ci oa0e (.ext xa0c 1),
 ci none (.st 5 xa06 xa0d),
 ci oa07 (.mv xa0e)]) .ret)), [.cell 5 true ta06, .tmp ta07]⟩
def cf114 : CF := ⟨114, true, (.seq (.reg [
 ci oa06 (.box 44 6 xa00)]) (.seq (.seq (.reg [
 ci oa1c (.fa xa06 0),
 ci oa1d (.ld1 xa1c)]) (.block 0 (.seq (.reg [
 ci oa1f (.eql (.cell (.int .i64)) xa1d (ki 5)),
 ci oa1e (.mv xa1f)]) (.cond xa1e (.seq (.reg [
 ci oa20 .mkmap,
 ci oa21 (.build [.nilp, .nilm, .nilm] [(2, 1, xa20)]),
 ci oa22 (.box 197 3 xa21),
 ci oa23 (.call fn115 [xa22]),
 ci oa01 (.mv xa23)]) (.seq (.reg [
 ci oa24 .mkmap,
 ci oa02 (.mv xa24)]) (.seq (.seq (.dreg [
 ⟨0, ci oa25 (.fa xa06 5), .pur, 0⟩,
 ⟨1, ci oa26 (.ld1 xa25), .rd, 0⟩,
 ⟨2, ci oa27 (.ia 6 xa26 (ki 0)), .pur, 0⟩,
 ⟨3, ci oa28 (.ldn 6 xa27), .rd, 0⟩,
 ⟨5, ci oa2a (.fa xa06 5), .pur, 0⟩,
 ⟨6, ci oa2b (.ld1 xa2a), .rd, 1⟩,
 ⟨7, ci oa2c (.ia 6 xa2b (ki 1)), .pur, 0⟩,
 ⟨8, ci oa2d (.fa xa2c 5), .pur, 0⟩,
 ⟨9, ci oa2e (.ld1 xa2d), .rd, 1⟩,
 ⟨12, ci oa31 (.mv (ki 0)), .pur, 0⟩,
 ⟨4, ci oa29 (.bslice 44 6 1 [vz, vz, vz, vz, ve, .nils] [(0, xa28)]), .ev, 0⟩,
 ⟨10, ci oa2f (.append 44 6 72 xa29 xa2e), .ev, 1⟩,
 ⟨11, ci oa30 (.len 1 xa2f), .rd, 14⟩]) (.block 1 (.loop (.seq (.reg [
 ci oa32 (.lss xa31 xa30)]) (.seq (.cond xa32 .skip (.exit 1)) (.seq (.block 2 (.seq (.reg [
 ci oa33 (.ia 6 xa2f xa31),
 ci oa34 (.ldn 6 xa33),
 ci oa0a (.alloc 44 [vz, vz, vz, vz, ve, .nils]),
 ci none (.st 6 xa0a xa34)]) (.seq (.reg [
 ci oa35 (.ld1 xa03),
 ci oa36 (.ldn 6 xa0a),
 ci oa37 (.mv xa02),
 ci oa38 (.callv xa35 [xa36, (.k .nilp), xa37])]) (.seq (.reg [
 ci oa39 (.fa xa0a 0),
 ci oa3a (.ld1 xa39),
 ci oa3b (.neq (.cell (.int .i64)) xa3a (ki 0))]) (.cond xa3b (.dreg [
 ⟨0, ci oa3c (.ld1 xa04), .rd, 1⟩,
 ⟨1, ci oa3d (.mv xa01), .pur, 0⟩,
 ⟨2, ci oa3e (.nilc xa3d), .pur, 0⟩,
 ⟨3, ci oa3f (.fa xa3e 1), .pur, 0⟩,
 ⟨4, ci oa40 (.ld1 xa3f), .rd, 1⟩,
 ⟨5, ci oa41 (.ld1 xa04), .rd, 0⟩,
 ⟨6, ci oa42 (.ld1 xa05), .rd, 0⟩,
 ⟨7, ci oa43 (.ldn 6 xa0a), .rd, 0⟩,
 ⟨8, ci oa44 (.call fn110 [xa41, (ki 6), xa42, xa43]), .ev, 0⟩,
 ⟨9, ci oa45 (.call fn116 [xa3c, xa40, xa44]), .ev, 1⟩]) .skip))))) (.reg [
 ci oa46 (.add xa31 (ki 1)),
 ci oa31 (.mv xa46)]))))))) (.seq (.dreg [
 ⟨0, ci oa47 (.ld1 xa03), .rd, 0⟩,
 ⟨1, ci oa48 (.fa xa06 5), .pur, 0⟩,
 ⟨2, ci oa49 (.ld1 xa48), .rd, 0⟩,
 ⟨3, ci oa4a (.ia 6 xa49 (ki 2)), .pur, 0⟩,
 ⟨4, ci oa4b (.ldn 6 xa4a), .rd, 0⟩,
 ⟨5, ci oa4c (.mv xa02), .pur, 0⟩,
 ⟨6, ci oa4d (.callv xa47 [xa4b, (.k .nilp), xa4c]), .ev, 0⟩]) (.seq (.seq (.reg [
 ci oa4e (.fa xa06 5),
 ci oa4f (.ld1 xa4e),
 ci oa50 (.ia 6 xa4f (ki 3)),
 ci oa51 (.fa xa50 5),
 ci oa52 (.ld1 xa51),
 ci oa53 (.len 1 xa52),
 ci oa54 (.mv (ki 0))]) (.block 3 (.loop (.seq (.reg [
 ci oa55 (.lss xa54 xa53)]) (.seq (.cond xa55 .skip (.exit 3)) (.seq (.block 4 (.seq (.reg [
 ci oa56 (.ia 6 xa52 xa54),
 ci oa57 (.ldn 6 xa56),
 ci oa0c (.alloc 44 [vz, vz, vz, vz, ve, .nils]),
 ci none (.st 6 xa0c xa57)]) (.reg [
 ci oa58 (.ld1 xa03),
 ci oa59 (.ldn 6 xa0c),
 ci oa5a (.mv xa01),
 ci oa5b (.mv xa02),
 ci oa5c (.callv xa58 [xa59, xa5a, xa5b])]))) (.reg [
 ci oa5d (.add xa54 (ki 1)),
 ci oa54 (.mv xa5d)]))))))) .ret))))) (.seq (.seq (.reg [
 ci oa5f (.eql (.cell (.int .i64)) xa1d (ki 10)),
 ci oa5e (.mv xa5f)]) (.cond xa5e .skip (.reg [
 ci oa60 (.eql (.cell (.int .i64)) xa1d (ki 15)),
 ci oa5e (.mv xa60)]))) (.cond xa5e (.reg [
 ci oa61 (.mv xa01),
 ci oa62 (.call fn115 [xa61]),
 ci oa01 (.mv xa62)]) (.seq (.reg [
 ci oa64 (.eql (.cell (.int .i64)) xa1d (ki 16)),
 ci oa63 (.mv xa64)]) (.cond xa63 (.seq (.reg [
 ci oa65 (.ld1 xa04),
 ci oa66 (.ld1 xa05),
 ci oa67 (.ldn 6 xa06),
 ci oa68 (.call fn110 [xa65, (ki 8), xa66, xa67]),
 ci oa0d (.alloc 35 [vz, ve, vz, vz, ve]),
 ci none (.st 5 xa0d xa68)]) (.seq (.dreg [
 ⟨0, ci oa69 (.ld1 xa04), .rd, 0⟩,
 ⟨1, ci oa6a (.mv xa01), .pur, 0⟩,
 ⟨2, ci oa6b (.nilc xa6a), .pur, 0⟩,
 ⟨3, ci oa6c (.fa xa6b 2), .pur, 0⟩,
 ⟨4, ci oa6d (.ld1 xa6c), .rd, 0⟩,
 ⟨5, ci oa6e (.ldn 5 xa0d), .rd, 0⟩,
 ⟨6, ci oa6f (.call fn116 [xa69, xa6d, xa6e]), .ev, 0⟩]) (.seq (.reg [
 ci oa70 .mkmap,
 ci oa0e (.mv xa70)]) (.seq (.seq (.reg [
 ci oa71 (.mv xa02),
 ci oa72 (.rng (.cell .str) xa71)]) (.block 5 (.loop (.seq (.reg [
 ci oa73 (.nxt xa72 false),
 ci oa74 (.ext xa73 0)]) (.seq (.cond xa74 .skip (.exit 5)) (.block 6 (.seq (.reg [
 ci oa75 (.entry xa72),
 ci oa76 (.ext xa75 0),
 ci oa77 (.ext xa75 1),
 ci oa10 (.alloc 35 [vz, ve, vz, vz, ve]),
 ci oa0f (.mv xa76),
 ci none (.st 5 xa10 xa77)]) (.reg [
 ci oa78 (.mv xa0e),
 ci oa79 (.mv xa0f),
 ci oa7a (.ldn 5 xa10),
 ci none (.mupd (.cell .str) xa78 xa79 xa7a)])))))))) (.seq (.reg [
 ci oa7b (.mv xa0e),
 ci oa7c (.fa xa06 4),
 ci oa7d (.ld1 xa7c),
 ci oa7e (.ldn 5 xa0d),
 ci none (.mupd (.cell .str) xa7b xa7d xa7e)]) (.reg [
 ci oa7f (.mv xa0e),
 ci oa02 (.mv xa7f)])))))) (.seq (.seq (.reg [
 ci oa81 (.eql (.cell (.int .i64)) xa1d (ki 17)),
 ci oa80 (.mv xa81)]) (.cond xa80 .skip (.reg [
 ci oa82 (.eql (.cell (.int .i64)) xa1d (ki 18)),
 ci oa80 (.mv xa82)]))) (.cond xa80 (.seq (.reg [
 ci oa83 (.fa xa06 4),
 ci oa84 (.ld1 xa83),
 ci oa85 (.neq (.cell .str) xa84 (ks 0 0))]) (.cond xa85 (.seq (.reg [
 ci oa87 (.mv xa02),
 ci oa88 (.fa xa06 4),
 ci oa89 (.ld1 xa88),
 ci oa8a (.lkp (.cell .str) (.agg [vz, ve, vz, vz, ve]) xa87 xa89 true),
 ci oa86 (.mv xa8a),
 ci oa8b (.ext xa86 0),
 ci oa8c (.ext xa86 1),
 ci oa11 (.alloc 35 [vz, ve, vz, vz, ve]),
 ci none (.st 5 xa11 xa8b),
 ci oa12 (.mv xa8c)]) (.reg [
 ci oa8d (.ld1 xa04),
 ci oa8e (.ld1 xa05),
 ci oa8f (.ldn 6 xa06),
 ci oa90 (.ldn 5 xa11),
 ci oa91 (.mv xa12),
 ci oa92 (.call fn117 [xa8d, xa8e, xa8f, xa90, xa91])])) .skip)) (.seq (.seq (.reg [
 ci oa94 (.eql (.cell (.int .i64)) xa1d (ki 25)),
 ci oa93 (.mv xa94)]) (.cond xa93 .skip (.reg [
 ci oa95 (.eql (.cell (.int .i64)) xa1d (ki 8)),
 ci oa93 (.mv xa95)]))) (.cond xa93 (.seq (.reg [
 ci oa96 (.bslice 9 1 4 [ve] [(0, (ks 3 7630441)), (1, (ks 4 1819242338)), (2, (ks 6 113723913172083)), (3, (ks 7 14696572267752550))]),
 ci oa97 (.fa xa06 4),
 ci oa98 (.ld1 xa97),
 ci oa99 (.call fn59 [xa96, xa98]),
 ci oa9a (.not xa99)]) (.cond xa9a (.seq (.reg [
 ci oa9c (.ld1 xa04),
 ci oa9d (.ld1 xa05),
 ci oa9e (.fa xa06 4),
 ci oa9f (.ld1 xa9e),
 ci oaa0 (.mv xa01),
 ci oaa1 (.call fn118 [xa9c, xa9d, xa9f, xaa0]),
 ci oa9b (.mv xaa1),
 ci oaa2 (.ext xa9b 0),
 ci oaa3 (.ext xa9b 1),
 ci oa13 (.alloc 35 [vz, ve, vz, vz, ve]),
 ci none (.st 5 xa13 xaa2),
 ci oa14 (.mv xaa3)]) (.reg [
 ci oaa4 (.ld1 xa04),
 ci oaa5 (.ld1 xa05),
 ci oaa6 (.ldn 6 xa06),
 ci oaa7 (.ldn 5 xa13),
 ci oaa8 (.mv xa14),
 ci oaa9 (.call fn117 [xaa4, xaa5, xaa6, xaa7, xaa8])])) .skip)) .skip)))))))))))) (.seq (.seq (.reg [
 ci oaaa (.fa xa06 5),
 ci oaab (.ld1 xaaa),
 ci oaac (.len 1 xaab),
 ci oaad (.mv (ki 0))]) (.block 7 (.loop (.seq (.reg [
 ci oaae (.lss xaad xaac)]) (.seq (.cond xaae .skip (.exit 7)) (.seq (.block 8 (.seq (.reg [
 ci oaaf (.ia 6 xaab xaad),
 ci oab0 (.ldn 6 xaaf),
 ci oa16 (.alloc 44 [vz, vz, vz, vz, ve, .nils]),
 ci none (.st 6 xa16 xab0)]) (.reg [
 ci oab1 (.ld1 xa03),
 ci oab2 (.ldn 6 xa16),
 ci oab3 (.mv xa01),
 ci oab4 (.mv xa02),
 ci oab5 (.callv xab1 [xab2, xab3, xab4])]))) (.reg [
 ci oab6 (.add xaad (ki 1)),
 ci oaad (.mv xab6)]))))))) (.seq (.reg [
 ci oab7 (.fa xa06 0),
 ci oab8 (.ld1 xab7)]) (.block 9 (.seq (.seq (.reg [
 ci oaba (.eql (.cell (.int .i64)) xab8 (ki 11)),
 ci oab9 (.mv xaba)]) (.cond xab9 .skip (.reg [
 ci oabb (.eql (.cell (.int .i64)) xab8 (ki 12)),
 ci oab9 (.mv xabb)]))) (.cond xab9 (.dreg [
 ⟨0, ci oabc (.ld1 xa04), .rd, 1⟩,
 ⟨1, ci oabd (.mv xa01), .pur, 0⟩,
 ⟨2, ci oabe (.nilc xabd), .pur, 0⟩,
 ⟨3, ci oabf (.fa xabe 1), .pur, 0⟩,
 ⟨4, ci oac0 (.ld1 xabf), .rd, 1⟩,
 ⟨5, ci oac1 (.ld1 xa04), .rd, 0⟩,
 ⟨6, ci oac2 (.ld1 xa05), .rd, 0⟩,
 ⟨7, ci oac3 (.ldn 6 xa06), .rd, 0⟩,
 ⟨8, ci oac4 (.call fn110 [xac1, (ki 7), xac2, xac3]), .ev, 0⟩,
 ⟨9, ci oac5 (.call fn116 [xabc, xac0, xac4]), .ev, 1⟩]) (.seq (.seq (.reg [
 ci oac7 (.eql (.cell (.int .i64)) xab8 (ki 26)),
 ci oac6 (.mv xac7)]) (.cond xac6 .skip (.reg [
 ci oac8 (.eql (.cell (.int .i64)) xab8 (ki 9)),
 ci oac6 (.mv xac8)]))) (.cond xac6 (.seq (.reg [
 ci oac9 (.fa xa06 5),
 ci oaca (.ld1 xac9),
 ci oacb (.ia 6 xaca (ki 0)),
 ci oacc (.ldn 6 xacb),
 ci oa17 (.alloc 44 [vz, vz, vz, vz, ve, .nils]),
 ci none (.st 6 xa17 xacc)]) (.seq (.reg [
 ci oacd (.fa xa17 0),
 ci oace (.ld1 xacd),
 ci oacf (.eql (.cell (.int .i64)) xace (ki 25))]) (.cond xacf (.seq (.reg [
 ci oad1 (.ld1 xa04),
 ci oad2 (.ld1 xa05),
 ci oad3 (.fa xa17 4),
 ci oad4 (.ld1 xad3),
 ci oad5 (.mv xa01),
 ci oad6 (.call fn118 [xad1, xad2, xad4, xad5]),
 ci oad0 (.mv xad6),
 ci oad7 (.ext xad0 0),
 ci oad8 (.ext xad0 1),
 ci oa18 (.alloc 35 [vz, ve, vz, vz, ve]),
 ci none (.st 5 xa18 xad7),
 ci oa19 (.mv xad8)]) (.seq (.reg [
 ci oad9 (.mv xa19),
 ci oada (.mv xad9),
 cg oadb tada true (.fa xa18 0),
 cg oadc tada true (.ld1 xadb),
 cg oadd tada true (.eql (.cell (.int .i64)) xadc (ki 1)),
 ci oade (.pick xada xadd kf)]) (.cond xade (.seq (.reg [
 ci oae0 (.ld1 xa04),
 ci oae1 (.fa xa18 4),
 ci oae2 (.ld1 xae1),
 ci oae3 (.fa xa06 4),
 ci oae4 (.ld1 xae3),
 ci oae5 (.call fn113 [xae0, xae2, xae4]),
 ci oadf (.mv xae5),
 ci oae6 (.ext xadf 0),
 ci oae7 (.ext xadf 1),
 ci oa1a (.alloc 35 [vz, ve, vz, vz, ve]),
 ci none (.st 5 xa1a xae6),
 ci oa1b (.mv xae7)]) (.reg [
 ci oae8 (.ld1 xa04),
 ci oae9 (.ld1 xa05),
 ci oaea (.ldn 6 xa06),
 ci oaeb (.ldn 5 xa1a),
 ci oaec (.mv xa1b),
 ci oaed (.call fn117 [xae8, xae9, xaea, xaeb, xaec])])) .skip))) .skip))) .skip))))))))), []⟩
def cf115 : CF := ⟨115, true, (.seq (.reg [
 ci oa02 (.mv (.k .nilp))]) (.seq (.reg [
 ci oa03 (.mv xa00),
 ci oa04 .mkmap,
 ci oa05 (.mv xa00),
 ci oa06 (.nilc xa05),
 ci oa07 (.fa xa06 2),
 ci oa08 (.ld1 xa07),
 ci oa09 (.build [.nilp, .nilm, .nilm] [(0, 1, xa03), (1, 1, xa04), (2, 1, xa08)]),
 ci oa0a (.box 197 3 xa09),
 ci oa02 (.mv xa0a)]) .ret)), [.tmp ta02]⟩
def cf116 : CF := ⟨116, true, (.seq (.reg [
 ci oa05 (.box 35 5 xa02)]) (.seq (.seq (.reg [
 ci oa09 (.mv xa01),
 ci oa0a (.fa xa05 1),
 ci oa0b (.ld1 xa0a),
 ci oa0c (.lkp (.cell .str) (.agg [vz, ve, vz, vz, ve]) xa09 xa0b true),
 ci oa08 (.mv xa0c),
 ci oa0d (.ext xa08 0),
 ci oa0e (.ext xa08 1),
 ci oa06 (.alloc 35 [vz, ve, vz, vz, ve]),
 ci none (.st 5 xa06 xa0d),
 ci oa07 (.mv xa0e)]) (.seq (.reg [
 ci oa0f (.mv xa07)]) (.cond xa0f (.dreg [
 ⟨0, ci oa10 (.mv xa00), .pur, 0⟩,
 ⟨1, ci oa11 (.nilc xa10), .pur, 0⟩,
 ⟨2, ci oa12 (.fa xa11 3), .pur, 0⟩,
 ⟨3, ci oa13 (.fa xa05 2), .pur, 0⟩,
 ⟨4, ci oa14 (.ld1 xa13), .rd, 0⟩,
 ⟨5, ci oa15 (.fa xa05 3), .pur, 0⟩,
 ⟨6, ci oa16 (.ld1 xa15), .rd, 0⟩,
 ⟨7, ci oa17 (.call fn30 [xa12, xa14, xa16, (ki 13)]), .ev, 0⟩]) .skip))) (.reg [
 ci oa18 (.mv xa01),
 ci oa19 (.fa xa05 1),
 ci oa1a (.ld1 xa19),
 ci oa1b (.ldn 5 xa05),
 ci none (.mupd (.cell .str) xa18 xa1a xa1b)]))), []⟩
def cf117 : CF := ⟨117, true, (.seq (.reg [
 ci oa07 (.box 44 6 xa02),
 ci oa08 (.box 35 5 xa03)]) (.dreg [
 ⟨0, ci oa0a (.mv xa00), .pur, 0⟩,
 ⟨1, ci oa0b (.mv xa00), .pur, 0⟩,
 ⟨2, ci oa0c (.nilc xa0b), .pur, 0⟩,
 ⟨3, ci oa0d (.fa xa0c 9), .pur, 0⟩,
 ⟨4, ci oa0e (.ld1 xa0d), .rd, 1⟩,
 ⟨5, ci oa0f (.mv xa01), .pur, 0⟩,
 ⟨6, ci oa10 (.fa xa07 3), .pur, 0⟩,
 ⟨7, ci oa11 (.ld1 xa10), .rd, 0⟩,
 ⟨8, ci oa12 (.fa xa07 4), .pur, 0⟩,
 ⟨9, ci oa13 (.ld1 xa12), .rd, 0⟩,
 ⟨10, ci oa14 (.mv xa04), .pur, 0⟩,
 ⟨11, ci oa15 (.ldn 5 xa08), .rd, 0⟩,
 ⟨12, ci oa16 (.build [vz, vz, ve, (.bool false), vz, ve, vz, vz, ve] [(0, 1, xa0f), (1, 1, xa11), (2, 1, xa13), (3, 1, xa14), (4, 5, xa15)]), .pur, 0⟩,
 ⟨13, ci oa17 (.bslice 46 9 1 [vz, vz, ve, (.bool false), vz, ve, vz, vz, ve] [(0, xa16)]), .ev, 0⟩,
 ⟨14, ci oa18 (.append 46 9 96 xa0e xa17), .ev, 1⟩,
 ⟨15, ci oa19 (.nilc xa0a), .pur, 0⟩,
 ⟨16, ci oa1a (.fa xa19 9), .pur, 0⟩,
 ⟨17, ci none (.st 1 xa1a xa18), .ev, 2⟩])), []⟩
def cf118 : CF := ⟨118, true, (.seq (.reg [
 ci oa08 (.alloc 35 [vz, ve, vz, vz, ve]),
 ci oa09 (.mv kf)]) (.seq (.seq (.reg [
 ci oa0f (.mv xa03),
 ci oa10 (.mv xa02),
 ci oa11 (.call fn163 [xa0f, xa10]),
 ci oa0e (.mv xa11),
 ci oa12 (.ext xa0e 0),
 ci oa13 (.ext xa0e 1),
 ci oa0a (.alloc 35 [vz, ve, vz, vz, ve]),
 ci none (.st 5 xa0a xa12),
 ci oa0b (.mv xa13)]) (.seq (.reg [
 ci oa14 (.mv xa0b)]) (.cond xa14 (.seq (.reg [
 ci oa15 (.ldn 5 xa0a),
 ci none (.st 5 xa08 xa15),
 ci oa09 (.mv kt)]) .ret) .skip))) (.seq (.seq (.reg [
 ci oa16 (.mv xa00),
 ci oa17 (.nilc xa16),
 ci oa18 (.fa xa17 1),
 ci oa19 (.ld1 xa18),
 ci oa1a (.mv xa01),
 ci oa1b (.ia 6 xa19 xa1a),
 ci oa1c (.fa xa1b 5),
 ci oa1d (.ld1 xa1c),
 ci oa1e (.len 1 xa1d),
 ci oa1f (.mv (ki 0))]) (.block 0 (.loop (.seq (.reg [
 ci oa20 (.lss xa1f xa1e)]) (.seq (.cond xa20 .skip (.exit 0)) (.seq (.block 1 (.seq (.reg [
 ci oa21 (.ia 6 xa1d xa1f),
 ci oa22 (.ldn 6 xa21),
 ci oa0d (.alloc 44 [vz, vz, vz, vz, ve, .nils]),
 ci none (.st 6 xa0d xa22)]) (.seq (.reg [
 ci oa23 (.fa xa0d 0),
 ci oa24 (.ld1 xa23),
 ci oa25 (.eql (.cell (.int .i64)) xa24 (ki 2)),
 ci oa26 (.mv xa25),
 cg oa27 ta26 true (.fa xa0d 4),
 cg oa28 ta26 true (.ld1 xa27),
 cg oa29 ta26 true (.mv xa02),
 cg oa2a ta26 true (.eql (.cell .str) xa28 xa29),
 ci oa2b (.pick xa26 xa2a kf)]) (.cond xa2b (.seq (.reg [
 ci oa2c (.mv xa02),
 ci oa2d (.mv xa01),
 ci oa2e (.fa xa0d 3),
 ci oa2f (.ld1 xa2e),
 ci oa30 (.mv xa02),
 ci oa31 (.build [vz, ve, vz, vz, ve] [(0, 1, (ki 1)), (1, 1, xa2c), (2, 1, xa2d), (3, 1, xa2f), (4, 1, xa30)]),
 ci none (.st 5 xa08 xa31),
 ci oa09 (.mv kt)]) .ret) .skip)))) (.reg [
 ci oa32 (.add xa1f (ki 1)),
 ci oa1f (.mv xa32)]))))))) (.seq (.reg [
 ci oa33 (.mv xa00),
 ci oa34 (.mv xa00),
 ci oa35 (.nilc xa34),
 ci oa36 (.fa xa35 2),
 ci oa37 (.ld1 xa36),
 ci oa38 (.mv xa01),
 ci oa39 (.ia 1 xa37 xa38),
 ci oa3a (.ld1 xa39),
 ci oa3b (.mv xa02),
 ci oa3c (.call fn113 [xa33, xa3a, xa3b]),
 ci oa3d (.ext xa3c 0),
 ci oa3e (.ext xa3c 1),
 ci none (.st 5 xa08 xa3d),
 ci oa09 (.mv xa3e)]) .ret)))), [.cell 5 true ta08, .tmp ta09]⟩
def cf119 : CF := ⟨119, true, (.seq (.reg [
 ci oa04 (.box 39 3 xa00)]) (.seq (.dreg [
 ⟨0, ci oa07 (.ld1 xa01), .rd, 9⟩,
 ⟨1, ci oa08 (.nilc xa07), .pur, 0⟩,
 ⟨2, ci oa09 (.fa xa08 1), .pur, 0⟩,
 ⟨3, ci oa0a (.ld1 xa09), .rd, 9⟩,
 ⟨4, ci oa0b (.ldn 3 xa04), .rd, 9⟩,
 ⟨5, ci oa0c (.lkp (.strct [(.int .i64), .str, .str]) .nils xa0a xa0b false), .rd, 9⟩,
 ⟨6, ci oa0d (.len 1 xa0c), .rd, 9⟩,
 ⟨7, ci oa0e (.mv (ki 0)), .pur, 0⟩]) (.block 0 (.loop (.seq (.reg [
 ci oa0f (.lss xa0e xa0d)]) (.seq (.cond xa0f .skip (.exit 0)) (.seq (.block 1 (.seq (.reg [
 ci oa10 (.ia 8 xa0c xa0e),
 ci oa11 (.ldn 8 xa10),
 ci oa06 (.alloc 143 [vz, ve, vz, vz, ve, vz, ve, ve]),
 ci none (.st 8 xa06 xa11)]) (.seq (.seq (.reg [
 ci oa12 (.fa xa06 5),
 ci oa13 (.fa xa12 0),
 ci oa14 (.ld1 xa13),
 ci oa15 (.neq (.cell (.int .i64)) xa14 (ki 5))]) (.cond xa15 (.exit 1) .skip)) (.seq (.dreg [
 ⟨0, ci oa16 (.ld1 xa02), .rd, 0⟩,
 ⟨1, ci oa17 (.fa xa06 5), .pur, 0⟩,
 ⟨2, ci oa18 (.ldn 3 xa17), .rd, 0⟩,
 ⟨3, ci oa19 (.lkp (.strct [(.int .i64), .str, .str]) vz xa16 xa18 false), .rd, 1⟩,
 ⟨4, ci oa1a (.add xa19 (ki 1)), .pur, 0⟩,
 ⟨5, ci oa1b (.ment (.strct [(.int .i64), .str, .str]) vz xa16 xa18), .ev, 0⟩,
 ⟨6, ci oa1c (.ext xa1b 1), .pur, 0⟩,
 ⟨7, ci none (.estore xa16 xa1c xa1a), .ev, 1⟩]) (.seq (.reg [
 ci oa1d (.ld1 xa02),
 ci oa1e (.fa xa06 5),
 ci oa1f (.ldn 3 xa1e),
 ci oa20 (.lkp (.strct [(.int .i64), .str, .str]) vz xa1d xa1f false),
 ci oa21 (.eql (.cell (.int .i64)) xa20 (ki 1))]) (.cond xa21 (.reg [
 ci oa22 (.ld1 xa03),
 ci oa23 (.fa xa06 5),
 ci oa24 (.ldn 3 xa23),
 ci oa25 (.callv xa22 [xa24])]) .skip)))))) (.reg [
 ci oa26 (.add xa0e (ki 1)),
 ci oa0e (.mv xa26)])))))))), []⟩
def cf120 : CF := ⟨120, true, (.seq (.reg [
 ci oa02 (.alloc 39 [vz, ve, ve])]) (.seq (.reg [
 ci oa03 (.bslice 9 1 4 [ve] [(0, (ks 3 7630441)), (1, (ks 4 1819242338)), (2, (ks 6 113723913172083)), (3, (ks 7 14696572267752550))]),
 ci oa04 (.mv xa00),
 ci oa05 (.call fn109 [xa03, xa04]),
 ci oa06 (.add (ki 1) xa05),
 ci oa07 (.build [vz, ve, ve] [(0, 1, xa06)]),
 ci none (.st 3 xa02 xa07)]) .ret)), [.cell 3 true ta02]⟩
def cf121 : CF := ⟨121, true, (.seq (.reg [
 ci oa06 (.alloc 46 [vz, vz, ve, (.bool false), vz, ve, vz, vz, ve]),
 ci oa07 (.mv kf)]) (.seq (.seq (.reg [
 ci oa0a (.mv xa00),
 ci oa0b (.call fn17 [xa0a]),
 ci oa0c (.len 1 xa0b),
 ci oa0d (.mv (ki 0))]) (.block 0 (.loop (.seq (.reg [
 ci oa0e (.lss xa0d xa0c)]) (.seq (.cond xa0e .skip (.exit 0)) (.seq (.block 1 (.seq (.reg [
 ci oa0f (.ia 9 xa0b xa0d),
 ci oa10 (.ldn 9 xa0f),
 ci oa09 (.alloc 46 [vz, vz, ve, (.bool false), vz, ve, vz, vz, ve]),
 ci none (.st 9 xa09 xa10)]) (.seq (.reg [
 ci oa11 (.fa xa09 0),
 ci oa12 (.ld1 xa11),
 ci oa13 (.mv xa01),
 ci oa14 (.eql (.cell (.int .i64)) xa12 xa13),
 ci oa15 (.mv xa14),
 cg oa16 ta15 true (.fa xa09 1),
 cg oa17 ta15 true (.ld1 xa16),
 cg oa18 ta15 true (.mv xa02),
 cg oa19 ta15 true (.eql (.cell (.int .i64)) xa17 xa18),
 ci oa1a (.pick xa15 xa19 kf)]) (.cond xa1a (.seq (.reg [
 ci oa1b (.ldn 9 xa09),
 ci none (.st 9 xa06 xa1b),
 ci oa07 (.mv kt)]) .ret) .skip)))) (.reg [
 ci oa1c (.add xa0d (ki 1)),
 ci oa0d (.mv xa1c)]))))))) (.seq (.reg [
 ci oa1d (.build [vz, vz, ve, (.bool false), vz, ve, vz, vz, ve] []),
 ci none (.st 9 xa06 xa1d),
 ci oa07 (.mv kf)]) .ret))), [.cell 9 true ta06, .tmp ta07]⟩
def cf122 : CF := ⟨122, true, (.seq (.reg [
 ci oa02 (.mv kf)]) (.seq (.reg [
 ci oa03 (.mv xa00),
 ci oa04 (.call fn141 [xa03]),
 ci oa05 (.mv xa04),
 cg oa06 ta05 true (.mv xa00),
 cg oa07 ta05 true (.ixs xa06 (ki 0)),
 cg oa08 ta05 true (.call fn99 [(ks 26 145185252156725711116548972589421902110145349405709435924595265), xa07]),
 cg oa09 ta05 true (.geq xa08 (ki 0)),
 ci oa0a (.pick xa05 xa09 kf),
 ci oa02 (.mv xa0a)]) .ret)), [.tmp ta02]⟩
def cf123 : CF := ⟨123, true, (.seq (.reg [
 ci oa01 (.box 81 4 xa00),
 ci oa02 (.mv kf)]) (.seq (.reg [
 ci oa03 (.fa xa01 3),
 ci oa04 (.ld1 xa03),
 ci oa05 (.not xa04),
 ci oa06 (.mv xa05),
 cg oa07 ta06 true (.fa xa01 0),
 cg oa08 ta06 true (.fa xa07 0),
 cg oa09 ta06 true (.ld1 xa08),
 cg oa0a ta06 true (.neq (.cell (.int .i64)) xa09 (ki 0)),
 ci oa0b (.pick xa06 xa0a kf),
 ci oa02 (.mv xa0b)]) .ret)), [.tmp ta02]⟩
def cf124 : CF := ⟨124, true, (.seq (.reg [
 ci oa03 (.box 44 6 xa01),
 ci oa04 (.alloc 81 [vz, ve, ve, (.bool false)])]) (.seq (.seq (.reg [
 ci oa05 (.fa xa03 0),
 ci oa06 (.ld1 xa05)]) (.block 0 (.seq (.reg [
 ci oa08 (.eql (.cell (.int .i64)) xa06 (ki 21)),
 ci oa07 (.mv xa08)]) (.cond xa07 (.seq (.reg [
 ci oa09 (.call fn78 [(ki 1)]),
 ci none (.st 4 xa04 xa09)]) .ret) (.seq (.reg [
 ci oa0b (.eql (.cell (.int .i64)) xa06 (ki 22)),
 ci oa0a (.mv xa0b)]) (.cond xa0a (.seq (.reg [
 ci oa0c (.call fn78 [(ki 4)]),
 ci none (.st 4 xa04 xa0c)]) .ret) (.seq (.reg [
 ci oa0e (.eql (.cell (.int .i64)) xa06 (ki 23)),
 ci oa0d (.mv xa0e)]) (.cond xa0d (.seq (.reg [
 ci oa0f (.call fn78 [(ki 3)]),
 ci none (.st 4 xa04 xa0f)]) .ret) (.seq (.reg [
 ci oa11 (.eql (.cell (.int .i64)) xa06 (ki 24)),
 ci oa10 (.mv xa11)]) (.cond xa10 (.seq (.reg [
 ci oa12 (.call fn78 [(ki 2)]),
 ci none (.st 4 xa04 xa12)]) .ret) (.seq (.reg [
 ci oa14 (.eql (.cell (.int .i64)) xa06 (ki 25)),
 ci oa13 (.mv xa14)]) (.cond xa13 (.seq (.reg [
 ci oa15 (.mv xa00),
 ci oa16 (.ldn 6 xa03),
 ci oa17 (.call fn164 [xa15, xa16]),
 ci none (.st 4 xa04 xa17)]) .ret) (.seq (.reg [
 ci oa19 (.eql (.cell (.int .i64)) xa06 (ki 33)),
 ci oa18 (.mv xa19)]) (.cond xa18 (.seq (.reg [
 ci oa1a (.mv xa00),
 ci oa1b (.fa xa03 5),
 ci oa1c (.ld1 xa1b),
 ci oa1d (.ia 6 xa1c (ki 0)),
 ci oa1e (.ldn 6 xa1d),
 ci oa1f (.call fn75 [xa1a, xa1e]),
 ci none (.st 4 xa04 xa1f)]) .ret) (.seq (.reg [
 ci oa21 (.eql (.cell (.int .i64)) xa06 (ki 30)),
 ci oa20 (.mv xa21)]) (.cond xa20 (.seq (.reg [
 ci oa22 (.mv xa00),
 ci oa23 (.ldn 6 xa03),
 ci oa24 (.call fn165 [xa22, xa23]),
 ci none (.st 4 xa04 xa24)]) .ret) (.seq (.reg [
 ci oa26 (.eql (.cell (.int .i64)) xa06 (ki 31)),
 ci oa25 (.mv xa26)]) (.cond xa25 (.seq (.reg [
 ci oa27 (.mv xa00),
 ci oa28 (.ldn 6 xa03),
 ci oa29 (.call fn166 [xa27, xa28]),
 ci none (.st 4 xa04 xa29)]) .ret) (.seq (.reg [
 ci oa2b (.eql (.cell (.int .i64)) xa06 (ki 26)),
 ci oa2a (.mv xa2b)]) (.cond xa2a (.seq (.reg [
 ci oa2c (.mv xa00),
 ci oa2d (.ldn 6 xa03),
 ci oa2e (.call fn167 [xa2c, xa2d]),
 ci none (.st 4 xa04 xa2e)]) .ret) (.seq (.reg [
 ci oa30 (.eql (.cell (.int .i64)) xa06 (ki 27)),
 ci oa2f (.mv xa30)]) (.cond xa2f (.seq (.reg [
 ci oa31 (.mv xa00),
 ci oa32 (.ldn 6 xa03),
 ci oa33 (.call fn168 [xa31, xa32]),
 ci none (.st 4 xa04 xa33)]) .ret) (.seq (.reg [
 ci oa35 (.eql (.cell (.int .i64)) xa06 (ki 28)),
 ci oa34 (.mv xa35)]) (.cond xa34 (.seq (.reg [
 ci oa36 (.mv xa00),
 ci oa37 (.ldn 6 xa03),
 ci oa38 (.call fn169 [xa36, xa37]),
 ci none (.st 4 xa04 xa38)]) .ret) .skip)))))))))))))))))))))))) (.seq (.reg [
 ci oa39 (.mv xa00),
 ci oa3a (.ldn 6 xa03),
 ci oa3b (.call fn170 [xa39, xa3a]),
 ci none (.st 4 xa04 xa3b)]) .ret))), [.cell 4 true ta04]⟩
def cf125 : CF := ⟨125, true, (.seq (.reg [
 ci oa04 (.mv kf)]) (.seq (.reg [
 ci oa05 (.mv xa00),
 ci oa06 (.mv xa01),
 ci oa07 (.call fn171 [xa05, xa06]),
 ci oa08 (.geq xa07 (ki 0)),
 ci oa04 (.mv xa08)]) .ret)), [.tmp ta04]⟩
def cf126 : CF := ⟨126, true, (.seq (.reg [
 ci oa03 (.box 44 6 xa00),
 ci oa04 (.mv kf)]) (.seq (.reg [
 ci oa05 (.ldn 6 xa03),
 ci oa06 (.ld1 xa01),
 ci oa07 (.ld1 xa02),
 ci oa08 (.call fn79 [xa05, xa06, xa07]),
 ci oa04 (.mv xa08)]) .ret)), [.tmp ta04]⟩
def cf132 : CF := ⟨132, true, (.seq (.reg [
 ci oa04 (.mv kf)]) (.seq (.reg [
 ci oa05 (.mv xa00),
 ci oa06 (.len 0 xa05),
 ci oa07 (.mv xa01),
 ci oa08 (.len 0 xa07),
 ci oa09 (.geq xa06 xa08),
 ci oa0a (.mv xa09),
 cg oa0b ta0a true (.mv xa00),
 cg oa0c ta0a true (.mv xa01),
 cg oa0d ta0a true (.len 0 xa0c),
 cg oa0e ta0a true (.slStr xa0b none (some xa0d)),
 cg oa0f ta0a true (.mv xa01),
 cg oa10 ta0a true (.eql (.cell .str) xa0e xa0f),
 ci oa11 (.pick xa0a xa10 kf),
 ci oa04 (.mv xa11)]) .ret)), [.tmp ta04]⟩
def cf133 : CF := ⟨133, true, (.seq (.reg [
 ci oa04 (.mv (ki 0))]) (.seq (.reg [
 ci oa0e (.mv xa01),
 ci oa0f (.len 0 xa0e),
 ci oa05 (.mv xa0f)]) (.seq (.block 0 (.seq (.reg [
 ci oa11 (.mv xa05),
 ci oa12 (.eql (.cell (.int .i64)) xa11 (ki 0)),
 ci oa13 (.mv xa12),
 cg oa14 ta13 false (.mv xa01),
 cg oa15 ta13 false (.mv xa00),
 cg oa16 ta13 false (.eql (.cell .str) xa14 xa15),
 ci oa17 (.pick xa13 kt xa16),
 ci oa10 (.mv xa17)]) (.cond xa10 (.seq (.reg [
 ci oa04 (.mv (ki 0))]) .ret) (.seq (.reg [
 ci oa19 (.mv xa05),
 ci oa1a (.eql (.cell (.int .i64)) xa19 (ki 1)),
 ci oa18 (.mv xa1a)]) (.cond xa18 (.seq (.reg [
 ci oa1b (.mv xa00),
 ci oa1c (.mv xa01),
 ci oa1d (.ixs xa1c (ki 0)),
 ci oa1e (.call fn138 [xa1b, xa1d]),
 ci oa04 (.mv xa1e)]) .ret) (.seq (.reg [
 ci oa20 (.mv xa05),
 ci oa21 (.mv xa00),
 ci oa22 (.len 0 xa21),
 ci oa23 (.geq xa20 xa22),
 ci oa1f (.mv xa23)]) (.cond xa1f (.seq (.reg [
 ci oa04 (.mv (.k (.i (.negSucc 0))))]) .ret) (.seq (.reg [
 ci oa25 (.mv xa05),
 ci oa26 (.ld1 (.k (.ptr ⟨.d15, .d0, .d0, .d0⟩ 0))),
 ci oa27 (.leq xa25 xa26),
 ci oa28 (.mv xa27),
 cg oa29 ta28 true (.mv xa00),
 cg oa2a ta28 true (.len 0 xa29),
 cg oa2b ta28 true (.leq xa2a (ki 64)),
 ci oa2c (.pick xa28 xa2b kf),
 ci oa24 (.mv xa2c)]) (.cond xa24 (.seq (.reg [
 ci oa2d (.mv xa00),
 ci oa2e (.mv xa01),
 ci oa2f (.extc .none [xa2d, xa2e]),
 ci oa04 (.mv xa2f)]) .ret) .skip))))))))) (.seq (.reg [
 ci oa30 (.mv xa01),
 ci oa31 (.ixs xa30 (ki 0)),
 ci oa06 (.mv xa31)]) (.seq (.reg [
 ci oa32 (.mv xa01),
 ci oa33 (.ixs xa32 (ki 1)),
 ci oa07 (.mv xa33)]) (.seq (.reg [
 ci oa08 (.mv (ki 0))]) (.seq (.reg [
 ci oa34 (.mv xa00),
 ci oa35 (.len 0 xa34),
 ci oa36 (.mv xa05),
 ci oa37 (.sub xa35 xa36),
 ci oa38 (.add xa37 (ki 1)),
 ci oa09 (.mv xa38)]) (.seq (.reg [
 ci oa0a (.mv (ki 0))]) (.seq (.block 1 (.loop (.seq (.seq (.reg [
 ci oa39 (.mv xa08),
 ci oa3a (.mv xa09),
 ci oa3b (.lss xa39 xa3a)]) (.cond xa3b .skip (.exit 1))) (.block 2 (.seq (.seq (.reg [
 ci oa3c (.mv xa00),
 ci oa3d (.mv xa08),
 ci oa3e (.ixs xa3c xa3d),
 ci oa3f (.mv xa06),
 ci oa40 (.neq (.cell (.int .u8)) xa3e xa3f)]) (.cond xa40 (.seq (.reg [
 ci oa41 (.mv xa00),
 ci oa42 (.mv xa08),
 ci oa43 (.add xa42 (ki 1)),
 ci oa44 (.mv xa09),
 ci oa45 (.slStr xa41 (some xa43) (some xa44)),
 ci oa46 (.mv xa06),
 ci oa47 (.call fn138 [xa45, xa46]),
 ci oa0b (.mv xa47)]) (.seq (.seq (.reg [
 ci oa48 (.mv xa0b),
 ci oa49 (.lss xa48 (ki 0))]) (.cond xa49 (.seq (.reg [
 ci oa04 (.mv (.k (.i (.negSucc 0))))]) .ret) .skip)) (.reg [
 ci oa4a (.mv xa08),
 ci oa4b (.mv xa0b),
 ci oa4c (.add xa4b (ki 1)),
 ci oa4d (.add xa4a xa4c),
 ci oa08 (.mv xa4d)]))) .skip)) (.seq (.seq (.reg [
 ci oa4e (.mv xa00),
 ci oa4f (.mv xa08),
 ci oa50 (.add xa4f (ki 1)),
 ci oa51 (.ixs xa4e xa50),
 ci oa52 (.mv xa07),
 ci oa53 (.eql (.cell (.int .u8)) xa51 xa52),
 ci oa54 (.mv xa53),
 cg oa55 ta54 true (.mv xa00),
 cg oa56 ta54 true (.mv xa08),
 cg oa57 ta54 true (.mv xa08),
 cg oa58 ta54 true (.mv xa05),
 cg oa59 ta54 true (.add xa57 xa58),
 cg oa5a ta54 true (.slStr xa55 (some xa56) (some xa59)),
 cg oa5b ta54 true (.mv xa01),
 cg oa5c ta54 true (.eql (.cell .str) xa5a xa5b),
 ci oa5d (.pick xa54 xa5c kf)]) (.cond xa5d (.seq (.reg [
 ci oa5e (.mv xa08),
 ci oa04 (.mv xa5e)]) .ret) .skip)) (.seq (.reg [
 ci oa5f (.mv xa08),
 ci oa60 (.add xa5f (ki 1)),
 ci oa08 (.mv xa60)]) (.seq (.reg [
 ci oa61 (.mv xa0a),
 ci oa62 (.add xa61 (ki 1)),
 ci oa0a (.mv xa62)]) (.seq (.reg [
 ci oa63 (.mv xa05),
 ci oa64 (.ld1 (.k (.ptr ⟨.d15, .d0, .d0, .d0⟩ 0))),
 ci oa65 (.leq xa63 xa64),
 ci oa66 (.mv xa65),
 cg oa67 ta66 true (.mv xa0a),
 cg oa68 ta66 true (.mv xa08),
 cg oa69 ta66 true (.call fn174 [xa68]),
 cg oa6a ta66 true (.gtr xa67 xa69),
 ci oa6b (.pick xa66 xa6a kf)]) (.cond xa6b (.seq (.reg [
 ci oa6c (.mv xa00),
 ci oa6d (.mv xa08),
 ci oa6e (.slStr xa6c (some xa6d) none),
 ci oa6f (.mv xa01),
 ci oa70 (.extc .none [xa6e, xa6f]),
 ci oa0c (.mv xa70)]) (.seq (.seq (.reg [
 ci oa71 (.mv xa0c),
 ci oa72 (.geq xa71 (ki 0))]) (.cond xa72 (.seq (.reg [
 ci oa73 (.mv xa0c),
 ci oa74 (.mv xa08),
 ci oa75 (.add xa73 xa74),
 ci oa04 (.mv xa75)]) .ret) .skip)) (.seq (.reg [
 ci oa04 (.mv (.k (.i (.negSucc 0))))]) .ret))) (.seq (.reg [
 ci oa76 (.mv xa05),
 ci oa77 (.ld1 (.k (.ptr ⟨.d15, .d0, .d0, .d0⟩ 0))),
 ci oa78 (.gtr xa76 xa77),
 ci oa79 (.mv xa78),
 cg oa7a ta79 true (.mv xa0a),
 cg oa7b ta79 true (.mv xa08),
 cg oa7c ta79 true (.shr xa7b (.k (.int .u64 (.ofNat 4)))),
 cg oa7d ta79 true (.add (ki 4) xa7c),
 cg oa7e ta79 true (.geq xa7a xa7d),
 ci oa7f (.pick xa79 xa7e kf),
 ci oa80 (.mv xa7f),
 cg oa81 ta80 true (.mv xa08),
 cg oa82 ta80 true (.mv xa09),
 cg oa83 ta80 true (.lss xa81 xa82),
 ci oa84 (.pick xa80 xa83 kf)]) (.cond xa84 (.seq (.reg [
 ci oa85 (.mv xa00),
 ci oa86 (.mv xa08),
 ci oa87 (.slStr xa85 (some xa86) none),
 ci oa88 (.mv xa01),
 ci oa89 (.call fn175 [xa87, xa88]),
 ci oa0d (.mv xa89)]) (.seq (.seq (.reg [
 ci oa8a (.mv xa0d),
 ci oa8b (.lss xa8a (ki 0))]) (.cond xa8b (.seq (.reg [
 ci oa04 (.mv (.k (.i (.negSucc 0))))]) .ret) .skip)) (.seq (.reg [
 ci oa8c (.mv xa08),
 ci oa8d (.mv xa0d),
 ci oa8e (.add xa8c xa8d),
 ci oa04 (.mv xa8e)]) .ret))) .skip)))))))))))) (.seq (.reg [
 ci oa04 (.mv (.k (.i (.negSucc 0))))]) .ret)))))))))), [.tmp ta04]⟩
def cf134 : CF := ⟨134, true, (.seq (.reg [
 ci oa04 (.mv kf)]) (.seq (.reg [
 ci oa05 (.mv xa00),
 ci oa06 (.len 0 xa05),
 ci oa07 (.mv xa01),
 ci oa08 (.len 0 xa07),
 ci oa09 (.geq xa06 xa08),
 ci oa0a (.mv xa09),
 cg oa0b ta0a true (.mv xa00),
 cg oa0c ta0a true (.mv xa00),
 cg oa0d ta0a true (.len 0 xa0c),
 cg oa0e ta0a true (.mv xa01),
 cg oa0f ta0a true (.len 0 xa0e),
 cg oa10 ta0a true (.sub xa0d xa0f),
 cg oa11 ta0a true (.slStr xa0b (some xa10) none),
 cg oa12 ta0a true (.mv xa01),
 cg oa13 ta0a true (.eql (.cell .str) xa11 xa12),
 ci oa14 (.pick xa0a xa13 kf),
 ci oa04 (.mv xa14)]) .ret)), [.tmp ta04]⟩
def cf137 : CF := ⟨137, true, (.seq (.reg [
 ci oa02 (.mv (.k (.int .i32 (.ofNat 0)))),
 ci oa03 (.mv (ki 0))]) (.seq (.seq (.reg [
 ci oa04 (.mv xa00),
 ci oa05 (.neq (.cell .str) xa04 (ks 0 0)),
 ci oa06 (.mv xa05),
 cg oa07 ta06 true (.mv xa00),
 cg oa08 ta06 true (.ixs xa07 (ki 0)),
 cg oa09 ta06 true (.lss xa08 (.k (.u8 128))),
 ci oa0a (.pick xa06 xa09 kf)]) (.cond xa0a (.seq (.reg [
 ci oa0b (.mv xa00),
 ci oa0c (.ixs xa0b (ki 0)),
 ci oa0d (.cint .i32 xa0c),
 ci oa02 (.mv xa0d),
 ci oa03 (.mv (ki 1))]) .ret) (.reg [
 ci oa0f (.mv xa00),
 ci oa10 (.call fn177 [xa0f]),
 ci oa0e (.mv xa10),
 ci oa11 (.ext xa0e 0),
 ci oa12 (.ext xa0e 1),
 ci oa02 (.mv xa11),
 ci oa03 (.mv xa12)]))) .ret)), [.tmp ta02, .tmp ta03]⟩
def cf138 : CF := ⟨138, true, (.seq (.reg [
 ci oa04 (.mv (ki 0))]) (.seq (.reg [
 ci oa05 (.mv xa00),
 ci oa06 (.mv xa01),
 ci oa07 (.extc .idxByteStr [xa05, xa06]),
 ci oa04 (.mv xa07)]) .ret)), [.tmp ta04]⟩
def cf139 : CF := ⟨139, true, (.seq (.reg [
 ci oa02 (.mv (ki 0))]) (.seq (.seq (.reg [
 ci oa03 (.mv xa00),
 ci oa04 (.eql (.cell .str) xa03 (ks 0 0)),
 ci oa05 (.mv xa04),
 cg oa06 ta05 false (.mv xa00),
 cg oa07 ta05 false (.ixs xa06 (ki 0)),
 cg oa08 ta05 false (.call fn99 [(ks 53 16157843656543206341400046713952968888398790991856301506895559764951313024109301289348083826905017653640330611322940812530238017), xa07]),
 cg oa09 ta05 false (.lss xa08 (ki 0)),
 ci oa0a (.pick xa05 kt xa09)]) (.cond xa0a (.seq (.reg [
 ci oa02 (.mv (ki 0))]) .ret) .skip)) (.seq (.reg [
 ci oa0b (.mv xa00),
 ci oa0c (.len 0 xa0b),
 ci oa0d (.mv xa00),
 ci oa0e (.call fn179 [xa0d, (ks 63 11706379785045758016460556960253145095770499060899962359169258093980610824843989617873854766953088234131706554366822462920482075081893450113044812350017)]),
 ci oa0f (.len 0 xa0e),
 ci oa10 (.sub xa0c xa0f),
 ci oa02 (.mv xa10)]) .ret))), [.tmp ta02]⟩
def cf140 : CF := ⟨140, true, (.seq (.reg [
 ci oa02 (.mv kf)]) (.seq (.reg [
 ci oa03 (.call fn180 []),
 ci oa04 (.mv xa00),
 ci oa05 (.call fn59 [xa03, xa04]),
 ci oa02 (.mv xa05)]) .ret)), [.tmp ta02]⟩
def cf141 : CF := ⟨141, true, (.seq (.reg [
 ci oa02 (.mv kf)]) (.seq (.reg [
 ci oa03 (.mv xa00),
 ci oa04 (.neq (.cell .str) xa03 (ks 0 0)),
 ci oa05 (.mv xa04),
 cg oa06 ta05 true (.mv xa00),
 cg oa07 ta05 true (.call fn139 [xa06]),
 cg oa08 ta05 true (.mv xa00),
 cg oa09 ta05 true (.len 0 xa08),
 cg oa0a ta05 true (.eql (.cell (.int .i64)) xa07 xa09),
 ci oa0b (.pick xa05 xa0a kf),
 ci oa0c (.mv xa0b),
 cg oa0d ta0c true (.mv xa00),
 cg oa0e ta0c true (.len 0 xa0d),
 cg oa0f ta0c true (.leq xa0e (ki 40)),
 ci oa10 (.pick xa0c xa0f kf),
 ci oa11 (.mv xa10),
 cg oa12 ta11 true (.mv xa00),
 cg oa13 ta11 true (.neq (.cell .str) xa12 (ks 1 95)),
 ci oa14 (.pick xa11 xa13 kf),
 ci oa15 (.mv xa14),
 cg oa16 ta15 true (.mv xa00),
 cg oa17 ta15 true (.call fn140 [xa16]),
 cg oa18 ta15 true (.not xa17),
 ci oa19 (.pick xa15 xa18 kf),
 ci oa02 (.mv xa19)]) .ret)), [.tmp ta02]⟩
def cf142 : CF := ⟨142, true, (.seq (.reg [
 ci oa02 (.mv (ki 0)),
 ci oa03 (.mv (ki 0))]) (.seq (.reg [
 ci oa09 (.mv xa00),
 ci oa0a (.call fn181 [xa09]),
 ci oa04 (.mv xa0a)]) (.seq (.seq (.reg [
 ci oa0b (.mv xa04),
 ci oa0c (.eql (.cell (.int .i64)) xa0b (ki 0)),
 ci oa0d (.mv xa0c),
 cg oa0e ta0d false (.mv xa00),
 cg oa0f ta0d false (.mv xa04),
 cg oa10 ta0d false (.slStr xa0e (some xa0f) none),
 cg oa11 ta0d false (.call fn100 [xa10, (ks 1 46)]),
 cg oa12 ta0d false (.not xa11),
 ci oa13 (.pick xa0d kt xa12),
 ci oa14 (.mv xa13),
 cg oa15 ta14 false (.mv xa00),
 cg oa16 ta14 false (.mv xa04),
 cg oa17 ta14 false (.add xa16 (ki 1)),
 cg oa18 ta14 false (.slStr xa15 (some xa17) none),
 cg oa19 ta14 false (.call fn181 [xa18]),
 cg oa1a ta14 false (.eql (.cell (.int .i64)) xa19 (ki 0)),
 ci oa1b (.pick xa14 kt xa1a)]) (.cond xa1b (.seq (.reg [
 ci oa1c (.mv xa04),
 ci oa02 (.mv (ki 3)),
 ci oa03 (.mv xa1c)]) .ret) .skip)) (.seq (.reg [
 ci oa1d (.mv xa04),
 ci oa1e (.mv xa00),
 ci oa1f (.mv xa04),
 ci oa20 (.add xa1f (ki 1)),
 ci oa21 (.slStr xa1e (some xa20) none),
 ci oa22 (.call fn181 [xa21]),
 ci oa23 (.add (ki 1) xa22),
 ci oa24 (.add xa1d xa23),
 ci oa04 (.mv xa24)]) (.seq (.seq (.reg [
 ci oa26 (.mv xa00),
 ci oa27 (.mv xa04),
 ci oa28 (.slStr xa26 (some xa27) none),
 ci oa29 (.call fn48 [xa28, (ks 1 101)]),
 ci oa25 (.mv xa29),
 ci oa2a (.ext xa25 0),
 ci oa2b (.ext xa25 1),
 ci oa05 (.mv xa2a),
 ci oa06 (.mv xa2b)]) (.seq (.reg [
 ci oa2c (.mv xa06)]) (.cond xa2c (.seq (.reg [
 ci oa2d (.mv xa05),
 ci oa07 (.mv xa2d)]) (.seq (.seq (.reg [
 ci oa2e (.mv xa07),
 ci oa2f (.neq (.cell .str) xa2e (ks 0 0)),
 ci oa30 (.mv xa2f),
 cg oa31 ta30 true (.mv xa07),
 cg oa32 ta30 true (.ixs xa31 (ki 0)),
 cg oa33 ta30 true (.eql (.cell (.int .u8)) xa32 (.k (.u8 43))),
 cg oa34 ta30 true (.mv xa33),
 cg oa35 ta34 false (.mv xa07),
 cg oa36 ta34 false (.ixs xa35 (ki 0)),
 cg oa37 ta34 false (.eql (.cell (.int .u8)) xa36 (.k (.u8 45))),
 cg oa38 ta30 true (.pick xa34 kt xa37),
 ci oa39 (.pick xa30 xa38 kf)]) (.cond xa39 (.reg [
 ci oa3a (.mv xa07),
 ci oa3b (.slStr xa3a (some (ki 1)) none),
 ci oa07 (.mv xa3b)]) .skip)) (.seq (.reg [
 ci oa3c (.mv xa07),
 ci oa3d (.call fn181 [xa3c]),
 ci oa08 (.mv xa3d)]) (.seq (.reg [
 ci oa3e (.mv xa08),
 ci oa3f (.gtr xa3e (ki 0))]) (.cond xa3f (.reg [
 ci oa40 (.mv xa04),
 ci oa41 (.mv xa05),
 ci oa42 (.len 0 xa41),
 ci oa43 (.add (ki 1) xa42),
 ci oa44 (.mv xa07),
 ci oa45 (.len 0 xa44),
 ci oa46 (.sub xa43 xa45),
 ci oa47 (.mv xa08),
 ci oa48 (.add xa46 xa47),
 ci oa49 (.add xa40 xa48),
 ci oa04 (.mv xa49)]) .skip))))) .skip))) (.seq (.reg [
 ci oa4a (.mv xa04),
 ci oa02 (.mv (ki 4)),
 ci oa03 (.mv xa4a)]) .ret)))))), [.tmp ta02, .tmp ta03]⟩
def cf143 : CF := ⟨143, true, (.seq (.reg [
 ci oa02 (.mv (ki 0)),
 ci oa03 (.mv (ki 0))]) (.seq (.seq (.reg [
 ci oa06 (.mv xa00),
 ci oa07 (.call fn182 [xa06]),
 ci oa08 (.not xa07)]) (.cond xa08 (.seq (.reg [
 ci oa02 (.mv (ki 0)),
 ci oa03 (.mv (ki 4))]) .ret) .skip)) (.seq (.reg [
 ci oa0a (.mv xa00),
 ci oa0b (.call fn183 [xa0a, (ki 10), (ki 64)]),
 ci oa09 (.mv xa0b),
 ci oa0c (.ext xa09 0),
 ci oa0d (.ext xa09 1),
 ci oa04 (.mv xa0c),
 ci oa05 (.mv xa0d)]) (.seq (.seq (.reg [
 ci oa0e (.mv xa05),
 ci oa0f (.neq .iface xa0e (.k .nili))]) (.cond xa0f (.seq (.reg [
 ci oa02 (.mv (ki 0)),
 ci oa03 (.mv (ki 3))]) .ret) .skip)) (.seq (.reg [
 ci oa10 (.mv xa04),
 ci oa02 (.mv xa10),
 ci oa03 (.mv (ki 0))]) .ret))))), [.tmp ta02, .tmp ta03]⟩
def cf144 : CF := ⟨144, true, (.seq (.reg [
 ci oa02 (.mv (.k (.flt .f64 0))),
 ci oa03 (.mv (ki 0))]) (.seq (.block 0 (.seq (.reg [
 ci oa07 (.mv xa00),
 ci oa08 (.len 0 xa07),
 ci oa09 (.gtr xa08 (ki 60)),
 ci oa06 (.mv xa09)]) (.cond xa06 (.seq (.reg [
 ci oa02 (.mv (.k (.flt .f64 0))),
 ci oa03 (.mv (ki 3))]) .ret) (.seq (.reg [
 ci oa0b (.mv xa00),
 ci oa0c (.call fn184 [xa0b]),
 ci oa0d (.not xa0c),
 ci oa0a (.mv xa0d)]) (.cond xa0a (.seq (.reg [
 ci oa02 (.mv (.k (.flt .f64 0))),
 ci oa03 (.mv (ki 4))]) .ret) .skip))))) (.seq (.reg [
 ci oa0f (.mv xa00),
 ci oa10 (.call fn185 [xa0f, (ki 64)]),
 ci oa0e (.mv xa10),
 ci oa11 (.ext xa0e 0),
 ci oa12 (.ext xa0e 1),
 ci oa04 (.mv xa11),
 ci oa05 (.mv xa12)]) (.seq (.seq (.reg [
 ci oa13 (.mv xa05),
 ci oa14 (.neq .iface xa13 (.k .nili))]) (.cond xa14 (.seq (.reg [
 ci oa02 (.mv (.k (.flt .f64 0))),
 ci oa03 (.mv (ki 3))]) .ret) .skip)) (.seq (.reg [
 ci oa15 (.mv xa04),
 ci oa02 (.mv xa15),
 ci oa03 (.mv (ki 0))]) .ret))))), [.tmp ta02, .tmp ta03]⟩
def cf145 : CF := ⟨145, true, (.seq (.reg [
 ci oa02 (.mv (ks 0 0)),
 ci oa03 (.mv (ki 0))]) (.seq (.seq (.reg [
 ci oa09 (.mv xa00),
 ci oa0a (.eql (.cell .str) xa09 (ks 0 0)),
 ci oa0b (.mv xa0a),
 cg oa0c ta0b false (.mv xa00),
 cg oa0d ta0b false (.ixs xa0c (ki 0)),
 cg oa0e ta0b false (.neq (.cell (.int .u8)) xa0d (.k (.u8 34))),
 ci oa0f (.pick xa0b kt xa0e)]) (.cond xa0f (.seq (.reg [
 ci oa02 (.mv (ks 0 0)),
 ci oa03 (.mv (ki 0))]) .ret) .skip)) (.seq (.reg [
 ci oa04 (.alloc 259 [.nilp, .nils])]) (.seq (.seq (.reg [
 ci oa05 (.mv (ki 1))]) (.block 0 (.loop (.seq (.seq (.reg [
 ci oa10 (.mv xa05),
 ci oa11 (.mv xa00),
 ci oa12 (.len 0 xa11),
 ci oa13 (.lss xa10 xa12)]) (.cond xa13 .skip (.exit 0))) (.seq (.block 1 (.seq (.reg [
 ci oa16 (.mv xa00),
 ci oa17 (.mv xa05),
 ci oa18 (.ixs xa16 xa17),
 ci oa06 (.mv xa18)]) (.seq (.block 2 (.seq (.reg [
 ci oa1a (.mv xa06),
 ci oa1b (.eql (.cell (.int .u8)) xa1a (.k (.u8 34))),
 ci oa19 (.mv xa1b)]) (.cond xa19 (.seq (.reg [
 ci oa1c (.call fn186 [xa04]),
 ci oa1d (.mv xa05),
 ci oa1e (.add xa1d (ki 1)),
 ci oa02 (.mv xa1c),
 ci oa03 (.mv xa1e)]) .ret) (.seq (.reg [
 ci oa20 (.mv xa06),
 ci oa21 (.lss xa20 (.k (.u8 32))),
 ci oa22 (.mv xa21),
 cg oa23 ta22 false (.mv xa06),
 cg oa24 ta22 false (.eql (.cell (.int .u8)) xa23 (.k (.u8 127))),
 ci oa25 (.pick xa22 kt xa24),
 ci oa1f (.mv xa25)]) (.cond xa1f (.seq (.reg [
 ci oa02 (.mv (ks 0 0)),
 ci oa03 (.mv (ki 0))]) .ret) (.seq (.reg [
 ci oa27 (.mv xa06),
 ci oa28 (.eql (.cell (.int .u8)) xa27 (.k (.u8 92))),
 ci oa26 (.mv xa28)]) (.cond xa26 (.seq (.reg [
 ci oa2a (.mv xa00),
 ci oa2b (.mv xa05),
 ci oa2c (.add xa2b (ki 1)),
 ci oa2d (.slStr xa2a (some xa2c) none),
 ci oa2e (.call fn187 [xa2d]),
 ci oa29 (.mv xa2e),
 ci oa2f (.ext xa29 0),
 ci oa30 (.ext xa29 1),
 ci oa07 (.mv xa2f),
 ci oa08 (.mv xa30)]) (.seq (.seq (.reg [
 ci oa31 (.mv xa08),
 ci oa32 (.eql (.cell (.int .i64)) xa31 (ki 0))]) (.cond xa32 (.seq (.reg [
 ci oa02 (.mv (ks 0 0)),
 ci oa03 (.mv (ki 0))]) .ret) .skip)) (.seq (.reg [
 ci oa33 (.mv xa07),
 ci oa06 (.mv xa33)]) (.reg [
 ci oa34 (.mv xa05),
 ci oa35 (.mv xa08),
 ci oa36 (.add xa34 xa35),
 ci oa05 (.mv xa36)])))) .skip))))))) (.reg [
 ci oa37 (.mv xa06),
 ci oa38 (.call fn188 [xa04, xa37])])))) (.reg [
 ci oa14 (.mv xa05),
 ci oa15 (.add xa14 (ki 1)),
 ci oa05 (.mv xa15)])))))) (.seq (.reg [
 ci oa02 (.mv (ks 0 0)),
 ci oa03 (.mv (ki 0))]) .ret))))), [.tmp ta02, .tmp ta03]⟩
def cf146 : CF := ⟨146, true, (.seq (.reg [
 ci oa02 (.mv (ki 0))]) (.scope (.seq (.reg [
 ci oa03 (.mv (ki 2))]) (.seq .skip (.seq (.block 0 (.loop (.seq (.seq (.reg [
 ci oa06 (.mv xa03),
 ci oa07 (.gtr xa06 (ki 0))]) (.cond xa07 .skip (.exit 0))) (.seq (.block 1 (.seq (.reg [
 ci oa0a (.call fn94 [(ks 52 38424343451614119781736989432702876688438978010071729573896829520310084750687285382168931224512636659299708396230804926119229)]),
 ci oa0b (.len 1 xa0a),
 ci oa0c (.mv (ki 0))]) (.block 2 (.loop (.seq (.reg [
 ci oa0d (.lss xa0c xa0b)]) (.seq (.cond xa0d .skip (.exit 2)) (.seq (.block 3 (.seq (.reg [
 ci oa0e (.ia 1 xa0a xa0c),
 ci oa0f (.ld1 xa0e),
 ci oa05 (.mv xa0f)]) (.seq (.reg [
 ci oa10 (.mv xa05),
 ci oa11 (.len 0 xa10),
 ci oa12 (.mv xa03),
 ci oa13 (.eql (.cell (.int .i64)) xa11 xa12),
 ci oa14 (.mv xa13),
 cg oa15 ta14 true (.mv xa00),
 cg oa16 ta14 true (.mv xa05),
 cg oa17 ta14 true (.call fn100 [xa15, xa16]),
 ci oa18 (.pick xa14 xa17 kf)]) (.cond xa18 (.exit 0) .skip)))) (.reg [
 ci oa19 (.add xa0c (ki 1)),
 ci oa0c (.mv xa19)])))))))) (.reg [
 ci oa08 (.mv xa03),
 ci oa09 (.sub xa08 (ki 1)),
 ci oa03 (.mv xa09)]))))) (.seq (.reg [
 ci oa1a (.mv xa03),
 ci oa02 (.mv xa1a)]) .ret)))))), [.tmp ta02]⟩
def cf148 : CF := ⟨148, true, (.seq (.reg [
 ci oa02 (.alloc 134 [vz, ve, vz, vz])]) (.seq (.reg [
 ci oa03 (.mv xa00),
 ci oa04 (.nilc xa03),
 ci oa05 (.fa xa04 1),
 ci oa06 (.ld1 xa05),
 ci oa07 (.add xa06 (ki 1)),
 ci oa08 (.nilc xa03),
 ci oa09 (.fa xa08 1),
 ci none (.st 1 xa09 xa07)]) (.seq (.dreg [
 ⟨0, ci oa0a (.mv xa00), .pur, 0⟩,
 ⟨1, ci oa0b (.nilc xa0a), .pur, 0⟩,
 ⟨2, ci oa0c (.fa xa0b 0), .pur, 0⟩,
 ⟨3, ci oa0d (.ld1 xa0c), .rd, 0⟩,
 ⟨4, ci oa0e (.mv xa00), .pur, 0⟩,
 ⟨5, ci oa0f (.nilc xa0e), .pur, 0⟩,
 ⟨6, ci oa10 (.fa xa0f 1), .pur, 0⟩,
 ⟨7, ci oa11 (.ld1 xa10), .rd, 0⟩,
 ⟨8, ci oa12 (.sub xa11 (ki 1)), .pur, 0⟩,
 ⟨9, ci oa13 (.ia 4 xa0d xa12), .pur, 0⟩,
 ⟨10, ci oa14 (.ldn 4 xa13), .rd, 0⟩,
 ⟨11, ci none (.st 4 xa02 xa14), .ev, 0⟩]) .ret))), [.cell 4 true ta02]⟩
def cf149 : CF := ⟨149, true, (.seq (.reg [
 ci oa02 (.alloc 134 [vz, ve, vz, vz])]) (.seq (.dreg [
 ⟨0, ci oa03 (.mv xa00), .pur, 0⟩,
 ⟨1, ci oa04 (.nilc xa03), .pur, 0⟩,
 ⟨2, ci oa05 (.fa xa04 0), .pur, 0⟩,
 ⟨3, ci oa06 (.ld1 xa05), .rd, 0⟩,
 ⟨4, ci oa07 (.mv xa00), .pur, 0⟩,
 ⟨5, ci oa08 (.nilc xa07), .pur, 0⟩,
 ⟨6, ci oa09 (.fa xa08 1), .pur, 0⟩,
 ⟨7, ci oa0a (.ld1 xa09), .rd, 0⟩,
 ⟨8, ci oa0b (.ia 4 xa06 xa0a), .pur, 0⟩,
 ⟨9, ci oa0c (.ldn 4 xa0b), .rd, 0⟩,
 ⟨10, ci none (.st 4 xa02 xa0c), .ev, 0⟩]) .ret)), [.cell 4 true ta02]⟩
def cf150 : CF := ⟨150, true, (.seq (.reg [
 ci oa02 (.mv (ks 0 0)),
 ci oa03 (.mv (ki 0))]) (.seq (.reg [
 ci oa07 (.mv xa00),
 ci oa08 (.call fn145 [xa07]),
 ci oa06 (.mv xa08),
 ci oa09 (.ext xa06 0),
 ci oa0a (.ext xa06 1),
 ci oa04 (.mv xa09),
 ci oa05 (.mv xa0a)]) (.seq (.block 0 (.seq (.reg [
 ci oa0c (.mv xa05),
 ci oa0d (.eql (.cell (.int .i64)) xa0c (ki 0)),
 ci oa0e (.mv xa0d),
 cg oa0f ta0e false (.mv xa05),
 cg oa10 ta0e false (.mv xa00),
 cg oa11 ta0e false (.len 0 xa10),
 cg oa12 ta0e false (.neq (.cell (.int .i64)) xa0f xa11),
 ci oa13 (.pick xa0e kt xa12),
 ci oa14 (.mv xa13),
 cg oa15 ta14 false (.mv xa00),
 cg oa16 ta14 false (.call fn189 [xa15]),
 cg oa17 ta14 false (.not xa16),
 ci oa18 (.pick xa14 kt xa17),
 ci oa0b (.mv xa18)]) (.cond xa0b (.seq (.reg [
 ci oa02 (.mv (ks 0 0)),
 ci oa03 (.mv (ki 4))]) .ret) (.seq (.reg [
 ci oa1a (.mv xa04),
 ci oa1b (.len 0 xa1a),
 ci oa1c (.gtr xa1b (ki 4096)),
 ci oa19 (.mv xa1c)]) (.cond xa19 (.seq (.reg [
 ci oa02 (.mv (ks 0 0)),
 ci oa03 (.mv (ki 3))]) .ret) .skip))))) (.seq (.reg [
 ci oa1d (.mv xa04),
 ci oa02 (.mv xa1d),
 ci oa03 (.mv (ki 0))]) .ret)))), [.tmp ta02, .tmp ta03]⟩
def cf151 : CF := ⟨151, true, (.seq (.reg [
 ci oa0c (.alloc 44 [vz, vz, vz, vz, ve, .nils])]) (.seq (.dreg [
 ⟨0, ci oa0d (.mv xa01), .pur, 0⟩,
 ⟨1, ci oa0e (.mv xa02), .pur, 0⟩,
 ⟨2, ci oa0f (.mv xa00), .pur, 0⟩,
 ⟨3, ci oa10 (.nilc xa0f), .pur, 0⟩,
 ⟨4, ci oa11 (.fa xa10 0), .pur, 0⟩,
 ⟨5, ci oa12 (.ld1 xa11), .rd, 0⟩,
 ⟨6, ci oa13 (.mv xa00), .pur, 0⟩,
 ⟨7, ci oa14 (.nilc xa13), .pur, 0⟩,
 ⟨8, ci oa15 (.fa xa14 1), .pur, 0⟩,
 ⟨9, ci oa16 (.ld1 xa15), .rd, 0⟩,
 ⟨10, ci oa17 (.sub xa16 (ki 1)), .pur, 0⟩,
 ⟨11, ci oa18 (.ia 4 xa12 xa17), .pur, 0⟩,
 ⟨12, ci oa19 (.fa xa18 3), .pur, 0⟩,
 ⟨13, ci oa1a (.ld1 xa19), .rd, 0⟩,
 ⟨14, ci oa1b (.mv xa03), .pur, 0⟩,
 ⟨15, ci oa1c (.mv xa04), .pur, 0⟩,
 ⟨16, ci oa1d (.mv xa05), .pur, 0⟩,
 ⟨17, ci oa1e (.build [vz, vz, vz, vz, ve, .nils] [(0, 1, xa0d), (1, 1, xa0e), (2, 1, xa1a), (3, 1, xa1b), (4, 1, xa1c), (5, 1, xa1d)]), .pur, 0⟩,
 ⟨18, ci none (.st 6 xa0c xa1e), .ev, 0⟩]) .ret)), [.cell 6 true ta0c]⟩
def cf152 : CF := ⟨152, true, (.seq (.reg [
 ci oa05 (.box 132 1 xa00),
 ci oa07 (.box 9 1 xa02),
 ci oa08 (.box 1 1 xa03),
 ci oa09 (.box 185 1 xa04),
 ci oa0a (.mv (.k .nils))]) (.seq (.reg [
 ci oa0b (.alloc 42 [.nils])]) (.seq (.reg [
 ci oa0c (.ld1 xa05),
 ci oa0d (.mv xa01),
 ci oa0e (.ld1 xa07),
 ci oa0f (.mkf fn191 [] [xa05, xa07, xa0b, xa09, xa08]),
 ci oa10 (.call fn190 [xa0c, xa0d, xa0e, xa0f])]) (.seq (.reg [
 ci oa11 (.ld1 xa0b),
 ci oa0a (.mv xa11)]) .ret)))), [.tmp ta0a]⟩
def cf153 : CF := ⟨153, true, (.seq (.reg [
 ci oa02 (.box 132 1 xa00),
 ci oa03 (.box 3 1 xa01),
 ci oa04 (.mv (.k .nilf))]) (.seq (.reg [
 ci oa05 (.mkf fn192 [] [xa02, xa03]),
 ci oa04 (.mv xa05)]) .ret)), [.tmp ta04]⟩
def cf154 : CF := ⟨154, true, (.seq (.reg [
 ci oa01 (.box 132 1 xa00),
 ci oa02 (.alloc 44 [vz, vz, vz, vz, ve, .nils])]) (.seq (.reg [
 ci oa03 (.alloc 44 [vz, vz, vz, vz, ve, .nils])]) (.seq (.reg [
 ci oa04 (.ld1 xa01),
 ci oa05 (.mkf fn193 [] [xa01, xa03]),
 ci oa06 (.call fn190 [xa04, (ks 1 40), (ks 1 41), xa05])]) (.seq (.reg [
 ci oa07 (.ldn 6 xa03),
 ci none (.st 6 xa02 xa07)]) .ret)))), [.cell 6 true ta02]⟩
def cf155 : CF := ⟨155, true, (.seq (.reg [
 ci oa02 (.box 132 1 xa00),
 ci oa03 (.box 9 1 xa01),
 ci oa04 (.mv (.k .nilf))]) (.seq (.reg [
 ci oa05 (.mkf fn194 [] [xa02, xa03]),
 ci oa04 (.mv xa05)]) .ret)), [.tmp ta04]⟩
def cf156 : CF := ⟨156, true, (.seq (.reg [
 ci oa02 (.alloc 44 [vz, vz, vz, vz, ve, .nils])]) (.seq (.reg [
 ci oa07 (.mv xa00),
 ci oa08 (.call fn149 [xa07]),
 ci oa09 (.fld xa08 2 1 false),
 ci oa03 (.mv xa09)]) (.seq (.seq (.reg [
 ci oa0a (.mv xa00),
 ci oa0b (.bslice 9 1 4 [ve] [(0, (ks 3 7630441)), (1, (ks 4 1819242338)), (2, (ks 6 113723913172083)), (3, (ks 7 14696572267752550))]),
 ci oa0c (.call fn105 [xa0a, xa0b])]) (.cond xa0c (.seq (.reg [
 ci oa0d (.mv xa00),
 ci oa0e (.call fn148 [xa0d]),
 ci oa04 (.alloc 134 [vz, ve, vz, vz]),
 ci none (.st 4 xa04 xa0e)]) (.seq (.reg [
 ci oa0f (.mv xa00),
 ci oa10 (.mv xa03),
 ci oa11 (.mv xa03),
 ci oa12 (.fa xa04 1),
 ci oa13 (.ld1 xa12),
 ci oa14 (.call fn151 [xa0f, (ki 8), xa10, xa11, xa13, (.k .nils)]),
 ci none (.st 6 xa02 xa14)]) .ret)) .skip)) (.seq (.reg [
 ci oa15 (.mv xa00),
 ci oa16 (.call fn103 [xa15, (ki 1)]),
 ci oa05 (.alloc 134 [vz, ve, vz, vz]),
 ci none (.st 4 xa05 xa16)]) (.seq (.seq (.reg [
 ci oa17 (.mv xa00),
 ci oa18 (.bslice 9 1 1 [ve] [(0, (ks 1 46))]),
 ci oa19 (.call fn105 [xa17, xa18]),
 ci oa1a (.not xa19)]) (.cond xa1a (.seq (.reg [
 ci oa1b (.mv xa00),
 ci oa1c (.mv xa03),
 ci oa1d (.mv xa03),
 ci oa1e (.fa xa05 1),
 ci oa1f (.ld1 xa1e),
 ci oa20 (.call fn151 [xa1b, (ki 8), xa1c, xa1d, xa1f, (.k .nils)]),
 ci none (.st 6 xa02 xa20)]) .ret) .skip)) (.seq (.reg [
 ci oa21 (.mv xa00),
 ci oa22 (.mv xa03),
 ci oa23 (.mv xa03),
 ci oa24 (.fa xa05 1),
 ci oa25 (.ld1 xa24),
 ci oa26 (.call fn151 [xa21, (ki 25), xa22, xa23, xa25, (.k .nils)]),
 ci oa06 (.alloc 44 [vz, vz, vz, vz, ve, .nils]),
 ci none (.st 6 xa06 xa26)]) (.seq (.reg [
 ci oa27 (.mv xa00),
 ci oa28 (.call fn148 [xa27])]) (.seq (.reg [
 ci oa29 (.mv xa00),
 ci oa2a (.call fn103 [xa29, (ki 1)]),
 ci none (.st 4 xa05 xa2a)]) (.seq (.reg [
 ci oa2b (.mv xa00),
 ci oa2c (.mv xa03),
 ci oa2d (.fa xa05 2),
 ci oa2e (.ld1 xa2d),
 ci oa2f (.fa xa05 1),
 ci oa30 (.ld1 xa2f),
 ci oa31 (.ldn 6 xa06),
 ci oa32 (.bslice 44 6 1 [vz, vz, vz, vz, ve, .nils] [(0, xa31)]),
 ci oa33 (.call fn151 [xa2b, (ki 9), xa2c, xa2e, xa30, xa32]),
 ci none (.st 6 xa02 xa33)]) .ret))))))))), [.cell 6 true ta02]⟩
def cf157 : CF := ⟨157, true, (.seq (.reg [
 ci oa02 (.alloc 44 [vz, vz, vz, vz, ve, .nils])]) (.seq (.reg [
 ci oa05 (.mv xa00),
 ci oa06 (.call fn149 [xa05]),
 ci oa07 (.fld xa06 2 1 false),
 ci oa03 (.mv xa07)]) (.seq (.reg [
 ci oa08 (.mv xa00),
 ci oa09 (.mv xa00),
 ci oa0a (.mkf fn104 [xa09] []),
 ci oa0b (.mv xa00),
 ci oa0c (.mkf fn195 [xa0b] []),
 ci oa0d (.call fn152 [xa08, (ks 1 123), (ks 1 125), xa0a, xa0c]),
 ci oa04 (.mv xa0d)]) (.seq (.reg [
 ci oa0e (.mv xa00),
 ci oa0f (.mv xa03),
 ci oa10 (.mv xa03),
 ci oa11 (.mv xa04),
 ci oa12 (.call fn151 [xa0e, (ki 10), xa0f, xa10, (ks 0 0), xa11]),
 ci none (.st 6 xa02 xa12)]) .ret)))), [.cell 6 true ta02]⟩
def cf158 : CF := ⟨158, true, (.seq (.reg [
 ci oa02 (.mv (.k .nils))]) (.seq (.seq (.reg [
 ci oa03 (.mv xa00),
 ci oa04 (.eql .slice xa03 (.k .nils))]) (.cond xa04 (.seq (.reg [
 ci oa02 (.mv (.k .nils))]) .ret) .skip)) (.seq (.reg [
 ci oa05 (.bslice 35 5 0 [vz, ve, vz, vz, ve] []),
 ci oa06 (.mv xa00),
 ci oa07 (.append 35 5 56 xa05 xa06),
 ci oa02 (.mv xa07)]) .ret))), [.tmp ta02]⟩
def cf159 : CF := ⟨159, true, (.seq (.reg [
 ci oa05 (.mv xa00),
 ci oa06 (.len 1 xa05),
 ci oa04 (.mv xa06)]) (.reg [
 ci oa07 (.mv xa00),
 ci oa08 (.mv xa04),
 ci oa09 (.mv xa04),
 ci oa0a (.cint .u64 xa09),
 ci oa0b (.call fn46 [xa0a]),
 ci oa0c (.mv xa01),
 ci oa0d (.call fn196 [xa07, (ki 0), xa08, xa0b, xa0c])])), []⟩
def cf160 : CF := ⟨160, true, (.seq (.reg [
 ci oa02 (.box 35 5 xa00),
 ci oa03 (.box 35 5 xa01),
 ci oa04 (.mv (ki 0))]) (.seq (.dreg [
 ⟨0, ci oa05 (.fa xa02 2), .pur, 0⟩,
 ⟨1, ci oa06 (.ld1 xa05), .rd, 0⟩,
 ⟨2, ci oa07 (.fa xa03 2), .pur, 0⟩,
 ⟨3, ci oa08 (.ld1 xa07), .rd, 0⟩,
 ⟨5, ci oa0a (.fa xa02 3), .pur, 0⟩,
 ⟨6, ci oa0b (.ld1 xa0a), .rd, 1⟩,
 ⟨7, ci oa0c (.fa xa03 3), .pur, 0⟩,
 ⟨8, ci oa0d (.ld1 xa0c), .rd, 1⟩,
 ⟨4, ci oa09 (.call fn25 [xa06, xa08]), .ev, 0⟩,
 ⟨9, ci oa0e (.call fn25 [xa0b, xa0d]), .ev, 1⟩,
 ⟨10, ci oa0f (.bslice 3 1 2 [vz] [(0, xa09), (1, xa0e)]), .ev, 2⟩,
 ⟨11, ci oa10 (.call fn24 [xa0f]), .ev, 3⟩,
 ⟨12, ci oa04 (.mv xa10), .pur, 0⟩]) .ret)), [.tmp ta04]⟩
def cf161 : CF := ⟨161, true, (.seq (.reg [
 ci oa03 (.box 9 1 xa01),
 ci oa04 (.alloc 35 [vz, ve, vz, vz, ve]),
 ci oa05 (.mv kf)]) (.seq (.reg [
 ci oa07 (.mv xa00),
 ci oa08 (.mkf fn198 [] [xa03]),
 ci oa09 (.call fn197 [xa07, xa08]),
 ci oa06 (.mv xa09)]) (.seq (.seq (.reg [
 ci oa0a (.mv xa06),
 ci oa0b (.lss xa0a (ki 0))]) (.cond xa0b (.seq (.reg [
 ci oa0c (.build [vz, ve, vz, vz, ve] []),
 ci none (.st 5 xa04 xa0c),
 ci oa05 (.mv kf)]) .ret) .skip)) (.seq (.reg [
 ci oa0d (.mv xa00),
 ci oa0e (.mv xa06),
 ci oa0f (.ia 5 xa0d xa0e),
 ci oa10 (.ldn 5 xa0f),
 ci none (.st 5 xa04 xa10),
 ci oa05 (.mv kt)]) .ret)))), [.cell 5 true ta04, .tmp ta05]⟩
def cf162 : CF := ⟨162, true, (.seq (.reg [
 ci oa04 (.mv (.k .nils))]) (.seq (.seq (.reg [
 ci oa05 (.mv xa00),
 ci oa06 (.eql .ptr xa05 (.k .nilp))]) (.cond xa06 (.seq (.reg [
 ci oa04 (.mv (.k .nils))]) .ret) .skip)) (.seq (.reg [
 ci oa07 (.mv xa00),
 ci oa08 (.nilc xa07),
 ci oa09 (.fa xa08 7),
 ci oa0a (.ld1 xa09),
 ci oa0b (.mv xa01),
 ci oa0c (.lkp (.cell .str) .nils xa0a xa0b false),
 ci oa0d (.call fn158 [xa0c]),
 ci oa04 (.mv xa0d)]) .ret))), [.tmp ta04]⟩
def cf163 : CF := ⟨163, true, (.seq (.reg [
 ci oa04 (.alloc 35 [vz, ve, vz, vz, ve]),
 ci oa05 (.mv kf)]) (.seq (.block 0 (.loop (.seq (.seq (.reg [
 ci oa08 (.mv xa00),
 ci oa09 (.neq .ptr xa08 (.k .nilp))]) (.cond xa09 .skip (.exit 0))) (.seq (.block 1 (.seq (.reg [
 ci oa0f (.mv xa00),
 ci oa10 (.nilc xa0f),
 ci oa11 (.fa xa10 1),
 ci oa12 (.ld1 xa11),
 ci oa13 (.mv xa01),
 ci oa14 (.lkp (.cell .str) (.agg [vz, ve, vz, vz, ve]) xa12 xa13 true),
 ci oa0e (.mv xa14),
 ci oa15 (.ext xa0e 0),
 ci oa16 (.ext xa0e 1),
 ci oa06 (.alloc 35 [vz, ve, vz, vz, ve]),
 ci none (.st 5 xa06 xa15),
 ci oa07 (.mv xa16)]) (.seq (.reg [
 ci oa17 (.mv xa07)]) (.cond xa17 (.seq (.reg [
 ci oa18 (.ldn 5 xa06),
 ci none (.st 5 xa04 xa18),
 ci oa05 (.mv kt)]) .ret) .skip)))) (.reg [
 ci oa0a (.mv xa00),
 ci oa0b (.nilc xa0a),
 ci oa0c (.fa xa0b 0),
 ci oa0d (.ld1 xa0c),
 ci oa00 (.mv xa0d)]))))) (.seq (.reg [
 ci oa19 (.build [vz, ve, vz, vz, ve] []),
 ci none (.st 5 xa04 xa19),
 ci oa05 (.mv kf)]) .ret))), [.cell 5 true ta04, .tmp ta05]⟩
def cf164 : CF := ⟨164, true, (.seq (.reg [
 ci oa03 (.box 44 6 xa01),
 ci oa04 (.alloc 81 [vz, ve, ve, (.bool false)])]) (.seq (.dreg [
 ⟨0, ci oa06 (.mv xa00), .pur, 0⟩,
 ⟨1, ci oa07 (.nilc xa06), .pur, 0⟩,
 ⟨2, ci oa08 (.fa xa07 2), .pur, 0⟩,
 ⟨3, ci oa09 (.ld1 xa08), .rd, 1⟩,
 ⟨4, ci oa0a (.mv xa00), .pur, 0⟩,
 ⟨5, ci oa0b (.nilc xa0a), .pur, 0⟩,
 ⟨6, ci oa0c (.fa xa0b 8), .pur, 0⟩,
 ⟨7, ci oa0d (.ld1 xa0c), .rd, 1⟩,
 ⟨8, ci oa0e (.fa xa03 3), .pur, 0⟩,
 ⟨9, ci oa0f (.ld1 xa0e), .rd, 1⟩,
 ⟨10, ci oa10 (.build [vz, vz] [(0, 1, xa0d), (1, 1, xa0f)]), .pur, 0⟩,
 ⟨11, ci oa11 (.lkp (.strct [(.int .i64), (.int .i64)]) (.agg [vz, vz, ve, (.bool false), vz, ve, vz, vz, ve]) xa09 xa10 false), .rd, 1⟩,
 ⟨12, ci oa05 (.alloc 46 [vz, vz, ve, (.bool false), vz, ve, vz, vz, ve]), .ev, 0⟩,
 ⟨13, ci none (.st 9 xa05 xa11), .ev, 1⟩]) (.seq (.block 0 (.seq (.reg [
 ci oa1a (.fa xa05 3),
 ci oa1b (.ld1 xa1a),
 ci oa1c (.not xa1b),
 ci oa19 (.mv xa1c)]) (.cond xa19 (.reg [
 ci oa1d (.mv xa00),
 ci oa1e (.fa xa03 3),
 ci oa1f (.ld1 xa1e),
 ci oa20 (.call fn44 [xa1d, xa1f, (ki 12)])]) (.seq (.reg [
 ci oa22 (.fa xa05 4),
 ci oa23 (.fa xa22 0),
 ci oa24 (.ld1 xa23),
 ci oa25 (.neq (.cell (.int .i64)) xa24 (ki 7)),
 ci oa26 (.mv xa25),
 cg oa27 ta26 true (.fa xa05 4),
 cg oa28 ta26 true (.fa xa27 0),
 cg oa29 ta26 true (.ld1 xa28),
 cg oa2a ta26 true (.neq (.cell (.int .i64)) xa29 (ki 6)),
 ci oa2b (.pick xa26 xa2a kf),
 ci oa21 (.mv xa2b)]) (.cond xa21 (.reg [
 ci oa2c (.mv xa00),
 ci oa2d (.fa xa03 3),
 ci oa2e (.ld1 xa2d),
 ci oa2f (.call fn44 [xa2c, xa2e, (ki 14)])]) (.seq (.dreg [
 ⟨0, ci oa12 (.mv xa00), .pur, 0⟩,
 ⟨1, ci oa13 (.nilc xa12), .pur, 0⟩,
 ⟨2, ci oa14 (.fa xa13 6), .pur, 0⟩,
 ⟨3, ci oa15 (.ld1 xa14), .rd, 0⟩,
 ⟨4, ci oa16 (.fa xa05 4), .pur, 0⟩,
 ⟨5, ci oa17 (.ldn 5 xa16), .rd, 0⟩,
 ⟨6, ci oa18 (.lkp (.strct [(.int .i64), .str, (.int .i64), (.int .i64), .str]) (.agg [vz, ve, ve, (.bool false)]) xa15 xa17 false), .rd, 0⟩,
 ⟨7, ci none (.st 4 xa04 xa18), .ev, 0⟩]) .ret)))))) (.seq (.reg [
 ci oa30 (.call fn71 []),
 ci none (.st 4 xa04 xa30)]) .ret)))), [.cell 4 true ta04]⟩
def cf165 : CF := ⟨165, true, (.seq (.reg [
 ci oa03 (.box 44 6 xa01),
 ci oa04 (.alloc 81 [vz, ve, ve, (.bool false)])]) (.seq (.reg [
 ci oa06 (.mv xa00),
 ci oa07 (.fa xa03 5),
 ci oa08 (.ld1 xa07),
 ci oa09 (.ia 6 xa08 (ki 0)),
 ci oa0a (.ldn 6 xa09),
 ci oa0b (.call fn75 [xa06, xa0a]),
 ci oa05 (.alloc 81 [vz, ve, ve, (.bool false)]),
 ci none (.st 4 xa05 xa0b)]) (.seq (.block 0 (.seq (.reg [
 ci oa11 (.ldn 4 xa05),
 ci oa12 (.call fn123 [xa11]),
 ci oa13 (.not xa12),
 ci oa10 (.mv xa13)]) (.cond xa10 .skip (.seq (.seq (.reg [
 ci oa15 (.fa xa03 4),
 ci oa16 (.ld1 xa15),
 ci oa17 (.eql (.cell .str) xa16 (ks 1 33)),
 ci oa18 (.mv xa17),
 cg oa19 ta18 true (.ldn 4 xa05),
 cg oa1a ta18 true (.bslice 3 1 1 [vz] [(0, (ki 2))]),
 cg oa1b ta18 true (.call fn199 [xa19, xa1a]),
 ci oa1c (.pick xa18 xa1b kf),
 ci oa14 (.mv xa1c)]) (.cond xa14 .skip (.reg [
 ci oa1d (.fa xa03 4),
 ci oa1e (.ld1 xa1d),
 ci oa1f (.eql (.cell .str) xa1e (ks 1 45)),
 ci oa20 (.mv xa1f),
 cg oa21 ta20 true (.ldn 4 xa05),
 cg oa22 ta20 true (.bslice 3 1 2 [vz] [(0, (ki 1)), (1, (ki 4))]),
 cg oa23 ta20 true (.call fn199 [xa21, xa22]),
 ci oa24 (.pick xa20 xa23 kf),
 ci oa14 (.mv xa24)]))) (.cond xa14 (.seq (.reg [
 ci oa25 (.ldn 4 xa05),
 ci none (.st 4 xa04 xa25)]) .ret) (.reg [
 ci oa0c (.mv xa00),
 ci oa0d (.fa xa03 3),
 ci oa0e (.ld1 xa0d),
 ci oa0f (.call fn44 [xa0c, xa0e, (ki 14)])])))))) (.seq (.reg [
 ci oa26 (.call fn71 []),
 ci none (.st 4 xa04 xa26)]) .ret)))), [.cell 4 true ta04]⟩
def cf166 : CF := ⟨166, true, (.seq (.reg [
 ci oa03 (.box 44 6 xa01),
 ci oa04 (.alloc 81 [vz, ve, ve, (.bool false)])]) (.seq (.dreg [
 ⟨0, ci oa09 (.mv xa00), .pur, 0⟩,
 ⟨1, ci oa0a (.fa xa03 5), .pur, 0⟩,
 ⟨2, ci oa0b (.ld1 xa0a), .rd, 0⟩,
 ⟨3, ci oa0c (.ia 6 xa0b (ki 0)), .pur, 0⟩,
 ⟨4, ci oa0d (.ldn 6 xa0c), .rd, 0⟩,
 ⟨6, ci oa0f (.mv xa00), .pur, 0⟩,
 ⟨7, ci oa10 (.fa xa03 5), .pur, 0⟩,
 ⟨8, ci oa11 (.ld1 xa10), .rd, 1⟩,
 ⟨9, ci oa12 (.ia 6 xa11 (ki 1)), .pur, 0⟩,
 ⟨10, ci oa13 (.ldn 6 xa12), .rd, 1⟩,
 ⟨5, ci oa0e (.call fn75 [xa09, xa0d]), .ev, 0⟩,
 ⟨11, ci oa14 (.call fn75 [xa0f, xa13]), .ev, 1⟩,
 ⟨12, ci oa05 (.alloc 81 [vz, ve, ve, (.bool false)]), .late, 2⟩,
 ⟨13, ci oa06 (.alloc 81 [vz, ve, ve, (.bool false)]), .late, 3⟩,
 ⟨14, ci none (.st 4 xa05 xa0e), .ev, 4⟩,
 ⟨15, ci none (.st 4 xa06 xa14), .ev, 5⟩]) (.seq (.seq (.reg [
 ci oa15 (.ldn 4 xa05),
 ci oa16 (.call fn123 [xa15]),
 ci oa17 (.not xa16),
 ci oa18 (.mv xa17),
 cg oa19 ta18 false (.ldn 4 xa06),
 cg oa1a ta18 false (.call fn123 [xa19]),
 cg oa1b ta18 false (.not xa1a),
 ci oa1c (.pick xa18 kt xa1b)]) (.cond xa1c (.seq (.reg [
 ci oa1d (.call fn71 []),
 ci none (.st 4 xa04 xa1d)]) .ret) .skip)) (.seq (.dreg [
 ⟨0, ci oa1e (.ldn 4 xa05), .rd, 1⟩,
 ⟨1, ci oa1f (.ldn 4 xa06), .rd, 1⟩,
 ⟨2, ci oa20 (.eql (.strct [(.int .i64), .str, .str, .bool]) xa1e xa1f), .pur, 0⟩,
 ⟨3, ci oa21 (.ldn 4 xa05), .rd, 1⟩,
 ⟨4, ci oa08 (.alloc 81 [vz, ve, ve, (.bool false)]), .ev, 0⟩,
 ⟨5, ci oa07 (.mv xa20), .pur, 0⟩,
 ⟨6, ci none (.st 4 xa08 xa21), .ev, 1⟩]) (.seq (.seq (.reg [
 ci oa22 (.fa xa03 4),
 ci oa23 (.ld1 xa22)]) (.block 0 (.seq (.seq (.reg [
 ci oa2b (.eql (.cell .str) xa23 (ks 2 15677)),
 ci oa2a (.mv xa2b)]) (.cond xa2a .skip (.reg [
 ci oa2c (.eql (.cell .str) xa23 (ks 2 15649)),
 ci oa2a (.mv xa2c)]))) (.cond xa2a (.reg [
 ci oa2d (.call fn78 [(ki 2)]),
 ci none (.st 4 xa08 xa2d)]) (.seq (.seq (.reg [
 ci oa2f (.eql (.cell .str) xa23 (ks 1 60)),
 ci oa2e (.mv xa2f)]) (.cond xa2e .skip (.seq (.reg [
 ci oa30 (.eql (.cell .str) xa23 (ks 2 15676)),
 ci oa2e (.mv xa30)]) (.cond xa2e .skip (.seq (.reg [
 ci oa31 (.eql (.cell .str) xa23 (ks 1 62)),
 ci oa2e (.mv xa31)]) (.cond xa2e .skip (.reg [
 ci oa32 (.eql (.cell .str) xa23 (ks 2 15678)),
 ci oa2e (.mv xa32)]))))))) (.cond xa2e (.reg [
 ci oa33 (.mv xa07),
 ci oa34 (.mv xa33),
 cg oa35 ta34 true (.ldn 4 xa05),
 cg oa36 ta34 true (.bslice 3 1 3 [vz] [(0, (ki 1)), (1, (ki 4)), (2, (ki 3))]),
 cg oa37 ta34 true (.call fn199 [xa35, xa36]),
 ci oa38 (.pick xa34 xa37 kf),
 ci oa39 (.call fn78 [(ki 2)]),
 ci oa07 (.mv xa38),
 ci none (.st 4 xa08 xa39)]) (.seq (.seq (.reg [
 ci oa3b (.eql (.cell .str) xa23 (ks 2 9766)),
 ci oa3a (.mv xa3b)]) (.cond xa3a .skip (.reg [
 ci oa3c (.eql (.cell .str) xa23 (ks 2 31868)),
 ci oa3a (.mv xa3c)]))) (.cond xa3a (.reg [
 ci oa3d (.mv xa07),
 ci oa3e (.mv xa3d),
 cg oa3f ta3e true (.ldn 4 xa05),
 cg oa40 ta3e true (.bslice 3 1 1 [vz] [(0, (ki 2))]),
 cg oa41 ta3e true (.call fn199 [xa3f, xa40]),
 ci oa42 (.pick xa3e xa41 kf),
 ci oa07 (.mv xa42)]) (.seq (.reg [
 ci oa44 (.eql (.cell .str) xa23 (ks 1 43)),
 ci oa43 (.mv xa44)]) (.cond xa43 (.reg [
 ci oa45 (.mv xa07),
 ci oa46 (.mv xa45),
 cg oa47 ta46 true (.ldn 4 xa05),
 cg oa48 ta46 true (.bslice 3 1 3 [vz] [(0, (ki 1)), (1, (ki 4)), (2, (ki 3))]),
 cg oa49 ta46 true (.call fn199 [xa47, xa48]),
 ci oa4a (.pick xa46 xa49 kf),
 ci oa07 (.mv xa4a)]) (.seq (.reg [
 ci oa4c (.eql (.cell .str) xa23 (ks 1 37)),
 ci oa4b (.mv xa4c)]) (.cond xa4b (.reg [
 ci oa4d (.mv xa07),
 ci oa4e (.mv xa4d),
 cg oa4f ta4e true (.ldn 4 xa05),
 cg oa50 ta4e true (.bslice 3 1 1 [vz] [(0, (ki 1))]),
 cg oa51 ta4e true (.call fn199 [xa4f, xa50]),
 ci oa52 (.pick xa4e xa51 kf),
 ci oa07 (.mv xa52)]) (.reg [
 ci oa24 (.mv xa07),
 ci oa25 (.mv xa24),
 cg oa26 ta25 true (.ldn 4 xa05),
 cg oa27 ta25 true (.bslice 3 1 2 [vz] [(0, (ki 1)), (1, (ki 4))]),
 cg oa28 ta25 true (.call fn199 [xa26, xa27]),
 ci oa29 (.pick xa25 xa28 kf),
 ci oa07 (.mv xa29)]))))))))))))) (.seq (.seq (.reg [
 ci oa53 (.mv xa07),
 ci oa54 (.not xa53)]) (.cond xa54 (.seq (.reg [
 ci oa55 (.mv xa00),
 ci oa56 (.fa xa03 3),
 ci oa57 (.ld1 xa56),
 ci oa58 (.call fn44 [xa55, xa57, (ki 14)])]) (.seq (.reg [
 ci oa59 (.call fn71 []),
 ci none (.st 4 xa04 xa59)]) .ret)) .skip)) (.seq (.reg [
 ci oa5a (.ldn 4 xa08),
 ci none (.st 4 xa04 xa5a)]) .ret))))))), [.cell 4 true ta04]⟩
def cf167 : CF := ⟨167, true, (.seq (.reg [
 ci oa03 (.box 44 6 xa01),
 ci oa04 (.alloc 81 [vz, ve, ve, (.bool false)])]) (.seq (.seq (.reg [
 ci oa09 (.mv xa00),
 ci oa0a (.ldn 6 xa03),
 ci oa0b (.call fn200 [xa09, xa0a])]) (.cond xa0b (.seq (.reg [
 ci oa05 (.mv (ki 14))]) (.seq (.seq (.dreg [
 ⟨0, ci oa0c (.mv xa00), .pur, 0⟩,
 ⟨1, ci oa0d (.nilc xa0c), .pur, 0⟩,
 ⟨2, ci oa0e (.fa xa0d 2), .pur, 0⟩,
 ⟨3, ci oa0f (.ld1 xa0e), .rd, 15⟩,
 ⟨4, ci oa10 (.mv xa00), .pur, 0⟩,
 ⟨5, ci oa11 (.nilc xa10), .pur, 0⟩,
 ⟨6, ci oa12 (.fa xa11 8), .pur, 0⟩,
 ⟨7, ci oa13 (.ld1 xa12), .rd, 15⟩,
 ⟨8, ci oa14 (.fa xa03 3), .pur, 0⟩,
 ⟨9, ci oa15 (.ld1 xa14), .rd, 15⟩,
 ⟨10, ci oa16 (.build [vz, vz] [(0, 1, xa13), (1, 1, xa15)]), .pur, 0⟩,
 ⟨11, ci oa17 (.lkp (.strct [(.int .i64), (.int .i64)]) (.agg [vz, vz, ve, (.bool false), vz, ve, vz, vz, ve]) xa0f xa16 false), .rd, 15⟩,
 ⟨12, ci oa18 (.fld xa17 3 1 false), .pur, 0⟩,
 ⟨13, ci oa19 (.not xa18), .pur, 0⟩]) (.cond xa19 (.reg [
 ci oa05 (.mv (ki 12))]) .skip)) (.seq (.reg [
 ci oa1a (.mv xa00),
 ci oa1b (.fa xa03 3),
 ci oa1c (.ld1 xa1b),
 ci oa1d (.mv xa05),
 ci oa1e (.call fn44 [xa1a, xa1c, xa1d])]) (.seq (.reg [
 ci oa1f (.call fn71 []),
 ci none (.st 4 xa04 xa1f)]) .ret)))) .skip)) (.seq (.reg [
 ci oa21 (.mv xa00),
 ci oa22 (.ldn 6 xa03),
 ci oa23 (.call fn201 [xa21, xa22, kf]),
 ci oa20 (.mv xa23),
 ci oa24 (.ext xa20 0),
 ci oa25 (.ext xa20 1),
 ci oa26 (.ext xa20 2),
 ci oa06 (.alloc 143 [vz, ve, vz, vz, ve, vz, ve, ve]),
 ci oa07 (.alloc 148 [vz, ve, vz, vz, ve, vz, ve, ve, .nils, vz, ve, ve]),
 ci none (.st 8 xa06 xa24),
 ci none (.st 12 xa07 xa25),
 ci oa08 (.mv xa26)]) (.seq (.seq (.reg [
 ci oa27 (.mv xa08),
 ci oa28 (.not xa27)]) (.cond xa28 (.seq (.reg [
 ci oa29 (.call fn71 []),
 ci none (.st 4 xa04 xa29)]) .ret) .skip)) (.seq (.reg [
 ci oa2a (.fa xa06 5),
 ci oa2b (.ldn 3 xa2a),
 ci oa2c (.build [vz, ve, ve, (.bool false)] [(0, 3, xa2b)]),
 ci none (.st 4 xa04 xa2c)]) .ret))))), [.cell 4 true ta04]⟩
def cf168 : CF := ⟨168, true, (.seq (.reg [
 ci oa03 (.box 44 6 xa01),
 ci oa04 (.alloc 81 [vz, ve, ve, (.bool false)])]) (.seq (.reg [
 ci oa0e (.mv xa00),
 ci oa0f (.fa xa03 5),
 ci oa10 (.ld1 xa0f),
 ci oa11 (.ia 6 xa10 (ki 0)),
 ci oa12 (.ldn 6 xa11),
 ci oa13 (.call fn202 [xa0e, xa12]),
 ci oa0d (.mv xa13),
 ci oa14 (.ext xa0d 0),
 ci oa15 (.ext xa0d 1),
 ci oa05 (.alloc 148 [vz, ve, vz, vz, ve, vz, ve, ve, .nils, vz, ve, ve]),
 ci none (.st 12 xa05 xa14),
 ci oa06 (.mv xa15)]) (.seq (.reg [
 ci oa16 (.fa xa03 5),
 ci oa17 (.ld1 xa16),
 ci oa18 (.slSl 6 xa17 (some (ki 1)) none none),
 ci oa07 (.mv xa18)]) (.seq (.reg [
 ci oa19 (.mv xa06),
 ci oa1a (.mv xa19),
 cg oa1b ta1a true (.mv xa07),
 cg oa1c ta1a true (.len 1 xa1b),
 cg oa1d ta1a true (.fa xa05 8),
 cg oa1e ta1a true (.ld1 xa1d),
 cg oa1f ta1a true (.len 1 xa1e),
 cg oa20 ta1a true (.eql (.cell (.int .i64)) xa1c xa1f),
 ci oa21 (.pick xa1a xa20 kf),
 ci oa08 (.mv xa21)]) (.seq (.seq (.reg [
 ci oa22 (.mv xa06),
 ci oa23 (.mv xa22),
 cg oa24 ta23 true (.mv xa08),
 cg oa25 ta23 true (.not xa24),
 ci oa26 (.pick xa23 xa25 kf)]) (.cond xa26 (.reg [
 ci oa27 (.mv xa00),
 ci oa28 (.fa xa03 3),
 ci oa29 (.ld1 xa28),
 ci oa2a (.call fn44 [xa27, xa29, (ki 14)])]) .skip)) (.seq (.reg [
 ci oa2b (.mv xa08),
 ci oa09 (.mv xa2b)]) (.seq (.seq (.reg [
 ci oa2c (.mv xa07),
 ci oa2d (.len 1 xa2c),
 ci oa2e (.mv (ki 0))]) (.block 0 (.loop (.seq (.reg [
 ci oa2f (.lss xa2e xa2d)]) (.seq (.cond xa2f .skip (.exit 0)) (.seq (.block 1 (.seq (.reg [
 ci oa30 (.mv xa2e),
 ci oa31 (.ia 6 xa2c xa2e),
 ci oa32 (.ldn 6 xa31),
 ci oa0b (.alloc 44 [vz, vz, vz, vz, ve, .nils]),
 ci oa0a (.mv xa30),
 ci none (.st 6 xa0b xa32)]) (.seq (.reg [
 ci oa33 (.call fn71 []),
 ci oa0c (.alloc 81 [vz, ve, ve, (.bool false)]),
 ci none (.st 4 xa0c xa33)]) (.seq (.seq (.reg [
 ci oa34 (.mv xa08)]) (.cond xa34 (.reg [
 ci oa35 (.fa xa05 8),
 ci oa36 (.ld1 xa35),
 ci oa37 (.mv xa0a),
 ci oa38 (.ia 8 xa36 xa37),
 ci oa39 (.fa xa38 5),
 ci oa3a (.ldn 3 xa39),
 ci oa3b (.build [vz, ve, ve, (.bool false)] [(0, 3, xa3a)]),
 ci none (.st 4 xa0c xa3b)]) .skip)) (.reg [
 ci oa3c (.mv xa00),
 ci oa3d (.ldn 6 xa0b),
 ci oa3e (.ldn 4 xa0c),
 ci oa3f (.call fn73 [xa3c, xa3d, xa3e]),
 ci oa40 (.call fn123 [xa3f]),
 ci oa41 (.mv xa40),
 cg oa42 ta41 true (.mv xa09),
 ci oa43 (.pick xa41 xa42 kf),
 ci oa09 (.mv xa43)]))))) (.reg [
 ci oa44 (.add xa2e (ki 1)),
 ci oa2e (.mv xa44)]))))))) (.seq (.seq (.reg [
 ci oa45 (.mv xa09),
 ci oa46 (.not xa45)]) (.cond xa46 (.seq (.reg [
 ci oa47 (.call fn71 []),
 ci none (.st 4 xa04 xa47)]) .ret) .skip)) (.seq (.reg [
 ci oa48 (.fa xa05 9),
 ci oa49 (.ldn 3 xa48),
 ci oa4a (.build [vz, ve, ve, (.bool false)] [(0, 3, xa49)]),
 ci none (.st 4 xa04 xa4a)]) .ret))))))))), [.cell 4 true ta04]⟩
def cf169 : CF := ⟨169, true, (.seq (.reg [
 ci oa03 (.box 44 6 xa01),
 ci oa04 (.alloc 81 [vz, ve, ve, (.bool false)])]) (.seq (.reg [
 ci oa0d (.mv xa00),
 ci oa0e (.fa xa03 5),
 ci oa0f (.ld1 xa0e),
 ci oa10 (.ia 6 xa0f (ki 0)),
 ci oa11 (.ldn 6 xa10),
 ci oa12 (.call fn72 [xa0d, xa11]),
 ci oa05 (.alloc 81 [vz, ve, ve, (.bool false)]),
 ci none (.st 4 xa05 xa12)]) (.seq (.reg [
 ci oa13 (.fa xa05 3),
 ci oa14 (.ld1 xa13),
 ci oa15 (.not xa14),
 ci oa06 (.mv xa15)]) (.seq (.reg [
 ci oa16 .mkmap,
 ci oa07 (.mv xa16)]) (.seq (.seq (.reg [
 ci oa17 (.fa xa03 5),
 ci oa18 (.ld1 xa17),
 ci oa19 (.slSl 6 xa18 (some (ki 1)) none none),
 ci oa1a (.len 1 xa19),
 ci oa1b (.mv (ki 0))]) (.block 0 (.loop (.seq (.reg [
 ci oa1c (.lss xa1b xa1a)]) (.seq (.cond xa1c .skip (.exit 0)) (.seq (.block 1 (.seq (.reg [
 ci oa1d (.ia 6 xa19 xa1b),
 ci oa1e (.ldn 6 xa1d),
 ci oa09 (.alloc 44 [vz, vz, vz, vz, ve, .nils]),
 ci none (.st 6 xa09 xa1e)]) (.seq (.reg [
 ci oa20 (.mv xa00),
 ci oa21 (.fa xa05 0),
 ci oa22 (.ldn 3 xa21),
 ci oa23 (.fa xa09 4),
 ci oa24 (.ld1 xa23),
 ci oa25 (.call fn203 [xa20, xa22, xa24]),
 ci oa1f (.mv xa25),
 ci oa26 (.ext xa1f 0),
 ci oa27 (.ext xa1f 1),
 ci oa0a (.alloc 143 [vz, ve, vz, vz, ve, vz, ve, ve]),
 ci none (.st 8 xa0a xa26),
 ci oa0b (.mv xa27)]) (.seq (.reg [
 ci oa28 (.call fn71 []),
 ci oa0c (.alloc 81 [vz, ve, ve, (.bool false)]),
 ci none (.st 4 xa0c xa28)]) (.seq (.reg [
 ci oa29 (.mv xa07),
 ci oa2a (.fa xa09 4),
 ci oa2b (.ld1 xa2a),
 ci oa2c (.lkp (.cell .str) vz xa29 xa2b false),
 ci oa2d (.add xa2c (ki 1)),
 ci none (.mupd (.cell .str) xa29 xa2b xa2d)]) (.seq (.block 2 (.seq (.reg [
 ci oa37 (.mv xa07),
 ci oa38 (.fa xa09 4),
 ci oa39 (.ld1 xa38),
 ci oa3a (.lkp (.cell .str) vz xa37 xa39 false),
 ci oa3b (.gtr xa3a (ki 1)),
 ci oa36 (.mv xa3b)]) (.cond xa36 (.reg [
 ci oa3c (.mv xa00),
 ci oa3d (.fa xa09 3),
 ci oa3e (.ld1 xa3d),
 ci oa3f (.call fn44 [xa3c, xa3e, (ki 13)])]) (.seq (.reg [
 ci oa41 (.fa xa05 3),
 ci oa42 (.ld1 xa41),
 ci oa40 (.mv xa42)]) (.cond xa40 .skip (.seq (.reg [
 ci oa44 (.mv xa0b),
 ci oa45 (.not xa44),
 ci oa43 (.mv xa45)]) (.cond xa43 (.reg [
 ci oa46 (.mv xa00),
 ci oa47 (.fa xa09 3),
 ci oa48 (.ld1 xa47),
 ci oa49 (.call fn44 [xa46, xa48, (ki 12)])]) (.seq (.reg [
 ci oa4b (.mv xa00),
 ci oa4c (.fa xa09 4),
 ci oa4d (.ld1 xa4c),
 ci oa4e (.fa xa05 0),
 ci oa4f (.fa xa4e 1),
 ci oa50 (.ld1 xa4f),
 ci oa51 (.call fn204 [xa4b, xa4d, xa50]),
 ci oa52 (.not xa51),
 ci oa4a (.mv xa52)]) (.cond xa4a (.reg [
 ci oa53 (.mv xa00),
 ci oa54 (.fa xa09 3),
 ci oa55 (.ld1 xa54),
 ci oa56 (.call fn44 [xa53, xa55, (ki 17)])]) (.seq (.reg [
 ci oa2e (.mv xa00),
 ci oa2f (.ldn 6 xa09),
 ci oa30 (.fa xa0a 0),
 ci oa31 (.ldn 5 xa30),
 ci oa32 (.call fn205 [xa2e, xa2f, xa31])]) (.reg [
 ci oa33 (.fa xa0a 5),
 ci oa34 (.ldn 3 xa33),
 ci oa35 (.build [vz, ve, ve, (.bool false)] [(0, 3, xa34)]),
 ci none (.st 4 xa0c xa35)]))))))))))) (.dreg [
 ⟨0, ci oa57 (.mv xa00), .pur, 0⟩,
 ⟨1, ci oa58 (.fa xa09 5), .pur, 0⟩,
 ⟨2, ci oa59 (.ld1 xa58), .rd, 0⟩,
 ⟨3, ci oa5a (.ia 6 xa59 (ki 0)), .pur, 0⟩,
 ⟨4, ci oa5b (.ldn 6 xa5a), .rd, 0⟩,
 ⟨5, ci oa5c (.ldn 4 xa0c), .rd, 0⟩,
 ⟨6, ci oa5d (.call fn73 [xa57, xa5b, xa5c]), .ev, 0⟩,
 ⟨7, ci oa5e (.call fn123 [xa5d]), .ev, 1⟩,
 ⟨8, ci oa5f (.mv xa5e), .pur, 0⟩,
 ⟨9, cg oa60 ta5f true (.ldn 4 xa0c), .rd, 2⟩,
 ⟨10, cg oa61 ta5f true (.call fn123 [xa60]), .ev, 2⟩,
 ⟨11, ci oa62 (.pick xa5f xa61 kf), .pur, 0⟩,
 ⟨12, ci oa63 (.mv xa62), .pur, 0⟩,
 ⟨13, cg oa64 ta63 true (.mv xa06), .pur, 0⟩,
 ⟨14, ci oa65 (.pick xa63 xa64 kf), .pur, 0⟩,
 ⟨15, ci oa06 (.mv xa65), .pur, 0⟩]))))))) (.reg [
 ci oa66 (.add xa1b (ki 1)),
 ci oa1b (.mv xa66)]))))))) (.seq (.seq (.reg [
 ci oa67 (.mv xa06),
 ci oa68 (.not xa67)]) (.cond xa68 (.seq (.reg [
 ci oa69 (.call fn71 []),
 ci none (.st 4 xa04 xa69)]) .ret) .skip)) (.seq (.reg [
 ci oa6a (.ldn 4 xa05),
 ci none (.st 4 xa04 xa6a)]) .ret))))))), [.cell 4 true ta04]⟩
def cf170 : CF := ⟨170, true, (.seq (.reg [
 ci oa03 (.box 44 6 xa01),
 ci oa04 (.alloc 81 [vz, ve, ve, (.bool false)])]) (.seq (.reg [
 ci oa0d (.fa xa03 4),
 ci oa0e (.ld1 xa0d),
 ci oa0f (.call fn206 [xa0e]),
 ci oa0c (.mv xa0f),
 ci oa10 (.ext xa0c 0),
 ci oa11 (.ext xa0c 1),
 ci oa05 (.mv xa10),
 ci oa06 (.mv xa11)]) (.seq (.reg [
 ci oa12 (.fa xa03 5),
 ci oa13 (.ld1 xa12),
 ci oa14 (.len 1 xa13),
 ci oa15 (.eql (.cell (.int .i64)) xa14 (ki 1)),
 ci oa16 (.mv xa15),
 cg oa17 ta16 false (.fa xa03 4),
 cg oa18 ta16 false (.ld1 xa17),
 cg oa19 ta16 false (.eql (.cell .str) xa18 (ks 5 500068610672)),
 cg oa1a ta16 false (.mv xa19),
 cg oa1b ta1a true (.fa xa03 5),
 cg oa1c ta1a true (.ld1 xa1b),
 cg oa1d ta1a true (.len 1 xa1c),
 cg oa1e ta1a true (.gtr xa1d (ki 0)),
 cg oa1f ta16 false (.pick xa1a xa1e kf),
 ci oa20 (.pick xa16 kt xa1f),
 ci oa07 (.mv xa20)]) (.seq (.seq (.reg [
 ci oa21 (.mv xa07),
 ci oa22 (.not xa21)]) (.cond xa22 (.reg [
 ci oa23 (.mv xa00),
 ci oa24 (.fa xa03 3),
 ci oa25 (.ld1 xa24),
 ci oa26 (.call fn44 [xa23, xa25, (ki 14)])]) .skip)) (.seq (.reg [
 ci oa27 (.mv xa07),
 ci oa08 (.mv xa27)]) (.seq (.seq (.reg [
 ci oa28 (.fa xa03 5),
 ci oa29 (.ld1 xa28),
 ci oa2a (.len 1 xa29),
 ci oa2b (.mv (ki 0))]) (.block 0 (.loop (.seq (.reg [
 ci oa2c (.lss xa2b xa2a)]) (.seq (.cond xa2c .skip (.exit 0)) (.seq (.block 1 (.seq (.reg [
 ci oa2d (.ia 6 xa29 xa2b),
 ci oa2e (.ldn 6 xa2d),
 ci oa0a (.alloc 44 [vz, vz, vz, vz, ve, .nils]),
 ci none (.st 6 xa0a xa2e)]) (.seq (.reg [
 ci oa2f (.mv xa00),
 ci oa30 (.ldn 6 xa0a),
 ci oa31 (.call fn75 [xa2f, xa30]),
 ci oa0b (.alloc 81 [vz, ve, ve, (.bool false)]),
 ci none (.st 4 xa0b xa31)]) (.seq (.seq (.reg [
 ci oa32 (.mv xa07),
 ci oa33 (.mv xa32),
 cg oa34 ta33 true (.ldn 4 xa0b),
 cg oa35 ta33 true (.call fn123 [xa34]),
 ci oa36 (.pick xa33 xa35 kf),
 ci oa37 (.mv xa36),
 cg oa38 ta37 true (.ldn 4 xa0b),
 cg oa39 ta37 true (.mv xa05),
 cg oa3a ta37 true (.call fn199 [xa38, xa39]),
 cg oa3b ta37 true (.not xa3a),
 ci oa3c (.pick xa37 xa3b kf)]) (.cond xa3c (.reg [
 ci oa3d (.mv xa00),
 ci oa3e (.fa xa0a 3),
 ci oa3f (.ld1 xa3e),
 ci oa40 (.call fn44 [xa3d, xa3f, (ki 14)])]) .skip)) (.reg [
 ci oa41 (.mv xa08),
 ci oa42 (.mv xa41),
 cg oa43 ta42 true (.ldn 4 xa0b),
 cg oa44 ta42 true (.mv xa05),
 cg oa45 ta42 true (.call fn199 [xa43, xa44]),
 ci oa46 (.pick xa42 xa45 kf),
 ci oa08 (.mv xa46)]))))) (.reg [
 ci oa47 (.add xa2b (ki 1)),
 ci oa2b (.mv xa47)]))))))) (.seq (.seq (.reg [
 ci oa48 (.mv xa08),
 ci oa49 (.not xa48)]) (.cond xa49 (.seq (.reg [
 ci oa4a (.call fn71 []),
 ci none (.st 4 xa04 xa4a)]) .ret) .skip)) (.seq (.reg [
 ci oa4b (.mv xa06),
 ci oa4c (.call fn78 [xa4b]),
 ci none (.st 4 xa04 xa4c)]) .ret)))))))), [.cell 4 true ta04]⟩
def cf171 : CF := ⟨171, true, (.seq (.reg [
 ci oa04 (.mv (ki 0))]) (.seq (.seq (.reg [
 ci oa06 (.mv xa00),
 ci oa07 (.len 1 xa06),
 ci oa08 (.mv (ki 0))]) (.block 0 (.loop (.seq (.reg [
 ci oa09 (.lss xa08 xa07)]) (.seq (.cond xa09 .skip (.exit 0)) (.seq (.block 1 (.seq (.reg [
 ci oa0a (.mv xa08),
 ci oa05 (.mv xa0a)]) (.seq (.reg [
 ci oa0b (.mv xa01),
 ci oa0c (.mv xa00),
 ci oa0d (.mv xa05),
 ci oa0e (.ia 6 xa0c xa0d),
 ci oa0f (.ldn 6 xa0e),
 ci oa10 (.callv xa0b [xa0f])]) (.cond xa10 (.seq (.reg [
 ci oa11 (.mv xa05),
 ci oa04 (.mv xa11)]) .ret) .skip)))) (.reg [
 ci oa12 (.add xa08 (ki 1)),
 ci oa08 (.mv xa12)]))))))) (.seq (.reg [
 ci oa04 (.mv (.k (.i (.negSucc 0))))]) .ret))), [.tmp ta04]⟩
def cf179 : CF := ⟨179, true, (.seq (.reg [
 ci oa04 (.mv (ks 0 0))]) (.seq (.seq (.reg [
 ci oa07 (.mv xa00),
 ci oa08 (.eql (.cell .str) xa07 (ks 0 0)),
 ci oa09 (.mv xa08),
 cg oa0a ta09 false (.mv xa01),
 cg oa0b ta09 false (.eql (.cell .str) xa0a (ks 0 0)),
 ci oa0c (.pick xa09 kt xa0b)]) (.cond xa0c (.seq (.reg [
 ci oa0d (.mv xa00),
 ci oa04 (.mv xa0d)]) .ret) .skip)) (.seq (.seq (.reg [
 ci oa0e (.mv xa01),
 ci oa0f (.len 0 xa0e),
 ci oa10 (.eql (.cell (.int .i64)) xa0f (ki 1)),
 ci oa11 (.mv xa10),
 cg oa12 ta11 true (.mv xa01),
 cg oa13 ta11 true (.ixs xa12 (ki 0)),
 cg oa14 ta11 true (.lss xa13 (.k (.u8 128))),
 ci oa15 (.pick xa11 xa14 kf)]) (.cond xa15 (.seq (.reg [
 ci oa16 (.mv xa00),
 ci oa17 (.mv xa01),
 ci oa18 (.ixs xa17 (ki 0)),
 ci oa19 (.call fn210 [xa16, xa18]),
 ci oa04 (.mv xa19)]) .ret) .skip)) (.seq (.seq (.reg [
 ci oa1b (.mv xa01),
 ci oa1c (.call fn211 [xa1b]),
 ci oa1a (.mv xa1c),
 ci oa1d (.ext xa1a 0),
 ci oa1e (.ext xa1a 1),
 ci oa05 (.allocR 295 1 256 [[(.bool false)], [(.bool false)], [(.bool false)], [(.bool false)], [(.bool false)], [(.bool false)], [(.bool false)], [(.bool false)], [(.bool false)], [(.bool false)], [(.bool false)], [(.bool false)], [(.bool false)], [(.bool false)], [(.bool false)], [(.bool false)], [(.bool false)], [(.bool false)], [(.bool false)], [(.bool false)], [(.bool false)], [(.bool false)], [(.bool false)], [(.bool false)], [(.bool false)], [(.bool false)], [(.bool false)], [(.bool false)], [(.bool false)], [(.bool false)], [(.bool false)], [(.bool false)], [(.bool false)], [(.bool false)], [(.bool false)], [(.bool false)], [(.bool false)], [(.bool false)], [(.bool false)], [(.bool false)], [(.bool false)], [(.bool false)], [(.bool false)], [(.bool false)], [(.bool false)], [(.bool false)], [(.bool false)], [(.bool false)], [(.bool false)], [(.bool false)], [(.bool false)], [(.bool false)], [(.bool false)], [(.bool false)], [(.bool false)], [(.bool false)], [(.bool false)], [(.bool false)], [(.bool false)], [(.bool false)], [(.bool false)], [(.bool false)], [(.bool false)], [(.bool false)], [(.bool false)], [(.bool false)], [(.bool false)], [(.bool false)], [(.bool false)], [(.bool false)], [(.bool false)], [(.bool false)], [(.bool false)], [(.bool false)], [(.bool false)], [(.bool false)], [(.bool false)], [(.bool false)], [(.bool false)], [(.bool false)], [(.bool false)], [(.bool false)], [(.bool false)], [(.bool false)], [(.bool false)], [(.bool false)], [(.bool false)], [(.bool false)], [(.bool false)], [(.bool false)], [(.bool false)], [(.bool false)], [(.bool false)], [(.bool false)], [(.bool false)], [(.bool false)], [(.bool false)], [(.bool false)], [(.bool false)], [(.bool false)], [(.bool false)], [(.bool false)], [(.bool false)], [(.bool false)], [(.bool false)], [(.bool false)], [(.bool false)], [(.bool false)], [(.bool false)], [(.bool false)], [(.bool false)], [(.bool false)], [(.bool false)], [(.bool false)], [(.bool false)], [(.bool false)], [(.bool false)], [(.bool false)], [(.bool false)], [(.bool false)], [(.bool false)], [(.bool false)], [(.bool false)], [(.bool false)], [(.bool false)], [(.bool false)], [(.bool false)], [(.bool false)], [(.bool false)], [(.bool false)], [(.bool false)], [(.bool false)], [(.bool false)], [(.bool false)], [(.bool false)], [(.bool false)], [(.bool false)], [(.bool false)], [(.bool false)], [(.bool false)], [(.bool false)], [(.bool false)], [(.bool false)], [(.bool false)], [(.bool false)], [(.bool false)], [(.bool false)], [(.bool false)], [(.bool false)], [(.bool false)], [(.bool false)], [(.bool false)], [(.bool false)], [(.bool false)], [(.bool false)], [(.bool false)], [(.bool false)], [(.bool false)], [(.bool false)], [(.bool false)], [(.bool false)], [(.bool false)], [(.bool false)], [(.bool false)], [(.bool false)], [(.bool false)], [(.bool false)], [(.bool false)], [(.bool false)], [(.bool false)], [(.bool false)], [(.bool false)], [(.bool false)], [(.bool false)], [(.bool false)], [(.bool false)], [(.bool false)], [(.bool false)], [(.bool false)], [(.bool false)], [(.bool false)], [(.bool false)], [(.bool false)], [(.bool false)], [(.bool false)], [(.bool false)], [(.bool false)], [(.bool false)], [(.bool false)], [(.bool false)], [(.bool false)], [(.bool false)], [(.bool false)], [(.bool false)], [(.bool false)], [(.bool false)], [(.bool false)], [(.bool false)], [(.bool false)], [(.bool false)], [(.bool false)], [(.bool false)], [(.bool false)], [(.bool false)], [(.bool false)], [(.bool false)], [(.bool false)], [(.bool false)], [(.bool false)], [(.bool false)], [(.bool false)], [(.bool false)], [(.bool false)], [(.bool false)], [(.bool false)], [(.bool false)], [(.bool false)], [(.bool false)], [(.bool false)], [(.bool false)], [(.bool false)], [(.bool false)], [(.bool false)], [(.bool false)], [(.bool false)], [(.bool false)], [(.bool false)], [(.bool false)], [(.bool false)], [(.bool false)], [(.bool false)], [(.bool false)], [(.bool false)], [(.bool false)], [(.bool false)], [(.bool false)], [(.bool false)], [(.bool false)], [(.bool false)], [(.bool false)], [(.bool false)], [(.bool false)], [(.bool false)], [(.bool false)], [(.bool false)], [(.bool false)], [(.bool false)], [(.bool false)], [(.bool false)], [(.bool false)], [(.bool false)], [(.bool false)], [(.bool false)], [(.bool false)], [(.bool false)], [(.bool false)]]),
 ci none (.st 256 xa05 xa1d),
 ci oa06 (.mv xa1e)]) (.seq (.reg [
 ci oa1f (.mv xa06)]) (.cond xa1f (.seq (.reg [
 ci oa20 (.mv xa00),
 ci oa21 (.call fn212 [xa20, xa05]),
 ci oa04 (.mv xa21)]) .ret) .skip))) (.seq (.reg [
 ci oa22 (.mv xa00),
 ci oa23 (.mv xa01),
 ci oa24 (.call fn213 [xa22, xa23]),
 ci oa04 (.mv xa24)]) .ret))))), [.tmp ta04]⟩
def cf180 : CF := ⟨180, true, (.seq (.reg [
 ci oa00 (.mv (.k .nils))]) (.seq (.reg [
 ci oa01 (.bslice 9 1 21 [ve] [(0, (ks 5 461195539042)), (1, (ks 8 7310870969309884259)), (2, (ks 4 1702063205)), (3, (ks 5 435728179558)), (4, (ks 7 14696572267752550)), (5, (ks 3 7499622)), (6, (ks 4 1668183398)), (7, (ks 2 26217)), (8, (ks 6 128034844732777)), (9, (ks 3 7630441)), (10, (ks 4 1819242338)), (11, (ks 6 113723913172083)), (12, (ks 3 7234924)), (13, (ks 7 28542640758940016)), (14, (ks 5 426970603888)), (15, (ks 5 500068610672)), (16, (ks 6 121437875889522)), (17, (ks 6 127970521019507)), (18, (ks 4 1702195828)), (19, (ks 4 1701869940)), (20, (ks 3 7496054))]),
 ci oa00 (.mv xa01)]) .ret)), [.tmp ta00]⟩
def cf181 : CF := ⟨181, true, (.seq (.reg [
 ci oa02 (.mv (ki 0))]) (.seq (.reg [
 ci oa03 (.mv xa00),
 ci oa04 (.len 0 xa03),
 ci oa05 (.mv xa00),
 ci oa06 (.call fn179 [xa05, (ks 10 270211885617516653982000)]),
 ci oa07 (.len 0 xa06),
 ci oa08 (.sub xa04 xa07),
 ci oa02 (.mv xa08)]) .ret)), [.tmp ta02]⟩
def cf182 : CF := ⟨182, true, (.seq (.reg [
 ci oa02 (.mv kf)]) (.seq (.reg [
 ci oa03 (.mv xa00),
 ci oa04 (.neq (.cell .str) xa03 (ks 0 0)),
 ci oa05 (.mv xa04),
 cg oa06 ta05 true (.mv xa00),
 cg oa07 ta05 true (.call fn214 [xa06]),
 cg oa08 ta05 true (.mv xa00),
 cg oa09 ta05 true (.len 0 xa08),
 cg oa0a ta05 true (.eql (.cell (.int .i64)) xa07 xa09),
 ci oa0b (.pick xa05 xa0a kf),
 ci oa0c (.mv xa0b),
 cg oa0d ta0c true (.mv xa00),
 cg oa0e ta0c true (.len 0 xa0d),
 cg oa0f ta0c true (.eql (.cell (.int .i64)) xa0e (ki 1)),
 cg oa10 ta0c true (.mv xa0f),
 cg oa11 ta10 false (.mv xa00),
 cg oa12 ta10 false (.ixs xa11 (ki 0)),
 cg oa13 ta10 false (.neq (.cell (.int .u8)) xa12 (.k (.u8 48))),
 cg oa14 ta0c true (.pick xa10 kt xa13),
 ci oa15 (.pick xa0c xa14 kf),
 ci oa02 (.mv xa15)]) .ret)), [.tmp ta02]⟩
def cf183 : CF := ⟨183, true, (.seq (.reg [
 ci oa06 (.mv (ki 0)),
 ci oa07 (.mv (.k .nili))]) (.seq (.reg [
 ci oa0a (.mv xa00),
 ci oa0b (.mv xa01),
 ci oa0c (.mv xa02),
 ci oa0d (.call fn215 [xa0a, xa0b, xa0c]),
 ci oa09 (.mv xa0d),
 ci oa0e (.ext xa09 0),
 ci oa0f (.ext xa09 1),
 ci oa08 (.mv xa0e),
 ci oa07 (.mv xa0f)]) (.seq (.seq (.reg [
 ci oa10 (.mv xa07),
 ci oa11 (.neq .iface xa10 (.k .nili))]) (.cond xa11 (.seq (.reg [
 ci oa12 (.mv xa08),
 ci oa13 (.mv xa00),
 ci oa14 (.mv xa01),
 ci oa15 (.mv xa02),
 ci oa16 (.mv xa07),
 ci oa17 (.call fn216 [(ks 8 8389723855915213136), xa13, xa14, xa15, xa16]),
 ci oa06 (.mv xa12),
 ci oa07 (.mv xa17)]) .ret) .skip)) (.seq (.reg [
 ci oa18 (.mv xa08),
 ci oa06 (.mv xa18),
 ci oa07 (.mv (.k .nili))]) .ret)))), [.tmp ta06, .tmp ta07]⟩
def cf184 : CF := ⟨184, true, (.seq (.reg [
 ci oa02 (.mv kf)]) (.seq (.reg [
 ci oa0a (.mv xa00),
 ci oa0b (.call fn49 [xa0a, (ks 1 46)]),
 ci oa09 (.mv xa0b),
 ci oa0c (.ext xa09 0),
 ci oa0d (.ext xa09 1),
 ci oa0e (.ext xa09 2),
 ci oa03 (.mv xa0c),
 ci oa04 (.mv xa0d),
 ci oa05 (.mv xa0e)]) (.seq (.seq (.reg [
 ci oa0f (.mv xa05),
 ci oa10 (.not xa0f),
 ci oa11 (.mv xa10),
 cg oa12 ta11 false (.mv xa03),
 cg oa13 ta11 false (.call fn182 [xa12]),
 cg oa14 ta11 false (.not xa13),
 ci oa15 (.pick xa11 kt xa14)]) (.cond xa15 (.seq (.reg [
 ci oa02 (.mv kf)]) .ret) .skip)) (.seq (.reg [
 ci oa16 (.mv xa04),
 ci oa17 (.call fn214 [xa16]),
 ci oa06 (.mv xa17)]) (.seq (.seq (.reg [
 ci oa18 (.mv xa06),
 ci oa19 (.eql (.cell (.int .i64)) xa18 (ki 0))]) (.cond xa19 (.seq (.reg [
 ci oa02 (.mv kf)]) .ret) .skip)) (.seq (.reg [
 ci oa1b (.mv xa04),
 ci oa1c (.mv xa06),
 ci oa1d (.slStr xa1b (some xa1c) none),
 ci oa1e (.call fn48 [xa1d, (ks 1 101)]),
 ci oa1a (.mv xa1e),
 ci oa1f (.ext xa1a 0),
 ci oa20 (.ext xa1a 1),
 ci oa07 (.mv xa1f),
 ci oa08 (.mv xa20)]) (.seq (.seq (.reg [
 ci oa21 (.mv xa08),
 ci oa22 (.not xa21)]) (.cond xa22 (.seq (.reg [
 ci oa23 (.mv xa06),
 ci oa24 (.mv xa04),
 ci oa25 (.len 0 xa24),
 ci oa26 (.eql (.cell (.int .i64)) xa23 xa25),
 ci oa02 (.mv xa26)]) .ret) .skip)) (.seq (.seq (.reg [
 ci oa27 (.mv xa07),
 ci oa28 (.neq (.cell .str) xa27 (ks 0 0)),
 ci oa29 (.mv xa28),
 cg oa2a ta29 true (.mv xa07),
 cg oa2b ta29 true (.ixs xa2a (ki 0)),
 cg oa2c ta29 true (.eql (.cell (.int .u8)) xa2b (.k (.u8 43))),
 cg oa2d ta29 true (.mv xa2c),
 cg oa2e ta2d false (.mv xa07),
 cg oa2f ta2d false (.ixs xa2e (ki 0)),
 cg oa30 ta2d false (.eql (.cell (.int .u8)) xa2f (.k (.u8 45))),
 cg oa31 ta29 true (.pick xa2d kt xa30),
 ci oa32 (.pick xa29 xa31 kf)]) (.cond xa32 (.reg [
 ci oa33 (.mv xa07),
 ci oa34 (.slStr xa33 (some (ki 1)) none),
 ci oa07 (.mv xa34)]) .skip)) (.seq (.reg [
 ci oa35 (.mv xa07),
 ci oa36 (.neq (.cell .str) xa35 (ks 0 0)),
 ci oa37 (.mv xa36),
 cg oa38 ta37 true (.mv xa07),
 cg oa39 ta37 true (.len 0 xa38),
 cg oa3a ta37 true (.leq xa39 (ki 3)),
 ci oa3b (.pick xa37 xa3a kf),
 ci oa3c (.mv xa3b),
 cg oa3d ta3c true (.mv xa07),
 cg oa3e ta3c true (.call fn214 [xa3d]),
 cg oa3f ta3c true (.mv xa07),
 cg oa40 ta3c true (.len 0 xa3f),
 cg oa41 ta3c true (.eql (.cell (.int .i64)) xa3e xa40),
 ci oa42 (.pick xa3c xa41 kf),
 ci oa02 (.mv xa42)]) .ret))))))))), [.tmp ta02]⟩
def cf185 : CF := ⟨185, true, (.seq (.reg [
 ci oa04 (.mv (.k (.flt .f64 0))),
 ci oa05 (.mv (.k .nili))]) (.seq (.reg [
 ci oa09 (.mv xa00),
 ci oa0a (.mv xa01),
 ci oa0b (.call fn217 [xa09, xa0a]),
 ci oa08 (.mv xa0b),
 ci oa0c (.ext xa08 0),
 ci oa0d (.ext xa08 1),
 ci oa06 (.mv xa0c),
 ci oa07 (.mv xa0d)]) (.seq (.seq (.reg [
 ci oa0e (.mv xa07),
 ci oa0f (.neq .iface xa0e (.k .nili))]) (.cond xa0f (.seq (.reg [
 ci oa10 (.mv xa06),
 ci oa11 (.mv xa00),
 ci oa12 (.mv xa01),
 ci oa13 (.mv xa07),
 ci oa14 (.call fn216 [(ks 10 549591875057665908564304), xa11, (ki 0), xa12, xa13]),
 ci oa04 (.mv xa10),
 ci oa05 (.mv xa14)]) .ret) .skip)) (.seq (.reg [
 ci oa15 (.mv xa06),
 ci oa04 (.mv xa15),
 ci oa05 (.mv (.k .nili))]) .ret)))), [.tmp ta04, .tmp ta05]⟩
def cf186 : CF := ⟨186, true, (.seq (.reg [
 ci oa02 (.mv (ks 0 0))]) (.seq (.dreg [
 ⟨0, ci oa03 (.mv xa00), .pur, 0⟩,
 ⟨1, ci oa04 (.nilc xa03), .pur, 0⟩,
 ⟨2, ci oa05 (.fa xa04 1), .pur, 0⟩,
 ⟨3, ci oa06 (.ld1 xa05), .rd, 0⟩,
 ⟨4, ci oa07 (.usd xa06), .pur, 0⟩,
 ⟨5, ci oa08 (.mv xa00), .pur, 0⟩,
 ⟨6, ci oa09 (.nilc xa08), .pur, 0⟩,
 ⟨7, ci oa0a (.fa xa09 1), .pur, 0⟩,
 ⟨8, ci oa0b (.ld1 xa0a), .rd, 0⟩,
 ⟨9, ci oa0c (.len 1 xa0b), .rd, 0⟩,
 ⟨10, ci oa0d (.ustr 5 xa07 xa0c), .ev, 0⟩,
 ⟨11, ci oa02 (.mv xa0d), .pur, 0⟩]) .ret)), [.tmp ta02]⟩
def cf188 : CF := ⟨188, true, (.seq (.reg [
 ci oa04 (.mv (.k .nili))]) (.seq (.reg [
 ci oa05 (.mv xa00),
 ci oa06 (.call fn218 [xa05])]) (.seq (.reg [
 ci oa07 (.mv xa00),
 ci oa08 (.mv xa00),
 ci oa09 (.nilc xa08),
 ci oa0a (.fa xa09 1),
 ci oa0b (.ld1 xa0a),
 ci oa0c (.mv xa01),
 ci oa0d (.bslice 5 1 1 [(.u8 0)] [(0, xa0c)]),
 ci oa0e (.append 5 1 1 xa0b xa0d),
 ci oa0f (.nilc xa07),
 ci oa10 (.fa xa0f 1),
 ci none (.st 1 xa10 xa0e)]) (.seq (.reg [
 ci oa04 (.mv (.k .nili))]) .ret)))), [.tmp ta04]⟩
end Xv.Ck
