/- A part of the proof of 'CheckKnownCardSaid': the compiled functions, the answers found by evaluation, and what follows of them. There is no further condition. -/
import Derived.Test.YtplihffoohdjjaaGreatDoorX05
namespace Xv.Ck
open Xv
set_option maxRecDepth 100000
def cf189 : CF := ⟨189, true, (.seq (.reg [
 ci oa02 (.mv kf)]) (.seq (.block 0 (.loop (.seq (.seq (.reg [
 ci oa07 (.mv xa00),
 ci oa08 (.len 0 xa07),
 ci oa09 (.gtr xa08 (ki 0))]) (.cond xa09 .skip (.exit 0))) (.block 1 (.seq (.reg [
 ci oa0a (.mv xa00),
 ci oa0b (.ixs xa0a (ki 0)),
 ci oa03 (.mv xa0b)]) (.seq (.seq (.reg [
 ci oa0c (.mv xa03),
 ci oa0d (.lss xa0c (.k (.u8 128)))]) (.cond xa0d (.seq (.reg [
 ci oa0e (.mv xa00),
 ci oa0f (.slStr xa0e (some (ki 1)) none),
 ci oa00 (.mv xa0f)]) (.seq (.seq (.reg [
 ci oa10 (.mv xa00),
 ci oa11 (.len 0 xa10),
 ci oa12 (.gtr xa11 (ki 8)),
 ci oa13 (.mv xa12),
 cg oa14 ta13 true (.mv xa00),
 cg oa15 ta13 true (.call fn219 [xa14]),
 cg oa16 ta13 true (.and xa15 (.k (.int .u64 (.ofNat 9259542123273814144)))),
 cg oa17 ta13 true (.eql (.cell (.int .u64)) xa16 (.k (.int .u64 (.ofNat 0)))),
 ci oa18 (.pick xa13 xa17 kf)]) (.cond xa18 (.seq (.reg [
 ci oa19 (.mv xa00),
 ci oa1a (.slStr xa19 (some (ki 8)) none),
 ci oa00 (.mv xa1a)]) (.seq (.dreg [
 ⟨0, ci oa1b (.mv xa00), .pur, 0⟩,
 ⟨1, ci oa1c (.len 0 xa1b), .rd, 0⟩,
 ⟨2, ci oa1d (.gtr xa1c (ki 16)), .pur, 0⟩,
 ⟨3, ci oa1e (.mv xa1d), .pur, 0⟩,
 ⟨4, cg oa1f ta1e true (.mv xa00), .pur, 0⟩,
 ⟨6, cg oa21 ta1e true (.mv xa00), .pur, 0⟩,
 ⟨7, cg oa22 ta1e true (.slStr xa21 (some (ki 8)) none), .pur, 0⟩,
 ⟨5, cg oa20 ta1e true (.call fn219 [xa1f]), .ev, 0⟩,
 ⟨8, cg oa23 ta1e true (.call fn219 [xa22]), .ev, 1⟩,
 ⟨9, cg oa24 ta1e true (.or xa20 xa23), .pur, 0⟩,
 ⟨10, cg oa25 ta1e true (.and xa24 (.k (.int .u64 (.ofNat 9259542123273814144)))), .pur, 0⟩,
 ⟨11, cg oa26 ta1e true (.eql (.cell (.int .u64)) xa25 (.k (.int .u64 (.ofNat 0)))), .pur, 0⟩,
 ⟨12, ci oa27 (.pick xa1e xa26 kf), .pur, 0⟩]) (.cond xa27 (.seq (.reg [
 ci oa28 (.mv xa00),
 ci oa29 (.slStr xa28 (some (ki 16)) none),
 ci oa00 (.mv xa29)]) (.block 2 (.loop (.seq (.seq (.dreg [
 ⟨0, ci oa2a (.mv xa00), .pur, 0⟩,
 ⟨1, ci oa2b (.len 0 xa2a), .rd, 0⟩,
 ⟨2, ci oa2c (.gtr xa2b (ki 32)), .pur, 0⟩,
 ⟨3, ci oa2d (.mv xa2c), .pur, 0⟩,
 ⟨4, cg oa2e ta2d true (.mv xa00), .pur, 0⟩,
 ⟨6, cg oa30 ta2d true (.mv xa00), .pur, 0⟩,
 ⟨7, cg oa31 ta2d true (.slStr xa30 (some (ki 8)) none), .pur, 0⟩,
 ⟨10, cg oa34 ta2d true (.mv xa00), .pur, 0⟩,
 ⟨11, cg oa35 ta2d true (.slStr xa34 (some (ki 16)) none), .pur, 0⟩,
 ⟨13, cg oa37 ta2d true (.mv xa00), .pur, 0⟩,
 ⟨14, cg oa38 ta2d true (.slStr xa37 (some (ki 24)) none), .pur, 0⟩,
 ⟨5, cg oa2f ta2d true (.call fn219 [xa2e]), .ev, 0⟩,
 ⟨8, cg oa32 ta2d true (.call fn219 [xa31]), .ev, 1⟩,
 ⟨9, cg oa33 ta2d true (.or xa2f xa32), .pur, 0⟩,
 ⟨12, cg oa36 ta2d true (.call fn219 [xa35]), .ev, 2⟩,
 ⟨15, cg oa39 ta2d true (.call fn219 [xa38]), .ev, 3⟩,
 ⟨16, cg oa3a ta2d true (.or xa36 xa39), .pur, 0⟩,
 ⟨17, cg oa3b ta2d true (.or xa33 xa3a), .pur, 0⟩,
 ⟨18, cg oa3c ta2d true (.and xa3b (.k (.int .u64 (.ofNat 9259542123273814144)))), .pur, 0⟩,
 ⟨19, cg oa3d ta2d true (.eql (.cell (.int .u64)) xa3c (.k (.int .u64 (.ofNat 0)))), .pur, 0⟩,
 ⟨20, ci oa3e (.pick xa2d xa3d kf), .pur, 0⟩]) (.cond xa3e .skip (.exit 2))) (.block 3 (.reg [
 ci oa3f (.mv xa00),
 ci oa40 (.slStr xa3f (some (ki 32)) none),
 ci oa00 (.mv xa40)])))))) .skip))) .skip)) (.exit 1))) .skip)) (.seq (.reg [
 ci oa41 (.mv xa03),
 ci oa42 (.iaArr 1 256 (.k (.ptr ⟨.d15, .d0, .d0, .d3⟩ 0)) xa41),
 ci oa43 (.ld1 xa42),
 ci oa04 (.mv xa43)]) (.seq (.reg [
 ci oa44 (.mv xa04),
 ci oa45 (.and xa44 (.k (.u8 7))),
 ci oa46 (.cint .i64 xa45),
 ci oa05 (.mv xa46)]) (.seq (.reg [
 ci oa47 (.mv xa04),
 ci oa48 (.shr xa47 (.k (.int .u64 (.ofNat 4)))),
 ci oa49 (.iaArr 2 16 (.k (.ptr ⟨.d15, .d0, .d0, .d4⟩ 0)) xa48),
 ci oa4a (.ldn 2 xa49),
 ci oa06 (.alloc 291 [(.u8 0), (.u8 0)]),
 ci none (.st 2 xa06 xa4a)]) (.seq (.reg [
 ci oa4b (.mv xa05)]) (.block 4 (.seq (.reg [
 ci oa4d (.eql (.cell (.int .i64)) xa4b (ki 2)),
 ci oa4c (.mv xa4d)]) (.cond xa4c (.seq (.seq (.dreg [
 ⟨0, ci oa4e (.mv xa00), .pur, 0⟩,
 ⟨1, ci oa4f (.len 0 xa4e), .rd, 18⟩,
 ⟨2, ci oa50 (.lss xa4f (ki 2)), .pur, 0⟩,
 ⟨3, ci oa51 (.mv xa50), .pur, 0⟩,
 ⟨4, cg oa52 ta51 false (.mv xa00), .pur, 0⟩,
 ⟨5, cg oa53 ta51 false (.ixs xa52 (ki 1)), .pur, 0⟩,
 ⟨6, cg oa54 ta51 false (.fa xa06 0), .pur, 0⟩,
 ⟨7, cg oa55 ta51 false (.ld1 xa54), .rd, 18⟩,
 ⟨8, cg oa56 ta51 false (.lss xa53 xa55), .pur, 0⟩,
 ⟨9, ci oa57 (.pick xa51 kt xa56), .pur, 0⟩,
 ⟨10, ci oa58 (.mv xa57), .pur, 0⟩,
 ⟨11, cg oa59 ta58 false (.fa xa06 1), .pur, 0⟩,
 ⟨12, cg oa5a ta58 false (.ld1 xa59), .rd, 18⟩,
 ⟨13, cg oa5b ta58 false (.mv xa00), .pur, 0⟩,
 ⟨14, cg oa5c ta58 false (.ixs xa5b (ki 1)), .pur, 0⟩,
 ⟨15, cg oa5d ta58 false (.lss xa5a xa5c), .pur, 0⟩,
 ⟨16, ci oa5e (.pick xa58 kt xa5d), .pur, 0⟩]) (.cond xa5e (.seq (.reg [
 ci oa02 (.mv kf)]) .ret) .skip)) (.reg [
 ci oa5f (.mv xa00),
 ci oa60 (.slStr xa5f (some (ki 2)) none),
 ci oa00 (.mv xa60)])) (.seq (.reg [
 ci oa62 (.eql (.cell (.int .i64)) xa4b (ki 3)),
 ci oa61 (.mv xa62)]) (.cond xa61 (.seq (.seq (.dreg [
 ⟨0, ci oa63 (.mv xa00), .pur, 0⟩,
 ⟨1, ci oa64 (.len 0 xa63), .rd, 28⟩,
 ⟨2, ci oa65 (.lss xa64 (ki 3)), .pur, 0⟩,
 ⟨3, ci oa66 (.mv xa65), .pur, 0⟩,
 ⟨4, cg oa67 ta66 false (.mv xa00), .pur, 0⟩,
 ⟨5, cg oa68 ta66 false (.ixs xa67 (ki 1)), .pur, 0⟩,
 ⟨6, cg oa69 ta66 false (.fa xa06 0), .pur, 0⟩,
 ⟨7, cg oa6a ta66 false (.ld1 xa69), .rd, 28⟩,
 ⟨8, cg oa6b ta66 false (.lss xa68 xa6a), .pur, 0⟩,
 ⟨9, ci oa6c (.pick xa66 kt xa6b), .pur, 0⟩,
 ⟨10, ci oa6d (.mv xa6c), .pur, 0⟩,
 ⟨11, cg oa6e ta6d false (.fa xa06 1), .pur, 0⟩,
 ⟨12, cg oa6f ta6d false (.ld1 xa6e), .rd, 28⟩,
 ⟨13, cg oa70 ta6d false (.mv xa00), .pur, 0⟩,
 ⟨14, cg oa71 ta6d false (.ixs xa70 (ki 1)), .pur, 0⟩,
 ⟨15, cg oa72 ta6d false (.lss xa6f xa71), .pur, 0⟩,
 ⟨16, ci oa73 (.pick xa6d kt xa72), .pur, 0⟩,
 ⟨17, ci oa74 (.mv xa73), .pur, 0⟩,
 ⟨18, cg oa75 ta74 false (.mv xa00), .pur, 0⟩,
 ⟨19, cg oa76 ta74 false (.ixs xa75 (ki 2)), .pur, 0⟩,
 ⟨20, cg oa77 ta74 false (.lss xa76 (.k (.u8 128))), .pur, 0⟩,
 ⟨21, ci oa78 (.pick xa74 kt xa77), .pur, 0⟩,
 ⟨22, ci oa79 (.mv xa78), .pur, 0⟩,
 ⟨23, cg oa7a ta79 false (.mv xa00), .pur, 0⟩,
 ⟨24, cg oa7b ta79 false (.ixs xa7a (ki 2)), .pur, 0⟩,
 ⟨25, cg oa7c ta79 false (.lss (.k (.u8 191)) xa7b), .pur, 0⟩,
 ⟨26, ci oa7d (.pick xa79 kt xa7c), .pur, 0⟩]) (.cond xa7d (.seq (.reg [
 ci oa02 (.mv kf)]) .ret) .skip)) (.reg [
 ci oa7e (.mv xa00),
 ci oa7f (.slStr xa7e (some (ki 3)) none),
 ci oa00 (.mv xa7f)])) (.seq (.reg [
 ci oa81 (.eql (.cell (.int .i64)) xa4b (ki 4)),
 ci oa80 (.mv xa81)]) (.cond xa80 (.seq (.seq (.dreg [
 ⟨0, ci oa82 (.mv xa00), .pur, 0⟩,
 ⟨1, ci oa83 (.len 0 xa82), .rd, 38⟩,
 ⟨2, ci oa84 (.lss xa83 (ki 4)), .pur, 0⟩,
 ⟨3, ci oa85 (.mv xa84), .pur, 0⟩,
 ⟨4, cg oa86 ta85 false (.mv xa00), .pur, 0⟩,
 ⟨5, cg oa87 ta85 false (.ixs xa86 (ki 1)), .pur, 0⟩,
 ⟨6, cg oa88 ta85 false (.fa xa06 0), .pur, 0⟩,
 ⟨7, cg oa89 ta85 false (.ld1 xa88), .rd, 38⟩,
 ⟨8, cg oa8a ta85 false (.lss xa87 xa89), .pur, 0⟩,
 ⟨9, ci oa8b (.pick xa85 kt xa8a), .pur, 0⟩,
 ⟨10, ci oa8c (.mv xa8b), .pur, 0⟩,
 ⟨11, cg oa8d ta8c false (.fa xa06 1), .pur, 0⟩,
 ⟨12, cg oa8e ta8c false (.ld1 xa8d), .rd, 38⟩,
 ⟨13, cg oa8f ta8c false (.mv xa00), .pur, 0⟩,
 ⟨14, cg oa90 ta8c false (.ixs xa8f (ki 1)), .pur, 0⟩,
 ⟨15, cg oa91 ta8c false (.lss xa8e xa90), .pur, 0⟩,
 ⟨16, ci oa92 (.pick xa8c kt xa91), .pur, 0⟩,
 ⟨17, ci oa93 (.mv xa92), .pur, 0⟩,
 ⟨18, cg oa94 ta93 false (.mv xa00), .pur, 0⟩,
 ⟨19, cg oa95 ta93 false (.ixs xa94 (ki 2)), .pur, 0⟩,
 ⟨20, cg oa96 ta93 false (.lss xa95 (.k (.u8 128))), .pur, 0⟩,
 ⟨21, ci oa97 (.pick xa93 kt xa96), .pur, 0⟩,
 ⟨22, ci oa98 (.mv xa97), .pur, 0⟩,
 ⟨23, cg oa99 ta98 false (.mv xa00), .pur, 0⟩,
 ⟨24, cg oa9a ta98 false (.ixs xa99 (ki 2)), .pur, 0⟩,
 ⟨25, cg oa9b ta98 false (.lss (.k (.u8 191)) xa9a), .pur, 0⟩,
 ⟨26, ci oa9c (.pick xa98 kt xa9b), .pur, 0⟩,
 ⟨27, ci oa9d (.mv xa9c), .pur, 0⟩,
 ⟨28, cg oa9e ta9d false (.mv xa00), .pur, 0⟩,
 ⟨29, cg oa9f ta9d false (.ixs xa9e (ki 3)), .pur, 0⟩,
 ⟨30, cg oaa0 ta9d false (.lss xa9f (.k (.u8 128))), .pur, 0⟩,
 ⟨31, ci oaa1 (.pick xa9d kt xaa0), .pur, 0⟩,
 ⟨32, ci oaa2 (.mv xaa1), .pur, 0⟩,
 ⟨33, cg oaa3 taa2 false (.mv xa00), .pur, 0⟩,
 ⟨34, cg oaa4 taa2 false (.ixs xaa3 (ki 3)), .pur, 0⟩,
 ⟨35, cg oaa5 taa2 false (.lss (.k (.u8 191)) xaa4), .pur, 0⟩,
 ⟨36, ci oaa6 (.pick xaa2 kt xaa5), .pur, 0⟩]) (.cond xaa6 (.seq (.reg [
 ci oa02 (.mv kf)]) .ret) .skip)) (.reg [
 ci oaa7 (.mv xa00),
 ci oaa8 (.slStr xaa7 (some (ki 4)) none),
 ci oa00 (.mv xaa8)])) (.seq (.reg [
 ci oa02 (.mv kf)]) .ret)))))))))))))))))) (.seq (.reg [
 ci oa02 (.mv kt)]) .ret))), [.tmp ta02]⟩
def cf190 : CF := ⟨190, true, (.seq (.seq (.reg [
 ci oa09 (.mv xa00),
 ci oa0a (.mv xa01),
 ci oa0b (.bslice 9 1 1 [ve] [(0, xa0a)]),
 ci oa0c (.call fn105 [xa09, xa0b]),
 ci oa0d (.mv xa0c),
 cg oa0e ta0d true (.mv xa00),
 cg oa0f ta0d true (.nilc xa0e),
 cg oa10 ta0d true (.fa xa0f 2),
 cg oa11 ta0d true (.ld1 xa10),
 cg oa12 ta0d true (.eql (.cell (.int .i64)) xa11 (ki 128)),
 ci oa13 (.pick xa0d xa12 kf)]) (.cond xa13 (.reg [
 ci oa14 (.mv xa00),
 ci oa15 (.call fn147 [xa14, (ki 3)])]) .skip)) (.seq (.reg [
 ci oa16 (.mv xa00),
 ci oa17 (.nilc xa16),
 ci oa18 (.fa xa17 3),
 ci oa19 (.ld1 xa18),
 ci oa08 (.mv xa19)]) (.seq (.reg [
 ci oa1a (.mv xa00),
 ci oa1b (.mv xa01),
 ci oa1c (.call fn102 [xa1a, xa1b])]) (.seq (.reg [
 ci oa1d (.mv xa00),
 ci oa1e (.nilc xa1d),
 ci oa1f (.fa xa1e 2),
 ci oa20 (.ld1 xa1f),
 ci oa21 (.add xa20 (ki 1)),
 ci oa22 (.nilc xa1d),
 ci oa23 (.fa xa22 2),
 ci none (.st 1 xa23 xa21)]) (.seq (.reg [
 ci oa24 (.mv xa00),
 ci oa25 (.nilc xa24),
 ci oa26 (.fa xa25 3),
 ci none (.st 1 xa26 kf)]) (.seq (.reg [
 ci oa27 (.mv xa03),
 ci oa28 (.callv xa27 [])]) (.seq (.reg [
 ci oa29 (.mv xa00),
 ci oa2a (.mv xa02),
 ci oa2b (.call fn102 [xa29, xa2a])]) (.seq (.reg [
 ci oa2c (.mv xa00),
 ci oa2d (.nilc xa2c),
 ci oa2e (.fa xa2d 2),
 ci oa2f (.ld1 xa2e),
 ci oa30 (.sub xa2f (ki 1)),
 ci oa31 (.nilc xa2c),
 ci oa32 (.fa xa31 2),
 ci none (.st 1 xa32 xa30)]) (.reg [
 ci oa33 (.mv xa00),
 ci oa34 (.mv xa08),
 ci oa35 (.nilc xa33),
 ci oa36 (.fa xa35 3),
 ci none (.st 1 xa36 xa34)]))))))))), []⟩
def cf191 : CF := ⟨191, true, (.block 0 (.loop (.seq (.seq (.reg [
 ci oa05 (.ld1 xa00),
 ci oa06 (.ld1 xa01),
 ci oa07 (.bslice 9 1 1 [ve] [(0, xa06)]),
 ci oa08 (.call fn105 [xa05, xa07]),
 ci oa09 (.not xa08)]) (.cond xa09 .skip (.exit 0))) (.block 1 (.seq (.dreg [
 ⟨0, ci oa0a (.ld1 xa02), .rd, 2⟩,
 ⟨1, ci oa0b (.ld1 xa03), .rd, 0⟩,
 ⟨3, ci oa0d (.len 1 xa0a), .rd, 2⟩,
 ⟨2, ci oa0c (.callv xa0b []), .ev, 0⟩,
 ⟨4, ci oa0e (.bslice 44 6 1 [vz, vz, vz, vz, ve, .nils] [(0, (.k (.agg [vz, vz, vz, vz, ve, .nils])))]), .late, 1⟩,
 ⟨5, ci oa0f (.append 44 6 72 xa0a xa0e), .ev, 2⟩,
 ⟨6, ci oa10 (.ia 6 xa0f xa0d), .pur, 0⟩,
 ⟨7, ci none (.st 6 xa10 xa0c), .fst, 3⟩,
 ⟨8, ci none (.st 1 xa02 xa0f), .snd, 3⟩]) (.seq (.seq (.reg [
 ci oa11 (.ld1 xa00),
 ci oa12 (.ld1 xa01),
 ci oa13 (.bslice 9 1 1 [ve] [(0, xa12)]),
 ci oa14 (.call fn105 [xa11, xa13])]) (.cond xa14 .ret .skip)) (.reg [
 ci oa15 (.ld1 xa04),
 ci oa16 (.callv xa15 [])]))))))), []⟩
def cf192 : CF := ⟨192, true, (.seq (.reg [
 ci oa02 (.alloc 44 [vz, vz, vz, vz, ve, .nils])]) (.seq (.reg [
 ci oa05 (.ld1 xa00),
 ci oa06 (.call fn103 [xa05, (ki 1)]),
 ci oa03 (.alloc 134 [vz, ve, vz, vz]),
 ci none (.st 4 xa03 xa06)]) (.seq (.reg [
 ci oa07 (.ld1 xa00),
 ci oa08 (.call fn156 [xa07]),
 ci oa04 (.alloc 44 [vz, vz, vz, vz, ve, .nils]),
 ci none (.st 6 xa04 xa08)]) (.seq (.reg [
 ci oa09 (.ld1 xa00),
 ci oa0a (.ld1 xa01),
 ci oa0b (.fa xa03 2),
 ci oa0c (.ld1 xa0b),
 ci oa0d (.fa xa03 2),
 ci oa0e (.ld1 xa0d),
 ci oa0f (.fa xa03 1),
 ci oa10 (.ld1 xa0f),
 ci oa11 (.ldn 6 xa04),
 ci oa12 (.bslice 44 6 1 [vz, vz, vz, vz, ve, .nils] [(0, xa11)]),
 ci oa13 (.call fn151 [xa09, xa0a, xa0c, xa0e, xa10, xa12]),
 ci none (.st 6 xa02 xa13)]) .ret)))), [.cell 6 true ta02]⟩
def cf193 : CF := ⟨193, true, (.seq (.reg [
 ci oa05 (.ld1 xa00),
 ci oa06 (.call fn103 [xa05, (ki 1)]),
 ci oa02 (.alloc 134 [vz, ve, vz, vz]),
 ci none (.st 4 xa02 xa06)]) (.seq (.reg [
 ci oa07 (.ld1 xa00),
 ci oa08 (.call fn103 [xa07, (ki 1)]),
 ci oa03 (.alloc 134 [vz, ve, vz, vz]),
 ci none (.st 4 xa03 xa08)]) (.seq (.reg [
 ci oa09 (.ld1 xa00),
 ci oa0a (.fa xa03 2),
 ci oa0b (.ld1 xa0a),
 ci oa0c (.fa xa03 2),
 ci oa0d (.ld1 xa0c),
 ci oa0e (.fa xa03 1),
 ci oa0f (.ld1 xa0e),
 ci oa10 (.call fn151 [xa09, (ki 8), xa0b, xa0d, xa0f, (.k .nils)]),
 ci oa04 (.alloc 44 [vz, vz, vz, vz, ve, .nils]),
 ci none (.st 6 xa04 xa10)]) (.reg [
 ci oa11 (.ld1 xa00),
 ci oa12 (.fa xa02 2),
 ci oa13 (.ld1 xa12),
 ci oa14 (.fa xa02 2),
 ci oa15 (.ld1 xa14),
 ci oa16 (.fa xa02 1),
 ci oa17 (.ld1 xa16),
 ci oa18 (.ldn 6 xa04),
 ci oa19 (.bslice 44 6 1 [vz, vz, vz, vz, ve, .nils] [(0, xa18)]),
 ci oa1a (.call fn151 [xa11, (ki 7), xa13, xa15, xa17, xa19]),
 ci none (.st 6 xa01 xa1a)])))), []⟩
def cf194 : CF := ⟨194, true, (.seq (.reg [
 ci oa02 (.ld1 xa00),
 ci oa03 (.call fn102 [xa02, (ks 1 44)])]) (.seq (.reg [
 ci oa04 (.ld1 xa00),
 ci oa05 (.ld1 xa01),
 ci oa06 (.bslice 9 1 1 [ve] [(0, xa05)]),
 ci oa07 (.call fn105 [xa04, xa06])]) (.cond xa07 (.reg [
 ci oa08 (.ld1 xa00),
 ci oa09 (.call fn147 [xa08, (ki 4)])]) .skip))), []⟩
def cf195 : CF := ⟨195, true, (.seq (.reg [
 ci oa02 (.alloc 44 [vz, vz, vz, vz, ve, .nils])]) (.seq (.reg [
 ci oa07 (.mv xa00),
 ci oa08 (.call fn149 [xa07]),
 ci oa03 (.alloc 134 [vz, ve, vz, vz]),
 ci none (.st 4 xa03 xa08)]) (.seq (.block 0 (.seq (.reg [
 ci oa0a (.mv xa00),
 ci oa0b (.bslice 9 1 1 [ve] [(0, (ks 1 123))]),
 ci oa0c (.call fn105 [xa0a, xa0b]),
 ci oa09 (.mv xa0c)]) (.cond xa09 (.seq (.reg [
 ci oa0d (.mv xa00),
 ci oa0e (.call fn157 [xa0d]),
 ci none (.st 6 xa02 xa0e)]) .ret) (.seq (.reg [
 ci oa10 (.mv xa00),
 ci oa11 (.bslice 9 1 1 [ve] [(0, (ks 2 26217))]),
 ci oa12 (.call fn105 [xa10, xa11]),
 ci oa0f (.mv xa12)]) (.cond xa0f (.seq (.reg [
 ci oa13 (.mv xa00),
 ci oa14 (.call fn220 [xa13]),
 ci none (.st 6 xa02 xa14)]) .ret) (.seq (.reg [
 ci oa16 (.mv xa00),
 ci oa17 (.bslice 9 1 1 [ve] [(0, (ks 3 7499622))]),
 ci oa18 (.call fn105 [xa16, xa17]),
 ci oa15 (.mv xa18)]) (.cond xa15 (.seq (.reg [
 ci oa19 (.mv xa00),
 ci oa1a (.call fn221 [xa19]),
 ci none (.st 6 xa02 xa1a)]) .ret) (.seq (.reg [
 ci oa1c (.mv xa00),
 ci oa1d (.bslice 9 1 1 [ve] [(0, (ks 3 7496054))]),
 ci oa1e (.call fn105 [xa1c, xa1d]),
 ci oa1b (.mv xa1e)]) (.cond xa1b (.seq (.reg [
 ci oa1f (.mv xa00),
 ci oa20 (.call fn222 [xa1f]),
 ci none (.st 6 xa02 xa20)]) .ret) (.seq (.reg [
 ci oa22 (.mv xa00),
 ci oa23 (.bslice 9 1 1 [ve] [(0, (ks 5 461195539042))]),
 ci oa24 (.call fn105 [xa22, xa23]),
 ci oa21 (.mv xa24)]) (.cond xa21 (.seq (.reg [
 ci oa25 (.mv xa00),
 ci oa26 (.call fn223 [xa25, (ki 17)]),
 ci none (.st 6 xa02 xa26)]) .ret) (.seq (.reg [
 ci oa28 (.mv xa00),
 ci oa29 (.bslice 9 1 1 [ve] [(0, (ks 8 7310870969309884259))]),
 ci oa2a (.call fn105 [xa28, xa29]),
 ci oa27 (.mv xa2a)]) (.cond xa27 (.seq (.reg [
 ci oa2b (.mv xa00),
 ci oa2c (.call fn223 [xa2b, (ki 18)]),
 ci none (.st 6 xa02 xa2c)]) .ret) (.seq (.reg [
 ci oa2e (.mv xa00),
 ci oa2f (.call fn224 [xa2e, (ks 6 121437875889522)]),
 ci oa2d (.mv xa2f)]) (.cond xa2d (.seq (.seq (.reg [
 ci oa30 (.mv xa00),
 ci oa31 (.call fn149 [xa30]),
 ci oa32 (.fld xa31 0 1 false),
 ci oa33 (.eql (.cell (.int .i64)) xa32 (ki 7)),
 ci oa34 (.mv xa33),
 cg oa35 ta34 false (.mv xa00),
 cg oa36 ta34 false (.bslice 9 1 1 [ve] [(0, (ks 1 125))]),
 cg oa37 ta34 false (.call fn105 [xa35, xa36]),
 ci oa38 (.pick xa34 kt xa37)]) (.cond xa38 (.seq (.reg [
 ci oa39 (.mv xa00),
 ci oa3a (.fa xa03 2),
 ci oa3b (.ld1 xa3a),
 ci oa3c (.fa xa03 2),
 ci oa3d (.ld1 xa3c),
 ci oa3e (.call fn151 [xa39, (ki 19), xa3b, xa3d, (ks 0 0), (.k .nils)]),
 ci none (.st 6 xa02 xa3e)]) .ret) .skip)) (.seq (.reg [
 ci oa3f (.mv xa00),
 ci oa40 (.call fn225 [xa3f, (ki 0)]),
 ci oa04 (.alloc 44 [vz, vz, vz, vz, ve, .nils]),
 ci none (.st 6 xa04 xa40)]) (.seq (.reg [
 ci oa41 (.mv xa00),
 ci oa42 (.fa xa03 2),
 ci oa43 (.ld1 xa42),
 ci oa44 (.fa xa03 2),
 ci oa45 (.ld1 xa44),
 ci oa46 (.ldn 6 xa04),
 ci oa47 (.bslice 44 6 1 [vz, vz, vz, vz, ve, .nils] [(0, xa46)]),
 ci oa48 (.call fn151 [xa41, (ki 19), xa43, xa45, (ks 0 0), xa47]),
 ci none (.st 6 xa02 xa48)]) .ret))) .skip))))))))))))))) (.seq (.reg [
 ci oa49 (.mv xa00),
 ci oa4a (.call fn226 [xa49]),
 ci oa05 (.alloc 44 [vz, vz, vz, vz, ve, .nils]),
 ci none (.st 6 xa05 xa4a)]) (.seq (.seq (.reg [
 ci oa4b (.fa xa05 0),
 ci oa4c (.ld1 xa4b),
 ci oa4d (.eql (.cell (.int .i64)) xa4c (ki 25)),
 ci oa4e (.mv xa4d),
 cg oa4f ta4e true (.mv xa00),
 cg oa50 ta4e true (.call fn224 [xa4f, (ks 1 58)]),
 ci oa51 (.pick xa4e xa50 kf)]) (.cond xa51 (.seq (.reg [
 ci oa52 (.mv xa00),
 ci oa53 (.call fn221 [xa52]),
 ci oa06 (.alloc 44 [vz, vz, vz, vz, ve, .nils]),
 ci none (.st 6 xa06 xa53)]) (.seq (.reg [
 ci oa54 (.mv xa00),
 ci oa55 (.fa xa03 2),
 ci oa56 (.ld1 xa55),
 ci oa57 (.fa xa03 2),
 ci oa58 (.ld1 xa57),
 ci oa59 (.fa xa05 4),
 ci oa5a (.ld1 xa59),
 ci oa5b (.ldn 6 xa06),
 ci oa5c (.bslice 44 6 1 [vz, vz, vz, vz, ve, .nils] [(0, xa5b)]),
 ci oa5d (.call fn151 [xa54, (ki 16), xa56, xa58, xa5a, xa5c]),
 ci none (.st 6 xa02 xa5d)]) .ret)) .skip)) (.seq (.reg [
 ci oa5e (.mv xa00),
 ci oa5f (.ldn 6 xa05),
 ci oa60 (.call fn227 [xa5e, xa5f, kt]),
 ci none (.st 6 xa02 xa60)]) .ret)))))), [.cell 6 true ta02]⟩
def cf196 : CF := ⟨196, true, (.seq (.reg [
 ci oa0a (.mv kt)]) (.seq (.reg [
 ci oa0b (.mv kt)]) (.block 0 (.loop (.block 1 (.seq (.reg [
 ci oa15 (.mv xa02),
 ci oa16 (.mv xa01),
 ci oa17 (.sub xa15 xa16),
 ci oa0c (.mv xa17)]) (.seq (.seq (.reg [
 ci oa18 (.mv xa0c),
 ci oa19 (.leq xa18 (ki 12))]) (.cond xa19 (.seq (.reg [
 ci oa1a (.mv xa00),
 ci oa1b (.mv xa01),
 ci oa1c (.mv xa02),
 ci oa1d (.mv xa04),
 ci oa1e (.call fn228 [xa1a, xa1b, xa1c, xa1d])]) .ret) .skip)) (.seq (.seq (.reg [
 ci oa1f (.mv xa03),
 ci oa20 (.eql (.cell (.int .i64)) xa1f (ki 0))]) (.cond xa20 (.seq (.reg [
 ci oa21 (.mv xa00),
 ci oa22 (.mv xa01),
 ci oa23 (.mv xa02),
 ci oa24 (.mv xa04),
 ci oa25 (.call fn229 [xa21, xa22, xa23, xa24])]) .ret) .skip)) (.seq (.seq (.reg [
 ci oa26 (.mv xa0a),
 ci oa27 (.not xa26)]) (.cond xa27 (.seq (.reg [
 ci oa28 (.mv xa00),
 ci oa29 (.mv xa01),
 ci oa2a (.mv xa02),
 ci oa2b (.mv xa04),
 ci oa2c (.call fn230 [xa28, xa29, xa2a, xa2b])]) (.reg [
 ci oa2d (.mv xa03),
 ci oa2e (.sub xa2d (ki 1)),
 ci oa03 (.mv xa2e)])) .skip)) (.seq (.reg [
 ci oa30 (.mv xa00),
 ci oa31 (.mv xa01),
 ci oa32 (.mv xa02),
 ci oa33 (.mv xa04),
 ci oa34 (.call fn231 [xa30, xa31, xa32, xa33]),
 ci oa2f (.mv xa34),
 ci oa35 (.ext xa2f 0),
 ci oa36 (.ext xa2f 1),
 ci oa0d (.mv xa35),
 ci oa0e (.mv xa36)]) (.seq (.seq (.reg [
 ci oa37 (.mv xa0e),
 ci oa38 (.eql (.cell (.int .i64)) xa37 (ki 2))]) (.cond xa38 (.seq (.reg [
 ci oa39 (.mv xa00),
 ci oa3a (.mv xa01),
 ci oa3b (.mv xa02),
 ci oa3c (.mv xa04),
 ci oa3d (.call fn232 [xa39, xa3a, xa3b, xa3c])]) (.seq (.reg [
 ci oa3e (.mv xa02),
 ci oa3f (.sub xa3e (ki 1)),
 ci oa40 (.mv xa0d),
 ci oa41 (.mv xa01),
 ci oa42 (.sub xa40 xa41),
 ci oa43 (.sub xa3f xa42),
 ci oa0d (.mv xa43)]) (.reg [
 ci oa0e (.mv (ki 1))]))) .skip)) (.seq (.seq (.reg [
 ci oa44 (.mv xa0a),
 ci oa45 (.mv xa44),
 cg oa46 ta45 true (.mv xa0b),
 ci oa47 (.pick xa45 xa46 kf),
 ci oa48 (.mv xa47),
 cg oa49 ta48 true (.mv xa0e),
 cg oa4a ta48 true (.eql (.cell (.int .i64)) xa49 (ki 1)),
 ci oa4b (.pick xa48 xa4a kf)]) (.cond xa4b (.seq (.reg [
 ci oa4c (.mv xa00),
 ci oa4d (.mv xa01),
 ci oa4e (.mv xa02),
 ci oa4f (.mv xa04),
 ci oa50 (.call fn233 [xa4c, xa4d, xa4e, xa4f])]) (.cond xa50 .ret .skip)) .skip)) (.seq (.seq (.dreg [
 ⟨0, ci oa51 (.mv xa01), .pur, 0⟩,
 ⟨1, ci oa52 (.gtr xa51 (ki 0)), .pur, 0⟩,
 ⟨2, ci oa53 (.mv xa52), .pur, 0⟩,
 ⟨3, cg oa54 ta53 true (.mv xa04), .pur, 0⟩,
 ⟨4, cg oa55 ta53 true (.mv xa00), .pur, 0⟩,
 ⟨5, cg oa56 ta53 true (.mv xa01), .pur, 0⟩,
 ⟨6, cg oa57 ta53 true (.sub xa56 (ki 1)), .pur, 0⟩,
 ⟨7, cg oa58 ta53 true (.ia 5 xa55 xa57), .pur, 0⟩,
 ⟨8, cg oa59 ta53 true (.ldn 5 xa58), .rd, 0⟩,
 ⟨9, cg oa5a ta53 true (.mv xa00), .pur, 0⟩,
 ⟨10, cg oa5b ta53 true (.mv xa0d), .pur, 0⟩,
 ⟨11, cg oa5c ta53 true (.ia 5 xa5a xa5b), .pur, 0⟩,
 ⟨12, cg oa5d ta53 true (.ldn 5 xa5c), .rd, 0⟩,
 ⟨13, cg oa5e ta53 true (.callv xa54 [xa59, xa5d]), .ev, 0⟩,
 ⟨14, cg oa5f ta53 true (.lss xa5e (ki 0)), .pur, 0⟩,
 ⟨15, cg oa60 ta53 true (.not xa5f), .pur, 0⟩,
 ⟨16, ci oa61 (.pick xa53 xa60 kf), .pur, 0⟩]) (.cond xa61 (.seq (.reg [
 ci oa62 (.mv xa00),
 ci oa63 (.mv xa01),
 ci oa64 (.mv xa02),
 ci oa65 (.mv xa0d),
 ci oa66 (.mv xa04),
 ci oa67 (.call fn234 [xa62, xa63, xa64, xa65, xa66]),
 ci oa0f (.mv xa67)]) (.seq (.reg [
 ci oa68 (.mv xa0f),
 ci oa01 (.mv xa68)]) (.exit 1))) .skip)) (.seq (.reg [
 ci oa6a (.mv xa00),
 ci oa6b (.mv xa01),
 ci oa6c (.mv xa02),
 ci oa6d (.mv xa0d),
 ci oa6e (.mv xa04),
 ci oa6f (.call fn235 [xa6a, xa6b, xa6c, xa6d, xa6e]),
 ci oa69 (.mv xa6f),
 ci oa70 (.ext xa69 0),
 ci oa71 (.ext xa69 1),
 ci oa10 (.mv xa70),
 ci oa11 (.mv xa71)]) (.seq (.reg [
 ci oa72 (.mv xa11),
 ci oa0b (.mv xa72)]) (.seq (.reg [
 ci oa73 (.mv xa10),
 ci oa74 (.mv xa01),
 ci oa75 (.sub xa73 xa74),
 ci oa76 (.mv xa02),
 ci oa77 (.mv xa10),
 ci oa78 (.sub xa76 xa77),
 ci oa12 (.mv xa75),
 ci oa13 (.mv xa78)]) (.seq (.reg [
 ci oa79 (.mv xa0c),
 ci oa7a (.quo xa79 (ki 8)),
 ci oa14 (.mv xa7a)]) (.seq (.reg [
 ci oa7b (.mv xa12),
 ci oa7c (.mv xa13),
 ci oa7d (.lss xa7b xa7c)]) (.cond xa7d (.seq (.reg [
 ci oa7e (.mv xa12),
 ci oa7f (.mv xa14),
 ci oa80 (.geq xa7e xa7f),
 ci oa0a (.mv xa80)]) (.seq (.reg [
 ci oa81 (.mv xa00),
 ci oa82 (.mv xa01),
 ci oa83 (.mv xa10),
 ci oa84 (.mv xa03),
 ci oa85 (.mv xa04),
 ci oa86 (.call fn196 [xa81, xa82, xa83, xa84, xa85])]) (.reg [
 ci oa87 (.mv xa10),
 ci oa88 (.add xa87 (ki 1)),
 ci oa01 (.mv xa88)]))) (.seq (.reg [
 ci oa89 (.mv xa13),
 ci oa8a (.mv xa14),
 ci oa8b (.geq xa89 xa8a),
 ci oa0a (.mv xa8b)]) (.seq (.reg [
 ci oa8c (.mv xa00),
 ci oa8d (.mv xa10),
 ci oa8e (.add xa8d (ki 1)),
 ci oa8f (.mv xa02),
 ci oa90 (.mv xa03),
 ci oa91 (.mv xa04),
 ci oa92 (.call fn196 [xa8c, xa8e, xa8f, xa90, xa91])]) (.reg [
 ci oa93 (.mv xa10),
 ci oa02 (.mv xa93)])))))))))))))))))))))), []⟩
def cf197 : CF := ⟨197, true, (.seq (.reg [
 ci oa04 (.mv (ki 0))]) (.seq (.seq (.reg [
 ci oa06 (.mv xa00),
 ci oa07 (.len 1 xa06),
 ci oa08 (.mv (ki 0))]) (.block 0 (.loop (.seq (.reg [
 ci oa09 (.lss xa08 xa07)]) (.seq (.cond xa09 .skip (.exit 0)) (.seq (.block 1 (.seq (.reg [
 ci oa0a (.mv xa08),
 ci oa05 (.mv xa0a)]) (.seq (.reg [
 ci oa0b (.mv xa01),
 ci oa0c (.mv xa00),
 ci oa0d (.mv xa05),
 ci oa0e (.ia 5 xa0c xa0d),
 ci oa0f (.ldn 5 xa0e),
 ci oa10 (.callv xa0b [xa0f])]) (.cond xa10 (.seq (.reg [
 ci oa11 (.mv xa05),
 ci oa04 (.mv xa11)]) .ret) .skip)))) (.reg [
 ci oa12 (.add xa08 (ki 1)),
 ci oa08 (.mv xa12)]))))))) (.seq (.reg [
 ci oa04 (.mv (.k (.i (.negSucc 0))))]) .ret))), [.tmp ta04]⟩
def cf198 : CF := ⟨198, true, (.seq (.reg [
 ci oa02 (.box 35 5 xa00),
 ci oa03 (.mv kf)]) (.seq (.reg [
 ci oa04 (.fa xa02 1),
 ci oa05 (.ld1 xa04),
 ci oa06 (.ld1 xa01),
 ci oa07 (.eql (.cell .str) xa05 xa06),
 ci oa03 (.mv xa07)]) .ret)), [.tmp ta03]⟩
def cf199 : CF := ⟨199, true, (.seq (.reg [
 ci oa02 (.box 81 4 xa00),
 ci oa04 (.mv kf)]) (.seq (.reg [
 ci oa05 (.ldn 4 xa02),
 ci oa06 (.call fn123 [xa05]),
 ci oa07 (.mv xa06),
 cg oa08 ta07 true (.mv xa01),
 cg oa09 ta07 true (.fa xa02 0),
 cg oa0a ta07 true (.fa xa09 0),
 cg oa0b ta07 true (.ld1 xa0a),
 cg oa0c ta07 true (.call fn236 [xa08, xa0b]),
 ci oa0d (.pick xa07 xa0c kf),
 ci oa04 (.mv xa0d)]) .ret)), [.tmp ta04]⟩
def cf200 : CF := ⟨200, true, (.seq (.reg [
 ci oa03 (.box 44 6 xa01),
 ci oa04 (.mv kf)]) (.seq (.reg [
 ci oa06 (.fa xa03 5),
 ci oa07 (.ld1 xa06),
 ci oa08 (.ia 6 xa07 (ki 0)),
 ci oa09 (.ldn 6 xa08),
 ci oa05 (.alloc 44 [vz, vz, vz, vz, ve, .nils]),
 ci none (.st 6 xa05 xa09)]) (.seq (.dreg [
 ⟨0, ci oa0a (.fa xa05 0), .pur, 0⟩,
 ⟨1, ci oa0b (.ld1 xa0a), .rd, 22⟩,
 ⟨2, ci oa0c (.eql (.cell (.int .i64)) xa0b (ki 25)), .pur, 0⟩,
 ⟨3, ci oa0d (.mv xa0c), .pur, 0⟩,
 ⟨4, cg oa0e ta0d true (.mv xa00), .pur, 0⟩,
 ⟨5, cg oa0f ta0d true (.nilc xa0e), .pur, 0⟩,
 ⟨6, cg oa10 ta0d true (.fa xa0f 2), .pur, 0⟩,
 ⟨7, cg oa11 ta0d true (.ld1 xa10), .rd, 22⟩,
 ⟨8, cg oa12 ta0d true (.mv xa00), .pur, 0⟩,
 ⟨9, cg oa13 ta0d true (.nilc xa12), .pur, 0⟩,
 ⟨10, cg oa14 ta0d true (.fa xa13 8), .pur, 0⟩,
 ⟨11, cg oa15 ta0d true (.ld1 xa14), .rd, 22⟩,
 ⟨12, cg oa16 ta0d true (.fa xa05 3), .pur, 0⟩,
 ⟨13, cg oa17 ta0d true (.ld1 xa16), .rd, 22⟩,
 ⟨14, cg oa18 ta0d true (.build [vz, vz] [(0, 1, xa15), (1, 1, xa17)]), .pur, 0⟩,
 ⟨15, cg oa19 ta0d true (.lkp (.strct [(.int .i64), (.int .i64)]) (.agg [vz, vz, ve, (.bool false), vz, ve, vz, vz, ve]) xa11 xa18 false), .rd, 22⟩,
 ⟨16, cg oa1a ta0d true (.fld xa19 4 5 true), .pur, 0⟩,
 ⟨17, cg oa1b ta0d true (.fld xa1a 0 1 false), .pur, 0⟩,
 ⟨18, cg oa1c ta0d true (.eql (.cell (.int .i64)) xa1b (ki 1)), .pur, 0⟩,
 ⟨19, ci oa1d (.pick xa0d xa1c kf), .pur, 0⟩,
 ⟨20, ci oa04 (.mv xa1d), .pur, 0⟩]) .ret))), [.tmp ta04]⟩
def cf201 : CF := ⟨201, true, (.seq (.reg [
 ci oa04 (.box 44 6 xa01),
 ci oa06 (.alloc 143 [vz, ve, vz, vz, ve, vz, ve, ve]),
 ci oa07 (.alloc 148 [vz, ve, vz, vz, ve, vz, ve, ve, .nils, vz, ve, ve]),
 ci oa08 (.mv kf)]) (.seq (.reg [
 ci oa0f (.mv xa00),
 ci oa10 (.fa xa04 5),
 ci oa11 (.ld1 xa10),
 ci oa12 (.ia 6 xa11 (ki 0)),
 ci oa13 (.ldn 6 xa12),
 ci oa14 (.call fn75 [xa0f, xa13]),
 ci oa09 (.alloc 81 [vz, ve, ve, (.bool false)]),
 ci none (.st 4 xa09 xa14)]) (.seq (.reg [
 ci oa16 (.mv xa00),
 ci oa17 (.fa xa09 0),
 ci oa18 (.ldn 3 xa17),
 ci oa19 (.fa xa04 4),
 ci oa1a (.ld1 xa19),
 ci oa1b (.call fn203 [xa16, xa18, xa1a]),
 ci oa15 (.mv xa1b),
 ci oa1c (.ext xa15 0),
 ci oa1d (.ext xa15 1),
 ci oa0a (.alloc 143 [vz, ve, vz, vz, ve, vz, ve, ve]),
 ci none (.st 8 xa0a xa1c),
 ci oa0b (.mv xa1d)]) (.seq (.dreg [
 ⟨0, ci oa1f (.mv xa00), .pur, 0⟩,
 ⟨1, ci oa20 (.nilc xa1f), .pur, 0⟩,
 ⟨2, ci oa21 (.fa xa20 1), .pur, 0⟩,
 ⟨3, ci oa22 (.ld1 xa21), .rd, 0⟩,
 ⟨4, ci oa23 (.fa xa09 0), .pur, 0⟩,
 ⟨5, ci oa24 (.ldn 3 xa23), .rd, 0⟩,
 ⟨6, ci oa25 (.fa xa04 4), .pur, 0⟩,
 ⟨7, ci oa26 (.ld1 xa25), .rd, 0⟩,
 ⟨8, ci oa27 (.call fn237 [xa22, xa24, xa26]), .ev, 0⟩,
 ⟨9, ci oa1e (.mv xa27), .pur, 0⟩,
 ⟨10, ci oa28 (.ext xa1e 0), .pur, 0⟩,
 ⟨11, ci oa29 (.ext xa1e 1), .pur, 0⟩,
 ⟨12, ci oa0c (.alloc 148 [vz, ve, vz, vz, ve, vz, ve, ve, .nils, vz, ve, ve]), .late, 1⟩,
 ⟨13, ci none (.st 12 xa0c xa28), .ev, 2⟩,
 ⟨14, ci oa0d (.mv xa29), .pur, 0⟩]) (.seq (.reg [
 ci oa0e (.mv (ki 14))]) (.seq (.block 0 (.seq (.reg [
 ci oa2b (.ldn 4 xa09),
 ci oa2c (.call fn123 [xa2b]),
 ci oa2d (.not xa2c),
 ci oa2a (.mv xa2d)]) (.cond xa2a (.seq (.dreg [
 ⟨0, ci oa2e (.ldn 8 xa0a), .rd, 0⟩,
 ⟨1, ci oa2f (.ldn 12 xa0c), .rd, 1⟩,
 ⟨2, ci none (.st 8 xa06 xa2e), .ev, 0⟩,
 ⟨3, ci none (.st 12 xa07 xa2f), .ev, 1⟩,
 ⟨4, ci oa08 (.mv kf), .pur, 0⟩]) .ret) (.seq (.reg [
 ci oa31 (.fa xa09 0),
 ci oa32 (.fa xa31 0),
 ci oa33 (.ld1 xa32),
 ci oa34 (.neq (.cell (.int .i64)) xa33 (ki 5)),
 ci oa30 (.mv xa34)]) (.cond xa30 .skip (.seq (.reg [
 ci oa36 (.mv xa0b),
 ci oa37 (.not xa36),
 ci oa38 (.mv xa37),
 cg oa39 ta38 true (.mv xa0d),
 cg oa3a ta38 true (.not xa39),
 ci oa3b (.pick xa38 xa3a kf),
 ci oa35 (.mv xa3b)]) (.cond xa35 (.reg [
 ci oa0e (.mv (ki 12))]) (.seq (.reg [
 ci oa3d (.mv xa00),
 ci oa3e (.fa xa04 4),
 ci oa3f (.ld1 xa3e),
 ci oa40 (.fa xa09 0),
 ci oa41 (.fa xa40 1),
 ci oa42 (.ld1 xa41),
 ci oa43 (.call fn204 [xa3d, xa3f, xa42]),
 ci oa44 (.not xa43),
 ci oa3c (.mv xa44)]) (.cond xa3c (.reg [
 ci oa0e (.mv (ki 17))]) (.seq (.reg [
 ci oa46 (.mv xa0b),
 ci oa47 (.mv xa46),
 cg oa48 ta47 true (.mv xa02),
 cg oa49 ta47 true (.not xa48),
 ci oa4a (.pick xa47 xa49 kf),
 ci oa45 (.mv xa4a)]) (.cond xa45 (.seq (.reg [
 ci oa4b (.mv xa00),
 ci oa4c (.ldn 6 xa04),
 ci oa4d (.fa xa0a 0),
 ci oa4e (.ldn 5 xa4d),
 ci oa4f (.call fn205 [xa4b, xa4c, xa4e])]) (.seq (.dreg [
 ⟨0, ci oa50 (.ldn 8 xa0a), .rd, 0⟩,
 ⟨1, ci oa51 (.ldn 12 xa0c), .rd, 1⟩,
 ⟨2, ci none (.st 8 xa06 xa50), .ev, 0⟩,
 ⟨3, ci none (.st 12 xa07 xa51), .ev, 1⟩,
 ⟨4, ci oa08 (.mv kt), .pur, 0⟩]) .ret)) (.seq (.reg [
 ci oa53 (.mv xa0d),
 ci oa54 (.mv xa53),
 cg oa55 ta54 true (.mv xa02),
 ci oa56 (.pick xa54 xa55 kf),
 ci oa52 (.mv xa56)]) (.cond xa52 (.seq (.reg [
 ci oa57 (.mv xa00),
 ci oa58 (.ldn 6 xa04),
 ci oa59 (.fa xa0c 0),
 ci oa5a (.ldn 5 xa59),
 ci oa5b (.call fn205 [xa57, xa58, xa5a])]) (.seq (.dreg [
 ⟨0, ci oa5c (.ldn 8 xa0a), .rd, 0⟩,
 ⟨1, ci oa5d (.ldn 12 xa0c), .rd, 1⟩,
 ⟨2, ci none (.st 8 xa06 xa5c), .ev, 0⟩,
 ⟨3, ci none (.st 12 xa07 xa5d), .ev, 1⟩,
 ⟨4, ci oa08 (.mv kt), .pur, 0⟩]) .ret)) .skip))))))))))))) (.seq (.reg [
 ci oa5e (.mv xa00),
 ci oa5f (.fa xa04 3),
 ci oa60 (.ld1 xa5f),
 ci oa61 (.mv xa0e),
 ci oa62 (.call fn44 [xa5e, xa60, xa61])]) (.seq (.dreg [
 ⟨0, ci oa63 (.ldn 8 xa0a), .rd, 0⟩,
 ⟨1, ci oa64 (.ldn 12 xa0c), .rd, 1⟩,
 ⟨2, ci none (.st 8 xa06 xa63), .ev, 0⟩,
 ⟨3, ci none (.st 12 xa07 xa64), .ev, 1⟩,
 ⟨4, ci oa08 (.mv kf), .pur, 0⟩]) .ret)))))))), [.cell 8 true ta06, .cell 12 true ta07, .tmp ta08]⟩
def cf202 : CF := ⟨202, true, (.seq (.reg [
 ci oa03 (.box 44 6 xa01),
 ci oa04 (.alloc 148 [vz, ve, vz, vz, ve, vz, ve, ve, .nils, vz, ve, ve]),
 ci oa05 (.mv kf)]) (.seq (.seq (.reg [
 ci oa0a (.fa xa03 0),
 ci oa0b (.ld1 xa0a),
 ci oa0c (.eql (.cell (.int .i64)) xa0b (ki 26)),
 ci oa0d (.mv xa0c),
 cg oa0e ta0d true (.mv xa00),
 cg oa0f ta0d true (.ldn 6 xa03),
 cg oa10 ta0d true (.call fn200 [xa0e, xa0f]),
 cg oa11 ta0d true (.not xa10),
 ci oa12 (.pick xa0d xa11 kf)]) (.cond xa12 (.seq (.reg [
 ci oa14 (.mv xa00),
 ci oa15 (.ldn 6 xa03),
 ci oa16 (.call fn201 [xa14, xa15, kt]),
 ci oa13 (.mv xa16),
 ci oa17 (.ext xa13 0),
 ci oa18 (.ext xa13 1),
 ci oa19 (.ext xa13 2),
 ci oa06 (.alloc 143 [vz, ve, vz, vz, ve, vz, ve, ve]),
 ci oa07 (.alloc 148 [vz, ve, vz, vz, ve, vz, ve, ve, .nils, vz, ve, ve]),
 ci none (.st 8 xa06 xa17),
 ci none (.st 12 xa07 xa18),
 ci oa08 (.mv xa19)]) (.seq (.reg [
 ci oa1a (.ldn 12 xa07),
 ci oa1b (.mv xa08),
 ci none (.st 12 xa04 xa1a),
 ci oa05 (.mv xa1b)]) .ret)) .skip)) (.seq (.dreg [
 ⟨0, ci oa1c (.mv xa00), .pur, 0⟩,
 ⟨1, ci oa1d (.nilc xa1c), .pur, 0⟩,
 ⟨2, ci oa1e (.fa xa1d 2), .pur, 0⟩,
 ⟨3, ci oa1f (.ld1 xa1e), .rd, 1⟩,
 ⟨4, ci oa20 (.mv xa00), .pur, 0⟩,
 ⟨5, ci oa21 (.nilc xa20), .pur, 0⟩,
 ⟨6, ci oa22 (.fa xa21 8), .pur, 0⟩,
 ⟨7, ci oa23 (.ld1 xa22), .rd, 1⟩,
 ⟨8, ci oa24 (.fa xa03 3), .pur, 0⟩,
 ⟨9, ci oa25 (.ld1 xa24), .rd, 1⟩,
 ⟨10, ci oa26 (.build [vz, vz] [(0, 1, xa23), (1, 1, xa25)]), .pur, 0⟩,
 ⟨11, ci oa27 (.lkp (.strct [(.int .i64), (.int .i64)]) (.agg [vz, vz, ve, (.bool false), vz, ve, vz, vz, ve]) xa1f xa26 false), .rd, 1⟩,
 ⟨12, ci oa09 (.alloc 46 [vz, vz, ve, (.bool false), vz, ve, vz, vz, ve]), .ev, 0⟩,
 ⟨13, ci none (.st 9 xa09 xa27), .ev, 1⟩]) (.seq (.block 0 (.seq (.reg [
 ci oa35 (.fa xa09 3),
 ci oa36 (.ld1 xa35),
 ci oa37 (.not xa36),
 ci oa34 (.mv xa37)]) (.cond xa34 (.reg [
 ci oa38 (.mv xa00),
 ci oa39 (.fa xa03 3),
 ci oa3a (.ld1 xa39),
 ci oa3b (.call fn44 [xa38, xa3a, (ki 12)])]) (.seq (.reg [
 ci oa3d (.fa xa09 4),
 ci oa3e (.fa xa3d 0),
 ci oa3f (.ld1 xa3e),
 ci oa40 (.neq (.cell (.int .i64)) xa3f (ki 3)),
 ci oa3c (.mv xa40)]) (.cond xa3c (.reg [
 ci oa41 (.mv xa00),
 ci oa42 (.fa xa03 3),
 ci oa43 (.ld1 xa42),
 ci oa44 (.call fn44 [xa41, xa43, (ki 14)])]) (.seq (.reg [
 ci oa46 (.mv xa00),
 ci oa47 (.fa xa09 2),
 ci oa48 (.ld1 xa47),
 ci oa49 (.fa xa09 4),
 ci oa4a (.fa xa49 4),
 ci oa4b (.ld1 xa4a),
 ci oa4c (.call fn204 [xa46, xa48, xa4b]),
 ci oa4d (.not xa4c),
 ci oa45 (.mv xa4d)]) (.cond xa45 (.reg [
 ci oa4e (.mv xa00),
 ci oa4f (.fa xa03 3),
 ci oa50 (.ld1 xa4f),
 ci oa51 (.call fn44 [xa4e, xa50, (ki 17)])]) (.seq (.dreg [
 ⟨0, ci oa28 (.mv xa00), .pur, 0⟩,
 ⟨1, ci oa29 (.nilc xa28), .pur, 0⟩,
 ⟨2, ci oa2a (.fa xa29 1), .pur, 0⟩,
 ⟨3, ci oa2b (.ld1 xa2a), .rd, 0⟩,
 ⟨4, ci oa2c (.fa xa09 4), .pur, 0⟩,
 ⟨5, ci oa2d (.fa xa2c 4), .pur, 0⟩,
 ⟨6, ci oa2e (.ld1 xa2d), .rd, 0⟩,
 ⟨7, ci oa2f (.fa xa09 2), .pur, 0⟩,
 ⟨8, ci oa30 (.ld1 xa2f), .rd, 0⟩,
 ⟨9, ci oa31 (.call fn238 [xa2b, xa2e, xa30]), .ev, 0⟩,
 ⟨10, ci oa32 (.ext xa31 0), .pur, 0⟩,
 ⟨11, ci oa33 (.ext xa31 1), .pur, 0⟩,
 ⟨12, ci none (.st 12 xa04 xa32), .ev, 1⟩,
 ⟨13, ci oa05 (.mv xa33), .pur, 0⟩]) .ret)))))))) (.seq (.reg [
 ci oa52 (.build [vz, ve, vz, vz, ve, vz, ve, ve, .nils, vz, ve, ve] []),
 ci none (.st 12 xa04 xa52),
 ci oa05 (.mv kf)]) .ret))))), [.cell 12 true ta04, .tmp ta05]⟩
def cf203 : CF := ⟨203, true, (.seq (.reg [
 ci oa04 (.box 39 3 xa01),
 ci oa05 (.box 9 1 xa02),
 ci oa06 (.alloc 143 [vz, ve, vz, vz, ve, vz, ve, ve]),
 ci oa07 (.mv kf)]) (.seq (.dreg [
 ⟨0, ci oa0a (.mv xa00), .pur, 0⟩,
 ⟨1, ci oa0b (.nilc xa0a), .pur, 0⟩,
 ⟨2, ci oa0c (.fa xa0b 1), .pur, 0⟩,
 ⟨3, ci oa0d (.ld1 xa0c), .rd, 0⟩,
 ⟨4, ci oa0e (.ldn 3 xa04), .rd, 0⟩,
 ⟨5, ci oa0f (.call fn239 [xa0d, xa0e]), .ev, 0⟩,
 ⟨6, ci oa08 (.mv xa0f), .pur, 0⟩]) (.seq (.reg [
 ci oa10 (.mv xa08),
 ci oa11 (.mkf fn241 [] [xa05]),
 ci oa12 (.call fn240 [xa10, xa11]),
 ci oa09 (.mv xa12)]) (.seq (.seq (.reg [
 ci oa13 (.mv xa09),
 ci oa14 (.lss xa13 (ki 0))]) (.cond xa14 (.seq (.reg [
 ci oa15 (.build [vz, ve, vz, vz, ve, vz, ve, ve] []),
 ci none (.st 8 xa06 xa15),
 ci oa07 (.mv kf)]) .ret) .skip)) (.seq (.reg [
 ci oa16 (.mv xa08),
 ci oa17 (.mv xa09),
 ci oa18 (.ia 8 xa16 xa17),
 ci oa19 (.ldn 8 xa18),
 ci none (.st 8 xa06 xa19),
 ci oa07 (.mv kt)]) .ret))))), [.cell 8 true ta06, .tmp ta07]⟩
def cf204 : CF := ⟨204, true, (.seq (.reg [
 ci oa06 (.mv kf)]) (.seq (.dreg [
 ⟨0, ci oa07 (.mv xa01), .pur, 0⟩,
 ⟨1, ci oa08 (.call fn122 [xa07]), .ev, 0⟩,
 ⟨2, ci oa09 (.mv xa08), .pur, 0⟩,
 ⟨3, cg oa0a ta09 false (.mv xa00), .pur, 0⟩,
 ⟨4, cg oa0b ta09 false (.nilc xa0a), .pur, 0⟩,
 ⟨5, cg oa0c ta09 false (.fa xa0b 0), .pur, 0⟩,
 ⟨6, cg oa0d ta09 false (.ld1 xa0c), .rd, 1⟩,
 ⟨7, cg oa0e ta09 false (.mv xa00), .pur, 0⟩,
 ⟨8, cg oa0f ta09 false (.nilc xa0e), .pur, 0⟩,
 ⟨9, cg oa10 ta09 false (.fa xa0f 8), .pur, 0⟩,
 ⟨10, cg oa11 ta09 false (.ld1 xa10), .rd, 1⟩,
 ⟨12, cg oa13 ta09 false (.mv xa02), .pur, 0⟩,
 ⟨11, cg oa12 ta09 false (.call fn40 [xa0d, xa11]), .ev, 1⟩,
 ⟨13, cg oa14 ta09 false (.eql (.cell .str) xa12 xa13), .pur, 0⟩,
 ⟨14, ci oa15 (.pick xa09 kt xa14), .pur, 0⟩,
 ⟨15, ci oa06 (.mv xa15), .pur, 0⟩]) .ret)), [.tmp ta06]⟩
def cf205 : CF := ⟨205, true, (.seq (.reg [
 ci oa04 (.box 44 6 xa01),
 ci oa05 (.box 35 5 xa02)]) (.dreg [
 ⟨0, ci oa06 (.mv xa00), .pur, 0⟩,
 ⟨1, ci oa07 (.nilc xa06), .pur, 0⟩,
 ⟨2, ci oa08 (.fa xa07 4), .pur, 0⟩,
 ⟨3, ci oa09 (.ld1 xa08), .rd, 0⟩,
 ⟨4, ci oa0a (.mv xa00), .pur, 0⟩,
 ⟨5, ci oa0b (.nilc xa0a), .pur, 0⟩,
 ⟨6, ci oa0c (.fa xa0b 8), .pur, 0⟩,
 ⟨7, ci oa0d (.ld1 xa0c), .rd, 0⟩,
 ⟨8, ci oa0e (.fa xa04 3), .pur, 0⟩,
 ⟨9, ci oa0f (.ld1 xa0e), .rd, 0⟩,
 ⟨10, ci oa10 (.build [vz, vz] [(0, 1, xa0d), (1, 1, xa0f)]), .pur, 0⟩,
 ⟨11, ci oa11 (.mv xa00), .pur, 0⟩,
 ⟨12, ci oa12 (.nilc xa11), .pur, 0⟩,
 ⟨13, ci oa13 (.fa xa12 8), .pur, 0⟩,
 ⟨14, ci oa14 (.ld1 xa13), .rd, 0⟩,
 ⟨15, ci oa15 (.fa xa04 3), .pur, 0⟩,
 ⟨16, ci oa16 (.ld1 xa15), .rd, 0⟩,
 ⟨17, ci oa17 (.fa xa04 4), .pur, 0⟩,
 ⟨18, ci oa18 (.ld1 xa17), .rd, 0⟩,
 ⟨19, ci oa19 (.ldn 5 xa05), .rd, 0⟩,
 ⟨20, ci oa1a (.build [vz, vz, ve, (.bool false), vz, ve, vz, vz, ve] [(0, 1, xa14), (1, 1, xa16), (2, 1, xa18), (3, 1, kt), (4, 5, xa19)]), .pur, 0⟩,
 ⟨21, ci none (.mupd (.strct [(.int .i64), (.int .i64)]) xa09 xa10 xa1a), .ev, 0⟩])), []⟩
def cf206 : CF := ⟨206, true, (.seq (.reg [
 ci oa02 (.mv (.k .nils)),
 ci oa03 (.mv (ki 0))]) (.seq (.seq (.reg [
 ci oa04 (.mv xa00)]) (.block 0 (.seq (.reg [
 ci oa06 (.eql (.cell .str) xa04 (ks 3 7630441)),
 ci oa05 (.mv xa06)]) (.cond xa05 (.seq (.reg [
 ci oa07 (.bslice 3 1 2 [vz] [(0, (ki 1)), (1, (ki 4))]),
 ci oa02 (.mv xa07),
 ci oa03 (.mv (ki 1))]) .ret) (.seq (.reg [
 ci oa09 (.eql (.cell .str) xa04 (ks 7 14696572267752550)),
 ci oa08 (.mv xa09)]) (.cond xa08 (.seq (.reg [
 ci oa0a (.bslice 3 1 2 [vz] [(0, (ki 1)), (1, (ki 4))]),
 ci oa02 (.mv xa0a),
 ci oa03 (.mv (ki 4))]) .ret) (.seq (.reg [
 ci oa0c (.eql (.cell .str) xa04 (ks 3 7234924)),
 ci oa0b (.mv xa0c)]) (.cond xa0b (.seq (.reg [
 ci oa0d (.bslice 3 1 1 [vz] [(0, (ki 3))]),
 ci oa02 (.mv xa0d),
 ci oa03 (.mv (ki 1))]) .ret) (.seq (.reg [
 ci oa0f (.eql (.cell .str) xa04 (ks 5 426970603888)),
 ci oa0e (.mv xa0f)]) (.cond xa0e (.seq (.reg [
 ci oa10 (.bslice 3 1 1 [vz] [(0, (ki 3))]),
 ci oa02 (.mv xa10),
 ci oa03 (.mv (ki 0))]) .ret) .skip)))))))))) (.seq (.reg [
 ci oa11 (.bslice 3 1 4 [vz] [(0, (ki 1)), (1, (ki 2)), (2, (ki 3)), (3, (ki 4))]),
 ci oa02 (.mv xa11),
 ci oa03 (.mv (ki 0))]) .ret))), [.tmp ta02, .tmp ta03]⟩
def cf211 : CF := ⟨211, true, (.seq (.reg [
 ci oa02 (.allocR 295 1 256 [[(.bool false)], [(.bool false)], [(.bool false)], [(.bool false)], [(.bool false)], [(.bool false)], [(.bool false)], [(.bool false)], [(.bool false)], [(.bool false)], [(.bool false)], [(.bool false)], [(.bool false)], [(.bool false)], [(.bool false)], [(.bool false)], [(.bool false)], [(.bool false)], [(.bool false)], [(.bool false)], [(.bool false)], [(.bool false)], [(.bool false)], [(.bool false)], [(.bool false)], [(.bool false)], [(.bool false)], [(.bool false)], [(.bool false)], [(.bool false)], [(.bool false)], [(.bool false)], [(.bool false)], [(.bool false)], [(.bool false)], [(.bool false)], [(.bool false)], [(.bool false)], [(.bool false)], [(.bool false)], [(.bool false)], [(.bool false)], [(.bool false)], [(.bool false)], [(.bool false)], [(.bool false)], [(.bool false)], [(.bool false)], [(.bool false)], [(.bool false)], [(.bool false)], [(.bool false)], [(.bool false)], [(.bool false)], [(.bool false)], [(.bool false)], [(.bool false)], [(.bool false)], [(.bool false)], [(.bool false)], [(.bool false)], [(.bool false)], [(.bool false)], [(.bool false)], [(.bool false)], [(.bool false)], [(.bool false)], [(.bool false)], [(.bool false)], [(.bool false)], [(.bool false)], [(.bool false)], [(.bool false)], [(.bool false)], [(.bool false)], [(.bool false)], [(.bool false)], [(.bool false)], [(.bool false)], [(.bool false)], [(.bool false)], [(.bool false)], [(.bool false)], [(.bool false)], [(.bool false)], [(.bool false)], [(.bool false)], [(.bool false)], [(.bool false)], [(.bool false)], [(.bool false)], [(.bool false)], [(.bool false)], [(.bool false)], [(.bool false)], [(.bool false)], [(.bool false)], [(.bool false)], [(.bool false)], [(.bool false)], [(.bool false)], [(.bool false)], [(.bool false)], [(.bool false)], [(.bool false)], [(.bool false)], [(.bool false)], [(.bool false)], [(.bool false)], [(.bool false)], [(.bool false)], [(.bool false)], [(.bool false)], [(.bool false)], [(.bool false)], [(.bool false)], [(.bool false)], [(.bool false)], [(.bool false)], [(.bool false)], [(.bool false)], [(.bool false)], [(.bool false)], [(.bool false)], [(.bool false)], [(.bool false)], [(.bool false)], [(.bool false)], [(.bool false)], [(.bool false)], [(.bool false)], [(.bool false)], [(.bool false)], [(.bool false)], [(.bool false)], [(.bool false)], [(.bool false)], [(.bool false)], [(.bool false)], [(.bool false)], [(.bool false)], [(.bool false)], [(.bool false)], [(.bool false)], [(.bool false)], [(.bool false)], [(.bool false)], [(.bool false)], [(.bool false)], [(.bool false)], [(.bool false)], [(.bool false)], [(.bool false)], [(.bool false)], [(.bool false)], [(.bool false)], [(.bool false)], [(.bool false)], [(.bool false)], [(.bool false)], [(.bool false)], [(.bool false)], [(.bool false)], [(.bool false)], [(.bool false)], [(.bool false)], [(.bool false)], [(.bool false)], [(.bool false)], [(.bool false)], [(.bool false)], [(.bool false)], [(.bool false)], [(.bool false)], [(.bool false)], [(.bool false)], [(.bool false)], [(.bool false)], [(.bool false)], [(.bool false)], [(.bool false)], [(.bool false)], [(.bool false)], [(.bool false)], [(.bool false)], [(.bool false)], [(.bool false)], [(.bool false)], [(.bool false)], [(.bool false)], [(.bool false)], [(.bool false)], [(.bool false)], [(.bool false)], [(.bool false)], [(.bool false)], [(.bool false)], [(.bool false)], [(.bool false)], [(.bool false)], [(.bool false)], [(.bool false)], [(.bool false)], [(.bool false)], [(.bool false)], [(.bool false)], [(.bool false)], [(.bool false)], [(.bool false)], [(.bool false)], [(.bool false)], [(.bool false)], [(.bool false)], [(.bool false)], [(.bool false)], [(.bool false)], [(.bool false)], [(.bool false)], [(.bool false)], [(.bool false)], [(.bool false)], [(.bool false)], [(.bool false)], [(.bool false)], [(.bool false)], [(.bool false)], [(.bool false)], [(.bool false)], [(.bool false)], [(.bool false)], [(.bool false)], [(.bool false)], [(.bool false)], [(.bool false)], [(.bool false)], [(.bool false)], [(.bool false)], [(.bool false)], [(.bool false)], [(.bool false)], [(.bool false)], [(.bool false)], [(.bool false)], [(.bool false)], [(.bool false)], [(.bool false)], [(.bool false)], [(.bool false)], [(.bool false)], [(.bool false)], [(.bool false)], [(.bool false)], [(.bool false)], [(.bool false)], [(.bool false)], [(.bool false)]]),
 ci oa03 (.mv kf)]) (.seq (.seq (.reg [
 ci oa04 (.mv (ki 0))]) (.block 0 (.loop (.seq (.seq (.reg [
 ci oa06 (.mv xa04),
 ci oa07 (.mv xa00),
 ci oa08 (.len 0 xa07),
 ci oa09 (.lss xa06 xa08)]) (.cond xa09 .skip (.exit 0))) (.seq (.block 1 (.seq (.reg [
 ci oa0c (.mv xa00),
 ci oa0d (.mv xa04),
 ci oa0e (.ixs xa0c xa0d),
 ci oa05 (.mv xa0e)]) (.seq (.seq (.reg [
 ci oa0f (.mv xa05),
 ci oa10 (.geq xa0f (.k (.u8 128)))]) (.cond xa10 (.seq (.reg [
 ci oa11 (.ldn 256 xa02),
 ci none (.st 256 xa02 xa11),
 ci oa03 (.mv kf)]) .ret) .skip)) (.reg [
 ci oa12 (.mv xa05),
 ci oa13 (.iaArr 1 256 xa02 xa12),
 ci none (.st 1 xa13 kt)])))) (.reg [
 ci oa0a (.mv xa04),
 ci oa0b (.add xa0a (ki 1)),
 ci oa04 (.mv xa0b)])))))) (.seq (.reg [
 ci oa14 (.ldn 256 xa02),
 ci none (.st 256 xa02 xa14),
 ci oa03 (.mv kt)]) .ret))), [.cell 256 true ta02, .tmp ta03]⟩
def cf212 : CF := ⟨212, true, (.seq (.reg [
 ci oa04 (.mv (ks 0 0))]) (.seq (.block 0 (.loop (.seq (.seq (.reg [
 ci oa05 (.mv xa00),
 ci oa06 (.len 0 xa05),
 ci oa07 (.gtr xa06 (ki 0))]) (.cond xa07 .skip (.exit 0))) (.block 1 (.seq (.seq (.reg [
 ci oa08 (.mv xa01),
 ci oa09 (.mv xa00),
 ci oa0a (.ixs xa09 (ki 0)),
 ci oa0b (.call fn242 [xa08, xa0a]),
 ci oa0c (.not xa0b)]) (.cond xa0c (.exit 0) .skip)) (.reg [
 ci oa0d (.mv xa00),
 ci oa0e (.slStr xa0d (some (ki 1)) none),
 ci oa00 (.mv xa0e)])))))) (.seq (.reg [
 ci oa0f (.mv xa00),
 ci oa04 (.mv xa0f)]) .ret))), [.tmp ta04]⟩
def cf214 : CF := ⟨214, true, (.seq (.reg [
 ci oa02 (.mv (ki 0))]) (.scope (.seq (.reg [
 ci oa03 (.mv (ki 0))]) (.seq .skip (.seq (.block 0 (.loop (.seq (.seq (.reg [
 ci oa05 (.mv xa03),
 ci oa06 (.mv xa00),
 ci oa07 (.len 0 xa06),
 ci oa08 (.lss xa05 xa07)]) (.cond xa08 .skip (.exit 0))) (.block 1 (.seq (.seq (.reg [
 ci oa09 (.mv xa00),
 ci oa0a (.mv xa03),
 ci oa0b (.ixs xa09 xa0a),
 ci oa04 (.mv xa0b)]) (.block 2 (.seq (.reg [
 ci oa0d (.mv xa04),
 ci oa0e (.lss xa0d (.k (.u8 48))),
 ci oa0f (.mv xa0e),
 cg oa10 ta0f false (.mv xa04),
 cg oa11 ta0f false (.gtr xa10 (.k (.u8 57))),
 ci oa12 (.pick xa0f kt xa11),
 ci oa0c (.mv xa12)]) (.cond xa0c (.exit 0) .skip)))) (.reg [
 ci oa13 (.mv xa03),
 ci oa14 (.add xa13 (ki 1)),
 ci oa03 (.mv xa14)])))))) (.seq (.reg [
 ci oa15 (.mv xa03),
 ci oa02 (.mv xa15)]) .ret)))))), [.tmp ta02]⟩
def cf215 : CF := ⟨215, true, (.seq (.reg [
 ci oa06 (.mv (ki 0)),
 ci oa07 (.mv (.k .nili))]) (.seq (.seq (.reg [
 ci oa0c (.mv xa00),
 ci oa0d (.eql (.cell .str) xa0c (ks 0 0))]) (.cond xa0d (.seq (.reg [
 ci oa0e (.mki 318 (ki 2)),
 ci oa06 (.mv (ki 0)),
 ci oa07 (.mv xa0e)]) .ret) .skip)) (.seq (.reg [
 ci oa08 (.mv kf)]) (.seq (.seq (.reg [
 ci oa0f (.mv xa00),
 ci oa10 (.ixs xa0f (ki 0))]) (.block 0 (.seq (.reg [
 ci oa12 (.eql (.cell (.int .u8)) xa10 (.k (.u8 43))),
 ci oa11 (.mv xa12)]) (.cond xa11 (.reg [
 ci oa13 (.mv xa00),
 ci oa14 (.slStr xa13 (some (ki 1)) none),
 ci oa00 (.mv xa14)]) (.seq (.reg [
 ci oa16 (.eql (.cell (.int .u8)) xa10 (.k (.u8 45))),
 ci oa15 (.mv xa16)]) (.cond xa15 (.seq (.reg [
 ci oa17 (.mv xa00),
 ci oa18 (.slStr xa17 (some (ki 1)) none),
 ci oa00 (.mv xa18)]) (.reg [
 ci oa08 (.mv kt)])) .skip)))))) (.seq (.reg [
 ci oa09 (.mv (.k (.int .u64 (.ofNat 0))))]) (.seq (.reg [
 ci oa1a (.mv xa00),
 ci oa1b (.mv xa01),
 ci oa1c (.mv xa02),
 ci oa1d (.call fn244 [xa1a, xa1b, xa1c]),
 ci oa19 (.mv xa1d),
 ci oa1e (.ext xa19 0),
 ci oa1f (.ext xa19 1),
 ci oa09 (.mv xa1e),
 ci oa07 (.mv xa1f)]) (.seq (.seq (.reg [
 ci oa20 (.mv xa07),
 ci oa21 (.neq .iface xa20 (.k .nili)),
 ci oa22 (.mv xa21),
 cg oa23 ta22 true (.mv xa07),
 cg oa24 ta22 true (.mki 318 (ki 1)),
 cg oa25 ta22 true (.bad "neq: type"),
 ci oa26 (.pick xa22 xa25 kf)]) (.cond xa26 (.seq (.reg [
 ci oa27 (.mv xa07),
 ci oa06 (.mv (ki 0)),
 ci oa07 (.mv xa27)]) .ret) .skip)) (.seq (.seq (.reg [
 ci oa28 (.mv xa02),
 ci oa29 (.eql (.cell (.int .i64)) xa28 (ki 0))]) (.cond xa29 (.reg [
 ci oa02 (.mv (ki 64))]) .skip)) (.seq (.reg [
 ci oa2a (.mv xa02),
 ci oa2b (.sub xa2a (ki 1)),
 ci oa2c (.cint .u64 xa2b),
 ci oa2d (.shl (.k (.int .u64 (.ofNat 1))) xa2c),
 ci oa0a (.mv xa2d)]) (.seq (.seq (.reg [
 ci oa2e (.mv xa08),
 ci oa2f (.not xa2e),
 ci oa30 (.mv xa2f),
 cg oa31 ta30 true (.mv xa09),
 cg oa32 ta30 true (.mv xa0a),
 cg oa33 ta30 true (.geq xa31 xa32),
 ci oa34 (.pick xa30 xa33 kf)]) (.cond xa34 (.seq (.reg [
 ci oa35 (.mv xa0a),
 ci oa36 (.sub xa35 (.k (.int .u64 (.ofNat 1)))),
 ci oa37 (.cint .i64 xa36),
 ci oa38 (.mki 318 (ki 1)),
 ci oa06 (.mv xa37),
 ci oa07 (.mv xa38)]) .ret) .skip)) (.seq (.seq (.reg [
 ci oa39 (.mv xa08),
 ci oa3a (.mv xa39),
 cg oa3b ta3a true (.mv xa09),
 cg oa3c ta3a true (.mv xa0a),
 cg oa3d ta3a true (.gtr xa3b xa3c),
 ci oa3e (.pick xa3a xa3d kf)]) (.cond xa3e (.seq (.reg [
 ci oa3f (.mv xa0a),
 ci oa40 (.cint .i64 xa3f),
 ci oa41 (.neg xa40),
 ci oa42 (.mki 318 (ki 1)),
 ci oa06 (.mv xa41),
 ci oa07 (.mv xa42)]) .ret) .skip)) (.seq (.reg [
 ci oa43 (.mv xa09),
 ci oa44 (.cint .i64 xa43),
 ci oa0b (.mv xa44)]) (.seq (.seq (.reg [
 ci oa45 (.mv xa08)]) (.cond xa45 (.reg [
 ci oa46 (.mv xa0b),
 ci oa47 (.neg xa46),
 ci oa0b (.mv xa47)]) .skip)) (.seq (.reg [
 ci oa48 (.mv xa0b),
 ci oa06 (.mv xa48),
 ci oa07 (.mv (.k .nili))]) .ret)))))))))))))), [.tmp ta06, .tmp ta07]⟩
def cf217 : CF := ⟨217, true, (.seq (.reg [
 ci oa04 (.mv (.k (.flt .f64 0))),
 ci oa05 (.mv (.k .nili))]) (.seq (.reg [
 ci oa0a (.mv xa00),
 ci oa0b (.mv xa01),
 ci oa0c (.call fn249 [xa0a, xa0b]),
 ci oa09 (.mv xa0c),
 ci oa0d (.ext xa09 0),
 ci oa0e (.ext xa09 1),
 ci oa0f (.ext xa09 2),
 ci oa06 (.mv xa0d),
 ci oa07 (.mv xa0e),
 ci oa08 (.mv xa0f)]) (.seq (.seq (.reg [
 ci oa10 (.mv xa07),
 ci oa11 (.mv xa00),
 ci oa12 (.len 0 xa11),
 ci oa13 (.neq (.cell (.int .i64)) xa10 xa12)]) (.cond xa13 (.seq (.reg [
 ci oa14 (.mki 318 (ki 2)),
 ci oa04 (.mv (.k (.flt .f64 0))),
 ci oa05 (.mv xa14)]) .ret) .skip)) (.seq (.reg [
 ci oa15 (.mv xa06),
 ci oa16 (.mv xa08),
 ci oa04 (.mv xa15),
 ci oa05 (.mv xa16)]) .ret)))), [.tmp ta04, .tmp ta05]⟩
def cf218 : CF := ⟨218, true, (.seq (.reg [
 ci oa02 (.mv xa00),
 ci oa03 (.nilc xa02),
 ci oa04 (.fa xa03 0),
 ci oa05 (.ld1 xa04),
 ci oa06 (.eql .ptr xa05 (.k .nilp))]) (.cond xa06 (.reg [
 ci oa07 (.mv xa00),
 ci oa08 (.mv xa00),
 ci oa09 (.uptr 259 2 xa08),
 ci oa0a (.extc .ident [xa09]),
 ci oa0b (.uptr 259 2 xa0a),
 ci oa0c (.nilc xa07),
 ci oa0d (.fa xa0c 0),
 ci none (.st 1 xa0d xa0b)]) (.seq (.reg [
 ci oa0e (.mv xa00),
 ci oa0f (.nilc xa0e),
 ci oa10 (.fa xa0f 0),
 ci oa11 (.ld1 xa10),
 ci oa12 (.mv xa00),
 ci oa13 (.neq .ptr xa11 xa12)]) (.cond xa13 (.bad "code") .skip)))), []⟩
def cf220 : CF := ⟨220, true, (.seq (.reg [
 ci oa02 (.alloc 44 [vz, vz, vz, vz, ve, .nils])]) (.seq (.reg [
 ci oa07 (.mv xa00),
 ci oa08 (.call fn102 [xa07, (ks 2 26217)]),
 ci oa09 (.fld xa08 2 1 false),
 ci oa03 (.mv xa09)]) (.seq (.reg [
 ci oa0a (.mv xa00),
 ci oa0b (.mv xa00),
 ci oa0c (.mkf fn252 [xa0b] []),
 ci oa0d (.call fn251 [xa0a, xa0c]),
 ci oa04 (.alloc 44 [vz, vz, vz, vz, ve, .nils]),
 ci none (.st 6 xa04 xa0d)]) (.seq (.reg [
 ci oa0e (.mv xa00),
 ci oa0f (.call fn157 [xa0e]),
 ci oa05 (.alloc 44 [vz, vz, vz, vz, ve, .nils]),
 ci none (.st 6 xa05 xa0f)]) (.seq (.reg [
 ci oa06 (.alloc 44 [vz, vz, vz, vz, ve, .nils])]) (.seq (.seq (.reg [
 ci oa10 (.mv xa00),
 ci oa11 (.call fn224 [xa10, (ks 4 1702063205)])]) (.cond xa11 (.seq (.reg [
 ci oa12 (.mv xa00),
 ci oa13 (.bslice 9 1 1 [ve] [(0, (ks 2 26217))]),
 ci oa14 (.call fn105 [xa12, xa13])]) (.cond xa14 (.reg [
 ci oa15 (.mv xa00),
 ci oa16 (.call fn220 [xa15]),
 ci none (.st 6 xa06 xa16)]) (.reg [
 ci oa17 (.mv xa00),
 ci oa18 (.call fn157 [xa17]),
 ci none (.st 6 xa06 xa18)]))) .skip)) (.seq (.reg [
 ci oa19 (.mv xa00),
 ci oa1a (.mv xa03),
 ci oa1b (.mv xa03),
 ci oa1c (.ldn 6 xa04),
 ci oa1d (.ldn 6 xa05),
 ci oa1e (.ldn 6 xa06),
 ci oa1f (.bslice 44 6 3 [vz, vz, vz, vz, ve, .nils] [(0, xa1c), (1, xa1d), (2, xa1e)]),
 ci oa20 (.call fn151 [xa19, (ki 14), xa1a, xa1b, (ks 0 0), xa1f]),
 ci none (.st 6 xa02 xa20)]) .ret))))))), [.cell 6 true ta02]⟩
def cf221 : CF := ⟨221, true, (.seq (.reg [
 ci oa02 (.alloc 44 [vz, vz, vz, vz, ve, .nils])]) (.seq (.reg [
 ci oa08 (.mv xa00),
 ci oa09 (.call fn102 [xa08, (ks 3 7499622)]),
 ci oa0a (.fld xa09 2 1 false),
 ci oa03 (.mv xa0a)]) (.seq (.reg [
 ci oa04 (.alloc 44 [vz, vz, vz, vz, ve, .nils]),
 ci oa05 (.alloc 44 [vz, vz, vz, vz, ve, .nils]),
 ci oa06 (.alloc 44 [vz, vz, vz, vz, ve, .nils])]) (.seq (.seq (.reg [
 ci oa0b (.mv xa00),
 ci oa0c (.bslice 9 1 1 [ve] [(0, (ks 1 123))]),
 ci oa0d (.call fn105 [xa0b, xa0c]),
 ci oa0e (.not xa0d)]) (.cond xa0e (.reg [
 ci oa10 (.mv xa00),
 ci oa11 (.call fn253 [xa10]),
 ci oa0f (.mv xa11),
 ci oa12 (.ext xa0f 0),
 ci oa13 (.ext xa0f 1),
 ci oa14 (.ext xa0f 2),
 ci none (.st 6 xa04 xa12),
 ci none (.st 6 xa05 xa13),
 ci none (.st 6 xa06 xa14)]) .skip)) (.seq (.reg [
 ci oa15 (.mv xa00),
 ci oa16 (.call fn157 [xa15]),
 ci oa07 (.alloc 44 [vz, vz, vz, vz, ve, .nils]),
 ci none (.st 6 xa07 xa16)]) (.seq (.reg [
 ci oa17 (.mv xa00),
 ci oa18 (.mv xa03),
 ci oa19 (.mv xa03),
 ci oa1a (.ldn 6 xa04),
 ci oa1b (.ldn 6 xa05),
 ci oa1c (.ldn 6 xa06),
 ci oa1d (.ldn 6 xa07),
 ci oa1e (.bslice 44 6 4 [vz, vz, vz, vz, ve, .nils] [(0, xa1a), (1, xa1b), (2, xa1c), (3, xa1d)]),
 ci oa1f (.call fn151 [xa17, (ki 15), xa18, xa19, (ks 0 0), xa1e]),
 ci none (.st 6 xa02 xa1f)]) .ret)))))), [.cell 6 true ta02]⟩
def cf223 : CF := ⟨223, true, (.seq (.reg [
 ci oa04 (.alloc 44 [vz, vz, vz, vz, ve, .nils])]) (.seq (.reg [
 ci oa07 (.mv xa00),
 ci oa08 (.call fn148 [xa07]),
 ci oa05 (.alloc 134 [vz, ve, vz, vz]),
 ci none (.st 4 xa05 xa08)]) (.seq (.seq (.reg [
 ci oa09 (.mv xa00),
 ci oa0a (.call fn149 [xa09]),
 ci oa0b (.fld xa0a 0 1 false),
 ci oa0c (.neq (.cell (.int .i64)) xa0b (ki 1))]) (.cond xa0c (.seq (.reg [
 ci oa0d (.mv xa00),
 ci oa0e (.mv xa01),
 ci oa0f (.fa xa05 2),
 ci oa10 (.ld1 xa0f),
 ci oa11 (.fa xa05 2),
 ci oa12 (.ld1 xa11),
 ci oa13 (.call fn151 [xa0d, xa0e, xa10, xa12, (ks 0 0), (.k .nils)]),
 ci none (.st 6 xa04 xa13)]) .ret) .skip)) (.seq (.reg [
 ci oa14 (.mv xa00),
 ci oa15 (.call fn148 [xa14]),
 ci oa06 (.alloc 134 [vz, ve, vz, vz]),
 ci none (.st 4 xa06 xa15)]) (.seq (.reg [
 ci oa16 (.mv xa00),
 ci oa17 (.mv xa01),
 ci oa18 (.fa xa05 2),
 ci oa19 (.ld1 xa18),
 ci oa1a (.fa xa06 2),
 ci oa1b (.ld1 xa1a),
 ci oa1c (.fa xa06 1),
 ci oa1d (.ld1 xa1c),
 ci oa1e (.call fn151 [xa16, xa17, xa19, xa1b, xa1d, (.k .nils)]),
 ci none (.st 6 xa04 xa1e)]) .ret))))), [.cell 6 true ta04]⟩
def cf224 : CF := ⟨224, true, (.seq (.reg [
 ci oa04 (.mv kf)]) (.seq (.reg [
 ci oa06 (.mv xa00),
 ci oa07 (.mv xa01),
 ci oa08 (.bslice 9 1 1 [ve] [(0, xa07)]),
 ci oa09 (.call fn105 [xa06, xa08]),
 ci oa05 (.mv xa09)]) (.seq (.seq (.reg [
 ci oa0a (.mv xa05)]) (.cond xa0a (.reg [
 ci oa0b (.mv xa00),
 ci oa0c (.call fn148 [xa0b])]) .skip)) (.seq (.reg [
 ci oa0d (.mv xa05),
 ci oa04 (.mv xa0d)]) .ret)))), [.tmp ta04]⟩
def cf225 : CF := ⟨225, true, (.seq (.reg [
 ci oa04 (.alloc 44 [vz, vz, vz, vz, ve, .nils])]) (.seq (.reg [
 ci oa08 (.mv xa00),
 ci oa09 (.call fn254 [xa08]),
 ci oa05 (.alloc 44 [vz, vz, vz, vz, ve, .nils]),
 ci none (.st 6 xa05 xa09)]) (.seq (.block 0 (.loop (.seq (.seq (.reg [
 ci oa0a (.mv xa00),
 ci oa0b (.call fn149 [xa0a]),
 ci oa0c (.call fn255 [xa0b]),
 ci oa0d (.mv xa01),
 ci oa0e (.gtr xa0c xa0d)]) (.cond xa0e .skip (.exit 0))) (.block 1 (.seq (.reg [
 ci oa0f (.mv xa00),
 ci oa10 (.call fn148 [xa0f]),
 ci oa06 (.alloc 134 [vz, ve, vz, vz]),
 ci none (.st 4 xa06 xa10)]) (.seq (.reg [
 ci oa11 (.mv xa00),
 ci oa12 (.ldn 4 xa06),
 ci oa13 (.call fn255 [xa12]),
 ci oa14 (.call fn225 [xa11, xa13]),
 ci oa07 (.alloc 44 [vz, vz, vz, vz, ve, .nils]),
 ci none (.st 6 xa07 xa14)]) (.reg [
 ci oa15 (.mv xa00),
 ci oa16 (.fa xa05 1),
 ci oa17 (.ld1 xa16),
 ci oa18 (.fa xa06 2),
 ci oa19 (.ld1 xa18),
 ci oa1a (.fa xa06 1),
 ci oa1b (.ld1 xa1a),
 ci oa1c (.ldn 6 xa05),
 ci oa1d (.ldn 6 xa07),
 ci oa1e (.bslice 44 6 2 [vz, vz, vz, vz, ve, .nils] [(0, xa1c), (1, xa1d)]),
 ci oa1f (.call fn151 [xa15, (ki 31), xa17, xa19, xa1b, xa1e]),
 ci none (.st 6 xa05 xa1f)]))))))) (.seq (.reg [
 ci oa20 (.ldn 6 xa05),
 ci none (.st 6 xa04 xa20)]) .ret)))), [.cell 6 true ta04]⟩
def cf226 : CF := ⟨226, true, (.seq (.reg [
 ci oa02 (.alloc 44 [vz, vz, vz, vz, ve, .nils])]) (.seq (.reg [
 ci oa08 (.mv xa00),
 ci oa09 (.call fn256 [xa08]),
 ci oa03 (.alloc 44 [vz, vz, vz, vz, ve, .nils]),
 ci none (.st 6 xa03 xa09)]) (.block 0 (.loop (.block 1 (.block 2 (.seq (.reg [
 ci oa0c (.mv xa00),
 ci oa0d (.bslice 9 1 1 [ve] [(0, (ks 1 46))]),
 ci oa0e (.call fn105 [xa0c, xa0d]),
 ci oa0b (.mv xa0e)]) (.cond xa0b (.seq (.reg [
 ci oa0f (.mv xa00),
 ci oa10 (.call fn148 [xa0f])]) (.seq (.reg [
 ci oa11 (.mv xa00),
 ci oa12 (.call fn103 [xa11, (ki 1)]),
 ci oa04 (.alloc 134 [vz, ve, vz, vz]),
 ci none (.st 4 xa04 xa12)]) (.seq (.reg [
 ci oa05 (.mv (ki 26))]) (.seq (.seq (.reg [
 ci oa13 (.fa xa03 0),
 ci oa14 (.ld1 xa13),
 ci oa15 (.eql (.cell (.int .i64)) xa14 (ki 25)),
 ci oa16 (.mv xa15),
 cg oa17 ta16 true (.mv xa00),
 cg oa18 ta16 true (.nilc xa17),
 cg oa19 ta16 true (.fa xa18 3),
 cg oa1a ta16 true (.ld1 xa19),
 cg oa1b ta16 true (.not xa1a),
 ci oa1c (.pick xa16 xa1b kf),
 ci oa1d (.mv xa1c),
 cg oa1e ta1d true (.mv xa00),
 cg oa1f ta1d true (.bslice 9 1 1 [ve] [(0, (ks 1 123))]),
 cg oa20 ta1d true (.call fn105 [xa1e, xa1f]),
 ci oa21 (.pick xa1d xa20 kf)]) (.cond xa21 (.reg [
 ci oa05 (.mv (ki 9))]) .skip)) (.seq (.reg [
 ci oa22 (.mv xa00),
 ci oa23 (.mv xa05),
 ci oa24 (.fa xa03 1),
 ci oa25 (.ld1 xa24),
 ci oa26 (.fa xa04 2),
 ci oa27 (.ld1 xa26),
 ci oa28 (.fa xa04 1),
 ci oa29 (.ld1 xa28),
 ci oa2a (.ldn 6 xa03),
 ci oa2b (.bslice 44 6 1 [vz, vz, vz, vz, ve, .nils] [(0, xa2a)]),
 ci oa2c (.call fn151 [xa22, xa23, xa25, xa27, xa29, xa2b]),
 ci none (.st 6 xa03 xa2c)]) (.seq (.reg [
 ci oa2d (.mv xa05),
 ci oa2e (.eql (.cell (.int .i64)) xa2d (ki 9))]) (.cond xa2e (.reg [
 ci oa2f (.mv xa00),
 ci oa30 (.ldn 6 xa03),
 ci oa31 (.call fn257 [xa2f, xa30]),
 ci none (.st 6 xa03 xa31)]) .skip))))))) (.seq (.reg [
 ci oa33 (.mv xa00),
 ci oa34 (.bslice 9 1 1 [ve] [(0, (ks 1 40))]),
 ci oa35 (.call fn105 [xa33, xa34]),
 ci oa36 (.mv xa35),
 cg oa37 ta36 true (.fa xa03 0),
 cg oa38 ta36 true (.ld1 xa37),
 cg oa39 ta36 true (.eql (.cell (.int .i64)) xa38 (ki 25)),
 cg oa3a ta36 true (.mv xa39),
 cg oa3b ta3a false (.fa xa03 0),
 cg oa3c ta3a false (.ld1 xa3b),
 cg oa3d ta3a false (.eql (.cell (.int .i64)) xa3c (ki 26)),
 cg oa3e ta36 true (.pick xa3a kt xa3d),
 ci oa3f (.pick xa36 xa3e kf),
 ci oa32 (.mv xa3f)]) (.cond xa32 (.seq (.reg [
 ci oa40 (.mv xa00),
 ci oa41 (.call fn149 [xa40]),
 ci oa42 (.fld xa41 2 1 false),
 ci oa06 (.mv xa42)]) (.seq (.reg [
 ci oa43 (.mv xa00),
 ci oa44 (.call fn258 [xa43]),
 ci oa07 (.mv xa44)]) (.dreg [
 ⟨0, ci oa45 (.mv xa00), .pur, 0⟩,
 ⟨1, ci oa46 (.fa xa03 1), .pur, 0⟩,
 ⟨2, ci oa47 (.ld1 xa46), .rd, 2⟩,
 ⟨3, ci oa48 (.mv xa06), .pur, 0⟩,
 ⟨4, ci oa49 (.ldn 6 xa03), .rd, 0⟩,
 ⟨6, ci oa4b (.mv xa07), .pur, 0⟩,
 ⟨5, ci oa4a (.bslice 44 6 1 [vz, vz, vz, vz, ve, .nils] [(0, xa49)]), .ev, 0⟩,
 ⟨7, ci oa4c (.append 44 6 72 xa4a xa4b), .ev, 1⟩,
 ⟨8, ci oa4d (.call fn151 [xa45, (ki 27), xa47, xa48, (ks 0 0), xa4c]), .ev, 2⟩,
 ⟨9, ci none (.st 6 xa03 xa4d), .ev, 3⟩]))) (.seq (.reg [
 ci oa0a (.ldn 6 xa03),
 ci none (.st 6 xa02 xa0a)]) .ret))))))))))), [.cell 6 true ta02]⟩
def cf227 : CF := ⟨227, true, (.seq (.reg [
 ci oa04 (.box 44 6 xa01),
 ci oa06 (.alloc 44 [vz, vz, vz, vz, ve, .nils])]) (.seq (.reg [
 ci oa0a (.mv xa00),
 ci oa0b (.call fn149 [xa0a]),
 ci oa07 (.alloc 134 [vz, ve, vz, vz]),
 ci none (.st 4 xa07 xa0b)]) (.seq (.block 0 (.seq (.reg [
 ci oa0d (.mv xa02),
 ci oa0e (.mv xa0d),
 cg oa0f ta0e true (.fa xa04 0),
 cg oa10 ta0e true (.ld1 xa0f),
 cg oa11 ta0e true (.eql (.cell (.int .i64)) xa10 (ki 25)),
 ci oa12 (.pick xa0e xa11 kf),
 ci oa13 (.mv xa12),
 cg oa14 ta13 true (.mv xa00),
 cg oa15 ta13 true (.call fn224 [xa14, (ks 2 15674)]),
 ci oa16 (.pick xa13 xa15 kf),
 ci oa0c (.mv xa16)]) (.cond xa0c (.seq (.reg [
 ci oa17 (.mv xa00),
 ci oa18 (.call fn225 [xa17, (ki 0)]),
 ci oa08 (.alloc 44 [vz, vz, vz, vz, ve, .nils]),
 ci none (.st 6 xa08 xa18)]) (.seq (.reg [
 ci oa19 (.mv xa00),
 ci oa1a (.fa xa04 1),
 ci oa1b (.ld1 xa1a),
 ci oa1c (.fa xa04 1),
 ci oa1d (.ld1 xa1c),
 ci oa1e (.fa xa04 4),
 ci oa1f (.ld1 xa1e),
 ci oa20 (.ldn 6 xa08),
 ci oa21 (.bslice 44 6 1 [vz, vz, vz, vz, ve, .nils] [(0, xa20)]),
 ci oa22 (.call fn151 [xa19, (ki 12), xa1b, xa1d, xa1f, xa21]),
 ci none (.st 6 xa06 xa22)]) .ret)) (.seq (.reg [
 ci oa24 (.ldn 6 xa04),
 ci oa25 (.call fn259 [xa24]),
 ci oa26 (.mv xa25),
 cg oa27 ta26 true (.mv xa00),
 cg oa28 ta26 true (.call fn224 [xa27, (ks 1 61)]),
 ci oa29 (.pick xa26 xa28 kf),
 ci oa23 (.mv xa29)]) (.cond xa23 (.seq (.reg [
 ci oa2a (.mv xa00),
 ci oa2b (.call fn225 [xa2a, (ki 0)]),
 ci oa09 (.alloc 44 [vz, vz, vz, vz, ve, .nils]),
 ci none (.st 6 xa09 xa2b)]) (.seq (.reg [
 ci oa2c (.mv xa00),
 ci oa2d (.fa xa04 1),
 ci oa2e (.ld1 xa2d),
 ci oa2f (.fa xa07 2),
 ci oa30 (.ld1 xa2f),
 ci oa31 (.ldn 6 xa04),
 ci oa32 (.ldn 6 xa09),
 ci oa33 (.bslice 44 6 2 [vz, vz, vz, vz, ve, .nils] [(0, xa31), (1, xa32)]),
 ci oa34 (.call fn151 [xa2c, (ki 13), xa2e, xa30, (ks 0 0), xa33]),
 ci none (.st 6 xa06 xa34)]) .ret)) (.seq (.reg [
 ci oa36 (.ldn 6 xa04),
 ci oa37 (.call fn260 [xa36]),
 ci oa38 (.not xa37),
 ci oa35 (.mv xa38)]) (.cond xa35 (.reg [
 ci oa39 (.mv xa00),
 ci oa3a (.call fn147 [xa39, (ki 4)])]) .skip))))))) (.seq (.reg [
 ci oa3b (.mv xa00),
 ci oa3c (.fa xa04 1),
 ci oa3d (.ld1 xa3c),
 ci oa3e (.fa xa04 1),
 ci oa3f (.ld1 xa3e),
 ci oa40 (.ldn 6 xa04),
 ci oa41 (.bslice 44 6 1 [vz, vz, vz, vz, ve, .nils] [(0, xa40)]),
 ci oa42 (.call fn151 [xa3b, (ki 20), xa3d, xa3f, (ks 0 0), xa41]),
 ci none (.st 6 xa06 xa42)]) .ret)))), [.cell 6 true ta06]⟩
def cf228 : CF := ⟨228, true, (.seq (.reg [
 ci oa0a (.mv xa01),
 ci oa0b (.add xa0a (ki 1)),
 ci oa08 (.mv xa0b)]) (.block 0 (.loop (.seq (.seq (.reg [
 ci oa0c (.mv xa08),
 ci oa0d (.mv xa02),
 ci oa0e (.lss xa0c xa0d)]) (.cond xa0e .skip (.exit 0))) (.seq (.block 1 (.seq (.reg [
 ci oa11 (.mv xa08),
 ci oa09 (.mv xa11)]) (.block 2 (.loop (.seq (.seq (.dreg [
 ⟨0, ci oa12 (.mv xa09), .pur, 0⟩,
 ⟨1, ci oa13 (.mv xa01), .pur, 0⟩,
 ⟨2, ci oa14 (.gtr xa12 xa13), .pur, 0⟩,
 ⟨3, ci oa15 (.mv xa14), .pur, 0⟩,
 ⟨4, cg oa16 ta15 true (.mv xa03), .pur, 0⟩,
 ⟨5, cg oa17 ta15 true (.mv xa00), .pur, 0⟩,
 ⟨6, cg oa18 ta15 true (.mv xa09), .pur, 0⟩,
 ⟨7, cg oa19 ta15 true (.ia 5 xa17 xa18), .pur, 0⟩,
 ⟨8, cg oa1a ta15 true (.ldn 5 xa19), .rd, 0⟩,
 ⟨9, cg oa1b ta15 true (.mv xa00), .pur, 0⟩,
 ⟨10, cg oa1c ta15 true (.mv xa09), .pur, 0⟩,
 ⟨11, cg oa1d ta15 true (.sub xa1c (ki 1)), .pur, 0⟩,
 ⟨12, cg oa1e ta15 true (.ia 5 xa1b xa1d), .pur, 0⟩,
 ⟨13, cg oa1f ta15 true (.ldn 5 xa1e), .rd, 0⟩,
 ⟨14, cg oa20 ta15 true (.callv xa16 [xa1a, xa1f]), .ev, 0⟩,
 ⟨15, cg oa21 ta15 true (.lss xa20 (ki 0)), .pur, 0⟩,
 ⟨16, ci oa22 (.pick xa15 xa21 kf), .pur, 0⟩]) (.cond xa22 .skip (.exit 2))) (.seq (.block 3 (.dreg [
 ⟨0, ci oa25 (.mv xa00), .pur, 0⟩,
 ⟨1, ci oa26 (.mv xa09), .pur, 0⟩,
 ⟨2, ci oa27 (.mv xa00), .pur, 0⟩,
 ⟨3, ci oa28 (.mv xa09), .pur, 0⟩,
 ⟨4, ci oa29 (.sub xa28 (ki 1)), .pur, 0⟩,
 ⟨5, ci oa2a (.mv xa00), .pur, 0⟩,
 ⟨6, ci oa2b (.mv xa09), .pur, 0⟩,
 ⟨7, ci oa2c (.sub xa2b (ki 1)), .pur, 0⟩,
 ⟨8, ci oa2d (.ia 5 xa2a xa2c), .pur, 0⟩,
 ⟨9, ci oa2e (.ldn 5 xa2d), .rd, 0⟩,
 ⟨10, ci oa2f (.mv xa00), .pur, 0⟩,
 ⟨11, ci oa30 (.mv xa09), .pur, 0⟩,
 ⟨12, ci oa31 (.ia 5 xa2f xa30), .pur, 0⟩,
 ⟨13, ci oa32 (.ldn 5 xa31), .rd, 0⟩,
 ⟨14, ci oa33 (.ia 5 xa25 xa26), .pur, 0⟩,
 ⟨15, ci none (.st 5 xa33 xa2e), .ev, 0⟩,
 ⟨16, ci oa34 (.ia 5 xa27 xa29), .pur, 0⟩,
 ⟨17, ci none (.st 5 xa34 xa32), .ev, 1⟩])) (.reg [
 ci oa23 (.mv xa09),
 ci oa24 (.sub xa23 (ki 1)),
 ci oa09 (.mv xa24)]))))))) (.reg [
 ci oa0f (.mv xa08),
 ci oa10 (.add xa0f (ki 1)),
 ci oa08 (.mv xa10)])))))), []⟩
def cf236 : CF := ⟨236, true, (.seq (.reg [
 ci oa04 (.mv kf)]) (.seq (.reg [
 ci oa05 (.mv xa00),
 ci oa06 (.mv xa01),
 ci oa07 (.call fn264 [xa05, xa06]),
 ci oa08 (.geq xa07 (ki 0)),
 ci oa04 (.mv xa08)]) .ret)), [.tmp ta04]⟩
def cf237 : CF := ⟨237, true, (.seq (.reg [
 ci oa04 (.box 39 3 xa01),
 ci oa06 (.alloc 148 [vz, ve, vz, vz, ve, vz, ve, ve, .nils, vz, ve, ve]),
 ci oa07 (.mv kf)]) (.seq (.seq (.reg [
 ci oa08 (.fa xa04 0),
 ci oa09 (.ld1 xa08),
 ci oa0a (.neq (.cell (.int .i64)) xa09 (ki 5))]) (.cond xa0a (.seq (.reg [
 ci oa0b (.build [vz, ve, vz, vz, ve, vz, ve, ve, .nils, vz, ve, ve] []),
 ci none (.st 12 xa06 xa0b),
 ci oa07 (.mv kf)]) .ret) .skip)) (.seq (.reg [
 ci oa0c (.mv xa00),
 ci oa0d (.ldn 3 xa04),
 ci oa0e (.fa xa04 1),
 ci oa0f (.ld1 xa0e),
 ci oa10 (.mv xa02),
 ci oa11 (.build [vz, ve, ve, ve, ve] [(0, 3, xa0d), (3, 1, xa0f), (4, 1, xa10)]),
 ci oa12 (.call fn265 [xa0c, xa11]),
 ci oa13 (.ext xa12 0),
 ci oa14 (.ext xa12 1),
 ci none (.st 12 xa06 xa13),
 ci oa07 (.mv xa14)]) .ret))), [.cell 12 true ta06, .tmp ta07]⟩
def cf238 : CF := ⟨238, true, (.seq (.reg [
 ci oa06 (.alloc 148 [vz, ve, vz, vz, ve, vz, ve, ve, .nils, vz, ve, ve]),
 ci oa07 (.mv kf)]) (.seq (.reg [
 ci oa08 (.mv xa00),
 ci oa09 (.mv xa01),
 ci oa0a (.mv xa02),
 ci oa0b (.build [vz, ve, ve, ve, ve] [(3, 1, xa09), (4, 1, xa0a)]),
 ci oa0c (.call fn265 [xa08, xa0b]),
 ci oa0d (.ext xa0c 0),
 ci oa0e (.ext xa0c 1),
 ci none (.st 12 xa06 xa0d),
 ci oa07 (.mv xa0e)]) .ret)), [.cell 12 true ta06, .tmp ta07]⟩
def cf239 : CF := ⟨239, true, (.seq (.reg [
 ci oa03 (.box 39 3 xa01),
 ci oa04 (.mv (.k .nils))]) (.seq (.seq (.reg [
 ci oa05 (.mv xa00),
 ci oa06 (.call fn69 [xa05]),
 ci oa07 (.not xa06)]) (.cond xa07 (.seq (.reg [
 ci oa04 (.mv (.k .nils))]) .ret) .skip)) (.seq (.dreg [
 ⟨0, ci oa08 (.mv xa00), .pur, 0⟩,
 ⟨1, ci oa09 (.nilc xa08), .pur, 0⟩,
 ⟨2, ci oa0a (.fa xa09 1), .pur, 0⟩,
 ⟨3, ci oa0b (.ld1 xa0a), .rd, 0⟩,
 ⟨4, ci oa0c (.ldn 3 xa03), .rd, 0⟩,
 ⟨5, ci oa0d (.lkp (.strct [(.int .i64), .str, .str]) .nils xa0b xa0c false), .rd, 0⟩,
 ⟨6, ci oa0e (.call fn266 [xa0d]), .ev, 0⟩,
 ⟨7, ci oa04 (.mv xa0e), .pur, 0⟩]) .ret))), [.tmp ta04]⟩
def cf240 : CF := ⟨240, true, (.seq (.reg [
 ci oa04 (.mv (ki 0))]) (.seq (.seq (.reg [
 ci oa06 (.mv xa00),
 ci oa07 (.len 1 xa06),
 ci oa08 (.mv (ki 0))]) (.block 0 (.loop (.seq (.reg [
 ci oa09 (.lss xa08 xa07)]) (.seq (.cond xa09 .skip (.exit 0)) (.seq (.block 1 (.seq (.reg [
 ci oa0a (.mv xa08),
 ci oa05 (.mv xa0a)]) (.seq (.reg [
 ci oa0b (.mv xa01),
 ci oa0c (.mv xa00),
 ci oa0d (.mv xa05),
 ci oa0e (.ia 8 xa0c xa0d),
 ci oa0f (.ldn 8 xa0e),
 ci oa10 (.callv xa0b [xa0f])]) (.cond xa10 (.seq (.reg [
 ci oa11 (.mv xa05),
 ci oa04 (.mv xa11)]) .ret) .skip)))) (.reg [
 ci oa12 (.add xa08 (ki 1)),
 ci oa08 (.mv xa12)]))))))) (.seq (.reg [
 ci oa04 (.mv (.k (.i (.negSucc 0))))]) .ret))), [.tmp ta04]⟩
def cf241 : CF := ⟨241, true, (.seq (.reg [
 ci oa02 (.box 143 8 xa00),
 ci oa03 (.mv kf)]) (.seq (.reg [
 ci oa04 (.fa xa02 0),
 ci oa05 (.fa xa04 1),
 ci oa06 (.ld1 xa05),
 ci oa07 (.ld1 xa01),
 ci oa08 (.eql (.cell .str) xa06 xa07),
 ci oa03 (.mv xa08)]) .ret)), [.tmp ta03]⟩
def cf242 : CF := ⟨242, true, (.seq (.reg [
 ci oa04 (.mv kf)]) (.seq (.reg [
 ci oa05 (.mv xa00),
 ci oa06 (.mv xa01),
 ci oa07 (.nilc xa05),
 ci oa08 (.iaArr 1 256 xa07 xa06),
 ci oa09 (.ld1 xa08),
 ci oa04 (.mv xa09)]) .ret)), [.tmp ta04]⟩
def cf244 : CF := ⟨244, true, (.seq (.reg [
 ci oa06 (.mv (.k (.int .u64 (.ofNat 0)))),
 ci oa07 (.mv (.k .nili))]) (.seq (.seq (.reg [
 ci oa12 (.mv xa00),
 ci oa13 (.eql (.cell .str) xa12 (ks 0 0))]) (.cond xa13 (.seq (.reg [
 ci oa14 (.mki 318 (ki 2)),
 ci oa06 (.mv (.k (.int .u64 (.ofNat 0)))),
 ci oa07 (.mv xa14)]) .ret) .skip)) (.seq (.reg [
 ci oa15 (.mv xa01),
 ci oa16 (.eql (.cell (.int .i64)) xa15 (ki 0)),
 ci oa08 (.mv xa16)]) (.seq (.reg [
 ci oa17 (.mv xa00),
 ci oa09 (.mv xa17)]) (.seq (.block 0 (.seq (.reg [
 ci oa1a (.mv xa01),
 ci oa1b (.leq (ki 2) xa1a),
 ci oa1c (.mv xa1b),
 cg oa1d ta1c true (.mv xa01),
 cg oa1e ta1c true (.leq xa1d (ki 36)),
 ci oa1f (.pick xa1c xa1e kf),
 ci oa19 (.mv xa1f)]) (.cond xa19 .skip (.seq (.reg [
 ci oa21 (.mv xa01),
 ci oa22 (.eql (.cell (.int .i64)) xa21 (ki 0)),
 ci oa20 (.mv xa22)]) (.cond xa20 (.seq (.reg [
 ci oa01 (.mv (ki 10))]) (.seq (.reg [
 ci oa23 (.mv xa00),
 ci oa24 (.ixs xa23 (ki 0)),
 ci oa25 (.eql (.cell (.int .u8)) xa24 (.k (.u8 48)))]) (.cond xa25 (.block 1 (.seq (.reg [
 ci oa29 (.mv xa00),
 ci oa2a (.len 0 xa29),
 ci oa2b (.geq xa2a (ki 3)),
 ci oa2c (.mv xa2b),
 cg oa2d ta2c true (.mv xa00),
 cg oa2e ta2c true (.ixs xa2d (ki 1)),
 cg oa2f ta2c true (.call fn268 [xa2e]),
 cg oa30 ta2c true (.eql (.cell (.int .u8)) xa2f (.k (.u8 98))),
 ci oa31 (.pick xa2c xa30 kf),
 ci oa28 (.mv xa31)]) (.cond xa28 (.seq (.reg [
 ci oa01 (.mv (ki 2))]) (.reg [
 ci oa32 (.mv xa00),
 ci oa33 (.slStr xa32 (some (ki 2)) none),
 ci oa00 (.mv xa33)])) (.seq (.reg [
 ci oa35 (.mv xa00),
 ci oa36 (.len 0 xa35),
 ci oa37 (.geq xa36 (ki 3)),
 ci oa38 (.mv xa37),
 cg oa39 ta38 true (.mv xa00),
 cg oa3a ta38 true (.ixs xa39 (ki 1)),
 cg oa3b ta38 true (.call fn268 [xa3a]),
 cg oa3c ta38 true (.eql (.cell (.int .u8)) xa3b (.k (.u8 111))),
 ci oa3d (.pick xa38 xa3c kf),
 ci oa34 (.mv xa3d)]) (.cond xa34 (.seq (.reg [
 ci oa01 (.mv (ki 8))]) (.reg [
 ci oa3e (.mv xa00),
 ci oa3f (.slStr xa3e (some (ki 2)) none),
 ci oa00 (.mv xa3f)])) (.seq (.reg [
 ci oa41 (.mv xa00),
 ci oa42 (.len 0 xa41),
 ci oa43 (.geq xa42 (ki 3)),
 ci oa44 (.mv xa43),
 cg oa45 ta44 true (.mv xa00),
 cg oa46 ta44 true (.ixs xa45 (ki 1)),
 cg oa47 ta44 true (.call fn268 [xa46]),
 cg oa48 ta44 true (.eql (.cell (.int .u8)) xa47 (.k (.u8 120))),
 ci oa49 (.pick xa44 xa48 kf),
 ci oa40 (.mv xa49)]) (.cond xa40 (.seq (.reg [
 ci oa01 (.mv (ki 16))]) (.reg [
 ci oa4a (.mv xa00),
 ci oa4b (.slStr xa4a (some (ki 2)) none),
 ci oa00 (.mv xa4b)])) (.seq (.reg [
 ci oa01 (.mv (ki 8))]) (.reg [
 ci oa26 (.mv xa00),
 ci oa27 (.slStr xa26 (some (ki 1)) none),
 ci oa00 (.mv xa27)]))))))))) .skip))) (.seq (.reg [
 ci oa18 (.mki 318 (ki 3)),
 ci oa06 (.mv (.k (.int .u64 (.ofNat 0)))),
 ci oa07 (.mv xa18)]) .ret)))))) (.seq (.seq (.reg [
 ci oa4c (.mv xa02),
 ci oa4d (.eql (.cell (.int .i64)) xa4c (ki 0))]) (.cond xa4d (.reg [
 ci oa02 (.mv (ki 64))]) (.seq (.reg [
 ci oa4e (.mv xa02),
 ci oa4f (.lss xa4e (ki 0)),
 ci oa50 (.mv xa4f),
 cg oa51 ta50 false (.mv xa02),
 cg oa52 ta50 false (.gtr xa51 (ki 64)),
 ci oa53 (.pick xa50 kt xa52)]) (.cond xa53 (.seq (.reg [
 ci oa54 (.mki 318 (ki 4)),
 ci oa06 (.mv (.k (.int .u64 (.ofNat 0)))),
 ci oa07 (.mv xa54)]) .ret) .skip)))) (.seq (.reg [
 ci oa0a (.mv (.k (.int .u64 (.ofNat 0))))]) (.seq (.seq (.reg [
 ci oa55 (.mv xa01)]) (.block 2 (.seq (.reg [
 ci oa5b (.eql (.cell (.int .i64)) xa55 (ki 10)),
 ci oa5a (.mv xa5b)]) (.cond xa5a (.reg [
 ci oa0a (.mv (.k (.int .u64 (.ofNat 1844674407370955162))))]) (.seq (.reg [
 ci oa5d (.eql (.cell (.int .i64)) xa55 (ki 16)),
 ci oa5c (.mv xa5d)]) (.cond xa5c (.reg [
 ci oa0a (.mv (.k (.int .u64 (.ofNat 1152921504606846976))))]) (.reg [
 ci oa56 (.mv xa01),
 ci oa57 (.cint .u64 xa56),
 ci oa58 (.quo (.k (.int .u64 (.ofNat 18446744073709551615))) xa57),
 ci oa59 (.add xa58 (.k (.int .u64 (.ofNat 1)))),
 ci oa0a (.mv xa59)]))))))) (.seq (.reg [
 ci oa5e (.mv xa02),
 ci oa5f (.cint .u64 xa5e),
 ci oa60 (.shl (.k (.int .u64 (.ofNat 1))) xa5f),
 ci oa61 (.sub xa60 (.k (.int .u64 (.ofNat 1)))),
 ci oa0b (.mv xa61)]) (.seq (.reg [
 ci oa0c (.mv kf)]) (.seq (.reg [
 ci oa0d (.mv (.k (.int .u64 (.ofNat 0))))]) (.seq (.seq (.reg [
 ci oa62 (.mv xa00),
 ci oa63 (.s2b 5 xa62),
 ci oa64 (.len 1 xa63),
 ci oa65 (.mv (ki 0))]) (.block 3 (.loop (.seq (.reg [
 ci oa66 (.lss xa65 xa64)]) (.seq (.cond xa66 .skip (.exit 3)) (.seq (.block 4 (.seq (.reg [
 ci oa67 (.ia 1 xa63 xa65),
 ci oa68 (.ld1 xa67),
 ci oa0f (.mv xa68)]) (.seq (.reg [
 ci oa10 (.mv (.k (.u8 0)))]) (.seq (.block 5 (.seq (.reg [
 ci oa6b (.mv xa0f),
 ci oa6c (.eql (.cell (.int .u8)) xa6b (.k (.u8 95))),
 ci oa6d (.mv xa6c),
 cg oa6e ta6d true (.mv xa08),
 ci oa6f (.pick xa6d xa6e kf),
 ci oa6a (.mv xa6f)]) (.cond xa6a (.seq (.reg [
 ci oa0c (.mv kt)]) (.exit 4)) (.seq (.reg [
 ci oa71 (.mv xa0f),
 ci oa72 (.leq (.k (.u8 48)) xa71),
 ci oa73 (.mv xa72),
 cg oa74 ta73 true (.mv xa0f),
 cg oa75 ta73 true (.leq xa74 (.k (.u8 57))),
 ci oa76 (.pick xa73 xa75 kf),
 ci oa70 (.mv xa76)]) (.cond xa70 (.reg [
 ci oa77 (.mv xa0f),
 ci oa78 (.sub xa77 (.k (.u8 48))),
 ci oa10 (.mv xa78)]) (.seq (.reg [
 ci oa7a (.mv xa0f),
 ci oa7b (.call fn268 [xa7a]),
 ci oa7c (.leq (.k (.u8 97)) xa7b),
 ci oa7d (.mv xa7c),
 cg oa7e ta7d true (.mv xa0f),
 cg oa7f ta7d true (.call fn268 [xa7e]),
 cg oa80 ta7d true (.leq xa7f (.k (.u8 122))),
 ci oa81 (.pick xa7d xa80 kf),
 ci oa79 (.mv xa81)]) (.cond xa79 (.reg [
 ci oa82 (.mv xa0f),
 ci oa83 (.call fn268 [xa82]),
 ci oa84 (.sub xa83 (.k (.u8 97))),
 ci oa85 (.add xa84 (.k (.u8 10))),
 ci oa10 (.mv xa85)]) (.seq (.reg [
 ci oa69 (.mki 318 (ki 2)),
 ci oa06 (.mv (.k (.int .u64 (.ofNat 0)))),
 ci oa07 (.mv xa69)]) .ret)))))))) (.seq (.seq (.reg [
 ci oa86 (.mv xa10),
 ci oa87 (.mv xa01),
 ci oa88 (.cint .u8 xa87),
 ci oa89 (.geq xa86 xa88)]) (.cond xa89 (.seq (.reg [
 ci oa8a (.mki 318 (ki 2)),
 ci oa06 (.mv (.k (.int .u64 (.ofNat 0)))),
 ci oa07 (.mv xa8a)]) .ret) .skip)) (.seq (.seq (.reg [
 ci oa8b (.mv xa0d),
 ci oa8c (.mv xa0a),
 ci oa8d (.geq xa8b xa8c)]) (.cond xa8d (.seq (.reg [
 ci oa8e (.mv xa0b),
 ci oa8f (.mki 318 (ki 1)),
 ci oa06 (.mv xa8e),
 ci oa07 (.mv xa8f)]) .ret) .skip)) (.seq (.reg [
 ci oa90 (.mv xa0d),
 ci oa91 (.mv xa01),
 ci oa92 (.cint .u64 xa91),
 ci oa93 (.mul xa90 xa92),
 ci oa0d (.mv xa93)]) (.seq (.reg [
 ci oa94 (.mv xa0d),
 ci oa95 (.mv xa10),
 ci oa96 (.cint .u64 xa95),
 ci oa97 (.add xa94 xa96),
 ci oa11 (.mv xa97)]) (.seq (.seq (.reg [
 ci oa98 (.mv xa11),
 ci oa99 (.mv xa0d),
 ci oa9a (.lss xa98 xa99),
 ci oa9b (.mv xa9a),
 cg oa9c ta9b false (.mv xa11),
 cg oa9d ta9b false (.mv xa0b),
 cg oa9e ta9b false (.gtr xa9c xa9d),
 ci oa9f (.pick xa9b kt xa9e)]) (.cond xa9f (.seq (.reg [
 ci oaa0 (.mv xa0b),
 ci oaa1 (.mki 318 (ki 1)),
 ci oa06 (.mv xaa0),
 ci oa07 (.mv xaa1)]) .ret) .skip)) (.reg [
 ci oaa2 (.mv xa11),
 ci oa0d (.mv xaa2)])))))))))) (.reg [
 ci oaa3 (.add xa65 (ki 1)),
 ci oa65 (.mv xaa3)]))))))) (.seq (.seq (.reg [
 ci oaa4 (.mv xa0c),
 ci oaa5 (.mv xaa4),
 cg oaa6 taa5 true (.mv xa09),
 cg oaa7 taa5 true (.call fn269 [xaa6]),
 cg oaa8 taa5 true (.not xaa7),
 ci oaa9 (.pick xaa5 xaa8 kf)]) (.cond xaa9 (.seq (.reg [
 ci oaaa (.mki 318 (ki 2)),
 ci oa06 (.mv (.k (.int .u64 (.ofNat 0)))),
 ci oa07 (.mv xaaa)]) .ret) .skip)) (.seq (.reg [
 ci oaab (.mv xa0d),
 ci oa06 (.mv xaab),
 ci oa07 (.mv (.k .nili))]) .ret)))))))))))))), [.tmp ta06, .tmp ta07]⟩
def cf249 : CF := ⟨249, true, (.seq (.reg [
 ci oa04 (.mv (.k (.flt .f64 0))),
 ci oa05 (.mv (ki 0)),
 ci oa06 (.mv (.k .nili))]) (.seq (.seq (.reg [
 ci oa0a (.mv xa01),
 ci oa0b (.eql (.cell (.int .i64)) xa0a (ki 32))]) (.cond xa0b (.seq (.reg [
 ci oa0d (.mv xa00),
 ci oa0e (.call fn273 [xa0d]),
 ci oa0c (.mv xa0e),
 ci oa0f (.ext xa0c 0),
 ci oa10 (.ext xa0c 1),
 ci oa11 (.ext xa0c 2),
 ci oa07 (.mv xa0f),
 ci oa08 (.mv xa10),
 ci oa09 (.mv xa11)]) (.seq (.reg [
 ci oa12 (.mv xa07),
 ci oa13 (.f2f .f64 xa12),
 ci oa14 (.mv xa08),
 ci oa15 (.mv xa09),
 ci oa04 (.mv xa13),
 ci oa05 (.mv xa14),
 ci oa06 (.mv xa15)]) .ret)) .skip)) (.seq (.reg [
 ci oa16 (.mv xa00),
 ci oa17 (.call fn274 [xa16]),
 ci oa18 (.ext xa17 0),
 ci oa19 (.ext xa17 1),
 ci oa1a (.ext xa17 2),
 ci oa04 (.mv xa18),
 ci oa05 (.mv xa19),
 ci oa06 (.mv xa1a)]) .ret))), [.tmp ta04, .tmp ta05, .tmp ta06]⟩
def cf251 : CF := ⟨251, true, (.seq (.reg [
 ci oa04 (.alloc 44 [vz, vz, vz, vz, ve, .nils])]) (.seq (.reg [
 ci oa07 (.mv xa00),
 ci oa08 (.nilc xa07),
 ci oa09 (.fa xa08 3),
 ci oa0a (.ld1 xa09),
 ci oa05 (.mv xa0a)]) (.seq (.reg [
 ci oa0b (.mv xa00),
 ci oa0c (.nilc xa0b),
 ci oa0d (.fa xa0c 3),
 ci none (.st 1 xa0d kt)]) (.seq (.reg [
 ci oa0e (.mv xa01),
 ci oa0f (.callv xa0e []),
 ci oa06 (.alloc 44 [vz, vz, vz, vz, ve, .nils]),
 ci none (.st 6 xa06 xa0f)]) (.seq (.reg [
 ci oa10 (.mv xa00),
 ci oa11 (.mv xa05),
 ci oa12 (.nilc xa10),
 ci oa13 (.fa xa12 3),
 ci none (.st 1 xa13 xa11)]) (.seq (.reg [
 ci oa14 (.ldn 6 xa06),
 ci none (.st 6 xa04 xa14)]) .ret)))))), [.cell 6 true ta04]⟩
def cf252 : CF := ⟨252, true, (.seq (.reg [
 ci oa02 (.alloc 44 [vz, vz, vz, vz, ve, .nils])]) (.seq (.reg [
 ci oa03 (.mv xa00),
 ci oa04 (.call fn225 [xa03, (ki 0)]),
 ci none (.st 6 xa02 xa04)]) .ret)), [.cell 6 true ta02]⟩
def cf253 : CF := ⟨253, true, (.seq (.reg [
 ci oa01 (.box 132 1 xa00),
 ci oa02 (.alloc 44 [vz, vz, vz, vz, ve, .nils]),
 ci oa03 (.alloc 44 [vz, vz, vz, vz, ve, .nils]),
 ci oa04 (.alloc 44 [vz, vz, vz, vz, ve, .nils])]) (.seq (.seq (.reg [
 ci oa06 (.ld1 xa01),
 ci oa07 (.call fn149 [xa06]),
 ci oa08 (.fld xa07 0 1 false),
 ci oa09 (.neq (.cell (.int .i64)) xa08 (ki 7))]) (.cond xa09 (.seq (.reg [
 ci oa0a (.ld1 xa01),
 ci oa0b (.ld1 xa01),
 ci oa0c (.mkf fn252 [xa0b] []),
 ci oa0d (.call fn251 [xa0a, xa0c]),
 ci oa05 (.alloc 44 [vz, vz, vz, vz, ve, .nils]),
 ci none (.st 6 xa05 xa0d)]) (.seq (.seq (.reg [
 ci oa0e (.ld1 xa01),
 ci oa0f (.bslice 9 1 1 [ve] [(0, (ks 1 123))]),
 ci oa10 (.call fn105 [xa0e, xa0f])]) (.cond xa10 (.seq (.dreg [
 ⟨0, ci oa11 (.ldn 6 xa02), .rd, 0⟩,
 ⟨1, ci oa12 (.ldn 6 xa05), .rd, 1⟩,
 ⟨2, ci oa13 (.ldn 6 xa04), .rd, 2⟩,
 ⟨3, ci none (.st 6 xa02 xa11), .ev, 0⟩,
 ⟨4, ci none (.st 6 xa03 xa12), .ev, 1⟩,
 ⟨5, ci none (.st 6 xa04 xa13), .ev, 2⟩]) .ret) .skip)) (.reg [
 ci oa14 (.ld1 xa01),
 ci oa15 (.mkf fn275 [] [xa01, xa05]),
 ci oa16 (.call fn251 [xa14, xa15]),
 ci none (.st 6 xa02 xa16)]))) .skip)) (.seq (.reg [
 ci oa17 (.ld1 xa01),
 ci oa18 (.call fn104 [xa17])]) (.seq (.seq (.reg [
 ci oa19 (.ld1 xa01),
 ci oa1a (.call fn149 [xa19]),
 ci oa1b (.fld xa1a 0 1 false),
 ci oa1c (.neq (.cell (.int .i64)) xa1b (ki 7))]) (.cond xa1c (.reg [
 ci oa1d (.ld1 xa01),
 ci oa1e (.ld1 xa01),
 ci oa1f (.mkf fn252 [xa1e] []),
 ci oa20 (.call fn251 [xa1d, xa1f]),
 ci none (.st 6 xa03 xa20)]) .skip)) (.seq (.reg [
 ci oa21 (.ld1 xa01),
 ci oa22 (.call fn104 [xa21])]) (.seq (.seq (.reg [
 ci oa23 (.ld1 xa01),
 ci oa24 (.bslice 9 1 1 [ve] [(0, (ks 1 123))]),
 ci oa25 (.call fn105 [xa23, xa24]),
 ci oa26 (.not xa25)]) (.cond xa26 (.reg [
 ci oa27 (.ld1 xa01),
 ci oa28 (.mkf fn276 [] [xa01]),
 ci oa29 (.call fn251 [xa27, xa28]),
 ci none (.st 6 xa04 xa29)]) .skip)) (.seq (.dreg [
 ⟨0, ci oa2a (.ldn 6 xa02), .rd, 0⟩,
 ⟨1, ci oa2b (.ldn 6 xa03), .rd, 1⟩,
 ⟨2, ci oa2c (.ldn 6 xa04), .rd, 2⟩,
 ⟨3, ci none (.st 6 xa02 xa2a), .ev, 0⟩,
 ⟨4, ci none (.st 6 xa03 xa2b), .ev, 1⟩,
 ⟨5, ci none (.st 6 xa04 xa2c), .ev, 2⟩]) .ret))))))), [.cell 6 true ta02, .cell 6 true ta03, .cell 6 true ta04]⟩
def cf254 : CF := ⟨254, true, (.seq (.reg [
 ci oa02 (.alloc 44 [vz, vz, vz, vz, ve, .nils])]) (.seq (.seq (.reg [
 ci oa05 (.mv xa00),
 ci oa06 (.bslice 9 1 2 [ve] [(0, (ks 1 45)), (1, (ks 1 33))]),
 ci oa07 (.call fn105 [xa05, xa06]),
 ci oa08 (.not xa07)]) (.cond xa08 (.seq (.reg [
 ci oa09 (.mv xa00),
 ci oa0a (.call fn226 [xa09]),
 ci none (.st 6 xa02 xa0a)]) .ret) .skip)) (.seq (.reg [
 ci oa0b (.mv xa00),
 ci oa0c (.call fn148 [xa0b]),
 ci oa03 (.alloc 134 [vz, ve, vz, vz]),
 ci none (.st 4 xa03 xa0c)]) (.seq (.reg [
 ci oa0d (.mv xa00),
 ci oa0e (.call fn254 [xa0d]),
 ci oa04 (.alloc 44 [vz, vz, vz, vz, ve, .nils]),
 ci none (.st 6 xa04 xa0e)]) (.seq (.reg [
 ci oa0f (.mv xa00),
 ci oa10 (.fa xa03 2),
 ci oa11 (.ld1 xa10),
 ci oa12 (.fa xa03 2),
 ci oa13 (.ld1 xa12),
 ci oa14 (.fa xa03 1),
 ci oa15 (.ld1 xa14),
 ci oa16 (.ldn 6 xa04),
 ci oa17 (.bslice 44 6 1 [vz, vz, vz, vz, ve, .nils] [(0, xa16)]),
 ci oa18 (.call fn151 [xa0f, (ki 30), xa11, xa13, xa15, xa17]),
 ci none (.st 6 xa02 xa18)]) .ret))))), [.cell 6 true ta02]⟩
def cf255 : CF := ⟨255, true, (.seq (.reg [
 ci oa01 (.box 134 4 xa00),
 ci oa02 (.mv (ki 0))]) (.seq (.seq (.reg [
 ci oa03 (.fa xa01 0),
 ci oa04 (.ld1 xa03),
 ci oa05 (.neq (.cell (.int .i64)) xa04 (ki 6))]) (.cond xa05 (.seq (.reg [
 ci oa02 (.mv (ki 0))]) .ret) .skip)) (.seq (.seq (.reg [
 ci oa06 (.fa xa01 1),
 ci oa07 (.ld1 xa06)]) (.block 0 (.seq (.reg [
 ci oa09 (.eql (.cell .str) xa07 (ks 2 31868)),
 ci oa08 (.mv xa09)]) (.cond xa08 (.seq (.reg [
 ci oa02 (.mv (ki 1))]) .ret) (.seq (.reg [
 ci oa0b (.eql (.cell .str) xa07 (ks 2 9766)),
 ci oa0a (.mv xa0b)]) (.cond xa0a (.seq (.reg [
 ci oa02 (.mv (ki 2))]) .ret) (.seq (.seq (.reg [
 ci oa0d (.eql (.cell .str) xa07 (ks 2 15677)),
 ci oa0c (.mv xa0d)]) (.cond xa0c .skip (.seq (.reg [
 ci oa0e (.eql (.cell .str) xa07 (ks 2 15649)),
 ci oa0c (.mv xa0e)]) (.cond xa0c .skip (.seq (.reg [
 ci oa0f (.eql (.cell .str) xa07 (ks 1 60)),
 ci oa0c (.mv xa0f)]) (.cond xa0c .skip (.seq (.reg [
 ci oa10 (.eql (.cell .str) xa07 (ks 2 15676)),
 ci oa0c (.mv xa10)]) (.cond xa0c .skip (.seq (.reg [
 ci oa11 (.eql (.cell .str) xa07 (ks 1 62)),
 ci oa0c (.mv xa11)]) (.cond xa0c .skip (.reg [
 ci oa12 (.eql (.cell .str) xa07 (ks 2 15678)),
 ci oa0c (.mv xa12)]))))))))))) (.cond xa0c (.seq (.reg [
 ci oa02 (.mv (ki 3))]) .ret) (.seq (.seq (.reg [
 ci oa14 (.eql (.cell .str) xa07 (ks 1 43)),
 ci oa13 (.mv xa14)]) (.cond xa13 .skip (.reg [
 ci oa15 (.eql (.cell .str) xa07 (ks 1 45)),
 ci oa13 (.mv xa15)]))) (.cond xa13 (.seq (.reg [
 ci oa02 (.mv (ki 4))]) .ret) (.seq (.seq (.reg [
 ci oa17 (.eql (.cell .str) xa07 (ks 1 42)),
 ci oa16 (.mv xa17)]) (.cond xa16 .skip (.seq (.reg [
 ci oa18 (.eql (.cell .str) xa07 (ks 1 47)),
 ci oa16 (.mv xa18)]) (.cond xa16 .skip (.reg [
 ci oa19 (.eql (.cell .str) xa07 (ks 1 37)),
 ci oa16 (.mv xa19)]))))) (.cond xa16 (.seq (.reg [
 ci oa02 (.mv (ki 5))]) .ret) .skip)))))))))))) (.seq (.reg [
 ci oa02 (.mv (ki 0))]) .ret)))), [.tmp ta02]⟩
def cf256 : CF := ⟨256, true, (.seq (.reg [
 ci oa01 (.box 132 1 xa00),
 ci oa02 (.alloc 44 [vz, vz, vz, vz, ve, .nils])]) (.seq (.reg [
 ci oa07 (.ld1 xa01),
 ci oa08 (.call fn149 [xa07]),
 ci oa03 (.alloc 134 [vz, ve, vz, vz]),
 ci none (.st 4 xa03 xa08)]) (.seq (.seq (.reg [
 ci oa09 (.ldn 4 xa03),
 ci oa0a (.call fn277 [xa09]),
 ci oa04 (.mv xa0a)]) (.seq (.reg [
 ci oa0b (.mv xa04),
 ci oa0c (.neq (.cell (.int .i64)) xa0b (ki 0))]) (.cond xa0c (.seq (.reg [
 ci oa0d (.ld1 xa01),
 ci oa0e (.call fn148 [xa0d])]) (.seq (.seq (.reg [
 ci oa0f (.mv xa04),
 ci oa10 (.eql (.cell (.int .i64)) xa0f (ki 25)),
 ci oa11 (.mv xa10),
 cg oa12 ta11 true (.ld1 xa01),
 cg oa13 ta11 true (.nilc xa12),
 cg oa14 ta11 true (.fa xa13 3),
 cg oa15 ta11 true (.ld1 xa14),
 cg oa16 ta11 true (.not xa15),
 ci oa17 (.pick xa11 xa16 kf),
 ci oa18 (.mv xa17),
 cg oa19 ta18 true (.ld1 xa01),
 cg oa1a ta18 true (.bslice 9 1 1 [ve] [(0, (ks 1 123))]),
 cg oa1b ta18 true (.call fn105 [xa19, xa1a]),
 ci oa1c (.pick xa18 xa1b kf)]) (.cond xa1c (.seq (.dreg [
 ⟨0, ci oa1d (.ld1 xa01), .rd, 1⟩,
 ⟨1, ci oa1e (.ld1 xa01), .rd, 0⟩,
 ⟨2, ci oa1f (.fa xa03 2), .pur, 0⟩,
 ⟨3, ci oa20 (.ld1 xa1f), .rd, 0⟩,
 ⟨4, ci oa21 (.fa xa03 2), .pur, 0⟩,
 ⟨5, ci oa22 (.ld1 xa21), .rd, 0⟩,
 ⟨6, ci oa23 (.fa xa03 1), .pur, 0⟩,
 ⟨7, ci oa24 (.ld1 xa23), .rd, 0⟩,
 ⟨8, ci oa25 (.call fn151 [xa1e, (ki 8), xa20, xa22, xa24, (.k .nils)]), .ev, 0⟩,
 ⟨9, ci oa26 (.call fn257 [xa1d, xa25]), .ev, 1⟩,
 ⟨10, ci none (.st 6 xa02 xa26), .ev, 2⟩]) .ret) .skip)) (.seq (.reg [
 ci oa27 (.ld1 xa01),
 ci oa28 (.mv xa04),
 ci oa29 (.fa xa03 2),
 ci oa2a (.ld1 xa29),
 ci oa2b (.fa xa03 2),
 ci oa2c (.ld1 xa2b),
 ci oa2d (.fa xa03 1),
 ci oa2e (.ld1 xa2d),
 ci oa2f (.call fn151 [xa27, xa28, xa2a, xa2c, xa2e, (.k .nils)]),
 ci none (.st 6 xa02 xa2f)]) .ret))) .skip))) (.seq (.seq (.reg [
 ci oa30 (.ld1 xa01),
 ci oa31 (.bslice 9 1 5 [ve] [(0, (ks 3 7630441)), (1, (ks 7 14696572267752550)), (2, (ks 3 7234924)), (3, (ks 5 500068610672)), (4, (ks 5 426970603888))]),
 ci oa32 (.call fn105 [xa30, xa31])]) (.cond xa32 (.seq (.reg [
 ci oa33 (.ld1 xa01),
 ci oa34 (.call fn148 [xa33])]) (.seq (.reg [
 ci oa35 (.ld1 xa01),
 ci oa36 (.call fn258 [xa35]),
 ci oa05 (.mv xa36)]) (.seq (.reg [
 ci oa37 (.ld1 xa01),
 ci oa38 (.fa xa03 2),
 ci oa39 (.ld1 xa38),
 ci oa3a (.fa xa03 2),
 ci oa3b (.ld1 xa3a),
 ci oa3c (.fa xa03 1),
 ci oa3d (.ld1 xa3c),
 ci oa3e (.mv xa05),
 ci oa3f (.call fn151 [xa37, (ki 32), xa39, xa3b, xa3d, xa3e]),
 ci none (.st 6 xa02 xa3f)]) .ret))) .skip)) (.seq (.reg [
 ci oa06 (.alloc 44 [vz, vz, vz, vz, ve, .nils])]) (.seq (.reg [
 ci oa40 (.ld1 xa01),
 ci oa41 (.mkf fn278 [] [xa01, xa06]),
 ci oa42 (.call fn190 [xa40, (ks 1 40), (ks 1 41), xa41])]) (.seq (.reg [
 ci oa43 (.ld1 xa01),
 ci oa44 (.fa xa03 2),
 ci oa45 (.ld1 xa44),
 ci oa46 (.fa xa03 2),
 ci oa47 (.ld1 xa46),
 ci oa48 (.ldn 6 xa06),
 ci oa49 (.bslice 44 6 1 [vz, vz, vz, vz, ve, .nils] [(0, xa48)]),
 ci oa4a (.call fn151 [xa43, (ki 33), xa45, xa47, (ks 0 0), xa49]),
 ci none (.st 6 xa02 xa4a)]) .ret))))))), [.cell 6 true ta02]⟩
def cf257 : CF := ⟨257, true, (.seq (.reg [
 ci oa03 (.box 44 6 xa01),
 ci oa04 (.alloc 44 [vz, vz, vz, vz, ve, .nils])]) (.seq (.reg [
 ci oa07 (.mv xa00),
 ci oa08 (.call fn149 [xa07]),
 ci oa09 (.fld xa08 2 1 false),
 ci oa05 (.mv xa09)]) (.seq (.reg [
 ci oa0a (.mv xa00),
 ci oa0b (.mv xa00),
 ci oa0c (.call fn155 [xa0b, (ks 1 125)]),
 ci oa0d (.mv xa00),
 ci oa0e (.mkf fn279 [xa0d] []),
 ci oa0f (.call fn152 [xa0a, (ks 1 123), (ks 1 125), xa0c, xa0e]),
 ci oa06 (.mv xa0f)]) (.seq (.dreg [
 ⟨0, ci oa10 (.mv xa00), .pur, 0⟩,
 ⟨1, ci oa11 (.fa xa03 1), .pur, 0⟩,
 ⟨2, ci oa12 (.ld1 xa11), .rd, 2⟩,
 ⟨3, ci oa13 (.mv xa05), .pur, 0⟩,
 ⟨4, ci oa14 (.ldn 6 xa03), .rd, 0⟩,
 ⟨6, ci oa16 (.mv xa06), .pur, 0⟩,
 ⟨5, ci oa15 (.bslice 44 6 1 [vz, vz, vz, vz, ve, .nils] [(0, xa14)]), .ev, 0⟩,
 ⟨7, ci oa17 (.append 44 6 72 xa15 xa16), .ev, 1⟩,
 ⟨8, ci oa18 (.call fn151 [xa10, (ki 28), xa12, xa13, (ks 0 0), xa17]), .ev, 2⟩,
 ⟨9, ci none (.st 6 xa04 xa18), .ev, 3⟩]) .ret)))), [.cell 6 true ta04]⟩
def cf258 : CF := ⟨258, true, (.seq (.reg [
 ci oa02 (.mv (.k .nils))]) (.seq (.reg [
 ci oa03 (.mv xa00),
 ci oa04 (.mv xa00),
 ci oa05 (.call fn155 [xa04, (ks 1 41)]),
 ci oa06 (.mv xa00),
 ci oa07 (.mkf fn252 [xa06] []),
 ci oa08 (.call fn152 [xa03, (ks 1 40), (ks 1 41), xa05, xa07]),
 ci oa02 (.mv xa08)]) .ret)), [.tmp ta02]⟩
def cf259 : CF := ⟨259, true, (.seq (.reg [
 ci oa01 (.box 44 6 xa00),
 ci oa02 (.mv kf)]) (.seq (.block 0 (.loop (.seq (.seq (.reg [
 ci oa03 (.fa xa01 0),
 ci oa04 (.ld1 xa03),
 ci oa05 (.eql (.cell (.int .i64)) xa04 (ki 26))]) (.cond xa05 .skip (.exit 0))) (.block 1 (.reg [
 ci oa06 (.fa xa01 5),
 ci oa07 (.ld1 xa06),
 ci oa08 (.ia 6 xa07 (ki 0)),
 ci oa09 (.ldn 6 xa08),
 ci none (.st 6 xa01 xa09)]))))) (.seq (.reg [
 ci oa0a (.fa xa01 0),
 ci oa0b (.ld1 xa0a),
 ci oa0c (.eql (.cell (.int .i64)) xa0b (ki 25)),
 ci oa02 (.mv xa0c)]) .ret))), [.tmp ta02]⟩
def cf260 : CF := ⟨260, true, (.seq (.reg [
 ci oa01 (.box 44 6 xa00),
 ci oa02 (.mv kf)]) (.seq (.reg [
 ci oa03 (.fa xa01 0),
 ci oa04 (.ld1 xa03),
 ci oa05 (.eql (.cell (.int .i64)) xa04 (ki 27)),
 ci oa06 (.mv xa05),
 cg oa07 ta06 false (.fa xa01 0),
 cg oa08 ta06 false (.ld1 xa07),
 cg oa09 ta06 false (.eql (.cell (.int .i64)) xa08 (ki 32)),
 cg oa0a ta06 false (.mv xa09),
 cg oa0b ta0a true (.fa xa01 4),
 cg oa0c ta0a true (.ld1 xa0b),
 cg oa0d ta0a true (.eql (.cell .str) xa0c (ks 5 500068610672)),
 cg oa0e ta0a true (.mv xa0d),
 cg oa0f ta0e false (.fa xa01 4),
 cg oa10 ta0e false (.ld1 xa0f),
 cg oa11 ta0e false (.eql (.cell .str) xa10 (ks 5 426970603888)),
 cg oa12 ta0a true (.pick xa0e kt xa11),
 cg oa13 ta06 false (.pick xa0a xa12 kf),
 ci oa14 (.pick xa06 kt xa13),
 ci oa02 (.mv xa14)]) .ret)), [.tmp ta02]⟩
def cf264 : CF := ⟨264, true, (.seq (.reg [
 ci oa04 (.mv (ki 0))]) (.seq (.seq (.reg [
 ci oa06 (.mv xa00),
 ci oa07 (.len 1 xa06),
 ci oa08 (.mv (ki 0))]) (.block 0 (.loop (.seq (.reg [
 ci oa09 (.lss xa08 xa07)]) (.seq (.cond xa09 .skip (.exit 0)) (.seq (.block 1 (.seq (.reg [
 ci oa0a (.mv xa08),
 ci oa05 (.mv xa0a)]) (.seq (.reg [
 ci oa0b (.mv xa01),
 ci oa0c (.mv xa00),
 ci oa0d (.mv xa05),
 ci oa0e (.ia 1 xa0c xa0d),
 ci oa0f (.ld1 xa0e),
 ci oa10 (.eql (.cell (.int .i64)) xa0b xa0f)]) (.cond xa10 (.seq (.reg [
 ci oa11 (.mv xa05),
 ci oa04 (.mv xa11)]) .ret) .skip)))) (.reg [
 ci oa12 (.add xa08 (ki 1)),
 ci oa08 (.mv xa12)]))))))) (.seq (.reg [
 ci oa04 (.mv (.k (.i (.negSucc 0))))]) .ret))), [.tmp ta04]⟩
def cf265 : CF := ⟨265, true, (.seq (.reg [
 ci oa03 (.box 150 5 xa01),
 ci oa04 (.alloc 148 [vz, ve, vz, vz, ve, vz, ve, ve, .nils, vz, ve, ve]),
 ci oa05 (.mv kf)]) (.seq (.seq (.reg [
 ci oa08 (.mv xa00),
 ci oa09 (.call fn69 [xa08]),
 ci oa0a (.not xa09)]) (.cond xa0a (.seq (.reg [
 ci oa0b (.build [vz, ve, vz, vz, ve, vz, ve, ve, .nils, vz, ve, ve] []),
 ci none (.st 12 xa04 xa0b),
 ci oa05 (.mv kf)]) .ret) .skip)) (.seq (.dreg [
 ⟨0, ci oa0d (.mv xa00), .pur, 0⟩,
 ⟨1, ci oa0e (.nilc xa0d), .pur, 0⟩,
 ⟨2, ci oa0f (.fa xa0e 4), .pur, 0⟩,
 ⟨3, ci oa10 (.ld1 xa0f), .rd, 1⟩,
 ⟨4, ci oa11 (.ldn 5 xa03), .rd, 1⟩,
 ⟨5, ci oa12 (.lkp (.strct [(.int .i64), .str, .str, .str, .str]) (.agg [vz, ve, vz, vz, ve, vz, ve, ve, .nils, vz, ve, ve]) xa10 xa11 true), .rd, 1⟩,
 ⟨6, ci oa0c (.mv xa12), .pur, 0⟩,
 ⟨7, ci oa13 (.ext xa0c 0), .pur, 0⟩,
 ⟨8, ci oa14 (.ext xa0c 1), .pur, 0⟩,
 ⟨9, ci oa06 (.alloc 148 [vz, ve, vz, vz, ve, vz, ve, ve, .nils, vz, ve, ve]), .ev, 0⟩,
 ⟨10, ci none (.st 12 xa06 xa13), .ev, 1⟩,
 ⟨11, ci oa07 (.mv xa14), .pur, 0⟩]) (.seq (.reg [
 ci oa15 (.fa xa06 8),
 ci oa16 (.ld1 xa15),
 ci oa17 (.call fn266 [xa16]),
 ci oa18 (.fa xa06 8),
 ci none (.st 1 xa18 xa17)]) (.seq (.reg [
 ci oa19 (.ldn 12 xa06),
 ci oa1a (.mv xa07),
 ci none (.st 12 xa04 xa19),
 ci oa05 (.mv xa1a)]) .ret))))), [.cell 12 true ta04, .tmp ta05]⟩
def cf266 : CF := ⟨266, true, (.seq (.reg [
 ci oa02 (.mv (.k .nils))]) (.seq (.seq (.reg [
 ci oa03 (.mv xa00),
 ci oa04 (.eql .slice xa03 (.k .nils))]) (.cond xa04 (.seq (.reg [
 ci oa02 (.mv (.k .nils))]) .ret) .skip)) (.seq (.reg [
 ci oa05 (.bslice 143 8 0 [vz, ve, vz, vz, ve, vz, ve, ve] []),
 ci oa06 (.mv xa00),
 ci oa07 (.append 143 8 96 xa05 xa06),
 ci oa02 (.mv xa07)]) .ret))), [.tmp ta02]⟩
def cf274 : CF := ⟨274, true, (.seq (.reg [
 ci oa02 (.mv (.k (.flt .f64 0))),
 ci oa03 (.mv (ki 0)),
 ci oa04 (.mv (.k .nili))]) (.seq (.seq (.reg [
 ci oa1b (.mv xa00),
 ci oa1c (.call fn283 [xa1b]),
 ci oa1a (.mv xa1c),
 ci oa1d (.ext xa1a 0),
 ci oa1e (.ext xa1a 1),
 ci oa1f (.ext xa1a 2),
 ci oa05 (.mv xa1d),
 ci oa06 (.mv xa1e),
 ci oa07 (.mv xa1f)]) (.seq (.reg [
 ci oa20 (.mv xa07)]) (.cond xa20 (.seq (.reg [
 ci oa21 (.mv xa05),
 ci oa22 (.mv xa06),
 ci oa02 (.mv xa21),
 ci oa03 (.mv xa22),
 ci oa04 (.mv (.k .nili))]) .ret) .skip))) (.seq (.reg [
 ci oa24 (.mv xa00),
 ci oa25 (.call fn284 [xa24]),
 ci oa23 (.mv xa25),
 ci oa26 (.ext xa23 0),
 ci oa27 (.ext xa23 1),
 ci oa28 (.ext xa23 2),
 ci oa29 (.ext xa23 3),
 ci oa2a (.ext xa23 4),
 ci oa2b (.ext xa23 5),
 ci oa2c (.ext xa23 6),
 ci oa08 (.mv xa26),
 ci oa09 (.mv xa27),
 ci oa0a (.mv xa28),
 ci oa0b (.mv xa29),
 ci oa0c (.mv xa2a),
 ci oa03 (.mv xa2b),
 ci oa0d (.mv xa2c)]) (.seq (.seq (.reg [
 ci oa2d (.mv xa0d),
 ci oa2e (.not xa2d)]) (.cond xa2e (.seq (.reg [
 ci oa2f (.mv xa03),
 ci oa30 (.mki 318 (ki 2)),
 ci oa02 (.mv (.k (.flt .f64 0))),
 ci oa03 (.mv xa2f),
 ci oa04 (.mv xa30)]) .ret) .skip)) (.seq (.seq (.reg [
 ci oa31 (.mv xa0c)]) (.cond xa31 (.seq (.reg [
 ci oa33 (.mv xa00),
 ci oa34 (.mv xa03),
 ci oa35 (.slStr xa33 none (some xa34)),
 ci oa36 (.mv xa08),
 ci oa37 (.mv xa09),
 ci oa38 (.mv xa0a),
 ci oa39 (.mv xa0b),
 ci oa3a (.call fn285 [xa35, (.k (.ptr ⟨.d15, .d0, .d0, .d9⟩ 0)), xa36, xa37, xa38, xa39]),
 ci oa32 (.mv xa3a),
 ci oa3b (.ext xa32 0),
 ci oa3c (.ext xa32 1),
 ci oa0e (.mv xa3b),
 ci oa0f (.mv xa3c)]) (.seq (.reg [
 ci oa3d (.mv xa0e),
 ci oa3e (.mv xa03),
 ci oa3f (.mv xa0f),
 ci oa02 (.mv xa3d),
 ci oa03 (.mv xa3e),
 ci oa04 (.mv xa3f)]) .ret)) .skip)) (.seq (.seq (.reg [
 ci oa40 (.ld1 (.k (.ptr ⟨.d15, .d0, .d0, .d8⟩ 0)))]) (.cond xa40 (.seq (.reg [
 ci oa41 (.mv xa0a),
 ci oa42 (.call fn292 [xa41]),
 ci oa43 (.shl xa42 (.k (.int .u64 (.ofNat 63)))),
 ci oa10 (.mv xa43)]) (.seq (.seq (.reg [
 ci oa44 (.mv xa08),
 ci oa45 (.eql (.cell (.int .u64)) xa44 (.k (.int .u64 (.ofNat 0))))]) (.cond xa45 (.seq (.reg [
 ci oa46 (.mv xa10),
 ci oa47 (.or xa46 (.k (.int .u64 (.ofNat 0)))),
 ci oa48 (.extc .fbits64 [xa47]),
 ci oa49 (.mv xa03),
 ci oa02 (.mv xa48),
 ci oa03 (.mv xa49),
 ci oa04 (.mv (.k .nili))]) .ret) .skip)) (.seq (.seq (.reg [
 ci oa4a (.mv xa09),
 ci oa4b (.gtr xa4a (ki 310))]) (.cond xa4b (.seq (.reg [
 ci oa4c (.mv xa10),
 ci oa4d (.or xa4c (.k (.int .u64 (.ofNat 9218868437227405312)))),
 ci oa4e (.extc .fbits64 [xa4d]),
 ci oa4f (.mv xa03),
 ci oa50 (.mki 318 (ki 1)),
 ci oa02 (.mv xa4e),
 ci oa03 (.mv xa4f),
 ci oa04 (.mv xa50)]) .ret) .skip)) (.seq (.seq (.reg [
 ci oa51 (.mv xa09),
 ci oa52 (.lss xa51 (.k (.i (.negSucc 344))))]) (.cond xa52 (.seq (.reg [
 ci oa53 (.mv xa10),
 ci oa54 (.or xa53 (.k (.int .u64 (.ofNat 0)))),
 ci oa55 (.extc .fbits64 [xa54]),
 ci oa56 (.mv xa03),
 ci oa02 (.mv xa55),
 ci oa03 (.mv xa56),
 ci oa04 (.mv (.k .nili))]) .ret) .skip)) (.seq (.seq (.reg [
 ci oa57 (.mv xa0b),
 ci oa58 (.not xa57)]) (.cond xa58 (.seq (.reg [
 ci oa5a (.mv xa08),
 ci oa5b (.mv xa09),
 ci oa5c (.mv xa0a),
 ci oa5d (.call fn294 [xa5a, xa5b, xa5c]),
 ci oa59 (.mv xa5d),
 ci oa5e (.ext xa59 0),
 ci oa5f (.ext xa59 1),
 ci oa11 (.mv xa5e),
 ci oa12 (.mv xa5f)]) (.seq (.reg [
 ci oa60 (.mv xa12)]) (.cond xa60 (.seq (.reg [
 ci oa61 (.mv xa11),
 ci oa62 (.mv xa03),
 ci oa02 (.mv xa61),
 ci oa03 (.mv xa62),
 ci oa04 (.mv (.k .nili))]) .ret) .skip))) .skip)) (.seq (.reg [
 ci oa64 (.mv xa08),
 ci oa65 (.mv xa09),
 ci oa66 (.mv xa10),
 ci oa67 (.call fn295 [xa64, xa65, xa66]),
 ci oa63 (.mv xa67),
 ci oa68 (.ext xa63 0),
 ci oa69 (.ext xa63 1),
 ci oa13 (.mv xa68),
 ci oa14 (.mv xa69)]) (.seq (.seq (.reg [
 ci oa6a (.mv xa0b),
 ci oa6b (.not xa6a)]) (.cond xa6b (.seq (.reg [
 ci oa6c (.mv xa13),
 ci oa6d (.mv xa03),
 ci oa6e (.mv xa14),
 ci oa02 (.mv xa6c),
 ci oa03 (.mv xa6d),
 ci oa04 (.mv xa6e)]) .ret) .skip)) (.seq (.reg [
 ci oa70 (.mv xa08),
 ci oa71 (.add xa70 (.k (.int .u64 (.ofNat 1)))),
 ci oa72 (.mv xa09),
 ci oa73 (.mv xa10),
 ci oa74 (.call fn295 [xa71, xa72, xa73]),
 ci oa6f (.mv xa74),
 ci oa75 (.ext xa6f 0),
 ci oa76 (.ext xa6f 1),
 ci oa15 (.mv xa75),
 ci oa16 (.mv xa76)]) (.seq (.reg [
 ci oa77 (.mv xa13),
 ci oa78 (.mv xa15),
 ci oa79 (.eql (.flt .f64) xa77 xa78)]) (.cond xa79 (.seq (.reg [
 ci oa7a (.mv xa13),
 ci oa7b (.mv xa03),
 ci oa7c (.mv xa14),
 ci oa02 (.mv xa7a),
 ci oa03 (.mv xa7b),
 ci oa04 (.mv xa7c)]) .ret) .skip)))))))))) .skip)) (.seq (.reg [
 ci oa17 (.alloc 369 [(.u8 0), (.u8 0), (.u8 0), (.u8 0), (.u8 0), (.u8 0), (.u8 0), (.u8 0), (.u8 0), (.u8 0), (.u8 0), (.u8 0), (.u8 0), (.u8 0), (.u8 0), (.u8 0), (.u8 0), (.u8 0), (.u8 0), (.u8 0), (.u8 0), (.u8 0), (.u8 0), (.u8 0), (.u8 0), (.u8 0), (.u8 0), (.u8 0), (.u8 0), (.u8 0), (.u8 0), (.u8 0), (.u8 0), (.u8 0), (.u8 0), (.u8 0), (.u8 0), (.u8 0), (.u8 0), (.u8 0), (.u8 0), (.u8 0), (.u8 0), (.u8 0), (.u8 0), (.u8 0), (.u8 0), (.u8 0), (.u8 0), (.u8 0), (.u8 0), (.u8 0), (.u8 0), (.u8 0), (.u8 0), (.u8 0), (.u8 0), (.u8 0), (.u8 0), (.u8 0), (.u8 0), (.u8 0), (.u8 0), (.u8 0), (.u8 0), (.u8 0), (.u8 0), (.u8 0), (.u8 0), (.u8 0), (.u8 0), (.u8 0), (.u8 0), (.u8 0), (.u8 0), (.u8 0), (.u8 0), (.u8 0), (.u8 0), (.u8 0), (.u8 0), (.u8 0), (.u8 0), (.u8 0), (.u8 0), (.u8 0), (.u8 0), (.u8 0), (.u8 0), (.u8 0), (.u8 0), (.u8 0), (.u8 0), (.u8 0), (.u8 0), (.u8 0), (.u8 0), (.u8 0), (.u8 0), (.u8 0), (.u8 0), (.u8 0), (.u8 0), (.u8 0), (.u8 0), (.u8 0), (.u8 0), (.u8 0), (.u8 0), (.u8 0), (.u8 0), (.u8 0), (.u8 0), (.u8 0), (.u8 0), (.u8 0), (.u8 0), (.u8 0), (.u8 0), (.u8 0), (.u8 0), (.u8 0), (.u8 0), (.u8 0), (.u8 0), (.u8 0), (.u8 0), (.u8 0), (.u8 0), (.u8 0), (.u8 0), (.u8 0), (.u8 0), (.u8 0), (.u8 0), (.u8 0), (.u8 0), (.u8 0), (.u8 0), (.u8 0), (.u8 0), (.u8 0), (.u8 0), (.u8 0), (.u8 0), (.u8 0), (.u8 0), (.u8 0), (.u8 0), (.u8 0), (.u8 0), (.u8 0), (.u8 0), (.u8 0), (.u8 0), (.u8 0), (.u8 0), (.u8 0), (.u8 0), (.u8 0), (.u8 0), (.u8 0), (.u8 0), (.u8 0), (.u8 0), (.u8 0), (.u8 0), (.u8 0), (.u8 0), (.u8 0), (.u8 0), (.u8 0), (.u8 0), (.u8 0), (.u8 0), (.u8 0), (.u8 0), (.u8 0), (.u8 0), (.u8 0), (.u8 0), (.u8 0), (.u8 0), (.u8 0), (.u8 0), (.u8 0), (.u8 0), (.u8 0), (.u8 0), (.u8 0), (.u8 0), (.u8 0), (.u8 0), (.u8 0), (.u8 0), (.u8 0), (.u8 0), (.u8 0), (.u8 0), (.u8 0), (.u8 0), (.u8 0), (.u8 0), (.u8 0), (.u8 0), (.u8 0), (.u8 0), (.u8 0), (.u8 0), (.u8 0), (.u8 0), (.u8 0), (.u8 0), (.u8 0), (.u8 0), (.u8 0), (.u8 0), (.u8 0), (.u8 0), (.u8 0), (.u8 0), (.u8 0), (.u8 0), (.u8 0), (.u8 0), (.u8 0), (.u8 0), (.u8 0), (.u8 0), (.u8 0), (.u8 0), (.u8 0), (.u8 0), (.u8 0), (.u8 0), (.u8 0), (.u8 0), (.u8 0), (.u8 0), (.u8 0), (.u8 0), (.u8 0), (.u8 0), (.u8 0), (.u8 0), (.u8 0), (.u8 0), (.u8 0), (.u8 0), (.u8 0), (.u8 0), (.u8 0), (.u8 0), (.u8 0), (.u8 0), (.u8 0), (.u8 0), (.u8 0), (.u8 0), (.u8 0), (.u8 0), (.u8 0), (.u8 0), (.u8 0), (.u8 0), (.u8 0), (.u8 0), (.u8 0), (.u8 0), (.u8 0), (.u8 0), (.u8 0), (.u8 0), (.u8 0), (.u8 0), (.u8 0), (.u8 0), (.u8 0), (.u8 0), (.u8 0), (.u8 0), (.u8 0), (.u8 0), (.u8 0), (.u8 0), (.u8 0), (.u8 0), (.u8 0), (.u8 0), (.u8 0), (.u8 0), (.u8 0), (.u8 0), (.u8 0), (.u8 0), (.u8 0), (.u8 0), (.u8 0), (.u8 0), (.u8 0), (.u8 0), (.u8 0), (.u8 0), (.u8 0), (.u8 0), (.u8 0), (.u8 0), (.u8 0), (.u8 0), (.u8 0), (.u8 0), (.u8 0), (.u8 0), (.u8 0), (.u8 0), (.u8 0), (.u8 0), (.u8 0), (.u8 0), (.u8 0), (.u8 0), (.u8 0), (.u8 0), (.u8 0), (.u8 0), (.u8 0), (.u8 0), (.u8 0), (.u8 0), (.u8 0), (.u8 0), (.u8 0), (.u8 0), (.u8 0), (.u8 0), (.u8 0), (.u8 0), (.u8 0), (.u8 0), (.u8 0), (.u8 0), (.u8 0), (.u8 0), (.u8 0), (.u8 0), (.u8 0), (.u8 0), (.u8 0), (.u8 0), (.u8 0), (.u8 0), (.u8 0), (.u8 0), (.u8 0), (.u8 0), (.u8 0), (.u8 0), (.u8 0), (.u8 0), (.u8 0), (.u8 0), (.u8 0), (.u8 0), (.u8 0), (.u8 0), (.u8 0), (.u8 0), (.u8 0), (.u8 0), (.u8 0), (.u8 0), (.u8 0), (.u8 0), (.u8 0), (.u8 0), (.u8 0), (.u8 0), (.u8 0), (.u8 0), (.u8 0), (.u8 0), (.u8 0), (.u8 0), (.u8 0), (.u8 0), (.u8 0), (.u8 0), (.u8 0), (.u8 0), (.u8 0), (.u8 0), (.u8 0), (.u8 0), (.u8 0), (.u8 0), (.u8 0), (.u8 0), (.u8 0), (.u8 0), (.u8 0), (.u8 0), (.u8 0), (.u8 0), (.u8 0), (.u8 0), (.u8 0), (.u8 0), (.u8 0), (.u8 0), (.u8 0), (.u8 0), (.u8 0), (.u8 0), (.u8 0), (.u8 0), (.u8 0), (.u8 0), (.u8 0), (.u8 0), (.u8 0), (.u8 0), (.u8 0), (.u8 0), (.u8 0), (.u8 0), (.u8 0), (.u8 0), (.u8 0), (.u8 0), (.u8 0), (.u8 0), (.u8 0), (.u8 0), (.u8 0), (.u8 0), (.u8 0), (.u8 0), (.u8 0), (.u8 0), (.u8 0), (.u8 0), (.u8 0), (.u8 0), (.u8 0), (.u8 0), (.u8 0), (.u8 0), (.u8 0), (.u8 0), (.u8 0), (.u8 0), (.u8 0), (.u8 0), (.u8 0), (.u8 0), (.u8 0), (.u8 0), (.u8 0), (.u8 0), (.u8 0), (.u8 0), (.u8 0), (.u8 0), (.u8 0), (.u8 0), (.u8 0), (.u8 0), (.u8 0), (.u8 0), (.u8 0), (.u8 0), (.u8 0), (.u8 0), (.u8 0), (.u8 0), (.u8 0), (.u8 0), (.u8 0), (.u8 0), (.u8 0), (.u8 0), (.u8 0), (.u8 0), (.u8 0), (.u8 0), (.u8 0), (.u8 0), (.u8 0), (.u8 0), (.u8 0), (.u8 0), (.u8 0), (.u8 0), (.u8 0), (.u8 0), (.u8 0), (.u8 0), (.u8 0), (.u8 0), (.u8 0), (.u8 0), (.u8 0), (.u8 0), (.u8 0), (.u8 0), (.u8 0), (.u8 0), (.u8 0), (.u8 0), (.u8 0), (.u8 0), (.u8 0), (.u8 0), (.u8 0), (.u8 0), (.u8 0), (.u8 0), (.u8 0), (.u8 0), (.u8 0), (.u8 0), (.u8 0), (.u8 0), (.u8 0), (.u8 0), (.u8 0), (.u8 0), (.u8 0), (.u8 0), (.u8 0), (.u8 0), (.u8 0), (.u8 0), (.u8 0), (.u8 0), (.u8 0), (.u8 0), (.u8 0), (.u8 0), (.u8 0), (.u8 0), (.u8 0), (.u8 0), (.u8 0), (.u8 0), (.u8 0), (.u8 0), (.u8 0), (.u8 0), (.u8 0), (.u8 0), (.u8 0), (.u8 0), (.u8 0), (.u8 0), (.u8 0), (.u8 0), (.u8 0), (.u8 0), (.u8 0), (.u8 0), (.u8 0), (.u8 0), (.u8 0), (.u8 0), (.u8 0), (.u8 0), (.u8 0), (.u8 0), (.u8 0), (.u8 0), (.u8 0), (.u8 0), (.u8 0), (.u8 0), (.u8 0), (.u8 0), (.u8 0), (.u8 0), (.u8 0), (.u8 0), (.u8 0), (.u8 0), (.u8 0), (.u8 0), (.u8 0), (.u8 0), (.u8 0), (.u8 0), (.u8 0), (.u8 0), (.u8 0), (.u8 0), (.u8 0), (.u8 0), (.u8 0), (.u8 0), (.u8 0), (.u8 0), (.u8 0), (.u8 0), (.u8 0), (.u8 0), (.u8 0), (.u8 0), (.u8 0), (.u8 0), (.u8 0), (.u8 0), (.u8 0), (.u8 0), (.u8 0), (.u8 0), (.u8 0), (.u8 0), (.u8 0), (.u8 0), (.u8 0), (.u8 0), (.u8 0), (.u8 0), (.u8 0), (.u8 0), (.u8 0), (.u8 0), (.u8 0), (.u8 0), (.u8 0), (.u8 0), (.u8 0), (.u8 0), (.u8 0), (.u8 0), (.u8 0), (.u8 0), (.u8 0), (.u8 0), (.u8 0), (.u8 0), (.u8 0), (.u8 0), (.u8 0), (.u8 0), (.u8 0), (.u8 0), (.u8 0), (.u8 0), (.u8 0), (.u8 0), (.u8 0), (.u8 0), (.u8 0), (.u8 0), (.u8 0), (.u8 0), (.u8 0), (.u8 0), (.u8 0), (.u8 0), (.u8 0), (.u8 0), (.u8 0), (.u8 0), (.u8 0), (.u8 0), (.u8 0), (.u8 0), (.u8 0), (.u8 0), (.u8 0), (.u8 0), (.u8 0), (.u8 0), (.u8 0), (.u8 0), (.u8 0), (.u8 0), (.u8 0), (.u8 0), (.u8 0), (.u8 0), (.u8 0), (.u8 0), (.u8 0), (.u8 0), (.u8 0), (.u8 0), (.u8 0), (.u8 0), (.u8 0), (.u8 0), (.u8 0), (.u8 0), (.u8 0), (.u8 0), (.u8 0), (.u8 0), (.u8 0), (.u8 0), (.u8 0), (.u8 0), (.u8 0), (.u8 0), (.u8 0), (.u8 0), (.u8 0), (.u8 0), (.u8 0), (.u8 0), (.u8 0), (.u8 0), (.u8 0), (.u8 0), (.u8 0), (.u8 0), (.u8 0), (.u8 0), (.u8 0), (.u8 0), (.u8 0), (.u8 0), (.u8 0), (.u8 0), (.u8 0), (.u8 0), (.u8 0), (.u8 0), (.u8 0), (.u8 0), (.u8 0), (.u8 0), (.u8 0), (.u8 0), (.u8 0), (.u8 0), (.u8 0), (.u8 0), (.u8 0), (.u8 0), (.u8 0), (.u8 0), (.u8 0), (.u8 0), (.u8 0), (.u8 0), (.u8 0), (.u8 0), (.u8 0), (.u8 0), (.u8 0), (.u8 0), (.u8 0), (.u8 0), (.u8 0), (.u8 0), (.u8 0), (.u8 0), (.u8 0), (.u8 0), (.u8 0), (.u8 0), (.u8 0), (.u8 0), (.u8 0), (.u8 0), (.u8 0), (.u8 0), (.u8 0), (.u8 0), (.u8 0), (.u8 0), (.u8 0), (.u8 0), (.u8 0), (.u8 0), (.u8 0), (.u8 0), (.u8 0), (.u8 0), (.u8 0), (.u8 0), (.u8 0), (.u8 0), (.u8 0), (.u8 0), (.u8 0), (.u8 0), (.u8 0), (.u8 0), (.u8 0), (.u8 0), (.u8 0), (.u8 0), (.u8 0), (.u8 0), (.u8 0), (.u8 0), (.u8 0), (.u8 0), (.u8 0), vz, vz, (.bool false), (.bool false)])]) (.seq (.seq (.reg [
 ci oa7d (.mv xa00),
 ci oa7e (.mv xa03),
 ci oa7f (.slStr xa7d none (some xa7e)),
 ci oa80 (.call fn290 [xa17, xa7f]),
 ci oa81 (.not xa80)]) (.cond xa81 (.seq (.reg [
 ci oa82 (.mv xa03),
 ci oa83 (.mki 318 (ki 2)),
 ci oa02 (.mv (.k (.flt .f64 0))),
 ci oa03 (.mv xa82),
 ci oa04 (.mv xa83)]) .ret) .skip)) (.seq (.reg [
 ci oa85 (.call fn291 [xa17, (.k (.ptr ⟨.d15, .d0, .d0, .d9⟩ 0))]),
 ci oa84 (.mv xa85),
 ci oa86 (.ext xa84 0),
 ci oa87 (.ext xa84 1),
 ci oa18 (.mv xa86),
 ci oa19 (.mv xa87)]) (.seq (.reg [
 ci oa88 (.mv xa18),
 ci oa89 (.extc .fbits64 [xa88]),
 ci oa02 (.mv xa89)]) (.seq (.seq (.reg [
 ci oa8a (.mv xa19)]) (.cond xa8a (.reg [
 ci oa8b (.mki 318 (ki 1)),
 ci oa04 (.mv xa8b)]) .skip)) (.seq (.reg [
 ci oa8c (.mv xa02),
 ci oa8d (.mv xa03),
 ci oa8e (.mv xa04),
 ci oa02 (.mv xa8c),
 ci oa03 (.mv xa8d),
 ci oa04 (.mv xa8e)]) .ret)))))))))))), [.tmp ta02, .tmp ta03, .tmp ta04]⟩
def cf275 : CF := ⟨275, true, (.seq (.reg [
 ci oa02 (.alloc 44 [vz, vz, vz, vz, ve, .nils])]) (.seq (.reg [
 ci oa03 (.ld1 xa00),
 ci oa04 (.ldn 6 xa01),
 ci oa05 (.call fn227 [xa03, xa04, kt]),
 ci none (.st 6 xa02 xa05)]) .ret)), [.cell 6 true ta02]⟩
def cf277 : CF := ⟨277, true, (.seq (.reg [
 ci oa01 (.box 134 4 xa00),
 ci oa02 (.mv (ki 0))]) (.seq (.seq (.reg [
 ci oa03 (.fa xa01 0),
 ci oa04 (.ld1 xa03)]) (.block 0 (.seq (.reg [
 ci oa06 (.eql (.cell (.int .i64)) xa04 (ki 3)),
 ci oa05 (.mv xa06)]) (.cond xa05 (.seq (.reg [
 ci oa02 (.mv (ki 21))]) .ret) (.seq (.reg [
 ci oa08 (.eql (.cell (.int .i64)) xa04 (ki 4)),
 ci oa07 (.mv xa08)]) (.cond xa07 (.seq (.reg [
 ci oa02 (.mv (ki 22))]) .ret) (.seq (.reg [
 ci oa0a (.eql (.cell (.int .i64)) xa04 (ki 5)),
 ci oa09 (.mv xa0a)]) (.cond xa09 (.seq (.reg [
 ci oa02 (.mv (ki 23))]) .ret) (.seq (.reg [
 ci oa0c (.eql (.cell (.int .i64)) xa04 (ki 1)),
 ci oa0b (.mv xa0c)]) (.cond xa0b (.seq (.reg [
 ci oa02 (.mv (ki 25))]) .ret) (.seq (.reg [
 ci oa0e (.eql (.cell (.int .i64)) xa04 (ki 2)),
 ci oa0d (.mv xa0e)]) (.cond xa0d (.seq (.reg [
 ci oa0f (.fa xa01 1),
 ci oa10 (.ld1 xa0f),
 ci oa11 (.eql (.cell .str) xa10 (ks 4 1702195828)),
 ci oa12 (.mv xa11),
 cg oa13 ta12 false (.fa xa01 1),
 cg oa14 ta12 false (.ld1 xa13),
 cg oa15 ta12 false (.eql (.cell .str) xa14 (ks 5 435728179558)),
 ci oa16 (.pick xa12 kt xa15)]) (.cond xa16 (.seq (.reg [
 ci oa02 (.mv (ki 24))]) .ret) .skip)) .skip)))))))))))) (.seq (.reg [
 ci oa02 (.mv (ki 0))]) .ret))), [.tmp ta02]⟩
def cf278 : CF := ⟨278, true, (.reg [
 ci oa02 (.ld1 xa00),
 ci oa03 (.call fn225 [xa02, (ki 0)]),
 ci none (.st 6 xa01 xa03)]), []⟩
def cf279 : CF := ⟨279, true, (.seq (.reg [
 ci oa02 (.alloc 44 [vz, vz, vz, vz, ve, .nils])]) (.seq (.reg [
 ci oa05 (.mv xa00),
 ci oa06 (.call fn103 [xa05, (ki 1)]),
 ci oa03 (.alloc 134 [vz, ve, vz, vz]),
 ci none (.st 4 xa03 xa06)]) (.seq (.reg [
 ci oa07 (.mv xa00),
 ci oa08 (.call fn102 [xa07, (ks 1 58)])]) (.seq (.reg [
 ci oa09 (.mv xa00),
 ci oa0a (.call fn225 [xa09, (ki 0)]),
 ci oa04 (.alloc 44 [vz, vz, vz, vz, ve, .nils]),
 ci none (.st 6 xa04 xa0a)]) (.seq (.reg [
 ci oa0b (.mv xa00),
 ci oa0c (.fa xa03 2),
 ci oa0d (.ld1 xa0c),
 ci oa0e (.fa xa03 2),
 ci oa0f (.ld1 xa0e),
 ci oa10 (.fa xa03 1),
 ci oa11 (.ld1 xa10),
 ci oa12 (.ldn 6 xa04),
 ci oa13 (.bslice 44 6 1 [vz, vz, vz, vz, ve, .nils] [(0, xa12)]),
 ci oa14 (.call fn151 [xa0b, (ki 29), xa0d, xa0f, xa11, xa13]),
 ci none (.st 6 xa02 xa14)]) .ret))))), [.cell 6 true ta02]⟩
def cf283 : CF := ⟨283, true, (.seq (.reg [
 ci oa02 (.mv (.k (.flt .f64 0))),
 ci oa03 (.mv (ki 0)),
 ci oa04 (.mv kf)]) (.seq (.seq (.reg [
 ci oa08 (.mv xa00),
 ci oa09 (.len 0 xa08),
 ci oa0a (.eql (.cell (.int .i64)) xa09 (ki 0))]) (.cond xa0a (.seq (.reg [
 ci oa02 (.mv (.k (.flt .f64 0))),
 ci oa03 (.mv (ki 0)),
 ci oa04 (.mv kf)]) .ret) .skip)) (.seq (.reg [
 ci oa05 (.mv (ki 1))]) (.seq (.reg [
 ci oa06 (.mv (ki 0))]) (.seq (.seq (.reg [
 ci oa0b (.mv xa00),
 ci oa0c (.ixs xa0b (ki 0))]) (.block 0 (.seq (.block 3 (.seq (.block 2 (.seq (.block 1 (.seq (.seq (.seq (.seq (.reg [
 ci oa0e (.eql (.cell (.int .u8)) xa0c (.k (.u8 43))),
 ci oa0d (.mv xa0e)]) (.cond xa0d .skip (.reg [
 ci oa0f (.eql (.cell (.int .u8)) xa0c (.k (.u8 45))),
 ci oa0d (.mv xa0f)]))) (.cond xa0d (.exit 1) .skip)) (.seq (.seq (.seq (.reg [
 ci oa11 (.eql (.cell (.int .u8)) xa0c (.k (.u8 105))),
 ci oa10 (.mv xa11)]) (.cond xa10 .skip (.reg [
 ci oa12 (.eql (.cell (.int .u8)) xa0c (.k (.u8 73))),
 ci oa10 (.mv xa12)]))) (.cond xa10 (.exit 2) .skip)) (.seq (.seq (.reg [
 ci oa14 (.eql (.cell (.int .u8)) xa0c (.k (.u8 110))),
 ci oa13 (.mv xa14)]) (.cond xa13 .skip (.reg [
 ci oa15 (.eql (.cell (.int .u8)) xa0c (.k (.u8 78))),
 ci oa13 (.mv xa15)]))) (.cond xa13 (.exit 3) .skip)))) (.exit 0))) (.seq (.seq (.reg [
 ci oa16 (.mv xa00),
 ci oa17 (.ixs xa16 (ki 0)),
 ci oa18 (.eql (.cell (.int .u8)) xa17 (.k (.u8 45)))]) (.cond xa18 (.reg [
 ci oa05 (.mv (.k (.i (.negSucc 0))))]) .skip)) (.seq (.reg [
 ci oa06 (.mv (ki 1))]) (.reg [
 ci oa19 (.mv xa00),
 ci oa1a (.slStr xa19 (some (ki 1)) none),
 ci oa00 (.mv xa1a)]))))) (.seq (.seq (.reg [
 ci oa1b (.mv xa00),
 ci oa1c (.call fn297 [xa1b, (ks 8 8751735898823356009)]),
 ci oa07 (.mv xa1c)]) (.seq (.seq (.reg [
 ci oa1d (.mv xa07),
 ci oa1e (.lss (ki 3) xa1d),
 ci oa1f (.mv xa1e),
 cg oa20 ta1f true (.mv xa07),
 cg oa21 ta1f true (.lss xa20 (ki 8)),
 ci oa22 (.pick xa1f xa21 kf)]) (.cond xa22 (.reg [
 ci oa07 (.mv (ki 3))]) .skip)) (.seq (.reg [
 ci oa23 (.mv xa07),
 ci oa24 (.eql (.cell (.int .i64)) xa23 (ki 3)),
 ci oa25 (.mv xa24),
 cg oa26 ta25 false (.mv xa07),
 cg oa27 ta25 false (.eql (.cell (.int .i64)) xa26 (ki 8)),
 ci oa28 (.pick xa25 kt xa27)]) (.cond xa28 (.seq (.reg [
 ci oa29 (.mv xa05),
 ci oa2a (.call fn298 [xa29]),
 ci oa2b (.mv xa06),
 ci oa2c (.mv xa07),
 ci oa2d (.add xa2b xa2c),
 ci oa02 (.mv xa2a),
 ci oa03 (.mv xa2d),
 ci oa04 (.mv kt)]) .ret) .skip)))) (.exit 0)))) (.seq (.seq (.reg [
 ci oa2e (.mv xa00),
 ci oa2f (.call fn297 [xa2e, (ks 3 7233902)]),
 ci oa30 (.eql (.cell (.int .i64)) xa2f (ki 3))]) (.cond xa30 (.seq (.reg [
 ci oa31 (.call fn299 []),
 ci oa02 (.mv xa31),
 ci oa03 (.mv (ki 3)),
 ci oa04 (.mv kt)]) .ret) .skip)) (.exit 0))))) (.seq (.reg [
 ci oa02 (.mv (.k (.flt .f64 0))),
 ci oa03 (.mv (ki 0)),
 ci oa04 (.mv kf)]) .ret)))))), [.tmp ta02, .tmp ta03, .tmp ta04]⟩
def cf284 : CF := ⟨284, true, (.seq (.reg [
 ci oa02 (.mv (.k (.int .u64 (.ofNat 0)))),
 ci oa03 (.mv (ki 0)),
 ci oa04 (.mv kf),
 ci oa05 (.mv kf),
 ci oa06 (.mv kf),
 ci oa07 (.mv (ki 0)),
 ci oa08 (.mv kf)]) (.scope (.seq (.reg [
 ci oa09 (.mv kf)]) (.seq (.seq (.reg [
 ci oa15 (.mv xa07),
 ci oa16 (.mv xa00),
 ci oa17 (.len 0 xa16),
 ci oa18 (.geq xa15 xa17)]) (.cond xa18 .ret .skip)) (.seq (.seq (.reg [
 ci oa19 (.mv xa00),
 ci oa1a (.mv xa07),
 ci oa1b (.ixs xa19 xa1a)]) (.block 0 (.seq (.reg [
 ci oa1d (.eql (.cell (.int .u8)) xa1b (.k (.u8 43))),
 ci oa1c (.mv xa1d)]) (.cond xa1c (.reg [
 ci oa1e (.mv xa07),
 ci oa1f (.add xa1e (ki 1)),
 ci oa07 (.mv xa1f)]) (.seq (.reg [
 ci oa21 (.eql (.cell (.int .u8)) xa1b (.k (.u8 45))),
 ci oa20 (.mv xa21)]) (.cond xa20 (.seq (.reg [
 ci oa22 (.mv xa07),
 ci oa23 (.add xa22 (ki 1)),
 ci oa07 (.mv xa23)]) (.reg [
 ci oa04 (.mv kt)])) .skip)))))) (.seq (.reg [
 ci oa0a (.mv (.k (.int .u64 (.ofNat 10))))]) (.seq (.reg [
 ci oa0b (.mv (ki 19))]) (.seq (.reg [
 ci oa0c (.mv (.k (.u8 101)))]) (.seq (.seq (.reg [
 ci oa24 (.mv xa07),
 ci oa25 (.add xa24 (ki 2)),
 ci oa26 (.mv xa00),
 ci oa27 (.len 0 xa26),
 ci oa28 (.lss xa25 xa27),
 ci oa29 (.mv xa28),
 cg oa2a ta29 true (.mv xa00),
 cg oa2b ta29 true (.mv xa07),
 cg oa2c ta29 true (.ixs xa2a xa2b),
 cg oa2d ta29 true (.eql (.cell (.int .u8)) xa2c (.k (.u8 48))),
 ci oa2e (.pick xa29 xa2d kf),
 ci oa2f (.mv xa2e),
 cg oa30 ta2f true (.mv xa00),
 cg oa31 ta2f true (.mv xa07),
 cg oa32 ta2f true (.add xa31 (ki 1)),
 cg oa33 ta2f true (.ixs xa30 xa32),
 cg oa34 ta2f true (.call fn268 [xa33]),
 cg oa35 ta2f true (.eql (.cell (.int .u8)) xa34 (.k (.u8 120))),
 ci oa36 (.pick xa2f xa35 kf)]) (.cond xa36 (.seq (.reg [
 ci oa0a (.mv (.k (.int .u64 (.ofNat 16))))]) (.seq (.reg [
 ci oa0b (.mv (ki 16))]) (.seq (.reg [
 ci oa37 (.mv xa07),
 ci oa38 (.add xa37 (ki 2)),
 ci oa07 (.mv xa38)]) (.seq (.reg [
 ci oa0c (.mv (.k (.u8 112)))]) (.reg [
 ci oa06 (.mv kt)]))))) .skip)) (.seq (.reg [
 ci oa0d (.mv kf)]) (.seq (.reg [
 ci oa0e (.mv kf)]) (.seq (.reg [
 ci oa0f (.mv (ki 0))]) (.seq (.reg [
 ci oa10 (.mv (ki 0))]) (.seq (.reg [
 ci oa11 (.mv (ki 0))]) (.seq .skip (.seq (.block 1 (.loop (.seq (.seq (.reg [
 ci oa39 (.mv xa07),
 ci oa3a (.mv xa00),
 ci oa3b (.len 0 xa3a),
 ci oa3c (.lss xa39 xa3b)]) (.cond xa3c .skip (.exit 1))) (.seq (.block 2 (.seq (.seq (.reg [
 ci oa3f (.mv xa00),
 ci oa40 (.mv xa07),
 ci oa41 (.ixs xa3f xa40),
 ci oa12 (.mv xa41)]) (.block 3 (.seq (.reg [
 ci oa43 (.mv xa12),
 ci oa44 (.eql (.cell (.int .u8)) xa43 (.k (.u8 95))),
 ci oa45 (.eql (.cell .bool) kt xa44),
 ci oa42 (.mv xa45)]) (.cond xa42 (.seq (.reg [
 ci oa09 (.mv kt)]) (.exit 2)) (.seq (.reg [
 ci oa47 (.mv xa12),
 ci oa48 (.eql (.cell (.int .u8)) xa47 (.k (.u8 46))),
 ci oa49 (.eql (.cell .bool) kt xa48),
 ci oa46 (.mv xa49)]) (.cond xa46 (.seq (.seq (.reg [
 ci oa4a (.mv xa0d)]) (.cond xa4a (.exit 1) .skip)) (.seq (.reg [
 ci oa0d (.mv kt)]) (.seq (.reg [
 ci oa4b (.mv xa0f),
 ci oa11 (.mv xa4b)]) (.exit 2)))) (.seq (.reg [
 ci oa4d (.mv xa12),
 ci oa4e (.leq (.k (.u8 48)) xa4d),
 ci oa4f (.mv xa4e),
 cg oa50 ta4f true (.mv xa12),
 cg oa51 ta4f true (.leq xa50 (.k (.u8 57))),
 ci oa52 (.pick xa4f xa51 kf),
 ci oa53 (.eql (.cell .bool) kt xa52),
 ci oa4c (.mv xa53)]) (.cond xa4c (.seq (.reg [
 ci oa0e (.mv kt)]) (.seq (.seq (.reg [
 ci oa54 (.mv xa12),
 ci oa55 (.eql (.cell (.int .u8)) xa54 (.k (.u8 48))),
 ci oa56 (.mv xa55),
 cg oa57 ta56 true (.mv xa0f),
 cg oa58 ta56 true (.eql (.cell (.int .i64)) xa57 (ki 0)),
 ci oa59 (.pick xa56 xa58 kf)]) (.cond xa59 (.seq (.reg [
 ci oa5a (.mv xa11),
 ci oa5b (.sub xa5a (ki 1)),
 ci oa11 (.mv xa5b)]) (.exit 2)) .skip)) (.seq (.reg [
 ci oa5c (.mv xa0f),
 ci oa5d (.add xa5c (ki 1)),
 ci oa0f (.mv xa5d)]) (.seq (.seq (.reg [
 ci oa5e (.mv xa10),
 ci oa5f (.mv xa0b),
 ci oa60 (.lss xa5e xa5f)]) (.cond xa60 (.seq (.reg [
 ci oa61 (.mv xa02),
 ci oa62 (.mv xa0a),
 ci oa63 (.mul xa61 xa62),
 ci oa02 (.mv xa63)]) (.seq (.reg [
 ci oa64 (.mv xa02),
 ci oa65 (.mv xa12),
 ci oa66 (.sub xa65 (.k (.u8 48))),
 ci oa67 (.cint .u64 xa66),
 ci oa68 (.add xa64 xa67),
 ci oa02 (.mv xa68)]) (.reg [
 ci oa69 (.mv xa10),
 ci oa6a (.add xa69 (ki 1)),
 ci oa10 (.mv xa6a)]))) (.seq (.reg [
 ci oa6b (.mv xa12),
 ci oa6c (.neq (.cell (.int .u8)) xa6b (.k (.u8 48)))]) (.cond xa6c (.reg [
 ci oa05 (.mv kt)]) .skip)))) (.exit 2))))) (.seq (.reg [
 ci oa6e (.mv xa0a),
 ci oa6f (.eql (.cell (.int .u64)) xa6e (.k (.int .u64 (.ofNat 16)))),
 ci oa70 (.mv xa6f),
 cg oa71 ta70 true (.mv xa12),
 cg oa72 ta70 true (.call fn268 [xa71]),
 cg oa73 ta70 true (.leq (.k (.u8 97)) xa72),
 ci oa74 (.pick xa70 xa73 kf),
 ci oa75 (.mv xa74),
 cg oa76 ta75 true (.mv xa12),
 cg oa77 ta75 true (.call fn268 [xa76]),
 cg oa78 ta75 true (.leq xa77 (.k (.u8 102))),
 ci oa79 (.pick xa75 xa78 kf),
 ci oa7a (.eql (.cell .bool) kt xa79),
 ci oa6d (.mv xa7a)]) (.cond xa6d (.seq (.reg [
 ci oa0e (.mv kt)]) (.seq (.reg [
 ci oa7b (.mv xa0f),
 ci oa7c (.add xa7b (ki 1)),
 ci oa0f (.mv xa7c)]) (.seq (.seq (.reg [
 ci oa7d (.mv xa10),
 ci oa7e (.mv xa0b),
 ci oa7f (.lss xa7d xa7e)]) (.cond xa7f (.seq (.reg [
 ci oa80 (.mv xa02),
 ci oa81 (.mul xa80 (.k (.int .u64 (.ofNat 16)))),
 ci oa02 (.mv xa81)]) (.seq (.reg [
 ci oa82 (.mv xa02),
 ci oa83 (.mv xa12),
 ci oa84 (.call fn268 [xa83]),
 ci oa85 (.sub xa84 (.k (.u8 97))),
 ci oa86 (.add xa85 (.k (.u8 10))),
 ci oa87 (.cint .u64 xa86),
 ci oa88 (.add xa82 xa87),
 ci oa02 (.mv xa88)]) (.reg [
 ci oa89 (.mv xa10),
 ci oa8a (.add xa89 (ki 1)),
 ci oa10 (.mv xa8a)]))) (.reg [
 ci oa05 (.mv kt)]))) (.exit 2)))) .skip)))))))))) (.exit 1))) (.reg [
 ci oa3d (.mv xa07),
 ci oa3e (.add xa3d (ki 1)),
 ci oa07 (.mv xa3e)]))))) (.seq (.seq (.reg [
 ci oa8b (.mv xa0e),
 ci oa8c (.not xa8b)]) (.cond xa8c .ret .skip)) (.seq (.seq (.reg [
 ci oa8d (.mv xa0d),
 ci oa8e (.not xa8d)]) (.cond xa8e (.reg [
 ci oa8f (.mv xa0f),
 ci oa11 (.mv xa8f)]) .skip)) (.seq (.seq (.reg [
 ci oa90 (.mv xa0a),
 ci oa91 (.eql (.cell (.int .u64)) xa90 (.k (.int .u64 (.ofNat 16))))]) (.cond xa91 (.seq (.reg [
 ci oa92 (.mv xa11),
 ci oa93 (.mul xa92 (ki 4)),
 ci oa11 (.mv xa93)]) (.reg [
 ci oa94 (.mv xa10),
 ci oa95 (.mul xa94 (ki 4)),
 ci oa10 (.mv xa95)])) .skip)) (.seq (.seq (.reg [
 ci oa96 (.mv xa07),
 ci oa97 (.mv xa00),
 ci oa98 (.len 0 xa97),
 ci oa99 (.lss xa96 xa98),
 ci oa9a (.mv xa99),
 cg oa9b ta9a true (.mv xa00),
 cg oa9c ta9a true (.mv xa07),
 cg oa9d ta9a true (.ixs xa9b xa9c),
 cg oa9e ta9a true (.call fn268 [xa9d]),
 cg oa9f ta9a true (.mv xa0c),
 cg oaa0 ta9a true (.eql (.cell (.int .u8)) xa9e xa9f),
 ci oaa1 (.pick xa9a xaa0 kf)]) (.cond xaa1 (.seq (.reg [
 ci oaa2 (.mv xa07),
 ci oaa3 (.add xaa2 (ki 1)),
 ci oa07 (.mv xaa3)]) (.seq (.seq (.reg [
 ci oaa4 (.mv xa07),
 ci oaa5 (.mv xa00),
 ci oaa6 (.len 0 xaa5),
 ci oaa7 (.geq xaa4 xaa6)]) (.cond xaa7 .ret .skip)) (.seq (.reg [
 ci oa13 (.mv (ki 1))]) (.seq (.seq (.reg [
 ci oaa8 (.mv xa00),
 ci oaa9 (.mv xa07),
 ci oaaa (.ixs xaa8 xaa9)]) (.block 4 (.seq (.reg [
 ci oaac (.eql (.cell (.int .u8)) xaaa (.k (.u8 43))),
 ci oaab (.mv xaac)]) (.cond xaab (.reg [
 ci oaad (.mv xa07),
 ci oaae (.add xaad (ki 1)),
 ci oa07 (.mv xaae)]) (.seq (.reg [
 ci oab0 (.eql (.cell (.int .u8)) xaaa (.k (.u8 45))),
 ci oaaf (.mv xab0)]) (.cond xaaf (.seq (.reg [
 ci oab1 (.mv xa07),
 ci oab2 (.add xab1 (ki 1)),
 ci oa07 (.mv xab2)]) (.reg [
 ci oa13 (.mv (.k (.i (.negSucc 0))))])) .skip)))))) (.seq (.seq (.reg [
 ci oab3 (.mv xa07),
 ci oab4 (.mv xa00),
 ci oab5 (.len 0 xab4),
 ci oab6 (.geq xab3 xab5),
 ci oab7 (.mv xab6),
 cg oab8 tab7 false (.mv xa00),
 cg oab9 tab7 false (.mv xa07),
 cg oaba tab7 false (.ixs xab8 xab9),
 cg oabb tab7 false (.lss xaba (.k (.u8 48))),
 ci oabc (.pick xab7 kt xabb),
 ci oabd (.mv xabc),
 cg oabe tabd false (.mv xa00),
 cg oabf tabd false (.mv xa07),
 cg oac0 tabd false (.ixs xabe xabf),
 cg oac1 tabd false (.gtr xac0 (.k (.u8 57))),
 ci oac2 (.pick xabd kt xac1)]) (.cond xac2 .ret .skip)) (.seq (.reg [
 ci oa14 (.mv (ki 0))]) (.seq (.block 5 (.loop (.seq (.seq (.reg [
 ci oac3 (.mv xa07),
 ci oac4 (.mv xa00),
 ci oac5 (.len 0 xac4),
 ci oac6 (.lss xac3 xac5),
 ci oac7 (.mv xac6),
 cg oac8 tac7 true (.mv xa00),
 cg oac9 tac7 true (.mv xa07),
 cg oaca tac7 true (.ixs xac8 xac9),
 cg oacb tac7 true (.leq (.k (.u8 48)) xaca),
 cg oacc tac7 true (.mv xacb),
 cg oacd tacc true (.mv xa00),
 cg oace tacc true (.mv xa07),
 cg oacf tacc true (.ixs xacd xace),
 cg oad0 tacc true (.leq xacf (.k (.u8 57))),
 cg oad1 tac7 true (.pick xacc xad0 kf),
 cg oad2 tac7 true (.mv xad1),
 cg oad3 tad2 false (.mv xa00),
 cg oad4 tad2 false (.mv xa07),
 cg oad5 tad2 false (.ixs xad3 xad4),
 cg oad6 tad2 false (.eql (.cell (.int .u8)) xad5 (.k (.u8 95))),
 cg oad7 tac7 true (.pick xad2 kt xad6),
 ci oad8 (.pick xac7 xad7 kf)]) (.cond xad8 .skip (.exit 5))) (.seq (.block 6 (.seq (.seq (.reg [
 ci oadb (.mv xa00),
 ci oadc (.mv xa07),
 ci oadd (.ixs xadb xadc),
 ci oade (.eql (.cell (.int .u8)) xadd (.k (.u8 95)))]) (.cond xade (.seq (.reg [
 ci oa09 (.mv kt)]) (.exit 6)) .skip)) (.seq (.reg [
 ci oadf (.mv xa14),
 ci oae0 (.lss xadf (ki 10000))]) (.cond xae0 (.reg [
 ci oae1 (.mv xa14),
 ci oae2 (.mul xae1 (ki 10)),
 ci oae3 (.mv xa00),
 ci oae4 (.mv xa07),
 ci oae5 (.ixs xae3 xae4),
 ci oae6 (.cint .i64 xae5),
 ci oae7 (.add xae2 xae6),
 ci oae8 (.sub xae7 (ki 48)),
 ci oa14 (.mv xae8)]) .skip)))) (.reg [
 ci oad9 (.mv xa07),
 ci oada (.add xad9 (ki 1)),
 ci oa07 (.mv xada)]))))) (.reg [
 ci oae9 (.mv xa11),
 ci oaea (.mv xa14),
 ci oaeb (.mv xa13),
 ci oaec (.mul xaea xaeb),
 ci oaed (.add xae9 xaec),
 ci oa11 (.mv xaed)])))))))) (.seq (.reg [
 ci oaee (.mv xa0a),
 ci oaef (.eql (.cell (.int .u64)) xaee (.k (.int .u64 (.ofNat 16))))]) (.cond xaef .ret .skip)))) (.seq (.seq (.reg [
 ci oaf0 (.mv xa02),
 ci oaf1 (.neq (.cell (.int .u64)) xaf0 (.k (.int .u64 (.ofNat 0))))]) (.cond xaf1 (.reg [
 ci oaf2 (.mv xa11),
 ci oaf3 (.mv xa10),
 ci oaf4 (.sub xaf2 xaf3),
 ci oa03 (.mv xaf4)]) .skip)) (.seq (.seq (.reg [
 ci oaf5 (.mv xa09),
 ci oaf6 (.mv xaf5),
 cg oaf7 taf6 true (.mv xa00),
 cg oaf8 taf6 true (.mv xa07),
 cg oaf9 taf6 true (.slStr xaf7 none (some xaf8)),
 cg oafa taf6 true (.call fn269 [xaf9]),
 cg oafb taf6 true (.not xafa),
 ci oafc (.pick xaf6 xafb kf)]) (.cond xafc .ret .skip)) (.seq (.reg [
 ci oa08 (.mv kt)]) .ret))))))))))))))))))))))), [.tmp ta02, .tmp ta03, .tmp ta04, .tmp ta05, .tmp ta06, .tmp ta07, .tmp ta08]⟩
def cf292 : CF := ⟨292, true, (.seq (.reg [
 ci oa02 (.mv (.k (.int .u64 (.ofNat 0))))]) (.seq (.seq (.reg [
 ci oa03 (.mv xa00)]) (.cond xa03 (.seq (.reg [
 ci oa02 (.mv (.k (.int .u64 (.ofNat 1))))]) .ret) .skip)) (.seq (.reg [
 ci oa02 (.mv (.k (.int .u64 (.ofNat 0))))]) .ret))), [.tmp ta02]⟩
def cf294 : CF := ⟨294, true, (.seq (.reg [
 ci oa06 (.mv (.k (.flt .f64 0))),
 ci oa07 (.mv kf)]) (.seq (.seq (.reg [
 ci oa08 (.mv xa00),
 ci oa09 (.fa (.k (.ptr ⟨.d15, .d0, .d0, .d9⟩ 0)) 0),
 ci oa0a (.ld1 xa09),
 ci oa0b (.shr xa08 xa0a),
 ci oa0c (.neq (.cell (.int .u64)) xa0b (.k (.int .u64 (.ofNat 0))))]) (.cond xa0c .ret .skip)) (.seq (.reg [
 ci oa0d (.mv xa00),
 ci oa0e (.i2f .f64 xa0d),
 ci oa06 (.mv xa0e)]) (.seq (.seq (.reg [
 ci oa0f (.mv xa02)]) (.cond xa0f (.reg [
 ci oa10 (.mv xa06),
 ci oa11 (.neg xa10),
 ci oa06 (.mv xa11)]) .skip)) (.seq (.block 0 (.seq (.reg [
 ci oa13 (.mv xa01),
 ci oa14 (.eql (.cell (.int .i64)) xa13 (ki 0)),
 ci oa12 (.mv xa14)]) (.cond xa12 (.seq (.reg [
 ci oa15 (.mv xa06),
 ci oa06 (.mv xa15),
 ci oa07 (.mv kt)]) .ret) (.seq (.reg [
 ci oa17 (.mv xa01),
 ci oa18 (.gtr xa17 (ki 0)),
 ci oa19 (.mv xa18),
 cg oa1a ta19 true (.mv xa01),
 cg oa1b ta19 true (.leq xa1a (ki 37)),
 ci oa1c (.pick xa19 xa1b kf),
 ci oa16 (.mv xa1c)]) (.cond xa16 (.seq (.seq (.reg [
 ci oa1d (.mv xa01),
 ci oa1e (.gtr xa1d (ki 22))]) (.cond xa1e (.seq (.reg [
 ci oa1f (.mv xa06),
 ci oa20 (.ld1 (.k (.ptr ⟨.d15, .d0, .d0, .d12⟩ 0))),
 ci oa21 (.mv xa01),
 ci oa22 (.sub xa21 (ki 22)),
 ci oa23 (.ia 1 xa20 xa22),
 ci oa24 (.ld1 xa23),
 ci oa25 (.mul xa1f xa24),
 ci oa06 (.mv xa25)]) (.reg [
 ci oa01 (.mv (ki 22))])) .skip)) (.seq (.seq (.reg [
 ci oa26 (.mv xa06),
 ci oa27 (.gtr xa26 (.k (.flt .f64 4831355200913801216))),
 ci oa28 (.mv xa27),
 cg oa29 ta28 false (.mv xa06),
 cg oa2a ta28 false (.lss xa29 (.k (.flt .f64 14054727237768577024))),
 ci oa2b (.pick xa28 kt xa2a)]) (.cond xa2b .ret .skip)) (.seq (.reg [
 ci oa2c (.mv xa06),
 ci oa2d (.ld1 (.k (.ptr ⟨.d15, .d0, .d0, .d12⟩ 0))),
 ci oa2e (.mv xa01),
 ci oa2f (.ia 1 xa2d xa2e),
 ci oa30 (.ld1 xa2f),
 ci oa31 (.mul xa2c xa30),
 ci oa06 (.mv xa31),
 ci oa07 (.mv kt)]) .ret))) (.seq (.reg [
 ci oa33 (.mv xa01),
 ci oa34 (.lss xa33 (ki 0)),
 ci oa35 (.mv xa34),
 cg oa36 ta35 true (.mv xa01),
 cg oa37 ta35 true (.geq xa36 (.k (.i (.negSucc 21)))),
 ci oa38 (.pick xa35 xa37 kf),
 ci oa32 (.mv xa38)]) (.cond xa32 (.seq (.reg [
 ci oa39 (.mv xa06),
 ci oa3a (.ld1 (.k (.ptr ⟨.d15, .d0, .d0, .d12⟩ 0))),
 ci oa3b (.mv xa01),
 ci oa3c (.neg xa3b),
 ci oa3d (.ia 1 xa3a xa3c),
 ci oa3e (.ld1 xa3d),
 ci oa3f (.quo xa39 xa3e),
 ci oa06 (.mv xa3f),
 ci oa07 (.mv kt)]) .ret) .skip))))))) .ret))))), [.tmp ta06, .tmp ta07]⟩
def cf341 : CF := ⟨341, true, (.seq (.reg [
 ci oa02 (.alloc 27 [vz, vz, vz])]) (.seq (.reg [
 ci oa03 (.mv xa00),
 ci oa04 (.nilc xa03),
 ci oa05 (.fa xa04 0),
 ci oa06 (.ldn 3 xa05),
 ci none (.st 3 xa02 xa06)]) .ret)), [.cell 3 true ta02]⟩
def cf342 : CF := ⟨342, true, (.seq (.reg [
 ci oa03 (.box 27 3 xa01)]) (.seq (.dreg [
 ⟨0, ci oa04 (.mv xa00), .pur, 0⟩,
 ⟨1, ci oa05 (.nilc xa04), .pur, 0⟩,
 ⟨2, ci oa06 (.fa xa05 0), .pur, 0⟩,
 ⟨3, ci oa07 (.fa xa06 2), .pur, 0⟩,
 ⟨4, ci oa08 (.ld1 xa07), .rd, 0⟩,
 ⟨5, ci oa09 (.eql (.cell (.int .i64)) xa08 (ki 0)), .pur, 0⟩,
 ⟨6, ci oa0a (.mv xa09), .pur, 0⟩,
 ⟨7, cg oa0b ta0a false (.fa xa03 0), .pur, 0⟩,
 ⟨8, cg oa0c ta0a false (.ld1 xa0b), .rd, 0⟩,
 ⟨9, cg oa0d ta0a false (.mv xa00), .pur, 0⟩,
 ⟨10, cg oa0e ta0a false (.nilc xa0d), .pur, 0⟩,
 ⟨11, cg oa0f ta0a false (.fa xa0e 0), .pur, 0⟩,
 ⟨12, cg oa10 ta0a false (.fa xa0f 0), .pur, 0⟩,
 ⟨13, cg oa11 ta0a false (.ld1 xa10), .rd, 0⟩,
 ⟨15, cg oa13 ta0a false (.fa xa03 1), .pur, 0⟩,
 ⟨16, cg oa14 ta0a false (.ld1 xa13), .rd, 1⟩,
 ⟨17, cg oa15 ta0a false (.mv xa00), .pur, 0⟩,
 ⟨18, cg oa16 ta0a false (.nilc xa15), .pur, 0⟩,
 ⟨19, cg oa17 ta0a false (.fa xa16 0), .pur, 0⟩,
 ⟨20, cg oa18 ta0a false (.fa xa17 1), .pur, 0⟩,
 ⟨21, cg oa19 ta0a false (.ld1 xa18), .rd, 1⟩,
 ⟨23, cg oa1b ta0a false (.fa xa03 2), .pur, 0⟩,
 ⟨24, cg oa1c ta0a false (.ld1 xa1b), .rd, 2⟩,
 ⟨25, cg oa1d ta0a false (.mv xa00), .pur, 0⟩,
 ⟨26, cg oa1e ta0a false (.nilc xa1d), .pur, 0⟩,
 ⟨27, cg oa1f ta0a false (.fa xa1e 0), .pur, 0⟩,
 ⟨28, cg oa20 ta0a false (.fa xa1f 2), .pur, 0⟩,
 ⟨29, cg oa21 ta0a false (.ld1 xa20), .rd, 2⟩,
 ⟨14, cg oa12 ta0a false (.call fn25 [xa0c, xa11]), .ev, 0⟩,
 ⟨22, cg oa1a ta0a false (.call fn25 [xa14, xa19]), .ev, 1⟩,
 ⟨30, cg oa22 ta0a false (.call fn37 [xa1c, xa21]), .ev, 2⟩,
 ⟨31, cg oa23 ta0a false (.bslice 3 1 3 [vz] [(0, xa12), (1, xa1a), (2, xa22)]), .ev, 3⟩,
 ⟨32, cg oa24 ta0a false (.call fn24 [xa23]), .ev, 4⟩,
 ⟨33, cg oa25 ta0a false (.lss xa24 (ki 0)), .pur, 0⟩,
 ⟨34, ci oa26 (.pick xa0a kt xa25), .pur, 0⟩]) (.cond xa26 (.reg [
 ci oa27 (.mv xa00),
 ci oa28 (.ldn 3 xa03),
 ci oa29 (.nilc xa27),
 ci oa2a (.fa xa29 0),
 ci none (.st 3 xa2a xa28)]) .skip))), []⟩
def e1 : N (Option CF) := ⟨none,none,none,none,none,none,none,none,none,none,none,none,none,none,none,none⟩
def e2 : N2 (Option CF) := ⟨e1,e1,e1,e1,e1,e1,e1,e1,e1,e1,e1,e1,e1,e1,e1,e1⟩
def tab : N3 (Option CF) := ⟨⟨⟨none, none, none, some cf3, some cf4, some cf5, some cf6, some cf7, some cf8, some cf9, some cf10, some cf11, some cf12, some cf13, some cf14, some cf15⟩, ⟨some cf16, some cf17, some cf18, some cf19, some cf20, some cf21, some cf22, some cf23, some cf24, some cf25, some cf26, some cf27, some cf28, some cf29, none, some cf31⟩, ⟨some cf32, some cf33, some cf34, none, none, none, some cf38, some cf39, some cf40, some cf41, some cf42, some cf43, some cf44, some cf45, some cf46, some cf47⟩, ⟨some cf48, some cf49, some cf50, some cf51, some cf52, some cf53, some cf54, some cf55, some cf56, some cf57, none, some cf59, some cf60, some cf61, some cf62, some cf63⟩, ⟨some cf64, some cf65, none, some cf67, none, some cf69, some cf70, some cf71, some cf72, some cf73, some cf74, some cf75, some cf76, some cf77, some cf78, some cf79⟩, ⟨some cf80, none, none, none, none, none, none, none, none, some cf89, some cf90, some cf91, some cf92, some cf93, some cf94, none⟩, ⟨some cf96, some cf97, some cf98, some cf99, some cf100, some cf101, some cf102, some cf103, some cf104, some cf105, some cf106, some cf107, some cf108, some cf109, some cf110, some cf111⟩, ⟨some cf112, some cf113, some cf114, some cf115, some cf116, some cf117, some cf118, some cf119, some cf120, some cf121, some cf122, some cf123, some cf124, some cf125, some cf126, none⟩, ⟨none, none, none, none, some cf132, some cf133, some cf134, none, none, some cf137, some cf138, some cf139, some cf140, some cf141, some cf142, some cf143⟩, ⟨some cf144, some cf145, some cf146, none, some cf148, some cf149, some cf150, some cf151, some cf152, some cf153, some cf154, some cf155, some cf156, some cf157, some cf158, some cf159⟩, ⟨some cf160, some cf161, some cf162, some cf163, some cf164, some cf165, some cf166, some cf167, some cf168, some cf169, some cf170, some cf171, none, none, none, none⟩, ⟨none, none, none, some cf179, some cf180, some cf181, some cf182, some cf183, some cf184, some cf185, some cf186, none, some cf188, some cf189, some cf190, some cf191⟩, ⟨some cf192, some cf193, some cf194, some cf195, some cf196, some cf197, some cf198, some cf199, some cf200, some cf201, some cf202, some cf203, some cf204, some cf205, some cf206, none⟩, ⟨none, none, none, some cf211, some cf212, none, some cf214, some cf215, none, some cf217, some cf218, none, some cf220, some cf221, none, some cf223⟩, ⟨some cf224, some cf225, some cf226, some cf227, some cf228, none, none, none, none, none, none, none, some cf236, some cf237, some cf238, some cf239⟩, ⟨some cf240, some cf241, some cf242, none, some cf244, none, none, none, none, some cf249, none, some cf251, some cf252, some cf253, some cf254, some cf255⟩⟩, ⟨⟨some cf256, some cf257, some cf258, some cf259, some cf260, none, none, none, some cf264, some cf265, some cf266, none, none, none, none, none⟩, ⟨none, none, some cf274, some cf275, none, some cf277, some cf278, some cf279, none, none, none, some cf283, some cf284, none, none, none⟩, ⟨none, none, none, none, some cf292, none, some cf294, none, none, none, none, none, none, none, none, none⟩, e1, e1, ⟨none, none, none, none, none, some cf341, some cf342, none, none, none, none, none, none, none, none, none⟩, e1, e1, e1, e1, e1, e1, e1, e1, e1, e1⟩, e2, e2, e2, e2, e2, e2, e2, e2, e2, e2, e2, e2, e2, e2⟩
noncomputable def tabG (i : FId) : Option CF := N.getF i.c (N.getF i.b (N.getF i.a tab))
def r1 : N (List AV) := ⟨[],[],[],[],[],[],[],[],[],[],[],[],[],[],[],[]⟩
def r2 : N2 (List AV) := ⟨r1,r1,r1,r1,r1,r1,r1,r1,r1,r1,r1,r1,r1,r1,r1,r1⟩
/-- strings.asciiSpace -/
def gl0 : AO := (.cst 1 256 ⟨⟨⟨[(.u8 0)], [(.u8 0)], [(.u8 0)], [(.u8 0)], [(.u8 0)], [(.u8 0)], [(.u8 0)], [(.u8 0)], [(.u8 0)], [(.u8 1)], [(.u8 1)], [(.u8 1)], [(.u8 1)], [(.u8 1)], [(.u8 0)], [(.u8 0)]⟩, ⟨[(.u8 0)], [(.u8 0)], [(.u8 0)], [(.u8 0)], [(.u8 0)], [(.u8 0)], [(.u8 0)], [(.u8 0)], [(.u8 0)], [(.u8 0)], [(.u8 0)], [(.u8 0)], [(.u8 0)], [(.u8 0)], [(.u8 0)], [(.u8 0)]⟩, ⟨[(.u8 1)], [(.u8 0)], [(.u8 0)], [(.u8 0)], [(.u8 0)], [(.u8 0)], [(.u8 0)], [(.u8 0)], [(.u8 0)], [(.u8 0)], [(.u8 0)], [(.u8 0)], [(.u8 0)], [(.u8 0)], [(.u8 0)], [(.u8 0)]⟩, ⟨[(.u8 0)], [(.u8 0)], [(.u8 0)], [(.u8 0)], [(.u8 0)], [(.u8 0)], [(.u8 0)], [(.u8 0)], [(.u8 0)], [(.u8 0)], [(.u8 0)], [(.u8 0)], [(.u8 0)], [(.u8 0)], [(.u8 0)], [(.u8 0)]⟩, ⟨[(.u8 0)], [(.u8 0)], [(.u8 0)], [(.u8 0)], [(.u8 0)], [(.u8 0)], [(.u8 0)], [(.u8 0)], [(.u8 0)], [(.u8 0)], [(.u8 0)], [(.u8 0)], [(.u8 0)], [(.u8 0)], [(.u8 0)], [(.u8 0)]⟩, ⟨[(.u8 0)], [(.u8 0)], [(.u8 0)], [(.u8 0)], [(.u8 0)], [(.u8 0)], [(.u8 0)], [(.u8 0)], [(.u8 0)], [(.u8 0)], [(.u8 0)], [(.u8 0)], [(.u8 0)], [(.u8 0)], [(.u8 0)], [(.u8 0)]⟩, ⟨[(.u8 0)], [(.u8 0)], [(.u8 0)], [(.u8 0)], [(.u8 0)], [(.u8 0)], [(.u8 0)], [(.u8 0)], [(.u8 0)], [(.u8 0)], [(.u8 0)], [(.u8 0)], [(.u8 0)], [(.u8 0)], [(.u8 0)], [(.u8 0)]⟩, ⟨[(.u8 0)], [(.u8 0)], [(.u8 0)], [(.u8 0)], [(.u8 0)], [(.u8 0)], [(.u8 0)], [(.u8 0)], [(.u8 0)], [(.u8 0)], [(.u8 0)], [(.u8 0)], [(.u8 0)], [(.u8 0)], [(.u8 0)], [(.u8 0)]⟩, ⟨[(.u8 0)], [(.u8 0)], [(.u8 0)], [(.u8 0)], [(.u8 0)], [(.u8 0)], [(.u8 0)], [(.u8 0)], [(.u8 0)], [(.u8 0)], [(.u8 0)], [(.u8 0)], [(.u8 0)], [(.u8 0)], [(.u8 0)], [(.u8 0)]⟩, ⟨[(.u8 0)], [(.u8 0)], [(.u8 0)], [(.u8 0)], [(.u8 0)], [(.u8 0)], [(.u8 0)], [(.u8 0)], [(.u8 0)], [(.u8 0)], [(.u8 0)], [(.u8 0)], [(.u8 0)], [(.u8 0)], [(.u8 0)], [(.u8 0)]⟩, ⟨[(.u8 0)], [(.u8 0)], [(.u8 0)], [(.u8 0)], [(.u8 0)], [(.u8 0)], [(.u8 0)], [(.u8 0)], [(.u8 0)], [(.u8 0)], [(.u8 0)], [(.u8 0)], [(.u8 0)], [(.u8 0)], [(.u8 0)], [(.u8 0)]⟩, ⟨[(.u8 0)], [(.u8 0)], [(.u8 0)], [(.u8 0)], [(.u8 0)], [(.u8 0)], [(.u8 0)], [(.u8 0)], [(.u8 0)], [(.u8 0)], [(.u8 0)], [(.u8 0)], [(.u8 0)], [(.u8 0)], [(.u8 0)], [(.u8 0)]⟩, ⟨[(.u8 0)], [(.u8 0)], [(.u8 0)], [(.u8 0)], [(.u8 0)], [(.u8 0)], [(.u8 0)], [(.u8 0)], [(.u8 0)], [(.u8 0)], [(.u8 0)], [(.u8 0)], [(.u8 0)], [(.u8 0)], [(.u8 0)], [(.u8 0)]⟩, ⟨[(.u8 0)], [(.u8 0)], [(.u8 0)], [(.u8 0)], [(.u8 0)], [(.u8 0)], [(.u8 0)], [(.u8 0)], [(.u8 0)], [(.u8 0)], [(.u8 0)], [(.u8 0)], [(.u8 0)], [(.u8 0)], [(.u8 0)], [(.u8 0)]⟩, ⟨[(.u8 0)], [(.u8 0)], [(.u8 0)], [(.u8 0)], [(.u8 0)], [(.u8 0)], [(.u8 0)], [(.u8 0)], [(.u8 0)], [(.u8 0)], [(.u8 0)], [(.u8 0)], [(.u8 0)], [(.u8 0)], [(.u8 0)], [(.u8 0)]⟩, ⟨[(.u8 0)], [(.u8 0)], [(.u8 0)], [(.u8 0)], [(.u8 0)], [(.u8 0)], [(.u8 0)], [(.u8 0)], [(.u8 0)], [(.u8 0)], [(.u8 0)], [(.u8 0)], [(.u8 0)], [(.u8 0)], [(.u8 0)], [(.u8 0)]⟩⟩, r2, r2, r2, r2, r2, r2, r2, r2, r2, r2, r2, r2, r2, r2, r2⟩)
/-- internal/strconv.optimize -/
def gl1 : AO := (.cst 1 1 ⟨⟨⟨[(.bool true)], [], [], [], [], [], [], [], [], [], [], [], [], [], [], []⟩, r1, r1, r1, r1, r1, r1, r1, r1, r1, r1, r1, r1, r1, r1, r1⟩, r2, r2, r2, r2, r2, r2, r2, r2, r2, r2, r2, r2, r2, r2, r2⟩)
/-- internal/strconv.float64pow10 -/
def gl2 : AO := (.cst 1 1 ⟨⟨⟨[(.slice ⟨.d15, .d0, .d1, .d9⟩ 0 1 23 23 true)], [], [], [], [], [], [], [], [], [], [], [], [], [], [], []⟩, r1, r1, r1, r1, r1, r1, r1, r1, r1, r1, r1, r1, r1, r1, r1⟩, r2, r2, r2, r2, r2, r2, r2, r2, r2, r2, r2, r2, r2, r2, r2⟩)
/-- internal/strconv.float64info -/
def gl3 : AO := (.cst 1 23 ⟨⟨⟨[(.flt .f64 4607182418800017408)], [(.flt .f64 4621819117588971520)], [(.flt .f64 4636737291354636288)], [(.flt .f64 4652007308841189376)], [(.flt .f64 4666723172467343360)], [(.flt .f64 4681608360884174848)], [(.flt .f64 4696837146684686336)], [(.flt .f64 4711630319722168320)], [(.flt .f64 4726483295884279808)], [(.flt .f64 4741671816366391296)], [(.flt .f64 4756540486875873280)], [(.flt .f64 4771362005757984768)], [(.flt .f64 4786511204640096256)], [(.flt .f64 4801453603149578240)], [(.flt .f64 4816244402031689728)], [(.flt .f64 4831355200913801216)]⟩, ⟨[(.flt .f64 4846369599423283200)], [(.flt .f64 4861130398305394688)], [(.flt .f64 4876203697187506176)], [(.flt .f64 4891288408196988160)], [(.flt .f64 4906019910204099648)], [(.flt .f64 4921056587992461136)], [(.flt .f64 4936209963552724370)], [], [], [], [], [], [], [], [], []⟩, r1, r1, r1, r1, r1, r1, r1, r1, r1, r1, r1, r1, r1, r1⟩, r2, r2, r2, r2, r2, r2, r2, r2, r2, r2, r2, r2, r2, r2, r2⟩)
/--  -/
def gl4 : AO := (.cst 3 1 ⟨⟨⟨[(.int .u64 (.ofNat 52)), (.int .u64 (.ofNat 11)), (.i (.negSucc 1022))], [], [], [], [], [], [], [], [], [], [], [], [], [], [], []⟩, r1, r1, r1, r1, r1, r1, r1, r1, r1, r1, r1, r1, r1, r1, r1⟩, r2, r2, r2, r2, r2, r2, r2, r2, r2, r2, r2, r2, r2, r2, r2⟩)
end Xv.Ck
