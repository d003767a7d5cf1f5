/- A part of the proof of 'ScopeOwnUptoCardSaid': an evaluator of open calls, its soundness, and what the functions come to. There is no further condition. -/
import Derived.Test.YtpllhjebgjcigaaGreatDoorX14
import Derived.Test.YtpllhjebgjcigaaGreatDoorCards
import Derived.Test.YtpllhjebgjcigaaGreatDoorTie
import Derived.Deep.DeepHandedRow
import Derived.Lib.LaidTab
import Derived.Lay
set_option maxHeartbeats 16000000
set_option maxRecDepth 100000
set_option linter.all false
namespace Go.Proofs.YtpllhjebgjcigaaGreatDoor
open Go.ChangeShapes Go.WideShapes Go.ChangeAt Go.RowKit
open Yv
set_option maxRecDepth 100000
def BN{H:Type}(d:Yv.Doc):DataW H:=.agg [.lit (.string d.uri),.lit (.string d.text),.lit (.int .i64 d.aD)]
def W3(d:Yv.Doc):List Value:=[.string ⟨d.uri.toArray⟩,.string ⟨d.text.toArray⟩,.int .i64 d.aD]
section
variable{H:Type}{di:TypeId×Value->H}{W:World}{base:Nat}{sp:Nat->Bool}{held:Bool}{fy:Nat}{cs:List Value}{p:List MemPlace}
theorem aot{d:DataW H}(h:DataW.trod di Tryz.prog W base sp held fy 43 cs=some (d,p)):∃doc,d=BN doc:=by
 obtain⟨xs,n,rfl,hx,hl,Dh,jD⟩:=DataW.trod_struct (fs:=#[{name:= "URI",type:=9,offset:=0,embedded:=false,tag:= "",pkgPath:= "",byteOffset:=0},{name:= "Text",type:=9,offset:=1,embedded:=false,tag:= "",pkgPath:= "",byteOffset:=16},{name:= "Version",type:=2,offset:=2,embedded:=false,tag:= "",pkgPath:= "",byteOffset:=32}]) zk h;simp only[avj] at hx;obtain⟨rfl,_⟩:=hx
 match xs,Dh with
 |[x0,x1,x2],_=>
 obtain⟨s0,_,e0,_⟩:=DataW.trod_string zk (jD 0 _ rfl);obtain⟨s1,_,e1,_⟩:=DataW.trod_string zk (jD 1 _ rfl);obtain⟨m,_,e2,_⟩:=DataW.trod_int (k:=.i64) zk (jD 2 _ rfl);subst e0 e1 e2;exact⟨⟨s0.data.toList,s1.data.toList,m⟩,rfl⟩
theorem aeL:∀{ds:List (DataW H)},(∀d∈ds,∃doc,d=BN doc)->∃docs:List Yv.Doc,ds=docs.map BN
 |[],_=>⟨[],rfl⟩
 |d::ds,h=>by obtain⟨x,rfl⟩:=h _ au0;obtain⟨l,rfl⟩:=aeL λd hd=>h d (aug _ hd);exact⟨x::l,rfl⟩
theorem aou:P5 Tryz.prog 43 3=true:=zk
theorem aov(docs:List Yv.Doc):(docs.map (BN (H:=H))).all (FB Tryz.prog 43 3)=true:=by simp[BN,FB,aou,Mb]
theorem aow(docs:List Yv.Doc):(docs.map (BN (H:=H))).map Ma=docs.map W3:=by rw[av4];rfl
theorem aox(l:List UInt8):yU (S l)=some (.string ⟨l.toArray⟩):=by
 have h:=MW ⟨l.toArray⟩ (l.map (·.toNat)) zm;obtain⟨h1,h2⟩:=h;rw[avd] at h1 h2;simp only[S,yU,atV h2];rw[<-h1];simp only[av4];congr 4;have:(UInt8.ofNat∘λx:UInt8=>x.toNat)=id:=by funext x;simp
 rw[this,axU]
theorem aoy(d:Yv.Doc):d.row.map yU=(W3 d).map some:=by simp only[Doc.row,aul,awx,aox,W3];rfl
theorem aoz(docs:List Yv.Doc):docs.length+pC docs<=Rows.uptoBulkAll (docs.map (BN (H:=H))):=by
 induction docs with
 |nil=>simp[pC,Rows.uptoBulkAll]
 |cons d l ih=>
  simp only[pC,aul,axF,atX,Rows.uptoBulkAll,BN,Rows.uptoBulk] at ih⊢;omega
theorem aeM{r:Reach}{v:Value}{x:Option Addr}{l c:Nat}(hv:Value.okWide Tryz.prog W r base 22 v)(h:v.cells.toList=[.slice x l c]):v=.slice x l c:=by have hu:Tryz.prog.underlying 22=some (.slice 43):=zk;unfold Value.okWide Cell.okWide Cell.ok at hv;rw[hu] at hv;cases v<;>first|(simpa[Value.cells] using h)|(simp at hv;done)|skip
end
theorem aoA{H:Type}{di:TypeId×Value->H}{W:World}{v:Value}{d:DataW H}{p:List MemPlace}{r:Reach}{base:Nat}(hl:laidMetH Tryz.prog Rows.scopeOwnUptoRow.laid W)(hv:Value.okWide Tryz.prog W r base 22 v)
 (hd:DataW.Trod di Tryz.prog W 0 (λ_=>true) true 22 v d p) (hb:Rows.uptoBulk d<=1048576):
 Calls Tryz.prog 3 #[v] W λe W'=>e=.returned (.bool true)/\W'.os=W.os/\W'.output=W.output/\∀i,i<W.heap.size->W'.heap[i]? =W.heap[i]? :=by
 obtain⟨b19,s19,b20,s20,b21,s21,t5,t6,⟨aoB,J3,Vu,qW⟩,rows⟩:=aok hl;obtain⟨fy,h⟩:=hd;have g:∀b22 s22,jq (mG Tryz.prog W (Bf b19 b20 b21 b22) (Sf s19 s20 s21 s22)) Tryz.prog:=λb22 s22=>aod (avp zk) λi hi=>aeK hi;have hu:Tryz.prog.underlying 22=some (.slice 43):=zk;have aeN:Tryz.prog.cellsOf 43=3:=zk;rcases DataW.trod_slice hu h with⟨hc,hx⟩|⟨_,_,_,aoC,rest,_,_,_,hx,_⟩;have:=aeM hv hc;subst this;refine aeA (T:=J8) (t:=(t5,t6)) (o:=.eD) (a:=[.bx]) ZM ZN (.inr rfl) (aez (.inr rfl) (rows 0 0 .eD trivial)) (g 0 0) (qS.2 ⟨by simp only[aj],sJ⟩) ?_;exact amS ZL λh' same=>⟨h',rfl,same⟩;simp only[avj] at hx;obtain⟨rfl,_⟩:=hx;obtain⟨_,_,sU⟩:=aeD hu (by rw[aeN];decide) h;obtain⟨docs,aoD⟩:∃docs:List Yv.Doc,aoC.map (·.1)=docs.map BN:=aeL λd hd=>by obtain⟨i,hi⟩:=aum hd;have ao:=(at0.1 hi).1;obtain⟨_,_,_,_,_,sU⟩:=(sU zo).2;obtain⟨l,m,q,e1,_⟩:=sU i d (by rw[aun ao];exact hi);exact aot e1
 rw[aoD] at h hb;obtain⟨a,hc,hp⟩:=P8 hu aeN zd (aov docs) h;rw[avd] at hc hp;rw[aow] at hp;have dA:=aoz (H:=H) docs;simp only[Rows.uptoBulk] at hb;have:=aeM hv hc;subst this;have b8:∀b22 s22(L:(mG Tryz.prog W (Bf b19 b20 b21 b22) (Sf s19 s20 s21 s22)).sz 22=(mG Tryz.prog W (Bf b19 b20 b21 b22) (Sf s19 s20 s21 s22)).sz 22),kM (mG Tryz.prog W (Bf b19 b20 b21 b22) (Sf s19 s20 s21 s22)) W 22 (.cB 3 docs.length λj=>match docs[j]? with|some d=>d.row|none=>[])->
  (docs.length+(rest.map (·.1)).length≠0->a=⟨b22,s22+0,none⟩/\s22+0+(docs.length+(rest.map (·.1)).length)*3<=(mG Tryz.prog W (Bf b19 b20 b21 b22) (Sf s19 s20 s21 s22)).sz 22)->
  Calls Tryz.prog 3 #[.slice (some a) docs.length (docs.length+(rest.map (·.1)).length)] W λe W'=>e=.returned (.bool true)/\W'.os=W.os/\W'.output=W.output/\∀i,i<W.heap.size->W'.heap[i]? =W.heap[i]? :=λb22 s22 _ ho ha=>by
  refine aeA (T:=J8) (t:=(t5,t6)) (a:=[.slice 22 0 3 docs.length (docs.length+(rest.map (·.1)).length) true]) ZM ZN (.inl rfl) (aez (.inl rfl) (rows b22 s22 _ ho)) (g b22 s22) (qS.2 ⟨?_,sJ⟩) ?_;simp only[aj];exact⟨by show 22<23;decide,a,_,rfl,Nat.le_add_right _ _,at2 _,λ_=>rfl,ha⟩;exact amR ZL zl (λj hj=>by rw[atT hj]) zo zo λh' same=>⟨h',rfl,same⟩
 rcases auP (docs.length+(rest.map (·.1)).length) with hz|A0;have Wl:docs=[]:=auv zo;subst Wl;refine b8 1 0 rfl ?_ (λh=>absurd hz h);exact Iw.cB (L:=[]) (b:=1) (s:=0) ⟨aoB,J3,Vu,qW,by simp,λk l hk=>by simp at hk⟩ rfl rfl zd rfl zd λk l hk=>by simp at hk
 obtain⟨hs,hr,aO,el,fr,Wy,cP⟩:=hp A0;refine b8 a.block a.off rfl ?_ (λ_=>⟨?_,?_⟩);refine hr.cB rfl rfl zd zm zo λk l hk=>?_;rw[auh] at hk;obtain⟨d,bC,rfl⟩:=au'.1 hk;replace hk:=bC;show(match docs[k]? with|some d=>d.row|none=>[]).map yU=_;rw[hk];exact aoy d;cases a;simp only at hs;subst hs;rfl;rw[aeH (i:=22) (b:=a.block) rfl Wy];simpa using cP
theorem aoE(H:Type)(di:TypeId×Value->H)(W:World)(base:Nat)(args:Array Value)(ds gs:List (DataW H))(before:List MemPlace)
 (W4:∀(j:Nat) t v,Tryz.f3.params[j]? =some t->args[j]? =some v->Value.okWide Tryz.prog W .any base t v)
 (hW:DataW.Whole di Tryz.prog Tryz.f3.params.toList Rows.scopeOwnSpec.vars false W args.toList ds gs before) (hb:Rows.uptoBulkAll (ds++gs)<=1048576) (hL:laidMetH Tryz.prog Rows.scopeOwnUptoRow.laid W):
 Calls Tryz.prog 3 args W λe W'=>∃v,e=.returned v/\Rows.scopeOwnSpec.post di Tryz.prog Tryz.f3 false true false false W args v W':=by
 have hW':=hW;obtain⟨p,q,hA0,hV,rfl,_,_⟩:=hW;have kF:Tryz.f3.params=#[22]:=zk;have hA:DataW.TrodAll di Tryz.prog W 0 (λ_=>true) true [22] args.toList ds p:=hA0;obtain⟨v,d,rfl,rfl,hd⟩:=trodAll_one hA;obtain⟨rfl,rfl⟩:=trodVars_none hV;have oY:Rows.uptoBulk d<=1048576:=by simpa[Rows.uptoBulkAll] using hb
 have ao:∀x∈p,x.block<W.heap.size:=λx hx=>by simpa using hW'.lt x (by simpa using hx)
 refine(aoA hL (W4 0 22 v (by rw[kF];rfl) rfl) hd oY).mono λe W' ⟨he,D8,sM,hs⟩=>?_;subst he;have sz:W.heap.size<=W'.heap.size:=by rcases auP W.heap.size with h0|h0;omega;have h1:=hs (W.heap.size- 1) zo;rw[au7 (show W.heap.size- 1<W.heap.size by omega)] at h1;have:=(auc.1 h1).1;omega
 have Vn:∀W5:MemPlace->Prop,W.keptBut W' W5:=λW5=>⟨D8,sM,λi hi=>by rw[hs i hi];exact(World.keptBut_refl W W5).2.2 i hi⟩
 have same:∀x∈p,W.sameAt W' x:=λx hx=>by
  have hb:=hs x.block (ao x hx);cases x with
  |cell b off=>simp only[MemPlace.block] at hb;simp only[World.sameAt,World.cell?,hb]
  |map b=>exact hb
 refine⟨_,rfl,[d],[],_,[],p,[],hW',trodAll_mk1 (shut_bool Tryz.underlying4 _),trodAll_mk1 (WideElems.Trod_stays zk zk (aw1 zk) hd same (λx hx=>by simpa using ao x hx)),rfl,Vn _,λh=>by cases h⟩
end Go.Proofs.YtpllhjebgjcigaaGreatDoor
namespace Go.Proofs.YtpllhjebgjcigaaGreatDoor
open Yv Go.ChangeShapes Go.WideShapes Go.ChangeAt Go.RowKit
set_option maxRecDepth 100000
theorem aI{a b:Bool}(h:a=true)(g:b=true):(a&&b)=true:=by rw[h,g];rfl
theorem j0:(Rows.scopeOwnUptoRow.wf (OpenSpec.ofChange (Rows.OpenSpec.upto Rows.scopeOwnSpec).bare))=true:=zk
theorem j1:(laidOutB Tryz.prog)=true:=zk
theorem j2:(mapsRowed Tryz.prog)=true:=zk
theorem j3:(Tryz.f3.params.all (Tryz.prog.readableRec ·))=true:=zk
theorem j4:(namedTie Tryz.prog Rows.scopeOwnUptoRow.named (Rows.OpenSpec.upto Rows.scopeOwnSpec).bare.vars)=true:=zk
theorem j5:((Rows.scopeOwnUptoRow.stops==[]))=true:=zk
theorem j6:((Tryz.prog.stops==[]))=true:=zk
theorem j7:((Rows.scopeOwnUptoRow.knobs==[]))=true:=zk
theorem j8:((Tryz.prog.stopKnobs==[]))=true:=zk
theorem j9:((Rows.scopeOwnUptoRow.inPlace==Tryz.prog.inPlace 3))=true:=zk
theorem j10:((Rows.scopeOwnUptoRow.unfollowed==Tryz.prog.unfollowed 3))=true:=zk
theorem j11:((Rows.scopeOwnUptoRow.recurses==Tryz.prog.recurses 3))=true:=zk
theorem j12:((Rows.scopeOwnUptoRow.named==Tryz.prog.varsNamed 3))=true:=zk
theorem j13:((Rows.scopeOwnUptoRow.maps==(Tryz.f3.params.toList++(Rows.OpenSpec.upto Rows.scopeOwnSpec).bare.plain.varTypes Tryz.prog).any (Tryz.prog.mapsRec ·)))=true:=zk
theorem j14:((Rows.scopeOwnUptoRow.ifaces==(Tryz.f3.params.toList++(Rows.OpenSpec.upto Rows.scopeOwnSpec).bare.plain.varTypes Tryz.prog).any (Tryz.prog.ifacesRec ·)))=true:=zk
theorem j15:((Rows.scopeOwnUptoRow.mapsOut==Tryz.prog.mapsAmong Tryz.f3.resultTypes.toList))=true:=zk
theorem j16:((Rows.scopeOwnUptoRow.loops==(Tryz.f3.params.toList++(Rows.OpenSpec.upto Rows.scopeOwnSpec).bare.plain.varTypes Tryz.prog).any (Tryz.prog.loopsFrom ·)))=true:=zk
theorem j17:((Rows.scopeOwnUptoRow.wideKeys==(Tryz.f3.params.toList++(Rows.OpenSpec.upto Rows.scopeOwnSpec).bare.plain.varTypes Tryz.prog++Tryz.f3.resultTypes.toList).any (Tryz.prog.wideKeysFrom ·)))=true:=zk
theorem j18:((Rows.OpenSpec.upto Rows.scopeOwnSpec).bare.vars.all (Tryz.prog.varReadable ·))=true:=zk
theorem j19:(Tryz.f3.resultTypes.all (λt=>Tryz.prog.readableRec t&&decide (t<Tryz.prog.types.size)))=true:=zk
theorem j20:((Rows.scopeOwnUptoRow.ifacesOut==Tryz.f3.resultTypes.toList.any (Tryz.prog.ifacesRec ·)))=true:=zk
theorem j21:((Rows.scopeOwnUptoRow.loopsOut==Tryz.f3.resultTypes.toList.any (Tryz.prog.loopsFrom ·)))=true:=zk
theorem j22:((Rows.scopeOwnUptoRow.plainKeys==Tryz.prog.plainKeys))=true:=zk
theorem j23:(Rows.scopeOwnUptoRow.shortTexts.isNone)=true:=zk
theorem j24:(Tryz.prog.stopsHeard)=true:=zk
theorem j25:(Tryz.prog.mayEnter)=true:=zk
theorem j26:((Rows.scopeOwnUptoRow.lifted==Tryz.prog.liftsFinal))=true:=zk
theorem j27:((Tryz.prog.make==some Rows.scopeOwnUptoRow.make))=true:=zk
theorem j28:((Rows.scopeOwnUptoRow.kinds==(if Rows.scopeOwnUptoRow.domain.isEmpty then[] else Tryz.f3.params.toList.map λt=>match Tryz.prog.underlying t with|some (.int k)=>some k|_=>none)))=true:=zk
theorem j29:((Rows.scopeOwnUptoRow.pinned==Rows.scopeOwnUptoRow.pinnedBy))=true:=zk
theorem j30:((Rows.scopeOwnUptoRow.veiled==(Tryz.f3.params.toList++(Rows.OpenSpec.upto Rows.scopeOwnSpec).bare.plain.varTypes Tryz.prog++Tryz.f3.resultTypes.toList).any (Tryz.prog.veiledRec ·)))=true:=zk
theorem j31:(Rows.scopeOwnUptoRow.veiledFits Tryz.prog Tryz.f3.params.toList (Tryz.f3.params.toList++(Rows.OpenSpec.upto Rows.scopeOwnSpec).bare.plain.varTypes Tryz.prog++Tryz.f3.resultTypes.toList))=true:=zk
theorem aoF:joinedFacts Tryz.prog 3 Tryz.f3 (Rows.OpenSpec.upto Rows.scopeOwnSpec).bare Rows.scopeOwnUptoRow=true:=by unfold joinedFacts;exact(aI (aI (aI (aI (aI (aI (aI (aI (aI (aI (aI (aI (aI (aI (aI (aI (aI (aI (aI (aI (aI (aI (aI (aI (aI (aI (aI (aI (aI (aI (aI j0 j1) j2) j3) j4) j5) j6) j7) j8) j9) j10) j11) j12) j13) j14) j15) j16) j17) j18) j19) j20) j21) j22) j23) j24) j25) j26) j27) j28) j29) j30) j31)
end Go.Proofs.YtpllhjebgjcigaaGreatDoor
namespace Go.Proofs.YtpllhjebgjcigaaGreatDoor
open Yv Go.ChangeShapes Go.WideShapes Go.ChangeAt Go.RowKit
set_option maxRecDepth 100000
theorem aoG(os:Os):laidMet Tryz.prog Rows.scopeOwnUptoRow.laid ((World.laidAll Tryz.prog os Rows.scopeOwnUptoRow.laid).forCall (λ_ _=>0) ⟨#[],#[.slice none 0 0],[]⟩).memory:=
 laidMet_laidAll _ zk zk
theorem aoH{H:Type}{di:TypeId×Value->H}{C:Checked}{os:Os}{f:FuncId}{fn:Func}{s:OpenSpec}{aeO:List PathCond}{apart:Bool}{laid:List (String×DataW Unit)}(modest:Bool)(w0:World)(args:Array Value)(D8:w0.os=os)
 (D7:(w0.forCall (λ_ _=>0) ⟨#[],args,[]⟩).Shaped C.prog)
 (GN:Input.okWideB C.prog (w0.forCall (λ_ _=>0) ⟨#[],args,[]⟩) f ⟨#[],args,[]⟩=true)
 (kz:s.preRow di C.prog fn aeO apart laid (w0.forCall (λ_ _=>0) ⟨#[],args,[]⟩).memory args):
 ∃(w:World) (tape:Tape) (i:Input),w.os=os/\(w.forCall tape i).Shaped C.prog/\i.vars=[]/\Input.okWide C.prog (w.forCall tape i) .any w.heap.size f i/\
  s.preRow di C.prog fn aeO apart laid (w.forCall tape i).memory i.args/\({modest:=modest}:Assume).holds C.prog (lone (Frame.enter C.prog f i.args .normal) [] (w.forCall tape i)):=
 ⟨w0,λ_ _=>0,⟨#[],args,[]⟩,D8,D7,(Input.okWide_of_okWideB (base:=0) GN).1,(Input.okWide_of_okWideB GN).2,kz,by simp only[Assume.holds];exact⟨by simp,by simp,λ_=>Modest.zero,by simp,by simp⟩⟩
theorem lifted(os:Os)(started:os.Started)(H:Type)(di:TypeId×Value->H)(F:Stop.Interp):
 ReturnsInHanded {} Tryz.checked os 3 .any ((Rows.OpenSpec.upto Rows.scopeOwnSpec).preRow di Tryz.prog Tryz.f3 Rows.scopeOwnUptoRow.domain false Rows.scopeOwnUptoRow.laid) (((Rows.OpenSpec.upto Rows.scopeOwnSpec).at F).post di Tryz.prog Tryz.f3 false true false false):=by
 refine returnsInHanded_of_row (C:=Tryz.checked) (s:=(Rows.OpenSpec.upto Rows.scopeOwnSpec)) own started zk Tryz.func3
  (aoH (di:=di) (C:=Tryz.checked) false (World.laidAll Tryz.prog os Rows.scopeOwnUptoRow.laid) #[.slice none 0 0] (World.laidAll_os _ _ _) (World.shaped_of_ZipB zk zk) zk
   (OpenSpec.preRow_of_cond 8 (show DataW.whole di Tryz.prog _ _ _ false _ 8=some ([.nil],[],[]) by kernel_rfl) zk (λk hk=>by cases hk;kernel_rfl) zk (aoG os))) ?_
 intro W base args ds gs before W4 hW _ Fq _ hL _ _;exact aoE H di W base args ds gs before W4 hW (aw1 (Fq _ rfl)) hL
theorem aoI:Rows.ScopeOwnUptoSaid:=
 OpenClaim.holds_of_cond 3 Tryz.f3 rfl rfl rfl rfl rfl rfl rfl ⟨rfl,rfl,rfl,rfl,rfl⟩ rfl rfl rfl rfl rfl zk Tryz.func3 aoF
  (aw1 zk) (by unfold Func.isWrapper;first|(rw [atV qal];kernel_rfl)|(rw [atS qal];exact⟨rfl,rfl⟩))
  (λos started H di _ F=>by rw[OpenClaim.pre_eq_preRow];exact lifted os started H di F)
theorem plain(f:FuncId)(fn:Func)(hf:Tryz.pinned.checked.prog.funcNamed "emend/emendlaw13.ScopeOwn"=some f)(zL:Tryz.pinned.checked.prog.funcs[f]? =some fn):
 true=Tryz.pinned.checked.prog.looks []/\∀(j:Nat) t,fn.params[j]? =some t->Tryz.pinned.checked.prog.wantsStandIn t=false:=by
 obtain rfl:f=3:=auQ ((show Tryz.prog.funcNamed "emend/emendlaw13.ScopeOwn"=some 3 by kernel_rfl).symm.trans hf)|>.symm;obtain rfl:fn=Tryz.f3:=(auQ (Tryz.func3.symm.trans zL)).symm;refine⟨by kernel_rfl,λj t ht=>?_⟩;have hp:Tryz.f3.params=#[22]:=zk;rw[hp] at ht
 match j,ht with
 |0,ht=>
  have e:t=22:=(auQ (show some 22=some t from ht)).symm;rw[e];exact(by kernel_rfl:Tryz.prog.wantsStandIn 22=false)
 |j+1,ht=>simp at ht
theorem scopeOwnUpto_holds:Rows.ScopeOwnUptoCardSaid:=
 Claim7.holds_tied_plain_at .later [] _ _ _ _ aoI (λ_ h=>by cases h) zk (λ_ h=>by cases h) scopeOwnUpto_row_tie rfl ⟨rfl,rfl⟩ zk rfl plain zk
end Go.Proofs.YtpllhjebgjcigaaGreatDoor
