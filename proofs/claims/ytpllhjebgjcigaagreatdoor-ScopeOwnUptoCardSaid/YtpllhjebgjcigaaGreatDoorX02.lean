/- A part of the proof of 'ScopeOwnUptoCardSaid'. No condition. -/
import Derived.Test.YtpllhjebgjcigaaGreatDoorX01
import Derived.Laws.World
import Derived.Laws.Cells
import GoSem.Dispatch
import Derived.IntWalk
import Derived.Laws.Strings
import Derived.Laws.StructEq
import Derived.Laws.IdiomCopy
import Derived.Laws.Tables
import Derived.Laws.MakeOwn
import Derived.Great.BuildSlice
set_option maxHeartbeats 16000000
set_option maxRecDepth 100000
set_option linter.all false
namespace Yv
open Go
def dH(o:AO):Bool:=
 match o with
 |.eD=>false
 |.uN=>false
 |_=>true
def AY(o:AO):Bool:=
 match o with
 |.eD|.uN|.cB ..=>false
 |_=>true
def AO.sI(o:AO):Bool:=match o with|.cB ..=>true|_=>false
theorem RF{o:AO}(h:AY o=true):dH o=true:=by cases o<;>first|rfl|exact Bool.noConfusion h
theorem afc{o:AO}(h:AY o=true)(hc:o.sI=true):False:=by cases o<;>first|exact Bool.noConfusion hc|exact Bool.noConfusion h
def AO.ro(o:AO):Bool:= !(Nat.beq o.fz 0)
structure qu(φ:aH)(w:World)(i:Nat)(o:AO):Prop where
 wf:o.wf
 unit:o.DO=true->φ.sh i=0/\φ.sz i=o.count
 ro:o.ro=true->∃aO,w.heap[φ.aL i]? =some (.cells aO o.el)
 aL:∃aO fr,w.heap[φ.aL i]? =some (.cells aO o.el fr)/\aO.size=φ.sz i/\φ.sh i+o.count<=aO.size/\
  (∀(j:Nat)(a:AV),o.cell j=some a->∃v,aO[φ.sh i+j]? =some v/\aj φ a v)/\(∀(j:Nat)(v:Value),aO[j]? =some v->v.oneCell'=true)/\
  (∀j:Nat,fr.1 <=j->j<fr.2 ->j<aO.size->j<φ.sh i+o.fz)
def JA(φ:aH)(es:List (AV×AV))(aW:List MapEntry):Prop:=
 ∃l:List MapEntry,l=aW/\l.length=es.length/\∀(k:Nat)(e:AV×AV),es[k]? =some e->∃m,l[k]? =some m/\aj φ e.1 m.key/\aj φ e.2 m.val
def kM(φ:aH)(w:World)(i:Nat)(o:AO):Prop:=
 match o with
 |.one _ _|.rows ..=>qu φ w i o
 |.map es aD=>∃aW,w.heap[φ.aL i]? =some (.map aW aD)/\JA φ es aW.toList/\(aW.toList.map (·.key)).Nodup/\
  (aW.toList.map (·.born)).Nodup/\(∀e∈aW.toList,e.born<aD)/\aW.toList.map (·.born)=List.range aD
 |.jx _ m aD todo eC=>φ.sh i=0/\φ.dom m/\φ.aL m<w.heap.size/\(∀aW fQ,w.heap[φ.aL m]? =some (.map aW fQ)->aD<=fQ)/\∃seen,w.heap[φ.aL i]? =some (.mapIter (some (φ.aL m)) aD seen aD)/\
  ∀aW,w.heap[φ.aL m]? =some (.map aW aD)->
   (∃l:List MapEntry,l.Perm (aW.toList.filter λe=> !seen.contains e.born)/\l.length=todo.length/\∀(k:Nat)(a:AV),todo[k]? =some a->∃e,l[k]? =some e/\aj φ a e.key)/\
   (∀k,eC=some k->∃b e,seen.back?=some b/\e∈aW.toList/\e.born=b/\aj φ k e.key)
 |.cB rw cnt t=>w.heap[φ.aL i]? =some (φ.cB i)/\(AO.rows 0 rw cnt 0 t).wf/\∃aO el fr,φ.cB i=.cells aO el fr/\φ.sh i+cnt*rw<=aO.size/\
  (∀(j:Nat)(a:AV),(AO.rows 0 rw cnt 0 t).cell j=some a->∃v,aO[φ.sh i+j]? =some v/\aj φ a v)/\∀(j:Nat)(v:Value),j<cnt*rw->aO[φ.sh i+j]? =some v->v.oneCell'=true
 |.eD=>True
 |.uN=>True
structure R(φ:aH)(h:Hp)(w:World):Prop where
 dom:∀i,φ.dom i <-> jN (h.get i)=false
 gq:∀i,kM φ w i (h.get i)
 inj:∀i j,dH (h.get i)=true->dH (h.get j)=true->φ.aL i=φ.aL j->i=j\/((h.get i).sI=true/\(h.get j).sI=true)
 lt:∀i,dH (h.get i)=true->φ.aL i<w.heap.size
theorem R.X3{φ:aH}{h:Hp}{w:World}(r:R φ h w){i j:Nat}(h1:AY (h.get i)=true)(h2:dH (h.get j)=true)(e:φ.aL i=φ.aL j):i=j:=by rcases r.inj i j (RF h1) h2 e with x|x;exact x;exact(afc h1 x.1).elim
theorem R.MS{φ:aH}{h:Hp}{w:World}(r:R φ h w){i j:Nat}(h1:dH (h.get i)=true)(h2:AY (h.get j)=true)(e:φ.aL i=φ.aL j):i=j:=(r.X3 h2 h1 e.symm).symm
structure eS(φ:aH)(h:Hp)(w:World)(ψ:aH)(w':World)(h':Hp):Prop where
 le:φ.le ψ
 size:w.heap.size<=w'.heap.size
 frame:∀c,c<w.heap.size->(∀i,dH (h.get i)=true->φ.aL i≠c)->w'.heap[c]? =w.heap[c]?
 xT:∀i,dH (h'.get i)=true->(∃j,dH (h.get j)=true/\φ.aL j=ψ.aL i)\/w.heap.size<=ψ.aL i
 os:w'.os=w.os
 output:w'.output=w.output
 tape:w'.tape=w.tape
theorem eS.refl(φ:aH)(h:Hp)(w:World):eS φ h w φ w h:=
 ⟨.refl φ,at2 _,λ_ _ _=>rfl,λi hi=>.inl ⟨i,hi,rfl⟩,rfl,rfl,rfl⟩
theorem eS.trans{φ ψ χ:aH}{h h1 h2:Hp}{w w1 w2:World}(a:eS φ h w ψ w1 h1)(b:eS ψ h1 w1 χ w2 h2):eS φ h w χ w2 h2 where
 le:=a.le.trans b.le
 size:=at1 a.size b.size
 frame:=λc hc hn=>by rw[b.frame c (aur hc a.size) λi hi=>?_,a.frame c hc hn];rcases a.xT i hi with⟨j,hj,e⟩|g;rw[<-e];exact hn j hj;omega
 xT:=λi hi=>by rcases b.xT i hi with⟨j,hj,e⟩|g;rcases a.xT j hj with⟨k,hk,e2⟩|g2;exact .inl ⟨k,hk,e2.trans e⟩;exact .inr (by rw[<-e];exact g2);exact .inr (at1 a.size g)
 os:=b.os.trans a.os
 output:=b.output.trans a.output
 tape:=b.tape.trans a.tape
theorem qu.mono{φ ψ:aH}{w w':World}{i:Nat}{o:AO}(h:qu φ w i o)(le:φ.le ψ)(d:φ.dom i)(hw:w'.heap[φ.aL i]? =w.heap[φ.aL i]?):qu ψ w' i o:=by obtain⟨wf,hu,hr,aO,fr,h1,h2,h3,h4,h5,h6⟩:=h;refine⟨wf,λho=>by rw[le.sh i d,le.sz i d];exact hu ho,λho=>by rw[le.aL i d,hw];exact hr ho,aO,fr,?_,?_,?_,?_,h5,?_⟩;rw[le.aL i d,hw];exact h1;rw[le.sz i d];exact h2;rw[le.sh i d];exact h3;intro j a ha;obtain⟨v,hv,hd⟩:=h4 j a ha;exact⟨v,by rw[le.sh i d];exact hv,nS le a v hd⟩;rw[le.sh i d];exact h6
theorem JA.mono{φ ψ:aH}(le:φ.le ψ){es:List (AV×AV)}{aW:List MapEntry}(h:JA φ es aW):JA ψ es aW:=by obtain⟨l,h1,h2,h3⟩:=h;refine⟨l,h1,h2,λk e he=>?_⟩;obtain⟨m,hm,d1,d2⟩:=h3 k e he;exact⟨m,hm,nS le _ _ d1,nS le _ _ d2⟩
theorem kM.mono{φ ψ:aH}{w w':World}{i:Nat}{o:AO}(h:kM φ w i o)(le:φ.le ψ)(d:φ.dom i)(cP:w.heap.size<=w'.heap.size)(hw:w'.heap[φ.aL i]? =w.heap[φ.aL i]?)
 (hm:∀ek m aD todo eC,o=.jx ek m aD todo eC->∀aW fQ,w'.heap[φ.aL m]? =some (.map aW fQ)->∃uX wC,w.heap[φ.aL m]? =some (.map uX wC)/\wC<=fQ/\(wC=fQ->
  ∃g:MapEntry->MapEntry,(∀e,(g e).born=e.born)/\(∀e a,e∈uX.toList->aj φ a e.key->aj ψ a (g e).key)/\aW.toList=uX.toList.map g)):kM ψ w' i o:=by
 cases o with
 |one el l=>exact qu.mono h le d hw
 |rows el rw cnt fz t=>exact qu.mono h le d hw
 |map es aD=>
  obtain⟨aW,h1,h2,h3,h4⟩:=h;exact⟨aW,by rw[le.aL i d,hw];exact h1,h2.mono le,h3,h4⟩
 |jx ek m aD todo eC=>
  obtain⟨h0,dm,ao,JB,seen,h1,h2⟩:=h;refine⟨by rw[le.sh i d];exact h0,le.dom m dm,by rw[le.aL m dm];omega,λaW fQ he=>?_,seen,by rw[le.aL i d,hw,le.aL m dm];exact h1,λaW he=>?_⟩;rw[le.aL m dm] at he;obtain⟨uX,wC,e0,dA,_⟩:=hm ek m aD todo eC rfl aW fQ he;exact at1 (JB uX wC e0) dA;rw[le.aL m dm] at he;obtain⟨uX,wC,e0,dA,hg⟩:=hm ek m aD todo eC rfl aW aD he;have nT:wC=aD:=Nat.le_antisymm dA (JB uX wC e0);subst nT;obtain⟨g,g1,g2,g3⟩:=hg rfl;obtain⟨⟨l,l1,l2,l3⟩,hc⟩:=h2 uX e0;have RH:∀e∈l,e∈uX.toList:=λe he=>(avv.1 (l1.mem_iff.1 he)).1;refine⟨⟨l.map g,?_,by simpa using l2,λk a ha=>?_⟩,λk hk=>?_⟩;rw[g3,List.filter_map];refine(l1.map g).trans (List.Perm.of_eq ?_);congr 1;refine awY λe _=>?_;simp[g1];obtain⟨e,he,hd⟩:=l3 k a ha;exact⟨g e,by simp[he],g2 e a (RH e (aua he)) hd⟩;obtain⟨b,e,hb,he,DP,hd⟩:=hc k hk;exact⟨b,g e,hb,by rw[g3];exact awJ he,by rw[g1];exact DP,g2 e k he hd⟩
 |cB rw cnt t=>
  obtain⟨h1,h2,aO,el,fr,h3,h4,h5,h6⟩:=h;refine⟨by rw[le.aL i d,le.cB i d,hw];exact h1,h2,aO,el,fr,by rw[le.cB i d];exact h3,by rw[le.sh i d];exact h4,λj a ha=>?_,λj v hj hv=>h6 j v hj (by rw[<-le.sh i d];exact hv)⟩;obtain⟨v,hv,hd⟩:=h5 j a ha;exact⟨v,by rw[le.sh i d];exact hv,nS le a v hd⟩
 |eD=>trivial
 |uN=>trivial
structure sL(w w':World):Prop where
 heap:w'.heap=w.heap
 os:w'.os=w.os
 output:w'.output=w.output
 tape:w'.tape=w.tape
theorem sL.refl(w:World):sL w w:=⟨rfl,rfl,rfl,rfl⟩
theorem R.same{φ:aH}{h:Hp}{w w':World}(r:R φ h w)(s:sL w w'):R φ h w' where
 dom:=r.dom
 gq:=λi=>by
  by_cases hn:jN (h.get i)=false
  refine(r.gq i).mono (.refl φ) ((r.dom i).2 hn) (by rw[s.heap];exact at2 _) (by rw[s.heap]) λ_ m aD todo eC _ aW fQ he=>⟨aW,fQ,by rw[<-s.heap];exact he,at2 _,λ_=>⟨id,λ_=>rfl,λ_ _ _ h=>h,by simp⟩⟩;have:h.get i=.uN:=by cases hg:h.get i<;>simp_all[jN]
  rw[this];trivial
 inj:=r.inj
 lt:=λi hi=>by rw[s.heap];exact r.lt i hi
theorem eS.same{φ:aH}{h:Hp}{w w':World}(s:sL w w'):eS φ h w φ w' h:=
 ⟨.refl φ,by rw[s.heap];exact at2 _,λ_ _ _=>by rw[s.heap],λi hi=>.inl ⟨i,hi,rfl⟩,s.os,s.output,s.tape⟩
theorem uY{o:AO}(h:dH o=true):jN o=false:=by cases o<;>simp_all[dH,jN]
theorem aoP{o:AO}(h:¬dH o=true)(hn:jN o=false):o=.eD:=by cases o<;>simp_all[dH,jN]
theorem JC{φ:aH}{h h':Hp}{w w':World}{i:Nat}{o':AO}(r:R φ h w)(Gt:AY (h.get i)=true)(fV:dH o'=true)
 (ij:∀j,h'.get j=if j=i then o' else h.get j)
 (cP:w'.heap.size=w.heap.size) (hw:∀c,c≠φ.aL i->w'.heap[c]? =w.heap[c]?) (DQ:kM φ w' i o')
 (hm:∀j ek m aD todo eC,j≠i->h.get j=.jx ek m aD todo eC->φ.aL m=φ.aL i->∀aW fQ,w'.heap[φ.aL m]? =some (.map aW fQ)->
  ∃uX wC,w.heap[φ.aL m]? =some (.map uX wC)/\wC<=fQ/\(wC=fQ->∃g:MapEntry->MapEntry,(∀e,(g e).born=e.born)/\(∀e a,e∈uX.toList->aj φ a e.key->aj φ a (g e).key)/\aW.toList=uX.toList.map g))
 (ho:w'.os=w.os) (sM:w'.output=w.output) (ht:w'.tape=w.tape):R φ h' w'/\eS φ h w φ w' h':=by
 have hl:=RF Gt;refine⟨⟨λj=>?_,λj=>?_,λj k=>?_,λj=>?_⟩,⟨.refl φ,avp cP.symm,λc hc hn=>hw c (Ne.symm (hn i hl)),λj hj=>?_,ho,sM,ht⟩⟩;rw[r.dom j,ij];split;rename_i e;subst e;rw[uY hl,uY fV];rfl;rw[ij];split;rename_i e;subst e;exact DQ;rename_i Gu
 by_cases kL:dH (h.get j)=true
 have bg:φ.aL j≠φ.aL i:=λe=>Gu (r.MS kL Gt e);refine(r.gq j).mono (.refl φ) ((r.dom j).2 (uY kL)) (avp cP.symm) (hw _ bg) λek m aD todo eC e aW fQ he=>?_
 by_cases X4:φ.aL m=φ.aL i
 exact hm j ek m aD todo eC Gu e X4 aW fQ he;exact⟨aW,fQ,by rw[<-hw _ X4];exact he,at2 _,λ_=>⟨id,λ_=>rfl,λ_ _ _ h=>h,by simp⟩⟩;cases hg:h.get j<;>simp_all[dH,kM];simp only[ij];intro h1 h2 e;split at h1<;>split at h2;rename_i a b;exact .inl (by rw[a,b]);rename_i a b;subst a;exact .inl (r.X3 Gt h2 e);rename_i a b;subst b;exact .inl (r.MS h1 Gt e);rename_i a b;rw[atS a,atS b];exact r.inj _ _ h1 h2 e;rw[ij,cP];intro h1;split at h1;rename_i e;subst e;exact r.lt _ hl;exact r.lt _ h1;rw[ij] at hj;split at hj;rename_i e;subst e;exact .inl ⟨_,hl,rfl⟩;exact .inl ⟨_,hj,rfl⟩
def aH.put(φ:aH)(n:Nat)(b s z:Nat):aH where
 dom:=λj=>j=n\/φ.dom j
 aL:=λj=>if j=n then b else φ.aL j
 sh:=λj=>if j=n then s else φ.sh j
 sz:=λj=>if j=n then z else φ.sz j
 cB:=φ.cB
 prog:=φ.prog
theorem aH.Ca{φ:aH}{n:Nat}{b s z:Nat}(h:¬φ.dom n):φ.le (φ.put n b s z) where
 dom:=λ_ d=>.inr d
 aL:=λi d=>by simp only[aH.put];rw[atS];rintro rfl;exact h d
 sh:=λi d=>by simp only[aH.put];rw[atS];rintro rfl;exact h d
 sz:=λi d=>by simp only[aH.put];rw[atS];rintro rfl;exact h d
 cB:=λ_ _=>rfl
 prog:=rfl
theorem MT{φ:aH}{h h':Hp}{w w':World}{n:Nat}{o':AO}{b s z:Nat}{qv:Option Nat}(r:R φ h w)(hn:jN (h.get n)=true)(fV:dH o'=true)
 (X5:∀i,qv=some i->AY (h.get i)=true)
 (ij:∀j,h'.get j=if j=n then o' else if qv=some j then .eD else h.get j)
 (hb:b=w.heap.size\/∃i,qv=some i/\b=φ.aL i) (RI:b<w'.heap.size)
 (cP:w.heap.size<=w'.heap.size) (hw:∀c,c<w.heap.size->c≠b->w'.heap[c]? =w.heap[c]?)
 (afd:∀aW aD,w'.heap[b]? ≠some (.map aW aD)\/b=w.heap.size)
 (DQ:kM (φ.put n b s z) w' n o')
 (ho:w'.os=w.os) (sM:w'.output=w.output) (ht:w'.tape=w.tape):R (φ.put n b s z) h' w'/\eS φ h w (φ.put n b s z) w' h':=by
 have RJ:∀i,qv=some i->dH (h.get i)=true:=λi hi=>RF (X5 i hi);have dB:¬φ.dom n:=λd=>by rw[(r.dom n).1 d] at hn;cases hn
 have le:φ.le (φ.put n b s z):=aH.Ca dB;have sN:∀j,j≠n->(φ.put n b s z).aL j=φ.aL j:=λj hj=>by simp only[aH.put,atS hj]
 have MU:(φ.put n b s z).aL n=b:=by simp only[aH.put,auo]
 have hnl:dH (h.get n)=false:=by cases hg:h.get n<;>simp_all[jN,dH]
 have DR:∀j,j≠n->dH (h'.get j)=true->dH (h.get j)=true/\φ.aL j≠b:=by intro j hj zz;rw[ij,atS hj] at zz;split at zz;cases zz;rename_i hk;refine⟨zz,λe=>?_⟩;rcases hb with e2|⟨i,hi,e2⟩;have:=r.lt j zz;omega;have:j=i:=r.MS zz (X5 i hi) (e.trans e2);subst this;exact hk hi
 have zB:∀j,j≠n->dH (h'.get j)=true->h'.get j=h.get j:=by intro j hj zz;rw[ij,atS hj] at zz⊢;split at zz;cases zz;rename_i hk;rw[atS hk]
 refine⟨⟨λj=>?_,λj=>?_,λj k=>?_,λj=>?_⟩,⟨le,cP,λc hc bg=>hw c hc ?_,λj hj=>?_,ho,sM,ht⟩⟩;rw[ij]
 by_cases e:j=n
 subst e;simp only[aH.put,true_or,auo,true_iff];exact uY fV;rw[atS e];simp only[aH.put];split;rename_i hk;constructor;intro;rfl;intro;exact .inr ((r.dom j).2 (uY (RJ j hk)));rw[<-r.dom j];simp[e];rw[ij]
 by_cases e:j=n
 subst e;rw[atV rfl];exact DQ;rw[atS e];split;trivial;rename_i hk
 by_cases kL:dH (h.get j)=true
 have afe:dH (h'.get j)=true:=by rw[ij,atS e,atS hk];exact kL
 obtain⟨_,bg⟩:=DR j e afe;refine(r.gq j).mono le ((r.dom j).2 (uY kL)) cP (hw _ (r.lt j kL) bg) λek m aD todo eC eo aW fQ he=>?_;have JD:=r.gq j;rw[eo] at JD;obtain⟨_,dm,ao,_,seen,_,hh⟩:=JD
 by_cases mP:φ.aL m=b
 rcases afd aW fQ with jK|hbs;exact absurd (mP▸he) jK;omega;exact⟨aW,fQ,by rw[<-hw _ ao mP];exact he,at2 _,λ_=>⟨id,λ_=>rfl,λ_ _ _ h=>nS le _ _ h,by simp⟩⟩;cases hg:h.get j<;>simp_all[dH,kM];intro h1 h2 e
 by_cases ej:j=n
 by_cases ek:k=n
 exact .inl (by rw[ej,ek]);exfalso;rw[sN k ek,ej,MU] at e;exact(DR k ek h2).2 e.symm
 by_cases ek:k=n
 exfalso;rw[sN j ej,ek,MU] at e;exact(DR j ej h1).2 e;rw[sN j ej,sN k ek] at e;rw[zB j ej h1,zB k ek h2];exact r.inj j k (DR j ej h1).1 (DR k ek h2).1 e;intro h1
 by_cases ej:j=n
 rw[ej,MU];exact RI;rw[sN j ej];exact aur (r.lt j (DR j ej h1).1) cP;rintro rfl;rcases hb with e|⟨i,hi,e⟩;omega;exact bg i (RJ i hi) e.symm
 by_cases ej:j=n
 rw[ej,MU];rcases hb with e|⟨i,hi,e⟩;exact .inr (avp e.symm);exact .inl ⟨i,RJ i hi,e.symm⟩;rw[sN j ej];exact .inl ⟨j,(DR j ej hj).1,rfl⟩
theorem X6:∀(bs:List Nat),(∀b∈bs,b<256)->hO bs.length (cO bs)=bs
 |[],_=>rfl
 |b::r,h=>by
  have hb:=h b zm;have ih:=X6 r (λx hx=>h x qaA);simp only[atX,hO,cO];have e1:Nat.mod (Nat.add b (Nat.shiftLeft (cO r) 8)) 256=b:=by show(b+cO r<<<8)% 256=b;rw[auL];omega
  have e2:Nat.shiftRight (Nat.add b (Nat.shiftLeft (cO r) 8)) 8=cO r:=by show(b+cO r<<<8)>>>8=_;rw[auL,auH];omega
  rw[e1,e2,ih]
theorem RK:∀(l n:Nat),(hO l n).length=l
 |0,_=>rfl
 |l+1,n=>by simp[hO,RK l]
theorem X7(n i:Nat):lF (Nat.shiftRight n 8) i=lF n (i+1):=by show(n>>>8)>>>(8*i)% 256=n>>>(8*(i+1))% 256;rw[<-awl];congr 2;omega
theorem MV:∀(l n i:Nat),i<l->(hO l n)[i]? =some (lF n i)
 |0,_,_,h=>absurd h (avm _)
 |l+1,n,0,_=>by simp[hO,lF]
 |l+1,n,i+1,h=>by simp only[hO,auV];rw[MV l _ i zo,X7]
theorem aoQ(n i:Nat):lF n i<256:=avn _ zd
theorem kR.size{l n:Nat}{s:ByteArray}(h:kR l n s):s.size=l:=by have:=aui List.length h.1;simpa[RK] using this
theorem kR.get{l n:Nat}{s:ByteArray}(h:kR l n s){i:Nat}(hi:i<l):∃b:UInt8,s[i]? =some b/\b.toNat=lF n i:=by
 have hs:=h.size;have dD:i<s.size:=zo;refine⟨s[i],axb s i dD,?_⟩;have h1:=MV l n i hi;rw[<-h.1,auh] at h1;have:s.data.toList[i]? =some s[i]:=by rw[at5];exact axb s.data i dD
 rw[this] at h1;simpa using h1
theorem X8:∀(bs:List Nat),(∀b∈bs,b<256)->cO bs<256^bs.length
 |[],_=>by simp[cO]
 |b::r,h=>by have hb:=h b zm;have ih:=X8 r (λx hx=>h x qaA);show b+cO r<<<8<256^(r.length+1);rw[auL,auX];omega
theorem MW(s:ByteArray)(l:List Nat)(h:s.data.toList.map (·.toNat)=l):kR l.length (cO l) s:=by
 have hb:∀b∈l,b<256:=by intro b hb;rw[<-h] at hb;simp only[auR] at hb;obtain⟨x,_,rfl⟩:=hb;exact x.toNat_lt
 exact⟨by rw[h,X6 l hb],X8 l hb⟩
theorem aff(s:ByteArray):kR s.size (cO (s.data.toList.map (·.toNat))) s:=by have:=MW s _ rfl;simpa using this
theorem X9:∀(l n m:Nat),n<256^l->m<256^l->hO l n=hO l m->n=m
 |0,n,m,h1,h2,_=>by simp at h1 h2;omega
 |l+1,n,m,h1,h2,h=>by
  simp only[hO,awm] at h;obtain⟨e1,e2⟩:=h;have e1':n% 256=m% 256:=e1;have g:Nat.shiftRight n 8=Nat.shiftRight m 8:=X9 l _ _ (by
   show n>>>8<_;rw[auH,auX] at*;omega) (by
   show m>>>8<_;rw[auH,auX] at*;omega) e2
  have g':n/256=m/256:=by have:n>>>8=m>>>8:=g;simpa[auH] using this
  omega
theorem Ya:∀(l n:Nat),hO l (n% 256^l)=hO l n
 |0,_=>rfl
 |l+1,n=>by simp only[hO,awm];constructor;show n% 256^(l+1)% 256=n% 256;rw[auX,Nat.mod_mul_left_mod];rw[<-Ya l (Nat.shiftRight n 8)];congr 1;show(n% 256^(l+1))>>>8=(n>>>8)% 256^l;rw[auH,auH,auX,auB,Nat.mod_mul_right_div_self]
theorem Yb:∀(k l n:Nat),hO l (n>>>(8*k))=(hO (k+l) n).drop k
 |0,l,n=>by simp
 |k+1,l,n=>by rw[show k+1+l=(k+l)+1 from by omega];simp only[hO,awK];rw[<-Yb k l (Nat.shiftRight n 8)];congr 1;show n>>>(8*(k+1))=(n>>>8)>>>(8*k);rw[<-awl];congr 1;omega
theorem Yc:∀(l k n:Nat),hO l n=(hO (l+k) n).take l
 |0,k,n=>by simp[hO]
 |l+1,k,n=>by rw[show l+1+k=(l+k)+1 from by omega];simp only[hO,awj];rw[<-Yc l k]
theorem JE(k:Nat):2^(8*k)=256^k:=by rw[Nat.pow_mul]
theorem kR.sub{l n a b:Nat}{s:ByteArray}(h:kR l n s)(qU:a<=b)(hb:b<=l):kR (b- a) (Yv.sub n a b) (s.extract a b):=by
 have e:Yv.sub n a b=(n>>>(8*a))% 256^(b- a):=by show(n>>>(8*a))% 2^(8*(b- a))=_;rw[JE]
 refine⟨?_,by rw[e];exact avn _ (auZ zd)⟩;rw[e,Ya,Yb,show a+(b- a)=b from by omega];have h1:=h.1;have h2:hO b n=(hO l n).take b:=by have:=Yc b (l- b) n;rwa[show b+(l- b)=l from by omega] at this
 rw[h2,<-h1];simp[List.map_take,List.map_drop,awS,qU]
theorem Yd:∀(l k n m:Nat),n<256^l->hO (l+k) (n+m<<<(8*l))=hO l n++hO k m
 |0,k,n,m,h=>by simp at h;subst h;simp[hO]
 |l+1,k,n,m,h=>by rw[show l+1+k=(l+k)+1 from by omega];simp only[hO,auY,awm];constructor;show(n+m<<<(8*(l+1)))% 256=n% 256;rw[auL,JE,auX,<-avM];omega;rw[<-Yd l k (Nat.shiftRight n 8) m];congr 1;show(n+m<<<(8*(l+1)))>>>8=n>>>8+m<<<(8*l);rw[auH,auH,auL,auL,JE,JE,auX,<-avM];omega;show n>>>8<256^l;rw[auH];rw[auX] at h;omega
theorem kR.FM{l n k m:Nat}{s t:ByteArray}(h:kR l n s)(g:kR k m t):kR (l+k) (Yv.FM l n m) (s++t):=by have e:Yv.FM l n m=n+m<<<(8*l):=rfl;refine⟨?_,?_⟩;rw[e,Yd l k n m h.2,<-h.1,<-g.1];simp;rw[e,auL,JE,auT];have h1:=h.2;have h2:=g.2;have h3:(m+1)*256^l<=256^k*256^l:=at4 _ h2;rw[auC] at h3;rw[auB (256^l)];omega
theorem kR.eq_iff{l n k m:Nat}{s t:ByteArray}(h:kR l n s)(g:kR k m t):(l=k/\n=m) <-> s=t:=by
 constructor;rintro⟨rfl,rfl⟩;have:s.data.toList.map (·.toNat)=t.data.toList.map (·.toNat):=h.1.trans g.1.symm;have e:s.data.toList=t.data.toList:=(axz λa b h=>avi.1 h).1 this;have:s.data=t.data:=aw5.1 e;cases s;cases t;simp_all;rintro rfl;have hl:l=k:=by rw[<-h.size,<-g.size]
 subst hl;exact⟨rfl,X9 l n m h.2 g.2 (h.1.symm.trans g.1)⟩
theorem afg{i j:aM}(h:i.n=j.n):i=j:=by cases i;cases j;exact aui aM.mk h
theorem Ye{a b:Bool}(h:Jf a b=true):a=b:=by cases a<;>cases b<;>simp_all[Jf]
theorem MX{a b:Int}(h:mJ a b=true):a=b:=by cases a<;>cases b<;>simp only[mJ,at3] at h<;>rw[at7 h]
theorem afh{a b:IntKind}(h:qh a b=true):a=b:=by cases a<;>cases b<;>first|rfl|(simp[qh,Mm] at h)
theorem afi{a b:FloatKind}(h:uP a b=true):a=b:=by cases a<;>cases b<;>first|rfl|cases h
mutual
theorem RL:∀(x y:AV),fP x y=true->x=y
 |.any,y,h=>by cases y<;>simp_all[fP]
 |.bool a,y,h=>by cases y<;>simp[fP] at h;rw[Ye h]
 |.i a,y,h=>by cases y<;>simp[fP] at h;rw[MX h]
 |.u8 a,y,h=>by cases y<;>simp[fP] at h;rw[h]
 |.int k a,y,h=>by cases y<;>simp[fP] at h;rw[afh h.1,MX h.2]
 |.bN k a,y,h=>by cases y<;>simp[fP] at h;rw[afi h.1,h.2]
 |.str a b,y,h=>by cases y<;>simp[fP] at h;rw[h.1,h.2]
 |.ptr i o,y,h=>by cases y<;>simp[fP] at h;rw[(h.1),h.2]
 |.gJ,y,h=>by cases y<;>simp_all[fP]
 |.slice i o r l c e,y,h=>by cases y<;>simp[fP] at h;obtain⟨⟨⟨⟨⟨h1,h2⟩,h3⟩,h4⟩,h5⟩,h6⟩:=h;rw[(h1),h2,h3,h4,h5,Ye h6]
 |.bx,y,h=>by cases y<;>simp_all[fP]
 |.map i,y,h=>by cases y<;>simp[fP] at h;rw[(h)]
 |.kQ,y,h=>by cases y<;>simp_all[fP]
 |.func f a b,y,h=>by cases y<;>simp[fP] at h;obtain⟨⟨h1,h2⟩,h3⟩:=h;rw[afg h1,JF _ _ h2,JF _ _ h3]
 |.qg,y,h=>by cases y<;>simp_all[fP]
 |.iface t v,y,h=>by cases y<;>simp[fP] at h;rw[h.1,RL _ _ h.2]
 |.ji,y,h=>by cases y<;>simp_all[fP]
 |.agg l,y,h=>by cases y<;>simp[fP] at h;rw[JF _ _ h]
 |.bA l,y,h=>by cases y<;>simp[fP] at h;rw[JF _ _ h]
 |.Dl,y,h=>by cases y<;>simp_all[fP]
 |.ge a,y,h=>by cases y<;>simp[fP] at h;rw[MX h]
 |.le a,y,h=>by cases y<;>simp[fP] at h;rw[MX h]
theorem JF:∀(l m:List AV),zj l m=true->l=m
 |[],m,h=>by cases m<;>simp_all[zj]
 |x::l,m,h=>by cases m<;>simp[zj] at h;rw[RL _ _ h.1,JF _ _ h.2]
end
def Dn(a:Prop)(_:aK):Prop:=a
theorem Dn.bad{o:aK}(h:Dn False o):False:=h
theorem afj{k:Hp->Prop}{l:List Hp}{o:aK}(h:Dn (Jg k l) o):∀g∈l,Dn (k g) o:=h
def HLe(h g:Hp):Prop:=∀i,g.get i=h.get i\/g.get i=.eD
theorem R.Yf{φ:aH}{h g:Hp}{w:World}(r:R φ h w)(le:HLe h g):∃ψ:aH,φ.le ψ/\R ψ g w/\(∀i,dH (g.get i)=true->dH (h.get i)=true/\ψ.aL i=φ.aL i):=by
 have zC:∀i,dH (g.get i)=true->g.get i=h.get i:=λi hi=>by rcases le i with e|e;exact e;rw[e] at hi;cases hi
 refine⟨⟨λi=>φ.dom i\/jN (g.get i)=false,φ.aL,φ.sh,φ.sz,φ.cB,φ.prog⟩,⟨λi d=>.inl d,λ_ _=>rfl,λ_ _=>rfl,λ_ _=>rfl,λ_ _=>rfl,rfl⟩,⟨λi=>?_,λi=>?_,λi j hi hj=>?_,λi hi=>?_⟩,λi hi=>⟨by rw[<-zC i hi];exact hi,rfl⟩⟩;constructor;rintro(d|e);rcases le i with e|e;rw[e];exact(r.dom i).1 d;rw[e];rfl;exact e;exact .inr;rcases le i with e|e;rw[e]
 by_cases hn:jN (h.get i)=false
 exact(r.gq i).mono ⟨λi d=>.inl d,λ_ _=>rfl,λ_ _=>rfl,λ_ _=>rfl,λ_ _=>rfl,rfl⟩ ((r.dom i).2 hn) zl rfl λ_ m aD todo eC _ aW fQ he=>⟨aW,fQ,he,at2 _,λ_=>⟨id,λ_=>rfl,λe a _ hd=>nS (ψ:=⟨λi=>φ.dom i\/jN (g.get i)=false,φ.aL,φ.sh,φ.sz,φ.cB,φ.prog⟩) ⟨λi d=>.inl d,λ_ _=>rfl,λ_ _=>rfl,λ_ _=>rfl,λ_ _=>rfl,rfl⟩ _ _ hd,by simp⟩⟩;have:h.get i=.uN:=by cases hg:h.get i<;>simp_all[jN]
 rw[this];trivial;rw[e];trivial;have h1:=hi;have h2:=hj
 rw[zC i hi] at h1;rw[zC j hj] at h2;rw[zC i hi,zC j hj];exact r.inj i j h1 h2;exact r.lt i (by rw[<-zC i hi];exact hi)
theorem eS.Yf{φ ψ χ:aH}{h h' g:Hp}{w w':World}(s:eS φ h w ψ w' h')(le:ψ.le χ)(hl:∀i,dH (g.get i)=true->dH (h'.get i)=true/\χ.aL i=ψ.aL i):eS φ h w χ w' g where
 le:=s.le.trans le
 size:=s.size
 frame:=s.frame
 xT:=λi hi=>by obtain⟨h1,h2⟩:=hl i hi;rcases s.xT i h1 with⟨j,hj,e⟩|e;exact .inl ⟨j,hj,by rw[h2];exact e⟩;exact .inr (by rw[h2];exact e)
 os:=s.os
 output:=s.output
 tape:=s.tape
structure iq(φ:aH)(f:Fr)(tmps:Array Value):Prop where
 all:∀t,aj φ (J (gz t) f) (tmps.getD t Go.undef)
theorem iq.at_{φ:aH}{f:Fr}{tmps:Array Value}(h:iq φ f tmps)(t:Nat)(_:t<512):aj φ (J (gz t) f) (tmps.getD t Go.undef):=h.all t
theorem iq.mono{φ ψ:aH}{f:Fr}{tmps:Array Value}(h:iq φ f tmps)(le:φ.le ψ):iq ψ f tmps:=⟨λt=>nS le _ _ (h.all t)⟩
theorem RM(p q:Nat)(v:AV)(f:Fr):J p (fO q v f)=if p=q then v else J p f:=by
 unfold J fO
 by_cases h:p=q
 subst h;simp;rw[atS h,Jy h];rfl
theorem aoR(t u:Nat)(_:t<512)(_:u<512)(v:AV)(f:Fr):J (gz t) (fO (gz u) v f)=if t=u then v else J (gz t) f:=RM ..
theorem iq.put{φ:aH}{f:Fr}{a:Act}(h:iq φ f a.tmps){d:Option Nat}{x:AV}{v:Value}(hd:∀t,d=some t->t<a.tmps.size/\t<512) (hx:aj φ x v):
 iq φ (Yv.put (d.map gz) x f) (a.put d v).tmps:=by
 cases d with
 |none=>exact h
 |some u=>
  obtain⟨h1,h2⟩:=hd u rfl;refine⟨λt=>?_⟩;simp only[au3,Yv.put,Act.put];rw[RM (gz t) (gz u)];show aj φ (if t=u then x else J (gz t) f) _
  by_cases e:t=u
  subst e;rw[atV rfl];simpa[h1] using hx;rw[atS e];have:=h.all t;have e2:(a.tmps.setIfInBounds u v).getD t Go.undef=a.tmps.getD t Go.undef:=by simp only[av2];rw[avS (Ne.symm e)]
  rw[e2];exact this
theorem MY(a:Act)(d:Option Nat)(v:Value):(a.put d v).tmps.size=a.tmps.size:=by cases d<;>simp[Act.put]
theorem MZ(a:Act)(d:Option Nat)(v:Value):(a.put d v).defers=a.defers:=by cases d<;>rfl
theorem RN{α β:Type}{f:α->Option β}:∀{l:List α}{r:List β},iJ f l=some r->r.length=l.length/\∀(k:Nat)(x:α),l[k]? =some x->∃y,r[k]? =some y/\f x=some y
 |[],r,h=>by simp only[iJ,atU] at h;subst h;simp
 |x::l,r,h=>by
  simp only[iJ] at h;split at h;rename_i y r' hy hr;cases h;obtain⟨h1,h2⟩:=RN hr;refine⟨by simp[h1],λk z hk=>?_⟩;cases k with
  |zero=>simp at hk;subst hk;exact⟨y,by simp,hy⟩
  |succ k=>simp at hk;obtain⟨y',g1,g2⟩:=h2 k z hk;exact⟨y',by simpa using g1,g2⟩
  cases h
theorem Yg{φ:aH}{x:AV}{v:Value}(hc:qM x=true)(h:aj φ x v):v.oneCell'=true:=by
 cases x<;>simp only[qM,at3] at hc<;>simp only[aj] at h
 case bool=>subst h;rfl
 case Dl=>obtain⟨_,rfl⟩:=h;rfl
 case ge=>obtain⟨_,rfl,_⟩:=h;rfl
 case le=>obtain⟨_,rfl,_⟩:=h;rfl
 case i=>subst h;rfl
 case u8=>subst h;rfl
 case int=>subst h;rfl
 case bN=>subst h;rfl
 case str=>obtain⟨_,rfl,_⟩:=h;rfl
 case ptr=>obtain⟨_,rfl⟩:=h;rfl
 case gJ=>subst h;rfl
 case slice=>obtain⟨_,_,_,rfl,_⟩:=h;rfl
 case bx=>subst h;rfl
 case map=>obtain⟨_,rfl⟩:=h;rfl
 case kQ=>subst h;rfl
 case func=>obtain⟨_,_,rfl,_⟩:=h;rfl
 case qg=>subst h;rfl
 case iface=>obtain⟨_,rfl,_⟩:=h;rfl
 case ji=>subst h;rfl
theorem Yh{φ:aH}:∀{l:List AV}{vs:List Value},F7 l=true->cz φ l vs->∀v∈vs,v.oneCell'=true
 |[],vs,_,h=>by simp only[cz] at h;subst h;simp
 |x::l,vs,hc,h=>by simp only[F7,atW] at hc;simp only[cz] at h;obtain⟨v,r,rfl,h1,h2⟩:=h;intro u hu;rcases atZ.1 hu with rfl|hu;exact Yg hc.1 h1;exact Yh hc.2 h2 u hu
theorem RP{φ:aH}:∀(d:Nat)(v:Value)(x:AV),mh d v=some x->aj φ x v
 |0,_,_,h=>by simp[mh] at h
 |d+1,v,x,h=>by
  have hl:∀(l:List Value)(r:List AV),iJ (mh d) l=some r->cz φ r l:=λl r hm=>by
   obtain⟨h1,h2⟩:=RN hm;refine Gn h1.symm λj a ha=>?_;have hj:j<l.length:=by rw[<-h1];exact(at0.1 ha).1
   obtain⟨y,hy,hf⟩:=h2 j l[j] (atT hj);rw[ha] at hy;cases hy;exact⟨l[j],atT hj,RP d _ _ hf⟩
  cases v with
  |bool b=>simp only[mh,atU] at h;subst h;simp only[aj]
  |int k n=>
   cases k<;>simp only[mh] at h
   case u8=>cases n<;>simp only[atU,reduceCtorEq] at h;subst h;simp only[aj];rfl
   all_goals(simp only[atU] at h;subst h;simp only[aj])
  |float k b=>simp only[mh,atU] at h;subst h;simp only[aj]
  |complex=>simp[mh] at h
  |string s=>simp only[mh,atU] at h;subst h;simp only[strOf,aj];exact⟨s,rfl,aff s⟩
  |pointer a=>cases a<;>simp only[mh,atU,reduceCtorEq] at h;subst h;simp only[aj]
  |slice a l c=>
   simp only[mh] at h;split at h<;>simp_all;subst h;simp only[aj]
  |map r=>cases r<;>simp only[mh,atU,reduceCtorEq] at h;subst h;simp only[aj]
  |chan=>simp[mh] at h
  |func=>simp[mh] at h
  |nilFunc=>simp only[mh,atU] at h;subst h;simp only[aj]
  |iface=>simp[mh] at h
  |nilIface=>simp only[mh,atU] at h;subst h;simp only[aj]
  |agg cs=>
   simp only[mh] at h;split at h;rename_i l hm;split at h;rename_i hc;cases h;simp only[aj];exact⟨cs,rfl,hl _ _ hm,Yh hc (hl _ _ hm)⟩;cases h;cases h
  |tuple cs=>
   simp only[mh] at h;split at h;rename_i l hm;cases h;simp only[aj];exact⟨cs,rfl,hl _ _ hm⟩;cases h
def jq(φ:aH)(P:Program):Prop:=φ.prog=P/\∀g,g<P.globals.size->g<1152921504606846976->φ.dom (gid g)/\φ.aL (gid g)=g/\φ.sh (gid g)=0
theorem jq.mono{φ ψ:aH}{P:Program}(h:jq φ P)(le:φ.le ψ):jq ψ P:=⟨le.prog.trans h.1,λg h1 h2=>by obtain⟨d,e1,e2⟩:=h.2 g h1 h2;exact⟨le.dom _ d,by rw[le.aL _ d,e1],by rw[le.sh _ d,e2]⟩⟩
theorem Gv{φ:aH}{P:Program}(G:jq φ P){f:Fr}{a:Act}(hf:iq φ f a.tmps){x:Operand}{c:CX}(h:tN P x=some c):aj φ (c.get f) (a.eval x):=by
 cases x with
 |tmp t=>
  simp only[tN] at h;split at h;rename_i ht;cases h;exact hf.at_ t ht;cases h
 |const v=>
  simp only[tN] at h;split at h;rename_i y hy;cases h;exact RP _ _ _ hy;cases h
 |global g=>
  simp only[tN] at h;split at h;rename_i hg;cases h;obtain⟨d,e1,e2⟩:=G.2 g hg.1 hg.2;simp only[CX.get,aj,Act.eval];exact⟨d,by rw[e1,e2]⟩;cases h
 |func g=>
  simp only[tN,atU] at h;subst h;simp only[CX.get,aj,Act.eval];exact⟨#[],#[],rfl,sJ,sJ⟩
theorem Yi{φ:aH}{P:Program}(G:jq φ P){f:Fr}{a:Act}(hf:iq φ f a.tmps):∀{l:List Operand}{cs:List CX},iJ (tN P) l=some cs->cz φ (jc (λx=>x.get f) cs) (l.map a.eval)
 |[],cs,h=>by simp only[iJ,atU] at h;subst h;exact sJ
 |x::l,cs,h=>by simp only[iJ] at h;split at h;rename_i y r hy hr;cases h;exact qS.2 ⟨Gv G hf hy,Yi G hf hr⟩;cases h
def M0(n:Next)(v:Value):Prop:=n=.value v\/(n=.skip/\v=Go.undef)
def JG(φ:aH)(d:Df)(dd:Deferred):Prop:=
 match d with
 |.fn g rR=>∃cap args cs,dd.target=.fn (.func g.n) cap/\dd.args=args/\cz φ rR cs/\cs=args.toList++cap.toList
def Gw(P:Program)(φ:aH)(h:Hp)(w:World)(jk:Result Next):OR->Prop
 |.v x=>∃n v w',jk=.ok n w'/\M0 n v/\aj φ x v/\sL w w'
 |.vh x h'=>∃n v w' ψ,jk=.ok n w'/\M0 n v/\R ψ h' w'/\eS φ h w ψ w' h'/\aj ψ x v
 |.call g args=>∃vs w',jk=(callFunc g.n vs).run P w'/\sL w w'/\cz φ args vs.toList
 |.df d=>∃dd w',jk=.ok (.defer dd) w'/\sL w w'/\JG φ d dd
 |.bn x=>∃v w',jk=.halt (.panic v) w'/\sL w w'/\aj φ x v
 |.alts l=>∃n v w' ψ h',h'∈l/\jk=.ok n w'/\M0 n v/\R ψ h' w'/\eS φ h w ψ w' h'/\aj ψ wm v
 |.bad _=>True
section
variable{P:Program}{φ:aH}{h:Hp}{w:World}{f:Fr}{a:Act}{o:Oper}
def Good(P:Program)(φ:aH)(h:Hp)(w:World)(f:Fr)(a:Act)(o:Oper)(co:CO):Prop:=Gw P φ h w ((execOp a.eval o).run P w) (aQ co f h)
theorem cy{s:String}:Good P φ h w f a o (.bad s):=trivial
theorem gY(G:jq φ P)(hf:iq φ f a.tmps){F:CX->CO}{x:Operand}(hg:∀c,aj φ (c.get f) (a.eval x)->Good P φ h w f a o (F c)):Good P φ h w f a o (ap P F x):=by unfold ap;split;rename_i c hc;exact hg c (Gv G hf hc);exact cy
theorem kA(G:jq φ P)(hf:iq φ f a.tmps){F:CX->CX->CO}{x y:Operand}(hg:∀c d,aj φ (c.get f) (a.eval x)->aj φ (d.get f) (a.eval y)->Good P φ h w f a o (F c d)):Good P φ h w f a o (jm P F x y):=
 gY G hf λc hc=>gY G hf λd hd=>hg c d hc hd
def Yj(φ:aH)(f:Fr)(ρ:Operand->Value):Option CX->Option Operand->Prop
 |none,none=>True
 |some c,some x=>aj φ (c.get f) (ρ x)
 |_,_=>False
theorem M1(G:jq φ P)(hf:iq φ f a.tmps){F:Option CX->CO}{x:Option Operand}(hg:∀c,Yj φ f a.eval c x->Good P φ h w f a o (F c)):Good P φ h w f a o (zh P F x):=by unfold zh;split;exact hg none trivial;exact gY G hf λc hc=>hg (some c) hc
theorem Cc(G:jq φ P)(hf:iq φ f a.tmps){F:List CX->CO}{l:List Operand}(hg:∀cs,cz φ (jc (λx=>x.get f) cs) (l.map a.eval)->Good P φ h w f a o (F cs)):Good P φ h w f a o (qP P F l):=by unfold qP;split;rename_i cs hc;exact hg cs (Yi G hf hc);exact cy
theorem RQ{jk:Result Next}{x:AV}{v:Value}(hr:jk=.ok (.value v) w)(hx:aj φ x v):Gw P φ h w jk (.v x):=⟨_,v,w,hr,.inl rfl,hx,.refl w⟩
def dI(P:Program)(φ:aH)(w:World)(s:Sem Value):OR->Prop
 |.v x=>∃v,s.run P w=.ok v w/\aj φ x v
 |.bad _=>True
 |_=>False
theorem iO{co:CO}{s:Sem Value}(he:execOp a.eval o=(do pure (.value (<-s))))(hp:dI P φ w s (aQ co f h)):Good P φ h w f a o co:=by
 unfold Good;rw[he];cases hr:aQ co f h with
 |v x=>
  rw[hr] at hp;obtain⟨v,h1,h2⟩:=hp;exact RQ (by simp[h1]) h2
 |bad s=>trivial
 |vh=>rw[hr] at hp;exact hp.elim
 |call=>rw[hr] at hp;exact hp.elim
 |df=>rw[hr] at hp;exact hp.elim
 |bn=>rw[hr] at hp;exact hp.elim
 |alts=>rw[hr] at hp;exact hp.elim
end
section
variable{P:Program}{φ:aH}{h:Hp}{w:World}{f:Fr}{a:Act}{o:Oper}
theorem afk:(Du:Int)=9223372036854775807:=by unfold Du;rfl
theorem afl(n:Int):0<=IntKind.u8.wrap n:=by rw[IntKind.wrap_u8];omega
theorem sO(k:IntKind)(n:Int):aj φ (mL k n) (.int k (k.wrap n)):=by cases k<;>simp only[mL,aj,w64];have:=afl n;congr 1;exact(Int.toNat_of_nonneg this).symm
theorem AZ{k j:IntKind}:qh k j=true->k=j:=by cases k<;>cases j<;>simp[qh,Mm]
theorem Yk{c:Bool}{x y:OR}:(c=true/\cond c x y=x)\/(c=false/\cond c x y=y):=by cases c<;>simp
def RR(b:BinOp)(op:Int->Int->Int):Prop:=(b=.add/\op=Int.add)\/(b=.sub/\op=Int.sub)\/(b=.mul/\op=Int.mul)
theorem RR.run{b:BinOp}{op:Int->Int->Int}(hb:RR b op)(t:TypeId)(k:IntKind)(m n:Int):(binOp b t (.int k m) (.int k n)).run P w=.ok (.int k (k.wrap (op m n))) w:=by rcases hb with⟨rfl,rfl⟩|⟨rfl,rfl⟩|⟨rfl,rfl⟩<;>simp[binOp,Op.intArith]<;>rfl
theorem RS{b:BinOp}{op:Int->Int->Int}(hb:RR b op)(t:TypeId){x y:AV}{u v:Value}(hx:aj φ x u)(hy:aj φ y v):dI P φ w (binOp b t u v) (arith op x y):=by unfold arith;split;simp only[aj] at hx hy;subst hx hy;exact⟨_,hb.run t _ _ _,by simp only[aj,w64]⟩;simp only[aj] at hx hy;subst hx hy;exact⟨_,hb.run t _ _ _,sO _ _⟩;rename_i k m j n;simp only[aj] at hx hy;subst hx hy;rcases@Yk (qh k j) (.v (mL k (op m n))) (.bad "arith: kinds") with⟨hk,e⟩|⟨_,e⟩;rw[e];obtain rfl:=AZ hk;exact⟨_,hb.run t _ _ _,sO _ _⟩;rw[e];trivial;trivial
theorem afm(t:TypeId){x y:AV}{u v:Value}(hx:aj φ x u)(hy:aj φ y v):dI P φ w (binOp .add t u v) (Mn x y):=by unfold Mn;split;rename_i l m l' m';simp only[aj] at hx hy;obtain⟨s,rfl,hs⟩:=hx;obtain⟨s',rfl,fW⟩:=hy;rcases@Yk (Nat.ble (Nat.add l l') Du) (.v (.str (Nat.add l l') (FM l m m'))) (.bad "cat") with⟨hc,e⟩|⟨_,e⟩;rw[e];refine⟨.string (s++s'),?_,?_⟩;have h1:=hs.size;have h2:=fW.size;have h3:l+l'<=Du:=au1 hc;have h4:((l+l':Nat):Int)<=(Du:Int):=Int.ofNat_le.2 h3;rw[afk] at h4;simp[binOp,Op.stringOp];omega;simp only[aj];exact⟨_,rfl,hs.FM fW⟩;rw[e];trivial;trivial
theorem JH{a b:FloatKind}(h:uP a b=true):a=b:=by cases a<;>cases b<;>first|rfl|cases h
def afn(b:BinOp)(op:Ieee.Format->Nat->Nat->Option Nat):Prop:=(b=.add/\op=Ieee.Format.add)\/(b=.sub/\op=Ieee.Format.sub)\/(b=.mul/\op=Ieee.Format.mul)\/(b=.quo/\op=Ieee.Format.div)
theorem M3{b:BinOp}{op:Ieee.Format->Nat->Nat->Option Nat}(hb:afn b op)(t:TypeId){x y:AV}{u v:Value}(hx:aj φ x u)(hy:aj φ y v):dI P φ w (binOp b t u v) (FO op x y):=by
 unfold FO;split;rename_i k m j n;simp only[aj] at hx hy;subst hx hy;cases hk:uP k j with
 |false=>simp only[cond];trivial
 |true=>
  obtain rfl:=JH hk;simp only[cond];cases ho:op k.format m n with
  |none=>trivial
  |some r=>
   refine⟨.float k r,?_,by simp only[aj]⟩;rcases hb with⟨rfl,rfl⟩|⟨rfl,rfl⟩|⟨rfl,rfl⟩|⟨rfl,rfl⟩<;>simp[binOp,Op.floatArith,ho]
 trivial
theorem afo(t:TypeId){x y:AV}{u v:Value}(hx:aj φ x u)(hy:aj φ y v):dI P φ w (binOp .add t u v) (lG x y):=by unfold lG;split;exact afm t hx hy;exact M3 (.inl ⟨rfl,rfl⟩) t hx hy;exact RS (.inl ⟨rfl,rfl⟩) t hx hy
theorem afp(t:TypeId){x y:AV}{u v:Value}(hx:aj φ x u)(hy:aj φ y v):dI P φ w (binOp .sub t u v) (jb x y):=by unfold jb;split;exact M3 (.inr (.inl ⟨rfl,rfl⟩)) t hx hy;exact RS (.inr (.inl ⟨rfl,rfl⟩)) t hx hy
theorem afq(t:TypeId){x y:AV}{u v:Value}(hx:aj φ x u)(hy:aj φ y v):dI P φ w (binOp .mul t u v) (qj x y):=by unfold qj;split;exact M3 (.inr (.inr (.inl ⟨rfl,rfl⟩))) t hx hy;exact RS (.inr (.inr ⟨rfl,rfl⟩)) t hx hy
theorem Yl(a b:Int):mJ a b=true <-> a=b:=by cases a<;>cases b<;>simp only[mJ,beq_iff,Int.ofNat.injEq,Int.negSucc.injEq,at3,reduceCtorEq]
theorem M4(a b:Int):mJ a b=(a==b):=by rw[avA,Yl,av9]
theorem DS(a b:Int):xK a b=decide (a<b):=by rw[avA,axA];cases a<;>cases b<;>simp only[xK,je,au8,at3,false_iff,true_iff,eq_self]<;>omega
theorem sP{s:Sem Value}{c:Bool}{x y:OR}(ht:c=true->dI P φ w s x)(hf:c=false->dI P φ w s y):dI P φ w s (cond c x y):=by
 cases c with
 |true=>exact ht rfl
 |false=>exact hf rfl
theorem aoS{k j:IntKind}(h:qh k j=true):k=j:=AZ h
theorem RT(t:TypeId)(k:IntKind)(m n:Int)(hn:n≠0):(binOp .quo t (.int k m) (.int k n)).run P w=.ok (.int k (k.wrap (m.tdiv n))) w:=by simp[binOp,Op.intDiv,hn]
theorem RU(t:TypeId)(k:IntKind)(m n:Int)(hn:n≠0):(binOp .rem t (.int k m) (.int k n)).run P w=.ok (.int k (m.tmod n)) w:=by simp[binOp,Op.intDiv,hn]
theorem M5{n m:Int}(h:mJ n m=false):n≠m:=λc=>by rw[(Yl n m).2 c] at h;cases h
theorem Ym{n m:Nat}(h:Nat.beq n m=false):n≠m:=λc=>by rw[beq_iff.2 c] at h;cases h
theorem afr(t:TypeId){x y:AV}{u v:Value}(hx:aj φ x u)(hy:aj φ y v):dI P φ w (binOp .quo t u v) (IL x y):=by unfold IL;split;simp only[aj] at hx hy;subst hx hy;refine sP (λ_=>trivial) λhc=>⟨_,RT t _ _ _ (M5 hc),by simp only[aj,w64]⟩;simp only[aj] at hx hy;subst hx hy;refine sP (λ_=>trivial) λhc=>⟨_,RT t _ _ _ (by have:=Ym hc;simpa using this),sO _ _⟩;simp only[aj] at hx hy;subst hx hy;refine sP (λhc=>?_) λ_=>trivial;simp only[atW,avT] at hc;obtain rfl:=AZ hc.1;exact⟨_,RT t _ _ _ (M5 hc.2),sO _ _⟩;trivial
theorem afs(t:TypeId){x y:AV}{u v:Value}(hx:aj φ x u)(hy:aj φ y v):dI P φ w (binOp .quo t u v) (we x y):=by unfold we;split;exact M3 (.inr (.inr (.inr ⟨rfl,rfl⟩))) t hx hy;exact afr t hx hy
theorem afu(t:TypeId){x y:AV}{u v:Value}(hx:aj φ x u)(hy:aj φ y v):dI P φ w (binOp .rem t u v) (AH x y):=by unfold AH;split;simp only[aj] at hx hy;subst hx hy;refine sP (λ_=>trivial) λhc=>⟨_,RU t _ _ _ (M5 hc),by simp only[aj]⟩;simp only[aj] at hx hy;subst hx hy;refine sP (λ_=>trivial) λhc=>⟨_,RU t _ _ _ (by have:=Ym hc;simpa using this),?_⟩;simp only[aj];congr 1;simp only[aj] at hx hy;subst hx hy;refine sP (λhc=>?_) λ_=>trivial;simp only[atW,avT] at hc;obtain rfl:=AZ hc.1;exact⟨_,RU t _ _ _ (M5 hc.2),by simp only[aj]⟩;trivial
def RV(b:BinOp)(op:(n:Nat)->BitVec n->BitVec n->BitVec n):Prop:=
 (b=.and/\op=λ_ a b=>a&&&b)\/(b=.or/\op=λ_ a b=>a|||b)\/(b=.xor/\op=λ_ a b=>a^^^b)\/(b=.andNot/\op=λ_ a b=>a&&&~~~b)
theorem RV.run{b:BinOp}{op:(n:Nat)->BitVec n->BitVec n->BitVec n}(hb:RV b op)(t:TypeId)(k:IntKind)(m n:Int):
 (binOp b t (.int k m) (.int k n)).run P w=.ok (.int k (k.wrap (Int.ofNat (op k.bits (BitVec.ofInt k.bits m) (BitVec.ofInt k.bits n)).toNat))) w:=by
 rcases hb with⟨rfl,rfl⟩|⟨rfl,rfl⟩|⟨rfl,rfl⟩|⟨rfl,rfl⟩<;>simp[binOp,Op.intBits]
theorem M6{b:BinOp}{op:(n:Nat)->BitVec n->BitVec n->BitVec n}(hb:RV b op)(t:TypeId){x y:AV}{u v:Value}(hx:aj φ x u)(hy:aj φ y v):
 dI P φ w (binOp b t u v) (jI op x y):=by
 unfold jI;split;simp only[aj] at hx hy;subst hx hy;exact⟨_,hb.run t _ _ _,sO _ _⟩;simp only[aj] at hx hy;subst hx hy;exact⟨_,hb.run t _ _ _,sO _ _⟩;simp only[aj] at hx hy;subst hx hy;refine sP (λhk=>?_) λ_=>trivial;obtain rfl:=AZ hk;exact⟨_,hb.run t _ _ _,sO _ _⟩;trivial
theorem tU{x:AV}{v:Value}(hx:aj φ x v){n:Nat}(h:mM x=some n):∃k,v=.int k n:=by
 cases x<;>simp only[mM,reduceCtorEq] at h<;>simp only[aj] at hx
 case i m=>cases m<;>simp only[BP,atU,reduceCtorEq] at h;subst h;exact⟨_,hx⟩
 case u8 m=>cases h;exact⟨_,hx⟩
 case int k m=>cases m<;>simp only[BP,atU,reduceCtorEq] at h;subst h;exact⟨_,hx⟩
theorem RW(t:TypeId)(k j:IntKind)(m:Int)(n:Nat):(binOp .shl t (.int k m) (.int j n)).run P w=.ok (.int k (k.wrap (m*2^(min n k.bits)))) w:=by have:¬((n:Int)<0):=zo;simp[binOp,Op.shift,this]
theorem RX(t:TypeId)(k j:IntKind)(m:Int)(n:Nat):(binOp .shr t (.int k m) (.int j n)).run P w=.ok (.int k (m.fdiv (2^(min n k.bits)))) w:=by have:¬((n:Int)<0):=zo;simp[binOp,Op.shift,this]
theorem afv(t:TypeId){x y:AV}{u v:Value}(hx:aj φ x u)(hy:aj φ y v):dI P φ w (binOp .shl t u v) (oQ pF x y):=by unfold oQ;split;rename_i n hn;obtain⟨j,rfl⟩:=tU hy hn;unfold W9;split;simp only[aj] at hx;subst hx;exact⟨_,RW t _ _ _ _,sO _ _⟩;simp only[aj] at hx;subst hx;exact⟨_,RW t _ _ _ _,sO _ _⟩;simp only[aj] at hx;subst hx;exact⟨_,RW t _ _ _ _,sO _ _⟩;trivial;trivial
theorem afw(t:TypeId){x y:AV}{u v:Value}(hx:aj φ x u)(hy:aj φ y v):dI P φ w (binOp .shr t u v) (sC x y):=by
 unfold sC;split;rename_i n hn;obtain⟨j,rfl⟩:=tU hy hn;unfold Xa;split;simp only[aj] at hx;subst hx;exact⟨_,RX t _ _ _ _,by simp only[aj];rfl⟩;rename_i m;simp only[aj] at hx;subst hx;refine⟨_,RX t _ _ _ _,?_⟩;simp only[aj];congr 1;have e:(2:Int)^min n IntKind.u8.bits=((2^min n 8:Nat):Int):=by simp[IntKind.bits]
 rw[e,avH _ (Int.natCast_nonneg _)];rfl;simp only[aj] at hx;subst hx;exact⟨_,RX t _ _ _ _,by simp only[aj]⟩;trivial;trivial
def uZ(b:BinOp):Option (Nat->Bool):=
 match b with
 |.lss=>some λo=>Nat.beq o 0
 |.leq=>some λo=>Nat.ble o 1
 |.gtr=>some λo=>Nat.beq o 2
 |.geq=>some λo=>Nat.ble 1 o
 |_=>none
theorem Gx{m n:Int}(h:m<n):uQ m n=0:=by unfold uQ;rw[DS,avf h];rfl
theorem RY(m:Int):uQ m m=1:=by unfold uQ;rw[DS,auK (Int.lt_irrefl m),M4,avX];rfl
theorem Gy{m n:Int}(h:n<m):uQ m n=2:=by unfold uQ;rw[DS,auK zo,M4,beq_eq_false_iff_ne.2 zo];rfl
theorem DT{a b:Bool}(h:a=b):Result.ok (Value.bool a) w=.ok (.bool b) w:=by rw[h]
theorem JI(b:BinOp)(g:Nat->Bool)(hb:uZ b=some g)(t:TypeId)(k:IntKind)(m n:Int):(binOp b t (.int k m) (.int k n)).run P w=.ok (.bool (g (uQ m n))) w:=by
 have hr:(binOp b t (.int k m) (.int k n)).run P w=(Op.intCmp b m n).run P w:=by cases b<;>simp only[uZ,reduceCtorEq] at hb<;>simp only[binOp,ne_eq,awW,auM]
 rw[hr];rcases axI m n with h|h|h;rw[Gx h];cases b<;>simp only[uZ,atU,reduceCtorEq] at hb<;>subst hb<;>simp only[Op.intCmp,Sem.run_pure]<;>
  first|exact DT (avf zo)|exact DT (auK zo)
 subst h;rw[RY];cases b<;>simp only[uZ,atU,reduceCtorEq] at hb<;>subst hb<;>simp only[Op.intCmp,Sem.run_pure]<;>
  first|exact DT (avf zo)|exact DT (auK zo)
 rw[Gy h];cases b<;>simp only[uZ,atU,reduceCtorEq] at hb<;>subst hb<;>simp only[Op.intCmp,Sem.run_pure]<;>
  first|exact DT (avf zo)|exact DT (auK zo)
theorem Yn:∀(fl j l1 n1 l2 n2:Nat)(x y:List UInt8),x.map (·.toNat)=(hO l1 n1).drop j->y.map (·.toNat)=(hO l2 n2).drop j->(fl=min x.length y.length)->j+x.length=l1->j+y.length=l2->
 IK fl j l1 n1 l2 n2=if Op.bytesLess x y then 0 else if x=y then 1 else 2
 |0,j,l1,n1,l2,n2,x,y,hx,hy,hf,h1,h2=>by
  simp only[IK];cases x with
  |nil=>
   cases y with
   |nil=>simp at h1 h2;subst h1;subst h2;simp[Op.bytesLess]
   |cons b y=>
    simp at h1 h2;have e1:Nat.beq l1 l2=false:=by cases hb:Nat.beq l1 l2 with|false=>rfl|true=>rw[beq_iff] at hb;omega
    have e2:Nat.ble l1 l2=true:=by rw[je];omega
    rw[e1,e2];rfl
  |cons b x=>
   cases y with
   |nil=>
    simp at h1 h2;have e1:Nat.beq l1 l2=false:=by cases hb:Nat.beq l1 l2 with|false=>rfl|true=>rw[beq_iff] at hb;omega
    have e2:Nat.ble l1 l2=false:=by cases hb:Nat.ble l1 l2 with|false=>rfl|true=>rw[je] at hb;omega
    rw[e1,e2];rfl
   |cons c y=>simp at hf
 |fl+1,j,l1,n1,l2,n2,x,y,hx,hy,hf,h1,h2=>by
  cases x with
  |nil=>simp at hf
  |cons b x=>
   cases y with
   |nil=>simp at hf
   |cons c y=>
    simp only[atX] at h1 h2 hf;have gx:∀(z:List UInt8)(l n:Nat)(b:UInt8),(b::z).map (·.toNat)=(hO l n).drop j->j<l->lF n j=b.toNat/\z.map (·.toNat)=(hO l n).drop (j+1):=by intro z l n b e hl;have e2:=aui (λl=>l[0]?) e;simp only[aul,avk,auF,aud] at e2;rw[MV l n j hl] at e2;refine⟨by simpa using e2.symm,?_⟩;have e3:=aui List.tail e;simpa using e3
    obtain⟨b1,x1⟩:=gx x l1 n1 b hx zo;obtain⟨c1,y1⟩:=gx y l2 n2 c hy zo;have ih:=Yn fl (j+1) l1 n1 l2 n2 x y x1 y1 zo zo zo;simp only[IK,b1,c1,Op.bytesLess]
    by_cases e:b=c
    subst e;rw[av1,cond,ih];simp;have hb:Nat.beq b.toNat c.toNat=false:=by
     cases hb:Nat.beq b.toNat c.toNat with
     |false=>rfl
     |true=>rw[beq_iff] at hb;exact absurd (avi.1 hb) e
    rw[hb,cond]
    by_cases ao:b<c
    have:Nat.ble b.toNat c.toNat=true:=by rw[je];exact axM (axc.1 ao)
    simp[this,ao];have:Nat.ble b.toNat c.toNat=false:=by
     cases fX:Nat.ble b.toNat c.toNat with
     |false=>rfl
     |true=>
      rw[je] at fX;have h3:¬b.toNat<c.toNat:=λg=>ao (axc.2 g);have h4:b.toNat≠c.toNat:=λg=>e (avi.1 g);omega
    simp[this,ao,e]
theorem RZ:∀(x:List UInt8),Op.bytesLess x x=false
 |[]=>rfl
 |a::x=>by simp[Op.bytesLess,RZ x]
theorem Yo{l n l' n':Nat}{s s':ByteArray}(hs:kR l n s)(fW:kR l' n' s'):v8 l n l' n'=if Op.bytesLess s.toList s'.toList then 0 else if s.toList=s'.toList then 1 else 2:=by
 rw[Go.ByteArray.toList_eq,Go.ByteArray.toList_eq];unfold v8;cases hc:(Nat.beq l l'&&Nat.beq n n') with
 |true=>
  simp only[atW,beq_iff] at hc;have e:=(hs.eq_iff fW).1 hc;subst e;simp[RZ]
 |false=>
  simp only[cond];have k1:s.data.toList.length=l:=by have:=hs.size;simpa using this
  have k2:s'.data.toList.length=l':=by have:=fW.size;simpa using this
  exact Yn _ 0 l n l' n' s.data.toList s'.data.toList (by simpa using hs.1) (by simpa using fW.1) (by
   rw[k1,k2];cases hb:Nat.ble l l' with
   |true=>rw[je] at hb;exact(awI hb).symm
   |false=>
    have hn:¬l<=l':=λg=>by rw[je.2 g] at hb;cases hb
    exact(Nat.min_eq_right (show l'<=l by omega)).symm) zo zo
theorem R0(b:BinOp)(g:Nat->Bool)(hb:uZ b=some g)(t:TypeId){l n l' n':Nat}{s s':ByteArray}(hs:kR l n s)(fW:kR l' n' s'):
 (binOp b t (.string s) (.string s')).run P w=.ok (.bool (g (v8 l n l' n'))) w:=by
 rw[Yo hs fW];have hir:s.toList=s'.toList->Op.bytesLess s.toList s'.toList=false:=λe=>by rw[e];exact RZ _
 have hr:(binOp b t (.string s) (.string s')).run P w=(Op.stringOp b s s').run P w:=by cases b<;>simp only[uZ,reduceCtorEq] at hb<;>simp only[binOp]
 rw[hr];have hE:(s.toList==s'.toList)=decide (s.toList=s'.toList):=by rw[avA];simp
 have hso:(Op.stringOp b s s').run P w=.ok (.bool (match b with|.lss=>Op.bytesLess s.toList s'.toList|.leq=>Op.bytesLess s.toList s'.toList||decide (s.toList=s'.toList)|.gtr=> !(Op.bytesLess s.toList s'.toList||decide (s.toList=s'.toList))|_=> !Op.bytesLess s.toList s'.toList)) w:=by cases b<;>simp only[uZ,reduceCtorEq] at hb<;>simp only[Op.stringOp,Sem.run_pure,hE]
 rw[hso];refine DT ?_;generalize Op.bytesLess s.toList s'.toList=L at*;generalize s.toList=x at*;generalize s'.toList=y at*
 by_cases he:x=y
 obtain rfl:=hir he;rw[atS zd,atV he];cases b<;>simp only[uZ,atU,reduceCtorEq] at hb<;>subst hb<;>simp only[avf he]<;>rfl;cases L with
 |true=>
  rw[atV rfl];cases b<;>simp only[uZ,atU,reduceCtorEq] at hb<;>subst hb<;>rfl
 |false=>
  rw[atS zd,atS he];cases b<;>simp only[uZ,atU,reduceCtorEq] at hb<;>subst hb<;>simp only[auK he]<;>rfl
theorem M7(b:BinOp)(g:Nat->Bool)(hb:uZ b=some g)(t:TypeId){x y:AV}{u v:Value}(hx:aj φ x u)(hy:aj φ y v):dI P φ w (binOp b t u v) (mc g x y):=by
 unfold mc;split;rename_i c hc;unfold tK at hc;split at hc;rename_i k m j n;cases hk:uP k j with
 |false=>rw[hk] at hc;cases hc
 |true=>
  rw[hk] at hc;obtain rfl:=JH hk;simp only[aj] at hx hy;subst hx hy;simp only[cond] at hc;cases ho:k.format.order m n with
  |none=>rw[ho] at hc;cases hc
  |some od=>
   refine⟨.bool (g c),?_,by simp only[aj]⟩;cases b<;>simp only[uZ,reduceCtorEq,atU] at hb<;>subst hb<;>cases od<;>rw[ho] at hc<;>cases hc<;>simp[binOp,Op.floatCmp,ho]<;>rfl
 rename_i Gz;clear Gz;unfold qk at hc;split at hc;cases hc;simp only[aj] at hx hy;subst hx hy;exact⟨_,JI b g hb t _ _ _,by simp only[aj]⟩;rename_i m n;cases hc;simp only[aj] at hx hy;subst hx hy;refine⟨_,JI b g hb t _ _ _,?_⟩;simp only[aj];have e:(cond (Nat.beq m n) 1 (cond (Nat.ble m n) 0 2))=uQ (m:Int) (n:Int):=by
  by_cases h1:m=n
  subst h1;rw[av1,RY];rfl;have e1:Nat.beq m n=false:=by cases hq:Nat.beq m n with|false=>rfl|true=>exact absurd (beq_iff.1 hq) h1
  by_cases h2:m<=n
  rw[e1,je.2 h2,Gx zo];rfl;have e2:Nat.ble m n=false:=by cases hq:Nat.ble m n with|false=>rfl|true=>exact absurd (je.1 hq) h2
  rw[e1,e2,Gy zo];rfl
 rw[e];rename_i k m j n;cases hk:qh k j with
 |false=>rw[hk] at hc;cases hc
 |true=>
  rw[hk] at hc;cases hc;obtain rfl:=AZ hk;simp only[aj] at hx hy;subst hx hy;exact⟨_,JI b g hb t _ _ _,by simp only[aj]⟩
 cases hc;simp only[aj] at hx hy;obtain⟨s,rfl,hs⟩:=hx;obtain⟨s',rfl,fW⟩:=hy;exact⟨_,R0 b g hb t hs fW,by simp only[aj]⟩;rename_i m n;cases hk:xK n m with
 |false=>rw[hk] at hc;cases hc
 |true=>
  rw[hk] at hc;cases hc;simp only[aj] at hx hy;obtain⟨x,rfl,hx⟩:=hx;subst hy;have ao:n<m:=by simpa[DS] using hk
  refine⟨_,JI b g hb t _ _ _,?_⟩;simp only[aj];rw[Gy zo]
 rename_i m n;cases hk:xK m n with
 |false=>rw[hk] at hc;cases hc
 |true=>
  rw[hk] at hc;cases hc;simp only[aj] at hx hy;obtain⟨x,rfl,hx⟩:=hx;subst hy;have ao:m<n:=by simpa[DS] using hk
  refine⟨_,JI b g hb t _ _ _,?_⟩;simp only[aj];rw[Gx zo]
 cases hc;trivial
def cF(k:FK)(u v:Value):Option Bool:=
 match k,u,v with
 |.int k,.int i a,.int j c=>if i=k/\j=k then some (decide (a=c)) else none
 |.str,.string s,.string t=>some (s.toList==t.toList)
 |.bool,.bool a,.bool b=>some (a==b)
 |_,_,_=>none
def cL:List FK->List Value->List Value->Option Bool
 |[],[],[]=>some true
 |k::ks,x::l,y::r=>
  match cF k x y with
  |some true=>cL ks l r
  |some false=>some false
  |none=>none
 |_,_,_=>none
theorem afx{α:Type}{c:Bool}{x:α}{b:α}(h:cond c (some x) none=some b):c=true/\x=b:=by
 cases c with
 |true=>exact⟨rfl,by cases h;rfl⟩
 |false=>cases h
theorem GA{k:FK}{x y:AV}{b:Bool}(he:sD k x y=some b){u v:Value}(hx:aj φ x u)(hy:aj φ y v):cF k u v=some b:=by unfold sD at he;split at he;split at he;cases he;simp only[aj] at hx hy;subst hx hy;simp only[cF,axQ,auo,M4];rfl;cases he;split at he;rename_i m n _;cases he;simp only[aj] at hx hy;subst hx hy;simp only[cF,axQ,auo];congr 1;rw[avA,beq_iff,axA];omega;cases he;split at he;obtain⟨hc,rfl⟩:=afx he;simp only[atW] at hc;obtain rfl:=AZ hc.1;obtain rfl:=AZ hc.2;simp only[aj] at hx hy;subst hx hy;simp only[cF,axQ,auo,M4];rfl;cases he;split at he;cases he;simp only[aj] at hx hy;obtain⟨s,rfl,hs⟩:=hx;obtain⟨t,rfl,ht⟩:=hy;simp only[cF];congr 1;rw[avA,av9,Go.ByteArray.toList_eq,Go.ByteArray.toList_eq,atW,beq_iff,beq_iff,hs.eq_iff ht];constructor;intro h;have:s.data=t.data:=aw5.1 h;cases s;cases t;simp_all;rintro rfl;rfl;cases he;split at he;rename_i a b _;cases he;simp only[aj] at hx hy;subst hx hy;simp only[cF];cases a<;>cases b<;>rfl;cases he;cases he
theorem GB:∀{ks:List FK}{l r:List AV}{b:Bool},yX ks l r=some b->∀{xs ys:List Value},cz φ l xs->cz φ r ys->cL ks xs ys=some b
 |[],[],[],b,he,xs,ys,hx,hy=>by simp only[yX,atU] at he;subst he;simp only[cz] at hx hy;subst hx;subst hy;rfl
 |k::ks,x::l,y::r,b,he,xs,ys,hx,hy=>by simp only[cz] at hx hy;obtain⟨u,xs',rfl,hu,hxs⟩:=hx;obtain⟨v,ys',rfl,hv,hys⟩:=hy;simp only[yX] at he;simp only[cL];split at he;rename_i hf;rw[GA hf hu hv];exact GB he hxs hys;rename_i hf;rw[GA hf hu hv];exact he;cases he
 |[],[],_::_,_,he,_,_,_,_=>by simp[yX] at he
 |[],_::_,_,_,he,_,_,_,_=>by simp[yX] at he
 |_::_,[],_,_,he,_,_,_,_=>by simp[yX] at he
 |_::_,_::_,[],_,he,_,_,_,_=>by simp[yX] at he
theorem R6:∀{l m:List FK}{X Y:List Value}{b:Bool},cL (l++m) X Y=some b->
 (cL l (X.take l.length) (Y.take l.length)=some false/\b=false)\/(cL l (X.take l.length) (Y.take l.length)=some true/\cL m (X.drop l.length) (Y.drop l.length)=some b)
 |[],m,X,Y,b,h=>.inr ⟨by simp[cL],by simpa using h⟩
 |k::l,m,[],Y,b,h=>by simp[cL] at h
 |k::l,m,_::_,[],b,h=>by simp[cL] at h
 |k::l,m,x::X,y::Y,b,h=>by simp only[auY,cL] at h;simp only[atX,awj,awK,cL];split at h;exact R6 h;cases h;exact .inl ⟨rfl,rfl⟩;cases h
def qV(P:Program)(t:TypeId)(u:Value)(cs:List Value):Prop:=
 match P.underlying t with
 |some (.struct _)=>∃aO,u=.agg aO/\aO.toList=cs
 |_=>cs=[u]
theorem R7{t:TypeId}{n:Nat}(h:fI P t=some n):∃i,P.info? t=some i/\i.size=n:=by unfold fI at h;split at h;rename_i i hi;cases h;exact⟨i,hi,rfl⟩;cases h
theorem vb{t:TypeId}{n:Nat}(h:fI P t=some n)(w:World):(Go.sizeOf t).run P w=.ok n w:=by obtain⟨i,hi,rfl⟩:=R7 h;simp[Go.sizeOf,typeInfo,hi]
theorem bZ{t:TypeId}{d:TypeDesc}(h:P.underlying t=some d)(w:World):(underlying t).run P w=.ok d w:=by simp[underlying,h]
theorem GC{t:TypeId}{d:TypeDesc}(h:P.underlying t=some d)(w:World):(isAgg t).run P w=.ok (oR d) w:=by unfold isAgg;rw[Sem.run_bind,bZ h];cases d<;>rfl
theorem Sa{d:Nat}{t:TypeId}{l:List FK}(hk:rP P d t=some l):
 (∃k,l=[.int k]/\P.underlying t=some (.int k))\/(l=[.bool]/\P.underlying t=some .bool)\/(l=[.str]/\P.underlying t=some .string)\/
 (∃fs d',d=d'+1/\P.underlying t=some (.struct fs)/\P.stoodInHeld t=false/\zf P (rP P d') 0 fs.toList=some l):=by
 cases d with
 |zero=>simp[rP] at hk
 |succ d=>
  simp only[rP] at hk;split at hk;rename_i k hu;cases hk;exact .inl ⟨k,rfl,hu⟩;rename_i hu;cases hk;exact .inr (.inl ⟨rfl,hu⟩);rename_i hu;cases hk;exact .inr (.inr (.inl ⟨rfl,hu⟩));rename_i fs hu;split at hk;cases hk;rename_i hs;exact .inr (.inr (.inr ⟨fs,d,rfl,hu,by simpa using hs,hk⟩));cases hk
theorem Sb{t:TypeId}{l:List FK}{d:Nat}(hk:rP P d t=some l)(hs:fI P t=some l.length){aO:Array Value}{off:Nat}
 (bg:l.length=1->off<aO.size\/∃fs,P.underlying t=some (.struct fs)) (w:World):∃u,(part t aO off).run P w=.ok u w/\qV P t u ((aO.toList.drop off).take l.length):=by
 have JJ:∀dd,P.underlying t=some dd->oR dd=false->l.length=1->(∀fs,dd≠.struct fs)->∃u,(part t aO off).run P w=.ok u w/\qV P t u ((aO.toList.drop off).take l.length):=by
  intro dd hu ha hl DU;have rQ:off<aO.size:=by rcases bg hl with g|⟨fs,g⟩;exact g;rw[hu] at g;cases g;exact absurd rfl (DU fs)
  refine⟨aO[off],?_,?_⟩;unfold part;rw[Sem.run_bind,GC hu,ha];simp[rQ];unfold qV;rw[hu,hl];have:(aO.toList.drop off).take 1=[aO[off]]:=by rw[aut (by simpa using rQ)];simp
  cases dd<;>first|exact this|exact absurd rfl (DU _)
 rcases Sa hk with⟨k,rfl,hu⟩|⟨rfl,hu⟩|⟨rfl,hu⟩|⟨fs,d',_,hu,_,_⟩;exact JJ _ hu rfl rfl (λ_=>by simp);exact JJ _ hu rfl rfl (λ_=>by simp);exact JJ _ hu rfl rfl (λ_=>by simp);refine⟨.agg (aO.extract off (off+l.length)),?_,?_⟩;unfold part;rw[Sem.run_bind,GC hu];simp[oR,vb hs];unfold qV;rw[hu];refine⟨_,rfl,?_⟩;simp[awS]
theorem Sd{k:FK}{u v:Value}{b:Bool}(h:cL [k] [u] [v]=some b):cF k u v=some b:=by simp only[cL] at h;split at h;rename_i hf;cases h;exact hf;rename_i hf;cases h;exact hf;cases h
theorem M8{k:IntKind}{u v:Value}{b:Bool}(h:cF (.int k) u v=some b):∃a c,u=.int k a/\v=.int k c/\b=decide (a=c):=by cases u<;>cases v<;>simp only[cF,reduceCtorEq] at h;rename_i i a j c;split at h;rename_i DV;obtain⟨rfl,rfl⟩:=DV;cases h;exact⟨a,c,rfl,rfl,rfl⟩;cases h
theorem JK{u v:Value}{b:Bool}(h:cF .str u v=some b):∃s t,u=.string s/\v=.string t/\b=(s.toList==t.toList):=by cases u<;>cases v<;>simp only[cF,reduceCtorEq] at h;cases h;exact⟨_,_,rfl,rfl,rfl⟩
theorem M9{u v:Value}{b:Bool}(h:cF .bool u v=some b):∃s t,u=.bool s/\v=.bool t/\b=(s==t):=by cases u<;>cases v<;>simp only[cF,reduceCtorEq] at h;cases h;exact⟨_,_,rfl,rfl,rfl⟩
def JL(P:Program)(d:Nat):Prop:=∀t ks,rP P d t=some ks->∀D,d<=D->∀u v cu cv b w,qV P t u cu->qV P t v cv->cL ks cu cv=some b->(Op.equalIn D t u v).run P w=.ok b w
def Se(P:Program)(d:Nat):Prop:=∀fs off ks,zf P (rP P d) off fs=some ks->∀D,d<=D->∀(X Y:Array Value) b w,cL ks (X.toList.drop off) (Y.toList.drop off)=some b->(Op.eqFields D X Y fs).run P w=.ok b w
theorem Yp{d:Nat}(hB:∀d',d=d'+1->Se P d'):JL P d:=by
 intro t ks hk D hD u v cu cv b w hu hv hc;have DW:∃D',D=D'+1:=by
  cases d with
  |zero=>simp[rP] at hk
  |succ d=>exact⟨D- 1,by omega⟩
 obtain⟨D',rfl⟩:=DW;rcases Sa hk with⟨k,rfl,ht⟩|⟨rfl,ht⟩|⟨rfl,ht⟩|⟨fs,d',bC,ht,lJ,pK⟩;simp only[qV,ht] at hu hv;subst hu;subst hv;obtain⟨m,n,rfl,rfl,rfl⟩:=M8 (Sd hc);rw[run_equalIn_int w D' t _ _ _ _ ht];rfl;simp only[qV,ht] at hu hv;subst hu;subst hv;obtain⟨m,n,rfl,rfl,rfl⟩:=M9 (Sd hc);rw[run_equalIn_bool' w D' t _ _ ht];simp only[qV,ht] at hu hv;subst hu;subst hv;obtain⟨m,n,rfl,rfl,rfl⟩:=JK (Sd hc);rw[run_equalIn_string w D' t _ _ ht];simp only[qV,ht] at hu hv;obtain⟨X,rfl,rfl⟩:=hu;obtain⟨Y,rfl,rfl⟩:=hv;have Yq:P.fieldsOf t=fs:=by simp[Program.fieldsOf,ht]
 rw[run_equalIn_struct w D' t X Y (by rw[Yq];exact ht) lJ,Yq];exact hB d' bC fs.toList 0 ks pK D' zo X Y b w (by simpa using hc)
theorem Yr{d:Nat}(A:JL P d):Se P d:=by
 intro fs
 induction fs with
 |nil=>
  intro off ks hk D hD X Y b w hc;simp only[zf,atU] at hk;subst hk;have:b=true:=by cases hx:X.toList.drop off<;>cases hy:Y.toList.drop off<;>rw[hx,hy] at hc<;>simp[cL] at hc;exact hc.symm▸rfl
  subst this;simp[Op.eqFields]
 |cons f r ih=>
  intro off ks hk D hD X Y b w hc;simp only[zf] at hk;split at hk;cases hk;rename_i jK;have sQ:f.name≠ "_":=λe=>jK (.inl e);have rQ:f.offset=off:=avt λe=>jK (.inr e);split at hk;rename_i l hl;split at hk;rename_i m hm;split at hk;rename_i hs;cases hk;have hX:l.length=1->off<X.size\/∃fs,P.underlying f.type=some (.struct fs):=λh1=>by refine .inl (avt λg=>?_);have:X.toList.drop off=[]:=auJ (by simpa using g);rw[this] at hc;cases l<;>simp[cL] at h1 hc
  have hY:l.length=1->off<Y.size\/∃fs,P.underlying f.type=some (.struct fs):=λh1=>by
   refine .inl (avt λg=>?_);have:Y.toList.drop off=[]:=auJ (by simpa using g);rw[this] at hc;cases l with
   |nil=>simp at h1
   |cons k l=>cases hx:X.toList.drop off<;>rw[hx] at hc<;>simp[cL] at hc
  obtain⟨u,p1,o1⟩:=Sb hl hs hX w;obtain⟨v,p2,o2⟩:=Sb hl hs hY w;simp only[Op.eqFields,ne_eq,sQ,avR,auo,rQ,Sem.run_bind,p1,p2,Result.andThen_ok];rcases R6 hc with⟨c1,rfl⟩|⟨c1,c2⟩;rw[A _ _ hl D hD _ _ _ _ _ w o1 o2 c1];simp;rw[A _ _ hl D hD _ _ _ _ _ w o1 o2 c1];simp only[Result.andThen_ok,axB,at3,auM];refine ih (off+l.length) m hm D hD X Y b w ?_;simpa[List.drop_drop] using c2;cases hk;cases hk;cases hk
theorem Sg:∀d,JL P d/\Se P d
 |0=>have A:JL P 0:=Yp (λd' h=>by omega);⟨A,Yr A⟩
 |d+1=>have A:JL P (d+1):=Yp (λd' h=>by have:d'=d:=zo;subst this;exact(Sg d').2);⟨A,Yr A⟩
end
section
variable{P:Program}{w:World}{t:TypeId}{D:Nat}
theorem ep1{e:TypeId}(ht:P.underlying t=some (.pointer e)):(Op.equalIn (D+1) t (.pointer none) (.pointer none)).run P w=.ok true w:=by rw[Op.equalIn,Sem.run_bind,bZ ht];rfl
theorem ep2{e:TypeId}{a:Addr}(ht:P.underlying t=some (.pointer e)):(Op.equalIn (D+1) t (.pointer none) (.pointer (some a))).run P w=.ok false w:=by rw[Op.equalIn,Sem.run_bind,bZ ht];rfl
theorem ep3{e:TypeId}{a:Addr}(ht:P.underlying t=some (.pointer e)):(Op.equalIn (D+1) t (.pointer (some a)) (.pointer none)).run P w=.ok false w:=by rw[Op.equalIn,Sem.run_bind,bZ ht];rfl
theorem ep4{e:TypeId}{a:Addr}{n:Nat}(ht:P.underlying t=some (.pointer e))(hs:fI P e=some n):(Op.equalIn (D+1) t (.pointer (some a)) (.pointer (some a))).run P w=.ok true w:=by
 rw[Op.equalIn,Sem.run_bind,bZ ht];simp only[Result.andThen,Sem.run_bind,vb hs]
 by_cases hn:n=0
 subst hn;simp;simp[hn,sameAddr]
theorem afy{i j:Nat}(h:IM i j=true):i=j:=at7 h
theorem Ys{i j:Nat}{o q:Nat}{r:Bool}(he:cond (cond (Nat.beq o q) (IM i j) false) (some true) none=some r):r=true/\i=j/\o=q:=by
 cases h1:Nat.beq o q with
 |false=>rw[h1] at he;cases he
 |true=>
  rw[h1] at he;cases h2:IM i j with
  |false=>rw[h2] at he;cases he
  |true=>rw[h2] at he;cases he;exact⟨rfl,afy h2,at7 h1⟩
theorem es1{e:TypeId}{l c l' c':Nat}(ht:P.underlying t=some (.slice e)):(Op.equalIn (D+1) t (.slice none l c) (.slice none l' c')).run P w=.ok true w:=by rw[Op.equalIn,Sem.run_bind,bZ ht];rfl
theorem es2{e:TypeId}{a:Addr}{l c l' c':Nat}(ht:P.underlying t=some (.slice e)):(Op.equalIn (D+1) t (.slice none l c) (.slice (some a) l' c')).run P w=.ok false w:=by rw[Op.equalIn,Sem.run_bind,bZ ht];rfl
theorem es3{e:TypeId}{a:Addr}{l c l' c':Nat}(ht:P.underlying t=some (.slice e)):(Op.equalIn (D+1) t (.slice (some a) l c) (.slice none l' c')).run P w=.ok false w:=by rw[Op.equalIn,Sem.run_bind,bZ ht];rfl
theorem em1{k e:TypeId}(ht:P.underlying t=some (.map k e)):(Op.equalIn (D+1) t (.map none) (.map none)).run P w=.ok true w:=by rw[Op.equalIn,Sem.run_bind,bZ ht];rfl
theorem JM{k e:TypeId}{a:Nat}(ht:P.underlying t=some (.map k e)):(Op.equalIn (D+1) t (.map none) (.map (some a))).run P w=.ok false w:=by rw[Op.equalIn,Sem.run_bind,bZ ht];rfl
theorem em3{k e:TypeId}{a:Nat}(ht:P.underlying t=some (.map k e)):(Op.equalIn (D+1) t (.map (some a)) (.map none)).run P w=.ok false w:=by rw[Op.equalIn,Sem.run_bind,bZ ht];rfl
theorem ef1{a b:Array TypeId}{c:Bool}(ht:P.underlying t=some (.func a b c)):(Op.equalIn (D+1) t .nilFunc .nilFunc).run P w=.ok true w:=by rw[Op.equalIn,Sem.run_bind,bZ ht];rfl
theorem ef2{a b:Array TypeId}{c:Bool}{g:Fn}{x y:Array Value}(ht:P.underlying t=some (.func a b c)):(Op.equalIn (D+1) t .nilFunc (.func g x y)).run P w=.ok false w:=by rw[Op.equalIn,Sem.run_bind,bZ ht];rfl
theorem ef3{a b:Array TypeId}{c:Bool}{g:Fn}{x y:Array Value}(ht:P.underlying t=some (.func a b c)):(Op.equalIn (D+1) t (.func g x y) .nilFunc).run P w=.ok false w:=by rw[Op.equalIn,Sem.run_bind,bZ ht];rfl
theorem ei1{ms:Array (String×TypeId)}(ht:P.underlying t=some (.interface ms)):(Op.equalIn (D+1) t .nilIface .nilIface).run P w=.ok true w:=by rw[Op.equalIn,Sem.run_bind,bZ ht];rfl
theorem ei2{ms:Array (String×TypeId)}{g:TypeId}{x:Value}(ht:P.underlying t=some (.interface ms)):(Op.equalIn (D+1) t .nilIface (.iface g x)).run P w=.ok false w:=by rw[Op.equalIn,Sem.run_bind,bZ ht];rfl
theorem ei3{ms:Array (String×TypeId)}{g:TypeId}{x:Value}(ht:P.underlying t=some (.interface ms)):(Op.equalIn (D+1) t (.iface g x) .nilIface).run P w=.ok false w:=by rw[Op.equalIn,Sem.run_bind,bZ ht];rfl
theorem ei4{ms:Array (String×TypeId)}{g g':TypeId}{x y:Value}(ht:P.underlying t=some (.interface ms))(hn:g≠g'):(Op.equalIn (D+1) t (.iface g x) (.iface g' y)).run P w=.ok false w:=by rw[Op.equalIn,Sem.run_bind,bZ ht];show(ite (g≠g') (pure false) _:Sem Bool).run P w=_;rw[atV hn];rfl
theorem afz{g:TypeId}(h:I8 P g=true):∃i,P.info? g=some i/\i.comparable=true/\P.underlying g=some (.int .i64):=by unfold I8 at h;split at h;rename_i i hi;simp only[atW] at h;obtain⟨h1,h2⟩:=h;refine⟨i,hi,h1,?_⟩;split at h2;split at h2;assumption;cases h2;cases h2;cases h
theorem ei5{ms:Array (String×TypeId)}{g:TypeId}{a b:Int}(ht:P.underlying t=some (.interface ms))(hg:I8 P g=true):(Op.equalIn (D+2) t (.iface g (.int .i64 a)) (.iface g (.int .i64 b))).run P w=.ok (a==b) w:=by
 obtain⟨i,h1,h2,h3⟩:=afz hg;rw[Op.equalIn,Sem.run_bind,bZ ht];show(ite (g≠g) (pure false) _:Sem Bool).run P w=_;rw[atS (λh=>h rfl)];have hi:(typeInfo g).run P w=.ok i w:=by simp[typeInfo,h1]
 rw[Sem.run_bind,hi];show(ite ((!i.comparable)=true) _ _:Sem Bool).run P w=_;rw[atS (by simp[h2]),Op.equalIn,Sem.run_bind,bZ h3];rfl
end
section
variable{P:Program}{φ:aH}{h:Hp}{w:World}{f:Fr}{a:Act}{o:Oper}
theorem afA{g:Nat}(h:BR g (I9 P)=true):I8 P g=true:=by
 have key:∀l:List Nat,BR g l=true->g∈l:=by
  intro l
  induction l with
  |nil=>intro h;cases h
  |cons u l ih=>
   intro h;unfold BR at h;cases e:Nat.beq g u with
   |true=>obtain rfl:=at7 e;exact au0
   |false=>rw[e] at h;exact aug _ (ih h)
 have:=key _ h;unfold I9 at this;exact(avv.1 this).2
theorem Yt(a b:Int):mJ a b=(a==b):=by
 have q:∀m n:Nat,(Nat.beq m n=true) <-> m=n:=λm n=>⟨at7,λe=>e▸av1 m⟩;rw[avA,av9];cases a with
 |ofNat m=>
  cases b with
  |ofNat n=>exact(q m n).trans ⟨λe=>e▸rfl,λe=>Int.ofNat.inj e⟩
  |negSucc n=>exact Iff.intro (λh=>by cases h) (λh=>by cases h)
 |negSucc m=>
  cases b with
  |ofNat n=>exact Iff.intro (λh=>by cases h) (λh=>by cases h)
  |negSucc n=>exact(q m n).trans ⟨λe=>e▸rfl,λe=>Int.negSucc.inj e⟩
def Yu(b:BinOp)(neg:Bool):Prop:=(b=.eql/\neg=false)\/(b=.neq/\neg=true)
theorem Cd{b:BinOp}{neg:Bool}(hb:Yu b neg){t:TypeId}{u v:Value}{r:Bool}(lK:∀k m j n,u=.int k m->v=.int j n->False) (Gz:∀k m j n,u=.float k m->v=.float j n->False)
 (Yw:∀k m m' j n n',u=.complex k m m'->v=.complex j n n'->False) (DU:∀m n,u=.string m->v=.string n->False)
 (he:(Op.equalIn 10000 t u v).run P w=.ok r w):(binOp b t u v).run P w=.ok (.bool (if neg then !r else r)) w:=by
 rcases hb with⟨rfl,rfl⟩|⟨rfl,rfl⟩;have:binOp .eql t u v=(do pure (.bool (<-Op.equal t u v))):=by cases u<;>cases v<;>first|rfl|exact(lK _ _ _ _ rfl rfl).elim|exact(Gz _ _ _ _ rfl rfl).elim|exact(Yw _ _ _ _ _ _ rfl rfl).elim|exact(DU _ _ rfl rfl).elim
 rw[this];simp[Op.equal,Op.maxDepth,he];have:binOp .neq t u v=(do pure (.bool (!(<-Op.equal t u v)))):=by cases u<;>cases v<;>first|rfl|exact(lK _ _ _ _ rfl rfl).elim|exact(Gz _ _ _ _ rfl rfl).elim|exact(Yw _ _ _ _ _ _ rfl rfl).elim|exact(DU _ _ rfl rfl).elim
 rw[this];simp[Op.equal,Op.maxDepth,he]
theorem Ce{b:BinOp}{t:TypeId}{x y:Operand}{u v:Value}(h1:u=.nilIface->v=.nilIface->zg x=true\/zg y=true)
 (h2:∀l r,u=.agg l->v=.agg r->P.eqGuardType P.depth t=false):(eqGuard b t x y u v).run P w=.ok () w:=by
 cases u<;>cases v<;>first
  |(cases b<;>simp[eqGuard];done)
  |(have g:=h2 _ _ rfl rfl;cases b<;>simp[eqGuard,g];done)
  |(rcases h1 rfl rfl with g|g
    cases x<;>simp only[zg,at3] at g;cases b<;>simp[eqGuard];cases y<;>simp only[zg,at3] at g;cases b<;>simp[eqGuard])
theorem Yx{b:BinOp}{neg:Bool}(hb:Yu b neg){t:TypeId}{x y:Operand}{k:EK}(hk:B1 P t x y=some k){p q:AV}{r:Bool}(he:cJ k p q=some r){u v:Value}(hu:aj φ p u)(hv:aj φ q v):
 (do eqGuard b t x y u v;binOp b t u v:Sem Value).run P w=.ok (.bool (if neg then !r else r)) w:=by
 have nU:∀(fk:FK)(dd:TypeDesc),P.underlying t=some dd->(fk=.int (match dd with|.int k=>k|_=>.i64)/\(∃k,dd=.int k)\/fk=.bool/\dd=.bool\/fk=.str/\dd=.string)->sD fk p q=some r->
  (do eqGuard b t x y u v;binOp b t u v:Sem Value).run P w=.ok (.bool (if neg then !r else r)) w:=by
  intro fk dd ht hc hf;have rS:=GA hf hu hv;rcases hc with⟨rfl,k,rfl⟩|⟨rfl,rfl⟩|⟨rfl,rfl⟩;obtain⟨m,n,rfl,rfl,rfl⟩:=M8 rS;rcases hb with⟨rfl,rfl⟩|⟨rfl,rfl⟩;simp[eqGuard,binOp,Op.intCmp];rfl;simp[eqGuard,binOp,Op.intCmp]
  by_cases Sh:m=n<;>simp[Sh]
  obtain⟨m,n,rfl,rfl,rfl⟩:=M9 rS;rw[Sem.run_bind,Ce qaB qaC];exact Cd hb qac qac qam qau (run_equalIn_bool' w 9999 t m n ht);obtain⟨m,n,rfl,rfl,rfl⟩:=JK rS;rcases hb with⟨rfl,rfl⟩|⟨rfl,rfl⟩;simp[eqGuard,binOp,Op.stringOp];simp[eqGuard,binOp,Op.stringOp]
 unfold B1 at hk;split at hk;rename_i k' ht;cases hk;exact nU _ _ ht (.inl ⟨rfl,_,rfl⟩) he;rename_i ht;cases hk;exact nU _ _ ht (.inr (.inl ⟨rfl,rfl⟩)) he;rename_i ht;cases hk;exact nU _ _ ht (.inr (.inr ⟨rfl,rfl⟩)) he;rename_i fk ht;cases hk;simp only[cJ] at he;split at he;rename_i i m j n;cases sK:uP fk i&&uP fk j with
 |false=>rw[sK] at he;cases he
 |true=>
  rw[sK] at he;simp only[atW] at sK;obtain rfl:=JH sK.1;obtain rfl:=JH sK.2;simp only[aj] at hu hv;subst hu hv;cases he;cases ho:fk.format.order m n with
  |none=>rcases hb with⟨rfl,rfl⟩|⟨rfl,rfl⟩<;>simp[eqGuard,binOp,Op.floatCmp,ho]
  |some od=>rcases hb with⟨rfl,rfl⟩|⟨rfl,rfl⟩<;>cases od<;>simp[eqGuard,binOp,Op.floatCmp,ho]<;>rfl
 cases he
 ·rename_i e ht;split at hk
  case h_2=>cases hk
  rename_i n hn;cases hk;have b8:∀(pu pv:Option Addr),u=.pointer pu->v=.pointer pv->(Op.equalIn 10000 t u v).run P w=.ok r w->(do eqGuard b t x y u v;binOp b t u v:Sem Value).run P w=.ok (.bool (if neg then !r else r)) w:=by rintro pu pv rfl rfl hr;rw[Sem.run_bind,Ce qaB qaC];exact Cd hb qac qac qam qau hr
  simp only[cJ] at he;split at he;cases he;simp only[aj] at hu hv;subst hu;subst hv;exact b8 _ _ rfl rfl (ep1 (D:=9999) ht);cases he;simp only[aj] at hu hv;obtain⟨_,rfl⟩:=hv;subst hu;exact b8 _ _ rfl rfl (ep2 (D:=9999) ht);cases he;simp only[aj] at hu hv;obtain⟨_,rfl⟩:=hu;subst hv;exact b8 _ _ rfl rfl (ep3 (D:=9999) ht);obtain⟨rfl,rfl,rfl⟩:=Ys he;simp only[aj] at hu hv;obtain⟨_,rfl⟩:=hu;obtain⟨_,rfl⟩:=hv;exact b8 _ _ rfl rfl (ep4 (D:=9999) ht hn);cases he
 rename_i e ht;cases hk;have b8:∀pu l c pv l' c',u=.slice pu l c->v=.slice pv l' c'->(Op.equalIn 10000 t u v).run P w=.ok r w->(do eqGuard b t x y u v;binOp b t u v:Sem Value).run P w=.ok (.bool (if neg then !r else r)) w:=by rintro pu l c pv l' c' rfl rfl hr;rw[Sem.run_bind,Ce qaB qaC];exact Cd hb qac qac qam qau hr
 simp only[cJ] at he;split at he<;>cases he<;>simp only[aj] at hu hv;subst hu;subst hv;exact b8 _ _ _ _ _ _ rfl rfl (es1 (D:=9999) ht);obtain⟨_,_,_,rfl,_⟩:=hv;subst hu;exact b8 _ _ _ _ _ _ rfl rfl (es2 (D:=9999) ht);obtain⟨_,_,_,rfl,_⟩:=hu;subst hv;exact b8 _ _ _ _ _ _ rfl rfl (es3 (D:=9999) ht);rename_i e1 e2 ht;cases hk;have b8:∀pu pv,u=.map pu->v=.map pv->(Op.equalIn 10000 t u v).run P w=.ok r w->(do eqGuard b t x y u v;binOp b t u v:Sem Value).run P w=.ok (.bool (if neg then !r else r)) w:=by rintro pu pv rfl rfl hr;rw[Sem.run_bind,Ce qaB qaC];exact Cd hb qac qac qam qau hr
 simp only[cJ] at he;split at he<;>cases he<;>simp only[aj] at hu hv;subst hu;subst hv;exact b8 _ _ rfl rfl (em1 (D:=9999) ht);obtain⟨_,rfl⟩:=hv;subst hu;exact b8 _ _ rfl rfl (JM (D:=9999) ht);obtain⟨_,rfl⟩:=hu;subst hv;exact b8 _ _ rfl rfl (em3 (D:=9999) ht);rename_i e1 e2 e3 ht;cases hk;have ff:∀z zv,(z=AV.qg\/∃g a c,z=AV.func g a c)->aj φ z zv->zv=.nilFunc\/∃g a c,zv=.func g a c:=by rintro z zv (rfl|⟨g,a,c,rfl⟩) hz<;>simp only[aj] at hz;exact .inl hz;obtain⟨fs,cs,rfl,_⟩:=hz;exact .inr ⟨_,_,_,rfl⟩
 have b8:(u=.nilFunc\/∃g a c,u=.func g a c)->(v=.nilFunc\/∃g a c,v=.func g a c)->(Op.equalIn 10000 t u v).run P w=.ok r w->(do eqGuard b t x y u v;binOp b t u v:Sem Value).run P w=.ok (.bool (if neg then !r else r)) w:=by intro GD tV hr;rw[Sem.run_bind,Ce (by rcases GD with rfl|⟨_,_,_,rfl⟩<;>(intro h;cases h)) (by rcases GD with rfl|⟨_,_,_,rfl⟩<;>(intro l r h;cases h))];refine Cd hb ?_ ?_ ?_ ?_ hr<;>rcases GD with rfl|⟨_,_,_,rfl⟩<;>intros<;>simp_all
 simp only[cJ] at he;split at he<;>cases he<;>simp only[aj] at hu hv;subst hu;subst hv;exact b8 (.inl rfl) (.inl rfl) (ef1 (D:=9999) ht);obtain⟨_,_,rfl,_⟩:=hv;subst hu;exact b8 (.inl rfl) (.inr ⟨_,_,_,rfl⟩) (ef2 (D:=9999) ht);obtain⟨_,_,rfl,_⟩:=hu;subst hv;exact b8 (.inr ⟨_,_,_,rfl⟩) (.inl rfl) (ef3 (D:=9999) ht);rename_i fs ht;split at hk;rename_i l hl;split at hk;cases hk;rename_i hg;cases hk;simp only[cJ] at he;split at he;simp only[aj] at hu hv;obtain⟨X,rfl,hX,_⟩:=hu;obtain⟨Y,rfl,hY,_⟩:=hv;have hc:=GB he hX hY;have hr:=(Sg 5).1 t l hl 10000 zo (.agg X) (.agg Y) X.toList Y.toList r w qaE qbg hc;rw[Sem.run_bind,Ce qaB (λ_ _ _ _=>by simpa using hg)];exact Cd hb qac qac qam qau hr;cases he;cases hk;rename_i ms ht;split at hk;rename_i JN;cases hk;have afB:zg x=true\/zg y=true:=by simpa using JN
 have b8:(u=.nilIface\/∃g a,u=.iface g a)->(v=.nilIface\/∃g a,v=.iface g a)->(Op.equalIn 10000 t u v).run P w=.ok r w->(do eqGuard b t x y u v;binOp b t u v:Sem Value).run P w=.ok (.bool (if neg then !r else r)) w:=by intro GD tV hr;rw[Sem.run_bind,Ce (λ_ _=>afB) (by rcases GD with rfl|⟨_,_,rfl⟩<;>(intro l r h;cases h))];refine Cd hb ?_ ?_ ?_ ?_ hr<;>rcases GD with rfl|⟨_,_,rfl⟩<;>intros<;>simp_all
 simp only[cJ] at he;split at he<;>cases he<;>simp only[aj] at hu hv;subst hu;subst hv;exact b8 (.inl rfl) (.inl rfl) (ei1 (D:=9999) ht);obtain⟨_,rfl,_⟩:=hv;subst hu;exact b8 (.inl rfl) (.inr ⟨_,_,rfl⟩) (ei2 (D:=9999) ht);obtain⟨_,rfl,_⟩:=hu;subst hv;exact b8 (.inr ⟨_,_,rfl⟩) (.inl rfl) (ei3 (D:=9999) ht);rename_i JN;cases hk;simp only[cJ] at he;split at he;rename_i g1 v1 g2 v2;simp only[aj] at hu hv;obtain⟨u1,rfl,wD⟩:=hu;obtain⟨u2,rfl,pM⟩:=hv;have b8:(Op.equalIn 10000 t (.iface g1 u1) (.iface g2 u2)).run P w=.ok r w->(do eqGuard b t x y (.iface g1 u1) (.iface g2 u2);binOp b t (.iface g1 u1) (.iface g2 u2):Sem Value).run P w=.ok (.bool (if neg then !r else r)) w:=by intro hr;rw[Sem.run_bind,Ce qaB qaC];exact Cd hb qac qac qam qau hr
 cases hg:Nat.beq g1 g2 with
 |false=>
  rw[hg] at he;cases he;exact b8 (ei4 (D:=9999) ht (λe=>by rw[e,av1] at hg;cases hg))
 |true=>
  rw[hg] at he;obtain rfl:=at7 hg;cases hm:BR g1 (I9 P) with
  |false=>rw[hm] at he;cases he
  |true=>
   rw[hm] at he;simp only[cond] at he;split at he;rename_i a1 a2;cases he;simp only[aj] at wD pM;subst wD pM;refine b8 ?_;have:=ei5 (P:=P) (w:=w) (t:=t) (D:=9998) (a:=a1) (b:=a2) ht (afA hm);rw[Yt];exact this;cases he
 cases he;cases hk
end
section
variable{P:Program}{φ:aH}{h:Hp}{w:World}{f:Fr}{a:Act}{o:Oper}
theorem afC{x:AV}{u:Value}(hx:aj φ x u):dI P φ w (Op.unary .neg u) (uR x):=by unfold uR;split;simp only[aj] at hx;subst hx;exact⟨_,by simp[Op.unary,Op.intArith];rfl,by simp only[aj,w64];simp⟩;simp only[aj] at hx;subst hx;exact⟨_,by simp[Op.unary,Op.intArith];rfl,by simpa using sO _ _⟩;trivial
theorem afD{x:AV}{u:Value}(hx:aj φ x u):dI P φ w (Op.unary .not u) (IY x):=by unfold IY;split;simp only[aj] at hx;subst hx;exact⟨_,by simp[Op.unary];rfl,by simp only[aj]⟩;trivial
theorem afE{x:AV}{u:Value}(hx:aj φ x u):dI P φ w (Op.unary .xor u) (BY x):=by unfold BY;split;simp only[aj] at hx;subst hx;exact⟨_,by simp[Op.unary,Op.intBits];rfl,sO _ _⟩;simp only[aj] at hx;subst hx;exact⟨_,by simp[Op.unary,Op.intBits];rfl,sO _ _⟩;rename_i k m;simp only[aj] at hx;subst hx;refine⟨_,?_,sO _ _⟩;cases k<;>(simp[Op.unary,Op.intBits];rfl);trivial
theorem Yy{x:AV}{v:Value}(hx:aj φ x v){n:Int}(h:intOf x=some n):∃k,v=.int k n:=by
 cases x<;>simp only[intOf,reduceCtorEq,atU] at h<;>simp only[aj] at hx
 case i m=>subst h;exact⟨_,hx⟩
 case u8 m=>subst h;exact⟨_,hx⟩
 case int k m=>subst h;exact⟨_,hx⟩
theorem afF{s d:TypeId}{i k:IntKind}(hs:P.underlying s=some (.int i))(hd:P.underlying d=some (.int k)){x:AV}{u:Value}(hx:aj φ x u):dI P φ w (convert s d u) (ko k x):=by unfold ko;split;rename_i n hn;obtain⟨j,rfl⟩:=Yy hx hn;exact⟨_,by simp[convert,bZ hs,bZ hd,Conv.intToInt],sO _ _⟩;trivial
theorem afG{s d:TypeId}{i:IntKind}{k:FloatKind}(hs:P.underlying s=some (.int i))(hd:P.underlying d=some (.float k)){x:AV}{u:Value}(hx:aj φ x u):dI P φ w (convert s d u) (IZ k x):=by unfold IZ;split;rename_i n hn;obtain⟨j,rfl⟩:=Yy hx hn;exact⟨.float k (k.nearest n),by simp[convert,bZ hs,bZ hd,Conv.intToFloat],by simp only[aj]⟩;trivial
theorem aoT{a b:Int}(h:Ml a b=true):a<=b:=by cases a<;>cases b<;>simp only[Ml,at3] at h;have:=au1 h;simp only[au8];omega;simp only[au8];omega;have:=au1 h;omega
theorem afH{s d:TypeId}{i k:FloatKind}(hs:P.underlying s=some (.float i))(hd:P.underlying d=some (.float k)){x:AV}{u:Value}(hx:aj φ x u):dI P φ w (convert s d u) (Mr k x):=by unfold Mr;split;rename_i j b;simp only[aj] at hx;subst hx;refine sP (λhc=>?_) λ_=>trivial;obtain rfl:=JH hc;exact⟨.float j b,by simp[convert,bZ hs,bZ hd,Conv.floatToFloat],by simp only[aj]⟩;trivial
theorem afI{x:AV}{u:Value}{n:Nat}(hx:aj φ x u):dI P φ w (Instr.extract u n) (IV x n):=by unfold IV;split;simp only[aj] at hx;obtain⟨cs,rfl,hl⟩:=hx;split;rename_i v hv;rw[Rx] at hv;obtain⟨y,hy,hd⟩:=tQ hl n v hv;rw[at5] at hy;exact⟨y,by simp[Instr.extract,hy],hd⟩;trivial;trivial
theorem afJ{t:TypeId}{dd:TypeDesc}(ht:P.underlying t=some dd)(hn:∀ms,dd≠.interface ms) {x:AV} {u:Value} (hx:aj φ x u):dI P φ w (Instr.makeInterface t u) (.v (.iface t x)):=by refine⟨.iface t u,?_,by simp only[aj];exact⟨u,rfl,hx⟩⟩;unfold Instr.makeInterface;rw[Sem.run_bind,bZ ht];cases dd<;>first|rfl|exact absurd rfl (hn _)
theorem xV(b o n:Nat):(⟨b,o,none⟩:Addr).add n=⟨b,o+n,none⟩:=by unfold Addr.add;split;rename_i e;subst e;rfl;rfl
theorem afK{s:TypeId}{fs:Array Field}{k:Nat}{fd:Field}{n:Nat}(hs:P.underlying s=some (.struct fs))(hf:fs[k]? =some fd)(hz:fI P fd.type=some (n+1)){x:AV}{u:Value}(hx:aj φ x u):
 dI P φ w (Instr.fieldAt s u k) (I0 x fd.offset):=by
 unfold I0;split;rename_i i o;simp only[aj] at hx;obtain⟨d,rfl⟩:=hx;refine⟨.pointer (some ⟨φ.aL i,φ.sh i+o+fd.offset,none⟩),?_,?_⟩;simp[Instr.fieldAt,bZ hs,hf,Instr.sureAddr,fieldPlace,vb hz,xV];simp only[aj];exact⟨d,by rw[uV,avg]⟩;trivial
theorem afL{t:TypeId}{n off:Nat}{dd:TypeDesc}(hz:fI P t=some n)(ht:P.underlying t=some dd){l:List AV}{cs:Array Value}(hl:cz φ l cs.toList)(h1:∀c∈cs.toList,c.oneCell'=true):
 dI P φ w (part t cs off) (IP l off n (oR dd)):=by
 unfold IP;cases ha:oR dd with
 |true=>
  simp only[cond];split;rename_i r hr;rw[Gp] at hr;obtain⟨rfl,dA⟩:=Gq _ _ _ hr;refine⟨.agg (cs.extract off (off+n)),?_,?_⟩;unfold part;rw[Sem.run_bind,GC ht,ha];simp[vb hz];simp only[aj];refine⟨_,rfl,?_,?_⟩;have e:(cs.extract off (off+n)).toList=(cs.toList.drop off).take n:=by simp[awS]
  rw[e];refine Gn ?_ λj x hx=>?_;have:=tP hl;simp[this];rw[awO] at hx;split at hx;rename_i hj;rw[auF] at hx;obtain⟨v,hv,hd⟩:=tQ hl _ _ hx;exact⟨v,by rw[auE hj,auF];exact hv,hd⟩;cases hx;intro c hc;refine h1 c ?_;have e:(cs.extract off (off+n)).toList=(cs.toList.drop off).take n:=by simp[awS]
  rw[e] at hc;exact axj (axk hc);trivial
 |false=>
  simp only[cond];split;rename_i v hv;rw[Rx] at hv;obtain⟨y,hy,hd⟩:=tQ hl off v hv;rw[at5] at hy;refine⟨y,?_,hd⟩;unfold part;rw[Sem.run_bind,GC ht,ha];simp[hy];trivial
theorem afM{s:TypeId}{fs:Array Field}{k:Nat}{fd:Field}{n:Nat}{dd:TypeDesc}(hs:P.underlying s=some (.struct fs))(hf:fs[k]? =some fd)(hz:fI P fd.type=some n)(ht:P.underlying fd.type=some dd){x:AV}{u:Value}(hx:aj φ x u):
 dI P φ w (Instr.field s u k) (IQ x fd.offset n (oR dd)):=by
 unfold IQ;split
 ·simp only[aj] at hx;obtain⟨cs,rfl,hl,h1⟩:=hx;have e:(Instr.field s (.agg cs) k).run P w=(part fd.type cs fd.offset).run P w:=by simp[Instr.field,bZ hs,hf,asAgg]
  have:=afL (P:=P) (φ:=φ) (w:=w) (off:=fd.offset) hz ht hl h1;cases hp:IP _ fd.offset n (oR dd)<;>rw[hp] at this<;>try exact this
  obtain⟨v,h1,h2⟩:=this;exact⟨v,by rw[e];exact h1,h2⟩
 trivial
theorem afN{c x y:AV}{u v z:Value}(hc:aj φ c z)(hx:aj φ x u)(hy:aj φ y v):dI P φ w (do pure (if<-asBool z then u else v)) (IW c x y):=by unfold IW;split;rename_i t;simp only[aj] at hc;subst hc;refine⟨if t then u else v,by simp[asBool],?_⟩;cases t;exact hy;exact hx;trivial
def Cf(φ:aH):Option AV->Option Value->Prop
 |none,none=>True
 |some x,some v=>aj φ x v
 |_,_=>False
theorem zD{n c:Nat}{k:IntKind}{cd:BoundsCode}(h:n<=c)(w:World):(Instr.sliceBound (.int k n) c cd).run P w=.ok n w:=by simp[Instr.sliceBound,asIntOf,h]
theorem Yz{lo hi:Option AV}{pN zG:Option Value}{len cap c p q:Nat}{JO:Bool}(h:bounds lo hi len cap=some (p,q))(cK:Cf φ lo pN)(Cg:Cf φ hi zG)(hc:cap<=c)(w:World):
 (Instr.sliceBounds JO len c pN zG none).run P w=.ok (p,q,c) w/\p<=q/\q<=cap:=by
 unfold bounds at h;split at h;rename_i hN Na;obtain⟨mR,h⟩:=qt h;rw[je] at mR;split at h;rename_i l hl;obtain⟨eZ,h⟩:=qt h;rw[je] at eZ;cases h;refine⟨?_,eZ,mR⟩;have b1:=zD (P:=P) (k:=.i64) (cd:=.index) (at1 mR hc) w;cases hi with
 |none=>
  cases zG with
  |some _=>exact Cg.elim
  |none=>
   cases Na;cases lo with
   |none=>
    cases pN with
    |some _=>exact cK.elim
    |none=>cases hl;simp[Instr.sliceBounds]
   |some x=>
    cases pN with
    |none=>exact cK.elim
    |some v=>
     obtain⟨k,rfl⟩:=tU cK hl;simp[Instr.sliceBounds,zD eZ]
 |some y=>
  cases zG with
  |none=>exact Cg.elim
  |some vy=>
   obtain⟨ky,rfl⟩:=tU Cg Na;cases lo with
   |none=>
    cases pN with
    |some _=>exact cK.elim
    |none=>cases hl;simp[Instr.sliceBounds,zD (at1 mR hc)]
   |some x=>
    cases pN with
    |none=>exact cK.elim
    |some v=>
     obtain⟨k,rfl⟩:=tU cK hl;simp[Instr.sliceBounds,zD eZ,zD (at1 mR hc)]
 cases h;cases h
theorem aoU{lo:Option AV}{x m:AV}{pN:Option Value}{vx vm:Value}{len cap c p q cm:Nat}{JO:Bool}(h:bounds lo (some x) len cm=some (p,q))(hm:mM m=some cm)(Nb:cm<=cap)(cK:Cf φ lo pN)(hx:aj φ x vx)(hvm:aj φ m vm)(hc:cap<=c)(w:World):
 (Instr.sliceBounds JO len c pN (some vx) (some vm)).run P w=.ok (p,q,cm) w/\p<=q/\q<=cm:=by
 unfold bounds at h;split at h;rename_i hN Na;obtain⟨mR,h⟩:=qt h;rw[je] at mR;split at h;rename_i l hl;obtain⟨eZ,h⟩:=qt h;rw[je] at eZ;cases h;refine⟨?_,eZ,mR⟩;obtain⟨km,rfl⟩:=tU hvm hm;obtain⟨kx,rfl⟩:=tU hx Na;cases lo with
 |none=>
  cases pN with
  |some _=>exact cK.elim
  |none=>cases hl;simp[Instr.sliceBounds,zD mR,zD (at1 Nb hc)]
 |some x=>
  cases pN with
  |none=>exact cK.elim
  |some v=>
   obtain⟨k,rfl⟩:=tU cK hl;simp[Instr.sliceBounds,zD mR,zD eZ,zD (at1 Nb hc)]
 cases h;cases h
theorem afO{t:TypeId}(ht:P.underlying t=some .string){x:AV}{u:Value}(hx:aj φ x u){lo hi:Option AV}{pN zG:Option Value}(cK:Cf φ lo pN)(Cg:Cf φ hi zG):
 dI P φ w (Instr.sliceAt t u pN zG none) (wh x lo hi):=by
 unfold wh;split;rename_i l n;simp only[aj] at hx;obtain⟨s,rfl,hs⟩:=hx;split;rename_i p q hb;have cP:=hs.size;obtain⟨hr,h1,h2⟩:=Yz (P:=P) (JO:=false) (c:=s.size) hb cK Cg (avp cP.symm) w;rw[<-cP] at hr;refine⟨.string (s.extract p q),?_,?_⟩;simp[Instr.sliceAt,Instr.slice,bZ ht,hr];simp only[aj];exact⟨_,rfl,hs.sub h1 h2⟩;trivial;trivial
theorem tW{i:Nat}(r:R φ h w)(hc:(h.get i).ig=true):qu φ w i (h.get i):=by have:=r.gq i;cases hg:h.get i<;>rw[hg] at hc this<;>simp only[AO.ig,at3] at hc;exact this;exact this
theorem afP{i:AO}{off n:Nat}{l:List AV}(h:cellsOf i off n=some l):i.ig=true\/∃rw cnt t,i=.cB rw cnt t:=by cases i<;>first|exact .inl rfl|exact .inr ⟨_,_,_,rfl⟩|simp[cellsOf] at h
theorem YA{i:Nat}{off n:Nat}{l:List AV}(r:R φ h w)(hc:cellsOf (h.get i) off n=some l):
 ∃vs:List Value,vs.length=n/\cz φ l vs/\(∀v∈vs,v.oneCell'=true)/\∀j v,vs[j]? =some v->w.cell? ⟨φ.aL i,φ.sh i+off+j,none⟩=some v:=by
 obtain⟨o,aO,el,fr,GF,nT,hc,b1,b3,b4,b5⟩:∃(o:AO) (aO:Array Value) (el:Nat) (fr:Nat×Nat),o.wf/\o.ig=true/\cellsOf o off n=some l/\w.heap[φ.aL i]? =some (.cells aO el fr)/\φ.sh i+o.count<=aO.size/\
  (∀(j:Nat)(a:AV),o.cell j=some a->∃v,aO[φ.sh i+j]? =some v/\aj φ a v)/\∀(j:Nat)(v:Value),j<o.count->aO[φ.sh i+j]? =some v->v.oneCell'=true:=by
  rcases afP hc with nT|⟨nN,cnt,t,ho⟩;have ok:=tW r nT;obtain⟨aO,fr,b1,b2,b3,b4,b5,b6⟩:=ok.aL;exact⟨h.get i,aO,_,fr,ok.wf,nT,hc,b1,b3,b4,λj v _ hv=>b5 _ v hv⟩;have ob:=r.gq i;rw[ho] at ob;obtain⟨h1,h2,aO,el,fr,h3,h4,h5,h6⟩:=ob;rw[h3] at h1;refine⟨.rows 0 nN cnt 0 t,aO,el,fr,h2,rfl,?_,h1,h4,h5,h6⟩;rw[ho] at hc;exact hc
 obtain⟨h1,h2,h3⟩:=afa GF nT hc
 by_cases hn:n=0
 subst hn;have:l=[]:=auv h1;subst this;exact⟨[],rfl,sJ,by simp,by simp⟩;have ao:=h2 zo;have cP:φ.sh i+off+n<=aO.size:=zo;have e:∀j,j<n->((aO.toList.drop (φ.sh i+off)).take n)[j]? =aO[φ.sh i+off+j]? :=λj hj=>by rw[auE hj,auF,at5]
 refine⟨(aO.toList.drop (φ.sh i+off)).take n,by simp;omega,Gn (by simp[h1];omega) λj x hx=>?_,λv hv=>?_,λj v hv=>?_⟩;have hj:j<n:=by rw[<-h1];exact(at0.1 hx).1
 rw[h3 j hj] at hx;obtain⟨v,hv,hd⟩:=b4 _ _ hx;exact⟨v,by rw[e j hj,avg];exact hv,hd⟩;obtain⟨j,hj⟩:=aum hv;have sR:j<n:=by have:=(at0.1 hj).1;simp at this;omega
 rw[e j sR,avg] at hj;exact b5 _ _ zo hj;have sR:j<n:=by have:=(at0.1 hv).1;simp at this;omega
 rw[e j sR] at hv;simp[World.cell?,b1,hv]
theorem YB{t:TypeId}{dd:TypeDesc}(r:R φ h w)(ht:P.underlying t=some dd)(ha:oR dd=false){x:AV}{u:Value}(hx:aj φ x u):dI P φ w (Instr.loadAt t u) (Dw h x):=by
 unfold Dw;split;rename_i i off;simp only[aj] at hx;obtain⟨d,rfl⟩:=hx;split;rename_i v l hc;obtain⟨vs,h1,h2,h3,h4⟩:=YA r hc;cases vs with
 |nil=>simp at h1
 |cons y vs=>
  have hd:=(qS.1 h2).1;have nU:=h4 0 y zm;rw[aud] at nU;refine⟨y,?_,hd⟩;simp[Instr.loadAt,Instr.sureAddr,loadVar,GC ht,ha,run_load,nU]
 trivial;trivial
theorem YC{t:TypeId}{dd:TypeDesc}{n:Nat}(r:R φ h w)(ht:P.underlying t=some dd)(ha:oR dd=true)(hz:fI P t=some n){x:AV}{u:Value}(hx:aj φ x u):dI P φ w (Instr.loadAt t u) (Dx h n x):=by unfold Dx;split;rename_i i off;simp only[aj] at hx;obtain⟨d,rfl⟩:=hx;split;rename_i l hc;obtain⟨vs,h1,h2,h3,h4⟩:=YA r hc;have hl:=run_loadCells_list (P:=P) w ⟨φ.aL i,φ.sh i+off,none⟩ vs (λj v hv=>by rw[xV];exact h4 j v hv);rw[h1] at hl;refine⟨.agg vs.toArray,?_,?_⟩;simp[Instr.loadAt,Instr.sureAddr,loadVar,GC ht,ha,vb hz,hl];simp only[aj];exact⟨_,rfl,h2,h3⟩;trivial;trivial
theorem afQ{t e:TypeId}{s:Nat}(ht:P.underlying t=some (.slice e))(hz:fI P e=some (s+1)){x y:AV}{u v:Value}(hx:aj φ x u)(hy:aj φ y v):dI P φ w (Instr.indexAt t u v) (Dy (s+1) x y):=by unfold Dy;split;rename_i i off nN len cap ex;split;rename_i k hk;refine sP (λhc=>?_) λ_=>trivial;rw[je] at hc;obtain⟨kk,rfl⟩:=tU hy hk;simp only[aj] at hx;obtain⟨d,ad,c,rfl,g1,g2,g3,g4⟩:=hx;obtain⟨rfl,g5⟩:=g4 zo;have ao:(k:Int)<(len:Int):=zo;refine⟨.pointer (some ⟨φ.aL i,φ.sh i+off+k*(s+1),none⟩),?_,?_⟩;simp[Instr.indexAt,asIntOf,bZ ht,vb hz,xV];intro hh;omega;simp only[aj];exact⟨d,by rw[uV,B9,avg]⟩;trivial;trivial
theorem afR{t e:TypeId}{s n:Nat}(ht:P.underlying t=some (.array n e))(hz:fI P e=some (s+1)){x y:AV}{u v:Value}(hx:aj φ x u)(hy:aj φ y v):dI P φ w (Instr.indexAt t u v) (yY (s+1) n x y):=by unfold yY;split;rename_i i off;split;rename_i k hk;refine sP (λhc=>?_) λ_=>trivial;rw[je] at hc;obtain⟨kk,rfl⟩:=tU hy hk;simp only[aj] at hx;obtain⟨d,rfl⟩:=hx;have ao:(k:Int)<(n:Int):=zo;refine⟨.pointer (some ⟨φ.aL i,φ.sh i+off+k*(s+1),none⟩),?_,?_⟩;simp[Instr.indexAt,asIntOf,bZ ht,vb hz,xV,Instr.sureAddr];intro hh;omega;simp only[aj];exact⟨d,by rw[uV,B9,avg]⟩;trivial;trivial
theorem afS{t:TypeId}(ht:P.underlying t=some .string){x y:AV}{u v:Value}(hx:aj φ x u)(hy:aj φ y v):dI P φ w (Instr.index t u v) (nh x y):=by unfold nh;split;rename_i l n;split;rename_i k hk;refine sP (λhc=>?_) λ_=>trivial;rw[je] at hc;obtain⟨kk,rfl⟩:=tU hy hk;simp only[aj] at hx;obtain⟨s,rfl,hs⟩:=hx;obtain⟨b,hb,JP⟩:=hs.get (show k<l by omega);refine⟨.int .u8 b.toNat,?_,?_⟩;simp[Instr.index,asIntOf,bZ ht,hb];simp only[aj,JP];trivial;trivial
theorem afT{t e:TypeId}{s n:Nat}(r:R φ h w)(ht:P.underlying t=some (.array n e))(hz:fI P e=some (s+1)){x:AV}{u:Value}(hx:aj φ x u){lo hi:Option AV}{pN zG:Option Value}(cK:Cf φ lo pN)(Cg:Cf φ hi zG):
 dI P φ w (Instr.sliceAt t u pN zG none) (FQ h (s+1) n x lo hi):=by
 unfold FQ;split
 ·rename_i i off;split
  ·rename_i p q hb;refine sP (λhc=>?_) λ_=>trivial;rw[je] at hc;simp only[aj] at hx;obtain⟨d,rfl⟩:=hx;obtain⟨hr,h1,h2⟩:=Yz (P:=P) (JO:=false) (c:=n) hb cK Cg zl w;refine⟨.slice (some (if n=p then⟨φ.aL i,φ.sh i+off,none⟩ else(⟨φ.aL i,φ.sh i+off,none⟩:Addr).add (p*(s+1)))) (q- p) (n- p),?_,?_⟩;simp[Instr.sliceAt,bZ ht,Instr.sureAddr,hr,vb hz]
   ·simp only[aj];refine⟨d,_,_,rfl,Nat.sub_le_sub_right h2 p,at2 _,λ_=>rfl,λbg=>?_⟩;have hnp:n≠p:=λe=>bg zo;rw[atS hnp,xV];refine⟨by rw[uV,B9,avg],?_⟩;have hcells:(h.get i).ig=true:=by
     cases hg:h.get i<;>rw[hg] at hc<;>simp only[IN,uV,B9] at hc<;>first|rfl|skip
     all_goals(exfalso;have:0<n*(s+1):=Nat.mul_pos zo zo;omega)
    obtain⟨wf,_,aO,fr,b1,b2,b3,_⟩:=tW r hcells;have qT:IN (h.get i)=(h.get i).count:=by cases h.get i<;>simp[IN,AO.count,tR]
    rw[qT] at hc;simp only[uV,B9] at hc⊢;have:p*(s+1)+(n- p)*(s+1)=n*(s+1):=by rw[<-auC];congr 1;omega
    omega
  trivial
 trivial
def k6(P:Program)(φ:aH)(h:Hp)(w:World)(s:Sem Value):OR->Prop
 |.v x=>∃v w',s.run P w=.ok v w'/\aj φ x v/\sL w w'
 |.vh x h'=>∃v w' ψ,s.run P w=.ok v w'/\R ψ h' w'/\eS φ h w ψ w' h'/\aj ψ x v
 |.bad _=>True
 |.alts l=>∃v w' ψ h',h'∈l/\s.run P w=.ok v w'/\R ψ h' w'/\eS φ h w ψ w' h'/\aj ψ wm v
 |_=>False
theorem vf{co:CO}{s:Sem Value}(he:execOp a.eval o=(do pure (.value (<-s))))(hp:k6 P φ h w s (aQ co f h)):Good P φ h w f a o co:=by
 unfold Good;rw[he];cases hr:aQ co f h with
 |v x=>
  rw[hr] at hp;obtain⟨v,w',h1,h2,h3⟩:=hp;exact⟨.value v,v,w',by simp[h1],.inl rfl,h2,h3⟩
 |vh x h'=>
  rw[hr] at hp;obtain⟨v,w',ψ,h1,h2,h3,h4⟩:=hp;exact⟨.value v,v,w',ψ,by simp[h1],.inl rfl,h2,h3,h4⟩
 |bad s=>trivial
 |alts l=>
  rw[hr] at hp;obtain⟨v,w',ψ,h',h0,h1,h2,h3,h4⟩:=hp;exact⟨.value v,v,w',ψ,h',h0,by simp[h1],.inl rfl,h2,h3,h4⟩
 |call=>rw[hr] at hp;exact hp.elim
 |df=>rw[hr] at hp;exact hp.elim
 |bn=>rw[hr] at hp;exact hp.elim
def GG(P:Program)(φ:aH)(h:Hp)(w:World)(s:Sem Unit):OR->Prop
 |.vh x h'=>x=undef/\∃w' ψ,s.run P w=.ok () w'/\R ψ h' w'/\eS φ h w ψ w' h'
 |.bad _=>True
 |_=>False
theorem DX{ψ:aH}:aj ψ undef Go.undef:=by simp only[undef,aj];exact⟨#[],rfl,sJ⟩
theorem Si{co:CO}{s:Sem Unit}(he:execOp a.eval o=(do s;pure .skip))(hp:GG P φ h w s (aQ co f h)):Good P φ h w f a o co:=by
 unfold Good;rw[he];cases hr:aQ co f h with
 |vh x h'=>
  rw[hr] at hp;obtain⟨rfl,w',ψ,h1,h2,h3⟩:=hp;exact⟨.skip,Go.undef,w',ψ,by simp[h1],.inr ⟨rfl,rfl⟩,h2,h3,DX⟩
 |bad s=>trivial
 |v=>rw[hr] at hp;exact hp.elim
 |alts=>rw[hr] at hp;exact hp.elim
 |call=>rw[hr] at hp;exact hp.elim
 |df=>rw[hr] at hp;exact hp.elim
 |bn=>rw[hr] at hp;exact hp.elim
theorem zH{s:Sem Value}{c:Bool}{x y:OR}(ht:c=true->k6 P φ h w s x)(hf:c=false->k6 P φ h w s y):k6 P φ h w s (cond c x y):=by
 cases c with
 |true=>exact ht rfl
 |false=>exact hf rfl
theorem YD{s:Sem Unit}{c:Bool}{x y:OR}(ht:c=true->GG P φ h w s x)(hf:c=false->GG P φ h w s y):GG P φ h w s (cond c x y):=by
 cases c with
 |true=>exact ht rfl
 |false=>exact hf rfl
theorem k6.aoV{s:Sem Value}{x:OR}(hp:dI P φ w s x):k6 P φ h w s x:=by cases x<;>simp only[dI] at hp<;>first|trivial|(obtain⟨v,h1,h2⟩:=hp;exact⟨v,w,h1,h2,.refl w⟩)
theorem Sj{s:Sem Value}{o':AO}{k:Nat->AV}{gq:Obj}{v:Value}{z:Nat}(r:R φ h w)(cS:s.run P w=.ok v (w.alloc gq))(hl:dH o'=true)
 (DQ:kM (φ.put h.nx w.heap.size 0 z) (w.alloc gq) h.nx o') (k8:(φ.put h.nx w.heap.size 0 z).dom h.nx->φ.le (φ.put h.nx w.heap.size 0 z)->aj (φ.put h.nx w.heap.size 0 z) (k h.nx) v):k6 P φ h w s (alloc h o' k):=by
 unfold alloc;have hn:jN (h.get h.nx)=true:=h.fresh;have dB:¬φ.dom h.nx:=λd=>by rw[(r.dom _).1 d] at hn;cases hn
 have hh:∀c,c<w.heap.size->(w.alloc gq).heap[c]? =w.heap[c]? :=λc hc=>by simp only[World.alloc];rw[Array.getElem?_push_lt hc];simp[hc]
 obtain⟨r',st⟩:=MT (h':=h.push o') (w':=w.alloc gq) (b:=w.heap.size) (s:=0) (z:=z) (qv:=none) r hn hl zm
  (λj=>by rw[Hp.B8];rfl) (.inl rfl) zm zm (λc hc _=>hh c hc) (λ_ _=>.inr rfl) DQ rfl rfl rfl
 exact⟨v,_,_,cS,r',st,k8 (.inl rfl) (aH.Ca dB)⟩
theorem JR{n:Nat}{o':AO}{cs:Array Value}(hw:o'.wf)(hc:o'.ig=true)(qT:o'.count<=cs.size/\(o'.DO=true->o'.count=cs.size))
 (nU:∀(j:Nat)(x:AV),o'.cell j=some x->∃v,cs[j]? =some v/\aj (φ.put n w.heap.size 0 cs.size) x v) (h1:∀(j:Nat)(v:Value),cs[j]? =some v->v.oneCell'=true):
 kM (φ.put n w.heap.size 0 cs.size) (w.alloc (.cells cs o'.el)) n o':=by
 have key:qu (φ.put n w.heap.size 0 cs.size) (w.alloc (.cells cs o'.el)) n o':=by refine⟨hw,λho=>by simp[aH.put,qT.2 ho],λ_=>⟨cs,by rw[show(φ.put n w.heap.size 0 cs.size).aL n=w.heap.size from atV rfl];exact avw⟩,cs,(0,0),?_,?_,?_,?_,h1,?_⟩;have e:(φ.put n w.heap.size 0 cs.size).aL n=w.heap.size:=atV rfl;rw[e];exact avw;simp[aH.put];simpa[aH.put] using qT.1;simpa[aH.put] using nU;intro j _ hj;simp at hj
 cases o'<;>first|exact key|simp[AO.ig] at hc
theorem GH{t:TypeId}{z:AV}(hz:ze P t=some z):∃i v,P.info? t=some i/\i.zero=some v/\∀ψ,aj ψ z v:=by unfold ze at hz;split at hz;rename_i i hi;split at hz;rename_i v hv;exact⟨i,v,hi,hv,λψ=>RP _ _ _ hz⟩;cases hz;cases hz
theorem DY{t:TypeId}{i:TypeInfo}{v:Value}(hi:P.info? t=some i)(hv:i.zero=some v)(w:World):(zeroValue t).run P w=.ok v w:=by simp[zeroValue,typeInfo,hi,hv]
theorem GI{x:AV}{v:Value}{l:List AV}(hc:bQ x=some l)(hx:aj φ x v):cz φ l v.cells.toList/\∀c∈v.cells.toList,c.oneCell'=true:=by
 have one:qM x=true->bQ x=some [x]->cz φ l v.cells.toList/\∀c∈v.cells.toList,c.oneCell'=true:=by
  intro hi e;rw[e] at hc;cases hc;have h1:=Yg hi hx;have:v.cells=#[v]:=by cases v<;>first|rfl|simp[Value.oneCell'] at h1
  rw[this];exact⟨qS.2 ⟨hx,sJ⟩,by simpa using h1⟩
 cases x<;>first
  |exact one rfl rfl
  |(simp[bQ,qM] at hc;done)
  |skip
 simp only[bQ,atU] at hc;subst hc;simp only[aj] at hx;obtain⟨cs,rfl,h1,h2⟩:=hx;exact⟨h1,h2⟩
theorem YE{t:TypeId}{l:List AV}(r:R φ h w)(hz:rO P t=some l):k6 P φ h w (Instr.alloc t true (.tuple #[])) (alloc h (.one t l) λi=>.ptr i 0):=by
 unfold rO at hz;split at hz;rename_i z zI;obtain⟨i,v,hi,hv,hd⟩:=GH zI;have cS:(Instr.alloc t true (.tuple #[])).run P w=.ok (.pointer (some ⟨w.heap.size,0,none⟩)) (w.alloc (.cells v.cells t)):=by simp[Instr.alloc,DY hi hv,newVar,newRow]
 have hc:=λψ=>GI (φ:=ψ) hz (hd ψ);refine Sj r cS rfl (JR (o':=.one t l) trivial rfl ?_ ?_ ?_) λd _=>?_;have:=tP (hc φ).1;simp only[AO.count];simp at this;exact⟨by omega,λ_=>by omega⟩;intro j x hx;obtain⟨u,hu,Sk⟩:=tQ (hc _).1 j x hx;exact⟨u,by simpa using hu,Sk⟩;intro j u hu;exact(hc φ).2 u (by have:=aua (l:=v.cells.toList) (i:=j) (by simpa using hu);exact this);simp only[aj,aH.put,auo];exact⟨.inl trivial,by simp⟩;cases hz
theorem afU{t:TypeId}{n:Nat}{x:AV}{u:Value}(r:R φ h w)(hx:aj φ x u):k6 P φ h w (Instr.box t u) (IX h t n x):=by
 unfold IX;split;rename_i l hl;refine zH (λ_=>?_) λ_=>trivial;have cS:(Instr.box t u).run P w=.ok (.pointer (some ⟨w.heap.size,0,none⟩)) (w.alloc (.cells u.cells t)):=by simp[Instr.box,newVar,newRow]
 have hc:=GI hl hx
 by_cases hn:jN (h.get h.nx)=true
 have dB:¬φ.dom h.nx:=λd=>by rw[(r.dom _).1 d] at hn;cases hn
 refine Sj (z:=u.cells.size) r cS rfl (JR (o':=.one t l) trivial rfl ?_ ?_ ?_) λd _=>?_;have:=tP hc.1;simp only[AO.count];simp at this;exact⟨by omega,λ_=>by omega⟩;intro j y hy;obtain⟨v,hv,hd⟩:=tQ hc.1 j y hy;exact⟨v,by simpa using hv,nS (aH.Ca dB) _ _ hd⟩;intro j v hv;exact hc.2 v (aua (l:=u.cells.toList) (i:=j) (by simpa using hv));simp only[aj,aH.put,auo];exact⟨.inl trivial,by simp⟩;exact absurd h.fresh hn;trivial
theorem Sl{b:Nat}{el:TypeId}{fr:Nat×Nat}:∀(vs:List Value)(o:Nat)(w:World)(aO:Array Value),w.heap[b]? =some (.cells aO el fr)->o+vs.length<=aO.size->
 ∃mo:Array Value,(w.setCells b o vs).heap[b]? =some (.cells mo el fr)/\mo.size=aO.size/\(∀j,mo[j]? =if o<=j/\j<o+vs.length then vs[j- o]? else aO[j]?)/\
  (∀c,c≠b->(w.setCells b o vs).heap[c]? =w.heap[c]?)/\(w.setCells b o vs).heap.size=w.heap.size/\(w.setCells b o vs).os=w.os/\(w.setCells b o vs).output=w.output/\(w.setCells b o vs).tape=w.tape
 |[],o,w,aO,hb,_=>⟨aO,hb,rfl,λj=>by rw[atS (by simp only[aup];omega)],λ_ _=>rfl,rfl,rfl,rfl,rfl⟩
 |v::r,o,w,aO,hb,hl=>by
  simp only[atX] at hl;have hs:∀c,(w.setCell ⟨b,o,none⟩ v).heap[c]? =if b=c then some (.cells (aO.setIfInBounds o v) el fr) else w.heap[c]? :=λc=>by simp only[World.setCell,av3];split;rename_i e;subst e;rw[hb];rfl;rfl
  obtain⟨mo,h1,h2,h3,h4,h5,h6,h7,h8⟩:=Sl r (o+1) (w.setCell ⟨b,o,none⟩ v) (aO.setIfInBounds o v) (by rw[hs,atV rfl]) zn;refine⟨mo,h1,by simpa using h2,λj=>?_,λc hc=>?_,by rw[World.setCells,h5];simp,h6,h7,h8⟩;rw[h3 j];simp only[atX]
  by_cases hj:j=o
  subst hj;rw[atS zo,atV zo,awP,Array.getElem?_setIfInBounds_self_of_lt zo];rfl
  by_cases pO:o+1<=j/\j<o+1+r.length
  rw[atV pO,atV zo,show j- o=(j- (o+1))+1 by omega,auV];rw[atS pO,atS zo,avS zo];rw[World.setCells,h4 c hc,hs,atS (Ne.symm hc)]
theorem Sm{i:Nat}{off:Nat}{l:List AV}{o':AO}{vs:List Value}(r:R φ h w)(hc:(h.get i).ig=true)(sp:RC (h.get i) off l o')(hd:cz φ l vs)(h1:∀v∈vs,v.oneCell'=true):
 R φ (h.set i o') (w.setCells (φ.aL i) (φ.sh i+off) vs)/\eS φ h w φ (w.setCells (φ.aL i) (φ.sh i+off) vs) (h.set i o')/\
  (∀k,(storeCells ⟨φ.aL i,k,none⟩ vs (φ.sh i+off- k)).run P w=.ok () (w.setCells (φ.aL i) (φ.sh i+off) vs)\/φ.sh i+off<k):=by
 have bz:=tP hd
 by_cases h0:vs=[]
 subst h0;have pP:l=[]:=auv (by simpa using bz.symm);subst pP;have ok:=tW r hc;have zC:dH (h.get i)=true:=by cases hg:h.get i<;>rw[hg] at hc<;>simp[AO.ig] at hc<;>rfl
 have Sn:dH o'=true:=by have:=sp.cells;cases ho:o'<;>rw[ho] at this<;>simp[AO.ig] at this<;>rfl
 have ob:kM φ w i o':=by obtain⟨aO,fr,b1,b2,b3,b4,b5,b6⟩:=ok.aL;have key:qu φ w i o':=⟨sp.wf,λh1=>by rw[sp.count];exact ok.unit (by rw[<-sp.one];exact h1),λho=>by rw[sp.el];exact ok.ro (by rw[AO.ro,sp.fz] at ho;exact ho),aO,fr,by rw[sp.el];exact b1,b2,by rw[sp.count];exact b3,λj x hx=>b4 j x (by rw[sp.cell,atS (by simp only[aup];omega)] at hx;exact hx),b5,by rw[sp.fz];exact b6⟩;have:=sp.cells;cases o'<;>first|exact key|simp[AO.ig] at this
 obtain⟨r',st⟩:=JC (h':=h.set i o') (w':=w) (i:=i) (o':=o') r qaP Sn (λj=>Hp.tS _ _ _ _) rfl (λ_ _=>rfl) ob
  (λj ek m aD todo eC _ _ _ aW fQ he=>⟨aW,fQ,he,at2 _,λ_=>⟨id,λ_=>rfl,λ_ _ _ h=>h,by simp⟩⟩) rfl rfl rfl
 exact⟨r',st,λk=>.inl rfl⟩;have ok:=tW r hc;obtain⟨aO,fr,b1,b2,b3,b4,b5,b6⟩:=ok.aL;have mO:0<l.length:=by rw[<-bz];exact auA.2 h0
 have tX:=sp.room mO;have zC:dH (h.get i)=true:=by cases hg:h.get i<;>rw[hg] at hc<;>simp[AO.ig] at hc<;>rfl
 have Sn:dH o'=true:=by have:=sp.cells;cases ho:o'<;>rw[ho] at this<;>simp[AO.ig] at this<;>rfl
 obtain⟨mo,g1,g2,g3,g4,g5,g6,g7,g8⟩:=Sl vs (φ.sh i+off) w aO b1 zo;have ob:kM φ (w.setCells (φ.aL i) (φ.sh i+off) vs) i o':=by
  have key:qu φ (w.setCells (φ.aL i) (φ.sh i+off) vs) i o':=by refine⟨sp.wf,λh1=>by rw[sp.count];exact ok.unit (by rw[<-sp.one];exact h1),λho=>by(obtain⟨a0,e0⟩:=ok.ro (by rw[AO.ro,sp.fz] at ho;exact ho);rw[b1] at e0;cases e0;exact⟨mo,by rw[sp.el];exact g1⟩),mo,fr,by rw[sp.el];exact g1,by rw[g2];exact b2,by rw[sp.count,g2];exact b3,λj x hx=>?_,λj v hv=>?_,by rw[sp.fz,g2];exact b6⟩;rw[sp.cell] at hx;rw[g3];split at hx;rename_i hj;rw[atV zo];obtain⟨v,hv,qw⟩:=tQ hd _ _ hx;exact⟨v,by rw[<-hv];congr 1;omega,qw⟩;rename_i hj;rw[atS zo];exact b4 j x hx;rw[g3] at hv;split at hv;exact h1 v (aua hv);exact b5 j v hv
  have:=sp.cells;cases o'<;>first|exact key|simp[AO.ig] at this
 obtain⟨r',st⟩:=JC (h':=h.set i o') (w':=w.setCells (φ.aL i) (φ.sh i+off) vs) (i:=i) (o':=o') r qaP Sn (λj=>Hp.tS _ _ _ _) g5 (λc hc=>g4 c hc) ob
  (λj ek m aD todo eC _ _ e aW fQ he=>by rw[e,g1] at he;cases he) g6 g7 g8
 refine⟨r',st,λk=>?_⟩
 by_cases hk:k<=φ.sh i+off
 refine .inl ?_;rw[run_storeCells_cells (φ.aL i) k vs (φ.sh i+off- k) w (λj hj=>?_) (λj hj=>?_) h1,show k+(φ.sh i+off- k)=φ.sh i+off by omega];have:k+(φ.sh i+off- k)+j<aO.size:=zo;simp[World.cell?,b1,this];have hb:=b6 (k+(φ.sh i+off- k)+j);have:=sp.XZ;simp only[World.frozen?,b1]
 by_cases c:fr.1 <=k+(φ.sh i+off- k)+j/\k+(φ.sh i+off- k)+j<fr.2
 have:=hb c.1 c.2 zo;omega;simp only[axd,awn];omega;exact .inr zo
theorem afV{t:TypeId}{n:Nat}(r:R φ h w)(hz:fI P t=some n){x y:AV}{u v:Value}(hx:aj φ x u)(hy:aj φ y v):GG P φ h w (Instr.storeAt t u v) (FP h n x y):=by
 unfold FP;split;rename_i i off;split;rename_i l hl;refine YD (λhc=>?_) λ_=>trivial;rw[beq_iff,tR] at hc;split;rename_i ob zJ;simp only[aj] at hx;obtain⟨d,rfl⟩:=hx;have nT:(h.get i).ig=true:=by cases hg:h.get i<;>rw[hg] at zJ<;>first|rfl|simp[setCells] at zJ
 have sp:=RD (tW r nT).wf zJ;obtain⟨hd,h1⟩:=GI hl hy;obtain⟨r',st,cS⟩:=Sm (P:=P) r nT sp hd h1;refine⟨rfl,_,φ,?_,r',st⟩;have hk:=(cS (φ.sh i+off)).resolve_right zo;rw[awP] at hk;have cP:v.cells.size=n:=by have:=tP hd;simp at this;omega
 simp[Instr.storeAt,Instr.sureAddr,storeVar,vb hz,cP,hk];trivial;trivial;trivial
theorem YF(v:Value)(aO:Array Value)(off:Nat)(dA:off+v.cells.size<=aO.size):
 (v.cells.zipIdx.foldl (λcs(c,j)=>cs.setIfInBounds (off+j) c) aO).size=aO.size/\
 ∀k,(v.cells.zipIdx.foldl (λcs(c,j)=>cs.setIfInBounds (off+j) c) aO)[k]? =if off<=k/\k<off+v.cells.size then v.cells[k- off]? else aO[k]? :=by
 obtain⟨g1,g2⟩:=Great.foldl_set off v.cells.toList 0 aO;have e:v.cells.zipIdx.foldl (λcs(c,j)=>cs.setIfInBounds (off+j) c) aO=(v.cells.toList.zipIdx 0).foldl (λcs(x:Value×Nat)=>cs.setIfInBounds (off+x.2) x.1) aO:=by rw[<-Array.foldl_toList,Array.toList_zipIdx]
 rw[e];refine⟨g1,λk=>?_⟩;rw[g2 k];simp only[aud,avc]
 by_cases hk:off<=k/\k<off+v.cells.size
 rw[atV hk,atV zo,at5];rw[atS hk,atS zo]
def JS(φ:aH)(get:CX->AV)(zK:Nat->Option (Nat×Nat)):List (Nat×Nat×CX)->List (Nat×Value)->Prop
 |[],[]=>True
 |(off,n,x)::r,(i,v)::s=>zK i=some (off,n)/\aj φ (get x) v/\JS φ get zK r s
 |_,_=>False
theorem So{get:CX->AV}{zK:Nat->Option (Nat×Nat)}:∀{cs:List (Nat×Nat×CX)}{ps:List (Nat×Value)}{l l':List AV}{aO:Array Value},JS φ get zK cs ps->AI get l cs=some l'->
 cz φ l aO.toList->(∀v∈aO.toList,v.oneCell'=true)->∃mo,Instr.fill zK aO ps=some mo/\cz φ l' mo.toList/\∀v∈mo.toList,v.oneCell'=true
 |[],[],l,l',aO,_,hf,hd,h1=>by simp only[AI,atU] at hf;subst hf;exact⟨aO,rfl,hd,h1⟩
 |(off,n,x)::r,(i,v)::s,l,l',aO,⟨hp,hx,hr⟩,hf,hd,h1=>by
  simp only[AI] at hf;split at hf;rename_i c hc;obtain⟨hn,hf⟩:=qt hf;rw[beq_iff,tR] at hn;split at hf;rename_i l1 Ch;obtain⟨e1,e2⟩:=MQ _ _ _ _ Ch;obtain⟨JT,Sp⟩:=GI hc hx;have nT:=tP JT;have pQ:=tP hd;simp only[avc] at nT pQ;obtain⟨p1,p2⟩:=YF v aO off zo;unfold Instr.fill;rw[hp];simp only;rw[atS zn];refine So hr hf (Gn (by subst e2;rw[avc,p1];simp;omega) λj y hy=>?_) λu hu=>?_;rw[at5,p2 j];subst e2
  by_cases hj:off<=j/\j<off+v.cells.size
  rw[atV hj];rw[auq zn,aun zn] at hy;obtain⟨z,hz,tY⟩:=tQ JT _ _ hy;exact⟨z,by rw[<-at5,<-hz];congr 1;simp;omega,tY⟩;rw[atS hj]
  by_cases pO:j<off
  rw[aun zn,auE pO] at hy;obtain⟨z,hz,tY⟩:=tQ hd _ _ hy;exact⟨z,by rw[<-at5,hz],tY⟩;rw[auq zn,auq zn,auF] at hy;obtain⟨z,hz,tY⟩:=tQ hd _ _ hy;exact⟨z,by rw[<-at5,<-hz];congr 1;simp;omega,tY⟩;obtain⟨k,hk⟩:=aum hu;rw[at5,p2 k] at hk;split at hk;exact Sp u (aua (by rw[at5];exact hk));exact h1 u (aua (by rw[at5];exact hk));cases hf;cases hf
 |[],_::_,_,_,_,hp,_,_,_=>by simp[JS] at hp
 |_::_,[],_,_,_,hp,_,_,_=>by simp[JS] at hp
theorem Sq{get:CX->AV}{zK:Nat->Option (Nat×Nat)}{F:Nat×Operand->Option (Nat×Nat×CX)}{ev:Operand->Value}
 (hF:∀q c,F q=some c->zK q.1 =some (c.1,c.2.1)/\aj φ (get c.2.2) (ev q.2)):∀{ps:List (Nat×Operand)}{cs:List (Nat×Nat×CX)},iJ F ps=some cs->JS φ get zK cs (ps.map λq=>(q.1,ev q.2))
 |[],cs,hm=>by simp only[iJ,atU] at hm;subst hm;trivial
 |q::ps,cs,hm=>by simp only[iJ] at hm;split at hm;rename_i c r hc hr;cases hm;obtain⟨g1,g2⟩:=hF q c hc;exact⟨g1,g2,Sq hF hr⟩;cases hm
end
end Yv
