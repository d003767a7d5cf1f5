/- A part of the proof of 'ScopeOwnUptoCardSaid'. No condition. -/
import Derived.Test.YtpllhjebgjcigaaGreatDoorX09
set_option maxHeartbeats 16000000
set_option maxRecDepth 100000
set_option linter.all false
namespace Yv
variable{T:aM->Option CF}
structure DA(h:Hp)(q r n:Nat)(t:Nat->List AV):Prop where
 get:h.get q=.rows 34 5 r 0 t
 le:n<=r
 row:∀j,j<n->∃d:aC,t j=d.row
def Pm(n:Nat)(t t':Nat->List AV):Prop:=(dw t' n 0).Perm (dw t n 0)
theorem Pm.refl{n t}:Pm n t t:=awU _
theorem Pm.trans{n t t' t''}(a:Pm n t t')(b:Pm n t' t''):Pm n t t'':=List.Perm.trans b a
theorem ab7{t:Nat->List AV}{r:List AV}{n i:Nat}(hi:i<n):dw (cx t i r) n 0=(dw t n 0).set i r:=by
 apply avs;intro j
 by_cases hj:j<n
 rw[vw _ n 0 j hj,aue,dZ,awt,oZ,vw t n 0 j hj,aue]
 by_cases e:j=i
 subst e;simp[hj];rw[atS e,atS (Ne.symm e)];rw[auI (by rw[oZ];omega),auI (by rw[List.length_set,oZ];omega)]
theorem akk{n i j:Nat}{t:Nat->List AV}(hi:i<n)(hj:j<n):Pm n t (cx (cx t i (t j)) j (t i)):=by
 unfold Pm;rw[ab7 hj,ab7 hi];have e:∀m,(hm:m<n)->t m=(dw t n 0)[m]'(by rw[oZ];exact hm):=λm hm=>by have:=vw t n 0 m hm;rw[atT (by rw[oZ];exact hm),aue] at this;exact(auQ this).symm
 rw[e i hi,e j hj];exact List.set_set_perm _ _
theorem DA.swap{h h':Hp}{q r n i j:Nat}{t:Nat->List AV}(x:DA h q r n t)(hi:i<n)(hj:j<n)(e:h'.get q=.rows 34 5 r 0 (cx (cx t i (t j)) j (t i))):DA h' q r n (cx (cx t i (t j)) j (t i)):=by refine⟨e,x.le,λm hm=>?_⟩;simp only[dZ];split;exact x.row i hi;split;exact x.row j hj;exact x.row m hm
theorem DA.sw{h:Hp}{q r n i j:Nat}{t:Nat->List AV}(x:DA h q r n t)(hi:i<n)(hj:j<n){d1 d2:aC}(e1:t i=d1.row)(e2:t j=d2.row):
 ∃t' H',H'=(h.set q (.rows 34 5 r 0 (cx t i [.i d2.kind,S d2.name,.i d2.doc,.i d2.at_,S d2.dir]))).set q (.rows 34 5 r 0 (cx (cx t i [.i d2.kind,S d2.name,.i d2.doc,.i d2.at_,S d2.dir]) j [.i d1.kind,S d1.name,.i d1.doc,.i d1.at_,S d1.dir]))/\
  DA H' q r n t'/\Pm n t t'/\ah (·=q) h H':=
 ⟨_,_,rfl,x.swap hi hj (by rw[Hp.bR rfl,e1,e2];rfl),akk hi hj,ah.set (M:=(·=q)) (ah.set (M:=(·=q)) (ah.refl _) _ (.inr rfl)) _ (.inr rfl)⟩
theorem DA.mono{h h':Hp}{q r n:Nat}{t:Nat->List AV}(x:DA h q r n t)(e:h'.get q=h.get q):DA h' q r n t:=⟨e.trans x.get,x.le,x.row⟩
theorem DA.lt{h:Hp}{q r n:Nat}{t:Nat->List AV}(x:DA h q r n t):q<h.nx:=Hp.lt x.get rfl
section
variable{h:Hp}{k:aK->Prop}{q r n:Nat}{t:Nat->List AV}{cap:Nat}{ex:Bool}
theorem uD(HT:aA T){d e:aC}(hk:∀(r:Int) h',ax h h'->k (.ret (.i r) h')):aE T (W T) ⟨98⟩ [.agg d.row,.agg e.row] h k:=by
 rw[aJ HT.t98];simp only[aC.row];refine ag ?_;refine Oz HT ?_;refine ag ?_;refine Oz HT ?_;refine ag ?_;refine abz HT (L:=[xj d.doc e.doc,xj d.at_ e.at_]) (Hp.br rfl) zm (λj hj=>?_) zm ?_;exact match j,hj with
 |0,_=>rfl
 |1,_=>rfl
 refine ag ?_;exact hk _ _ aZ
def SK(h:Hp)(q r n:Nat)(t:Nat->List AV)(k:aK->Prop)(v:AV):Prop:=∀h' t',ah (·=q) h h'->DA h' q r n t'->Pm n t t'->k (.ret v h')
theorem akl(HT:aA T){a b:Nat}(x:DA h q r n t)(ha:a<=n)(hb:b<=n)(hn:n<1073741824)(hk:SK h q r n t k (.bA [])):aE T (W T) ⟨150⟩ [.slice q 0 5 n cap ex,.i a,.i b,.func ⟨98⟩ [] []] h k:=by
 rw[aJ HT.t150];have U':∀(j:Nat)(h1:Hp)(t1:Nat->List AV)(f:Fr)(K:aT->Prop),j<n->DA h1 q r n t1->J 0 f=.slice q 0 5 n cap ex->J 1 f=.i a->J 3 f=.func ⟨98⟩ [] []->J 9 f=.i j->
  (∀f' h' t',(∀p,p<=8->J p f'=J p f)->ah (·=q) h1 h'->DA h' q r n t'->Pm n t1 t'->K (.exit 2 f' h' []))->W T (.loop l150_0) f h1 [] K:=by
  intro j
  induction j with
  |zero=>
   intro h1 t1 f K hj x1 f0 f1 f3 f9 hk;have e:¬(a:Int)<0:=zo;rw[aP];refine cC f0 f1 f3 f9 e ?_;exact hk _ _ t1 (λp hp=>by repeat rw[eG (m:=9) zo zd]) (ah.refl _) x1 Pm.refl
  |succ j ih=>
   intro h1 t1 f K hj x1 f0 f1 f3 f9 hk;rw[aP]
   by_cases c:(a:Int)<j+1
   ·obtain⟨d1,e1⟩:=x1.row (j+1) hj;obtain⟨d2,e2⟩:=x1.row j zo;have hg:=x1.get;have dA:=x1.le;have e1':=e1;have e2':=e2
    simp only[aC.row] at e1' e2';have lq:=x1.lt;refine fY f0 f1 f3 f9 c hg e1' e2' ?_;refine uD (d:=d1) (e:=d2) HT λrr h2 g2=>?_;have x2:=x1.mono (g2.get _ lq id)
    by_cases c2:rr<0
    ·have nv:=x2.get;refine fY f0 f1 f3 f9 c2 nv e1' e2' ?_;obtain⟨t2,H',eH,x3,p3,g3⟩:=x2.sw hj (show j<n by omega) e1 e2;rw[<-eH];refine ih _ t2 _ K zo x3 zA zA zA aa λf' h' t' hf g' x' p'=>hk f' h' t' (λp hp=>?_) ((ah.cn g2).trans (g3.trans g')) x' (p3.trans p');rw[hf p hp]
     repeat rw[eG (m:=9) zo zd]
    ·refine cC f0 f1 f3 f9 c2 ?_;exact hk _ _ t1 (λp hp=>by repeat rw[eG (m:=9) zo zd]) (ah.cn g2) x2 Pm.refl
   ·refine cC f0 f1 f3 f9 c ?_;exact hk _ _ t1 (λp hp=>by repeat rw[eG (m:=9) zo zd]) (ah.refl _) x1 Pm.refl
 have Lc:∀(m i:Nat)(h1:Hp)(t1:Nat->List AV)(f:Fr)(K:aT->Prop),m=b- i->DA h1 q r n t1->J 0 f=.slice q 0 5 n cap ex->J 1 f=.i a->J 2 f=.i b->J 3 f=.func ⟨98⟩ [] []->J 8 f=.i i->
  (∀f' h' t',ah (·=q) h1 h'->DA h' q r n t'->Pm n t1 t'->K (.exit 0 f' h' []))->i<2147483648->W T (.loop l150_1) f h1 [] K:=by
  intro m
  induction m with
  |zero=>
   intro i h1 t1 f K hm x1 f0 f1 f2 f3 f8 hk hi;have e:¬i<b:=zo;rw[aP];refine cq f0 f1 f2 f3 f8 e ?_;exact hk _ _ t1 (ah.refl _) x1 Pm.refl
  |succ m ih=>
   intro i h1 t1 f K hm x1 f0 f1 f2 f3 f8 hk hi;have e:i<b:=zo;rw[aP];generalize hL:CC.loop l150_0=L;refine cq f0 f1 f2 f3 f8 e ?_;subst hL;refine U' i h1 t1 _ _ zo x1 zA zA zA aa λf' h2 t2 hf g2 x2 p2=>?_;have e0:=hf 0 zd;have e1:=hf 1 zd;have e2:=hf 2 zd;have e3:=hf 3 zd;have e8:=hf 8 zd
   simp(disch:=omega) [f0,f1,f2,f3,f8] at e0 e1 e2 e3 e8;refine aB e8 ?_;exact ih (i+1) h2 t2 _ K zo x2 (au e0) (au e1) (au e2) (au e3) aa (λvM h' t' g' x' p'=>hk vM h' t' (g2.trans g') x' (p2.trans p')) zo
 generalize hL:CC.loop l150_1=L;refine ag ?_;subst hL;refine Lc _ (a+1) h t _ _ rfl x aa aa aa aa aa (λf' h' t' g' x' p'=>?_) zo;refine ag ?_;exact hk _ _ g' x' p'
end
section
variable{h:Hp}{k:aK->Prop}{q r n:Nat}{t:Nat->List AV}{cap:Nat}{ex:Bool}
theorem ab8(HT:aA T){lo hi fst:Nat}(x:DA h q r n t)(hb:fst+hi<=n)(hn:n<1073741824)(cK:lo<1073741824)(hk:SK h q r n t k (.bA [])):aE T (W T) ⟨179⟩ [.slice q 0 5 n cap ex,.i lo,.i hi,.i fst,.func ⟨98⟩ [] []] h k:=by
 rw[aJ HT.t179];have key:∀(m root:Nat)(h1:Hp)(t1:Nat->List AV)(f:Fr)(K:aT->Prop),m=hi- root->root<2147483648->DA h1 q r n t1->J 0 f=.slice q 0 5 n cap ex->J 2 f=.i hi->J 3 f=.i fst->J 4 f=.func ⟨98⟩ [] []->J 10 f=.i root->
  (∀f' h' t',ah (·=q) h1 h'->DA h' q r n t'->Pm n t1 t'->K (.exit 0 f' h' [])/\K (.ret f' h' []))->W T (.loop l179_0) f h1 [] K:=by
  intro m
  induction m using Nat.strongRecOn with
  |_ m ih=>
   intro root h1 t1 f K hm atf x1 f0 f2 f3 f4 f10 hk;rw[aP];show W T Q9 f h1 [] _;unfold Q9
   by_cases c:(hi:Int)<=2*root+1
   refine aU f2 f10 c ?_;exact(hk _ _ t1 (ah.refl _) x1 Pm.refl).1;have c':2*root+1<hi:=zo;have hg:=x1.get;have dA:=x1.le;have lq:=x1.lt;generalize hD:XF=D;have go:∀(ch:Nat)(h2:Hp)(f':Fr),ax h1 h2->root<ch->ch<hi->J 0 f'=.slice q 0 5 n cap ex->J 2 f'=.i hi->J 3 f'=.i fst->J 4 f'=.func ⟨98⟩ [] []->J 10 f'=.i root->J 11 f'=.i ch->W T D f' h2 [] (bY 1 (bF (W T (.loop l179_0)) K)):=by
    intro ch h2 f' g2 mR eZ f0 f2 f3 f4 f10 f11;subst hD;have x2:=x1.mono (g2.get _ lq id);have nv:=x2.get;obtain⟨d1,e1⟩:=x2.row (fst+root) zo;obtain⟨d2,e2⟩:=x2.row (fst+ch) zo;have e1':=e1;have e2':=e2
    simp only[aC.row] at e1' e2';have i1:(fst:Int)+root<n:=zo;have i2:(fst:Int)+ch<n:=zo;have z1:((fst:Int)+root).toNat=fst+root:=zo;have z2:((fst:Int)+ch).toNat=fst+ch:=zo;refine wM f0 f2 f3 f4 f10 f11 nv e1' e2' z1 z2 ?_;refine uD (d:=d1) (e:=d2) HT λrr h3 g3=>?_;have x3:=x2.mono (g3.get _ x2.lt id);have hg3:=x3.get
    by_cases c2:rr<0
    refine pU f0 f2 f3 f4 f10 f11 hg3 e1' e2' z1 z2 c2 ?_;obtain⟨t2,H',eH,x4,p4,g4⟩:=x3.sw (show fst+root<n by omega) (show fst+ch<n by omega) e1 e2;rw[<-eH];exact ih (hi- ch) zo ch H' t2 _ K rfl zo x4 zA zA zA zA aa λvM h' t' g' x' p'=>hk vM h' t' ((ah.cn (g2.trans g3)).trans (g4.trans g')) x' (p4.trans p');refine iR f0 f2 f3 f4 f10 f11 c2 ?_;exact(hk _ _ t1 (ah.cn (g2.trans g3)) x3 Pm.refl).2
   by_cases c3:(2*(root:Int)+1+1<hi)
   obtain⟨d1,e1⟩:=x1.row (fst+(2*root+1)) zo;obtain⟨d2,e2⟩:=x1.row (fst+(2*root+1)+1) zo;have e1':=e1;have e2':=e2
   simp only[aC.row] at e1' e2';have z1:((fst:Int)+(2*root+1)).toNat=fst+(2*root+1):=zo;have z2:((fst:Int)+(2*root+1)+1).toNat=fst+(2*root+1)+1:=zo;refine pU f0 f2 f3 f4 f10 c c3 hg e1' e2' z1 z2 ?_;refine uD (d:=d1) (e:=d2) HT λrr h2 g2=>?_
   by_cases c2:rr<0
   refine cq f0 f2 f3 f4 f10 c2 ?_;exact go (2*root+1+1) h2 _ g2 zo zo zA zA zA zA zA aa;refine cq f0 f2 f3 f4 f10 c2 ?_;exact go (2*root+1) h2 _ g2 zo zo zA zA zA zA zA aa;refine iR f0 f2 f3 f4 f10 c c3 ?_;exact go (2*root+1) h1 _ (ah.refl _) zo zo zA zA zA zA zA aa
 generalize hL:CC.loop l179_0=L;refine ag ?_;subst hL;refine key _ lo h t _ _ rfl zo x aa aa aa aa aa λf' h' t' g' x' p'=>⟨?_,?_⟩;refine ag ?_;exact hk _ _ g' x' p';refine ag ?_;exact hk _ _ g' x' p'
theorem akm(HT:aA T){a b:Nat}(x:DA h q r n t)(qU:a<=b)(hb:b<=n)(hn:n<1073741824)(hk:SK h q r n t k (.bA [])):aE T (W T) ⟨151⟩ [.slice q 0 5 n cap ex,.i a,.i b,.func ⟨98⟩ [] []] h k:=by
 rw[aJ HT.t151];have build:∀(i:Nat)(h1:Hp)(t1:Nat->List AV)(f:Fr)(K:aT->Prop),i<1073741824->DA h1 q r n t1->J 0 f=.slice q 0 5 n cap ex->J 8 f=.i a->J 10 f=.i ((b:Int)- a)->J 3 f=.func ⟨98⟩ [] []->J 11 f=.i ((i:Int)- 1)->
  (∀f' h' t',(∀p,p<=10->J p f'=J p f)->ah (·=q) h1 h'->DA h' q r n t'->Pm n t1 t'->K (.exit 0 f' h' []))->W T (.loop l151_1) f h1 [] K:=by
  intro i
  induction i with
  |zero=>
   intro h1 t1 f K hi x1 f0 f8 f10 f3 f11 hk;rw[aP];refine aB f11 ?_;exact hk _ _ t1 (λp hp=>by repeat rw[eG (m:=11) zo zd]) (ah.refl _) x1 Pm.refl
  |succ i ih=>
   intro h1 t1 f K hi x1 f0 f8 f10 f3 f11 hk;have f11:J 11 f=.i i:=by rw[f11];congr 1;omega
   rw[aP];have e10:((b:Int)- a)=((b- a:Nat):Int):=zo;rw[e10] at f10;refine cC f0 f8 f10 f3 f11 ?_;refine ab8 HT x1 zo hn zo λh2 t2 g2 x2 p2=>?_;refine aB f11 ?_;refine ih h2 t2 _ K zo x2 zA zA (by refine aB f10 ?_;omega) zA aa λf' h' t' hf g' x' p'=>hk f' h' t' (λp hp=>?_) (g2.trans g') x' (p2.trans p');rw[hf p hp]
   repeat rw[eG (m:=11) zo zd]
 have pop:∀(i:Nat)(h1:Hp)(t1:Nat->List AV)(f:Fr)(K:aT->Prop),i<=b- a->DA h1 q r n t1->J 0 f=.slice q 0 5 n cap ex->J 8 f=.i a->J 9 f=.i 0->J 3 f=.func ⟨98⟩ [] []->J 12 f=.i ((i:Int)- 1)->
  (∀f' h' t',ah (·=q) h1 h'->DA h' q r n t'->Pm n t1 t'->K (.exit 2 f' h' []))->W T (.loop l151_0) f h1 [] K:=by
  intro i
  induction i with
  |zero=>
   intro h1 t1 f K hi x1 f0 f8 f9 f3 f12 hk;rw[aP];refine aB f12 ?_;exact hk _ _ t1 (ah.refl _) x1 Pm.refl
  |succ i ih=>
   intro h1 t1 f K hi x1 f0 f8 f9 f3 f12 hk;have f12:J 12 f=.i i:=by rw[f12];congr 1;omega
   rw[aP];obtain⟨d1,e1⟩:=x1.row a zo;obtain⟨d2,e2⟩:=x1.row (a+i) zo;have e1':=e1;have e2':=e2
   simp only[aC.row] at e1' e2';have hg:=x1.get;have dA:=x1.le;have i1:(a:Int)+i<n:=zo;have z1:((a:Int)+i).toNat=a+i:=zo;have e3:cx t1 a [.i d2.kind,S d2.name,.i d2.doc,.i d2.at_,S d2.dir] (a+i)=if a+i=a then[.i d2.kind,S d2.name,.i d2.doc,.i d2.at_,S d2.dir] else t1 (a+i):=by rw[dZ]
   have e4:mK 0 [.i d1.kind,S d1.name,.i d1.doc,.i d1.at_,S d1.dir] (cx t1 a [.i d2.kind,S d2.name,.i d2.doc,.i d2.at_,S d2.dir] (a+i))=some [.i d1.kind,S d1.name,.i d1.doc,.i d1.at_,S d1.dir]:=by rw[e3];split;rfl;rw[e2'];rfl
   refine mz f0 f8 f9 f3 f12 hg e1' e2' z1 ?_;obtain⟨t2,H',eH,x2,p2,g2⟩:=x1.sw (show a<n by omega) (show a+i<n by omega) e1 e2;rw[<-eH];refine ab8 (lo:=0) HT x2 zo hn zo λh3 t3 g3 x3 p3=>?_;refine aB f12 ?_;exact ih h3 t3 _ K zo x3 zA zA zA zA aa λf' h' t' g' x' p'=>hk f' h' t' ((g2.trans g3).trans g') x' ((p2.trans p3).trans p')
 generalize jg:CC.loop l151_1=L1;generalize pz:CC.loop l151_0=L0;obtain⟨i0,HQ,hq0⟩:∃i0:Nat,i0<1073741824/\((b:Int)- a- 1).tdiv 2=(i0:Int)- 1:=by
  by_cases e:b- a=0
  exact⟨1,by decide,by rw[show((b:Int)- a- 1)=-1 by omega];decide⟩;refine⟨(b- a- 1)/2+1,by omega,?_⟩;rw[avr zo];omega
 refine aB hq0 ?_;subst jg;refine build i0 h t _ _ HQ x aa aa aa aa aa λf1 h1 t1 hf g1 x1 p1=>?_;have e0:=hf 0 zd;have e3:=hf 3 zd;have e8:=hf 8 zd;have e9:=hf 9 zd;have e10:=hf 10 zd
 simp(disch:=omega) at e0 e3 e8 e9 e10;refine aB e10 ?_;subst pz;refine pop (b- a) h1 t1 _ _ zl x1 (au e0) (au e8) (au e9) (au e3) qan λf2 h2 t2 g2 x2 p2=>?_;refine ag ?_;exact hk _ _ (g1.trans g2) x2 (p1.trans p2)
theorem akn(HT:aA T){a b:Nat}(x:DA h q r n t)(qU:a<=b)(hb:b<=n)(hn:n<1073741824)(hk:SK h q r n t k (.bA [])):aE T (W T) ⟨154⟩ [.slice q 0 5 n cap ex,.i a,.i b,.func ⟨98⟩ [] []] h k:=by
 rw[aJ HT.t154];have key:∀(m i:Nat)(j:Int)(h1:Hp)(t1:Nat->List AV)(f:Fr)(K:aT->Prop),(j- i).toNat=m->j<n->-1<=j->i<1073741824->DA h1 q r n t1->J 0 f=.slice q 0 5 n cap ex->J 8 f=.i i->J 9 f=.i j->
  (∀f' h' t',ah (·=q) h1 h'->DA h' q r n t'->Pm n t1 t'->K (.exit 0 f' h' []))->W T (.loop l154_0) f h1 [] K:=by
  intro m
  induction m using Nat.strongRecOn with
  |_ m ih=>
   intro i j h1 t1 f K hm hj Ar hi x1 f0 f8 f9 hk;rw[aP]
   by_cases c:(i:Int)<j
   obtain⟨jn,rfl⟩:=at6 (show 0<=j by omega);obtain⟨d1,e1⟩:=x1.row i zo;obtain⟨d2,e2⟩:=x1.row jn zo;have e1':=e1;have e2':=e2
   simp only[aC.row] at e1' e2';have hg:=x1.get;have dA:=x1.le;have cc:i<jn:=zo;refine fY f0 f8 f9 c cc hg e1' e2' ?_;obtain⟨t2,H',eH,x2,p2,g2⟩:=x1.sw (show i<n by omega) (show jn<n by omega) e1 e2;rw[<-eH];exact ih (((jn:Int)- 1- (i+1:Nat)).toNat) zo (i+1) ((jn:Int)- 1) H' t2 _ K rfl zo zo zo x2 zA aa aa λf' h' t' g' x' p'=>hk f' h' t' (g2.trans g') x' (p2.trans p');refine aU f8 f9 c ?_;exact hk _ _ t1 (ah.refl _) x1 Pm.refl
 generalize hL:CC.loop l154_0=L;refine ag ?_;subst hL;refine key _ a ((b:Int)- 1) h t _ _ rfl zo zo zo x aa aa aa λf' h' t' g' x' p'=>?_;refine ag ?_;exact hk _ _ g' x' p'
theorem ako(HT:aA T){a:Nat}(ha:a<n)(hn:n<1073741824):∀(m i:Nat)(j:Int)(h1:Hp)(t1:Nat->List AV)(f:Fr)(K:aT->Prop),(j+1- i).toNat=m->j<n->i<=n->DA h1 q r n t1->J 0 f=.slice q 0 5 n cap ex->J 1 f=.i a->J 4 f=.func ⟨98⟩ [] []->J 12 f=.i i->J 13 f=.i j->
 (∀f' h'(i':Nat),(∀p,p<=4->J p f'=J p f)->ax h1 h'->i<=i'->((i':Int)<=j+1\/i'=i)->J 12 f'=.i i'->J 13 f'=.i j->K (.exit 0 f' h' []))->W T (.loop l157_4) f h1 [] K:=by
 intro m
 induction m with
 |zero=>
  intro i j h1 t1 f K hm hj hi x1 f0 f1 f4 fi fj hk;have e:¬(i:Int)<=j:=zo;rw[aP];refine aU fi fj e ?_;exact hk _ _ i (λp hp=>by repeat rw[eG (m:=5) zo zd]) (ah.refl _) zl (.inr rfl) zA zA
 |succ m ih=>
  intro i j h1 t1 f K hm hj hi x1 f0 f1 f4 fi fj hk;have e:(i:Int)<=j:=zo;have i1:i<n:=zo;obtain⟨d1,e1⟩:=x1.row a ha;obtain⟨d2,e2⟩:=x1.row i i1;have e1':=e1;have e2':=e2
  simp only[aC.row] at e1' e2';have hg:=x1.get;have dA:=x1.le;rw[aP];refine wM f0 f1 f4 fi fj e hg e1' e2' i1 ha ?_;refine uD (d:=d2) (e:=d1) HT λrr h2 g2=>?_
  by_cases c:rr<0
  ·refine cq f0 f1 f4 fi fj c ?_;refine ih (i+1) j h2 t1 _ K zo hj zo (x1.mono (g2.get _ x1.lt id)) zA zA zA aa zA λf' h' i' hf g' h3 h4=>hk f' h' i' (λp hp=>?_) (g2.trans g') zo zo;rw[hf p hp]
   repeat rw[eG (m:=5) zo zd]
  ·refine cq f0 f1 f4 fi fj c ?_;exact hk _ _ i (λp hp=>by repeat rw[eG (m:=5) zo zd]) g2 zl (.inr rfl) zA zA
theorem akp(HT:aA T){a:Nat}(ha:a<n)(hn:n<1073741824):∀(m i:Nat)(j:Int)(h1:Hp)(t1:Nat->List AV)(f:Fr)(K:aT->Prop),(j+1- i).toNat=m->j<n->i<=n->-1<=j->DA h1 q r n t1->J 0 f=.slice q 0 5 n cap ex->J 1 f=.i a->J 4 f=.func ⟨98⟩ [] []->J 12 f=.i i->J 13 f=.i j->
 (∀f' h'(j':Int),(∀p,p<=4->J p f'=J p f)->ax h1 h'->j'<=j->((i:Int)<=j'+1\/j'=j)->J 12 f'=.i i->J 13 f'=.i j'->K (.exit 2 f' h' []))->W T (.loop l157_3) f h1 [] K:=by
 intro m
 induction m with
 |zero=>
  intro i j h1 t1 f K hm hj hi Ar x1 f0 f1 f4 fi fj hk;have e:¬(i:Int)<=j:=zo;rw[aP];refine aU fi fj e ?_;exact hk _ _ j (λp hp=>by repeat rw[eG (m:=5) zo zd]) (ah.refl _) (atY _) (.inr rfl) zA zA
 |succ m ih=>
  intro i j h1 t1 f K hm hj hi Ar x1 f0 f1 f4 fi fj hk;have e:(i:Int)<=j:=zo;obtain⟨jn,rfl⟩:=at6 (show 0<=j by omega);have i1:jn<n:=zo;have e0:i<=jn:=zo;obtain⟨d1,e1⟩:=x1.row a ha;obtain⟨d2,e2⟩:=x1.row jn i1;have e1':=e1;have e2':=e2
  simp only[aC.row] at e1' e2';have hg:=x1.get;have dA:=x1.le;rw[aP];refine pU f0 f1 f4 fi fj e e0 hg e1' e2' i1 ha ?_;refine uD (d:=d2) (e:=d1) HT λrr h2 g2=>?_
  by_cases c:rr<0
  ·refine cq f0 f1 f4 fi fj c ?_;exact hk _ _ jn (λp hp=>by repeat rw[eG (m:=5) zo zd]) g2 (atY _) (.inr rfl) zA zA
  ·refine cq f0 f1 f4 fi fj c ?_;refine ih i ((jn:Int)- 1) h2 t1 _ K zo zo zo zo (x1.mono (g2.get _ x1.lt id)) zA zA zA zA aa λf' h' j' hf g' h3 h4=>hk f' h' j' (λp hp=>?_) (g2.trans g') zo zo;rw[hf p hp]
   repeat rw[eG (m:=5) zo zd]
theorem akq(HT:aA T){a:Nat}(ha:a<n)(hn:n<1073741824):∀(m i:Nat)(j:Int)(h1:Hp)(t1:Nat->List AV)(f:Fr)(K:aT->Prop),(j+1- i).toNat=m->j<n->i<=n->DA h1 q r n t1->J 0 f=.slice q 0 5 n cap ex->J 1 f=.i a->J 4 f=.func ⟨98⟩ [] []->J 12 f=.i i->J 13 f=.i j->
 (∀f' h'(i':Nat),(∀p,p<=4->J p f'=J p f)->ax h1 h'->i<=i'->((i':Int)<=j+1\/i'=i)->J 12 f'=.i i'->J 13 f'=.i j->K (.exit 6 f' h' []))->W T (.loop l157_1) f h1 [] K:=by
 intro m
 induction m with
 |zero=>
  intro i j h1 t1 f K hm hj hi x1 f0 f1 f4 fi fj hk;have e:¬(i:Int)<=j:=zo;rw[aP];refine aU fi fj e ?_;exact hk _ _ i (λp hp=>by repeat rw[eG (m:=5) zo zd]) (ah.refl _) zl (.inr rfl) zA zA
 |succ m ih=>
  intro i j h1 t1 f K hm hj hi x1 f0 f1 f4 fi fj hk;have e:(i:Int)<=j:=zo;have i1:i<n:=zo;obtain⟨d1,e1⟩:=x1.row a ha;obtain⟨d2,e2⟩:=x1.row i i1;have e1':=e1;have e2':=e2
  simp only[aC.row] at e1' e2';have hg:=x1.get;have dA:=x1.le;rw[aP];refine wM f0 f1 f4 fi fj e hg e1' e2' i1 ha ?_;refine uD (d:=d2) (e:=d1) HT λrr h2 g2=>?_
  by_cases c:rr<0
  ·refine cq f0 f1 f4 fi fj c ?_;refine ih (i+1) j h2 t1 _ K zo hj zo (x1.mono (g2.get _ x1.lt id)) zA zA zA aa zA λf' h' i' hf g' h3 h4=>hk f' h' i' (λp hp=>?_) (g2.trans g') zo zo;rw[hf p hp]
   repeat rw[eG (m:=5) zo zd]
  ·refine cq f0 f1 f4 fi fj c ?_;exact hk _ _ i (λp hp=>by repeat rw[eG (m:=5) zo zd]) g2 zl (.inr rfl) zA zA
theorem akr(HT:aA T){a:Nat}(ha:a<n)(hn:n<1073741824):∀(m i:Nat)(j:Int)(h1:Hp)(t1:Nat->List AV)(f:Fr)(K:aT->Prop),(j+1- i).toNat=m->j<n->i<=n->-1<=j->DA h1 q r n t1->J 0 f=.slice q 0 5 n cap ex->J 1 f=.i a->J 4 f=.func ⟨98⟩ [] []->J 12 f=.i i->J 13 f=.i j->
 (∀f' h'(j':Int),(∀p,p<=4->J p f'=J p f)->ax h1 h'->j'<=j->((i:Int)<=j'+1\/j'=j)->J 12 f'=.i i->J 13 f'=.i j'->K (.exit 8 f' h' []))->W T (.loop l157_0) f h1 [] K:=by
 intro m
 induction m with
 |zero=>
  intro i j h1 t1 f K hm hj hi Ar x1 f0 f1 f4 fi fj hk;have e:¬(i:Int)<=j:=zo;rw[aP];refine aU fi fj e ?_;exact hk _ _ j (λp hp=>by repeat rw[eG (m:=5) zo zd]) (ah.refl _) (atY _) (.inr rfl) zA zA
 |succ m ih=>
  intro i j h1 t1 f K hm hj hi Ar x1 f0 f1 f4 fi fj hk;have e:(i:Int)<=j:=zo;obtain⟨jn,rfl⟩:=at6 (show 0<=j by omega);have i1:jn<n:=zo;have e0:i<=jn:=zo;obtain⟨d1,e1⟩:=x1.row a ha;obtain⟨d2,e2⟩:=x1.row jn i1;have e1':=e1;have e2':=e2
  simp only[aC.row] at e1' e2';have hg:=x1.get;have dA:=x1.le;rw[aP];refine pU f0 f1 f4 fi fj e e0 hg e1' e2' i1 ha ?_;refine uD (d:=d2) (e:=d1) HT λrr h2 g2=>?_
  by_cases c:rr<0
  ·refine cq f0 f1 f4 fi fj c ?_;exact hk _ _ jn (λp hp=>by repeat rw[eG (m:=5) zo zd]) g2 (atY _) (.inr rfl) zA zA
  ·refine cq f0 f1 f4 fi fj c ?_;refine ih i ((jn:Int)- 1) h2 t1 _ K zo zo zo zo (x1.mono (g2.get _ x1.lt id)) zA zA zA zA aa λf' h' j' hf g' h3 h4=>hk f' h' j' (λp hp=>?_) (g2.trans g') zo zo;rw[hf p hp]
   repeat rw[eG (m:=5) zo zd]
theorem aks(HT:aA T){a:Nat}(ha:a<n)(hn:n<1073741824):∀(m i:Nat)(j:Int)(h1:Hp)(t1:Nat->List AV)(f:Fr)(K:aT->Prop),(j+1- i).toNat=m->j<n->i<=n->DA h1 q r n t1->J 0 f=.slice q 0 5 n cap ex->J 1 f=.i a->J 4 f=.func ⟨98⟩ [] []->J 11 f=.i i->J 12 f=.i j->
 (∀f' h'(i':Nat),(∀p,p<=4->J p f'=J p f)->ax h1 h'->i<=i'->((i':Int)<=j+1\/i'=i)->J 11 f'=.i i'->J 12 f'=.i j->K (.exit 2 f' h' []))->W T (.loop l156_1) f h1 [] K:=by
 intro m
 induction m with
 |zero=>
  intro i j h1 t1 f K hm hj hi x1 f0 f1 f4 fi fj hk;have e:¬(i:Int)<=j:=zo;rw[aP];refine aU fi fj e ?_;exact hk _ _ i (λp hp=>by repeat rw[eG (m:=5) zo zd]) (ah.refl _) zl (.inr rfl) zA zA
 |succ m ih=>
  intro i j h1 t1 f K hm hj hi x1 f0 f1 f4 fi fj hk;have e:(i:Int)<=j:=zo;have i1:i<n:=zo;obtain⟨d1,e1⟩:=x1.row a ha;obtain⟨d2,e2⟩:=x1.row i i1;have e1':=e1;have e2':=e2
  simp only[aC.row] at e1' e2';have hg:=x1.get;have dA:=x1.le;rw[aP];refine wM f0 f1 f4 fi fj e hg e1' e2' i1 ha ?_;refine uD (d:=d1) (e:=d2) HT λrr h2 g2=>?_
  by_cases c:rr<0
  ·refine cq f0 f1 f4 fi fj c ?_;exact hk _ _ i (λp hp=>by repeat rw[eG (m:=5) zo zd]) g2 zl (.inr rfl) zA zA
  ·refine cq f0 f1 f4 fi fj c ?_;refine ih (i+1) j h2 t1 _ K zo hj zo (x1.mono (g2.get _ x1.lt id)) zA zA zA aa zA λf' h' i' hf g' h3 h4=>hk f' h' i' (λp hp=>?_) (g2.trans g') zo zo;rw[hf p hp]
   repeat rw[eG (m:=5) zo zd]
theorem akt(HT:aA T){a:Nat}(ha:a<n)(hn:n<1073741824):∀(m i:Nat)(j:Int)(h1:Hp)(t1:Nat->List AV)(f:Fr)(K:aT->Prop),(j+1- i).toNat=m->j<n->i<=n->-1<=j->DA h1 q r n t1->J 0 f=.slice q 0 5 n cap ex->J 1 f=.i a->J 4 f=.func ⟨98⟩ [] []->J 11 f=.i i->J 12 f=.i j->
 (∀f' h'(j':Int),(∀p,p<=4->J p f'=J p f)->ax h1 h'->j'<=j->((i:Int)<=j'+1\/j'=j)->J 11 f'=.i i->J 12 f'=.i j'->K (.exit 4 f' h' []))->W T (.loop l156_0) f h1 [] K:=by
 intro m
 induction m with
 |zero=>
  intro i j h1 t1 f K hm hj hi Ar x1 f0 f1 f4 fi fj hk;have e:¬(i:Int)<=j:=zo;rw[aP];refine aU fi fj e ?_;exact hk _ _ j (λp hp=>by repeat rw[eG (m:=5) zo zd]) (ah.refl _) (atY _) (.inr rfl) zA zA
 |succ m ih=>
  intro i j h1 t1 f K hm hj hi Ar x1 f0 f1 f4 fi fj hk;have e:(i:Int)<=j:=zo;obtain⟨jn,rfl⟩:=at6 (show 0<=j by omega);have i1:jn<n:=zo;have e0:i<=jn:=zo;obtain⟨d1,e1⟩:=x1.row a ha;obtain⟨d2,e2⟩:=x1.row jn i1;have e1':=e1;have e2':=e2
  simp only[aC.row] at e1' e2';have hg:=x1.get;have dA:=x1.le;rw[aP];refine pU f0 f1 f4 fi fj e e0 hg e1' e2' i1 ha ?_;refine uD (d:=d1) (e:=d2) HT λrr h2 g2=>?_
  by_cases c:rr<0
  ·refine cq f0 f1 f4 fi fj c ?_;refine ih i ((jn:Int)- 1) h2 t1 _ K zo zo zo zo (x1.mono (g2.get _ x1.lt id)) zA zA zA zA aa λf' h' j' hf g' h3 h4=>hk f' h' j' (λp hp=>?_) (g2.trans g') zo zo;rw[hf p hp]
   repeat rw[eG (m:=5) zo zd]
  ·refine cq f0 f1 f4 fi fj c ?_;exact hk _ _ jn (λp hp=>by repeat rw[eG (m:=5) zo zd]) g2 (atY _) (.inr rfl) zA zA
theorem aku(HT:aA T){a b pv:Nat}(x:DA h q r n t)(qU:a<b)(hb:b<=n)(fu:pv<n)(hn:n<1073741824)
 (hk:∀h' t'(i:Nat),a<i->i<=b->ah (·=q) h h'->DA h' q r n t'->Pm n t t'->k (.ret (.i i) h')):aE T (W T) ⟨156⟩ [.slice q 0 5 n cap ex,.i a,.i b,.i pv,.func ⟨98⟩ [] []] h k:=by
 rw[aJ HT.t156];have key:∀(m i:Nat)(j:Int)(h1:Hp)(t1:Nat->List AV)(f:Fr)(K:aT->Prop),(j+2- i).toNat=m->j<b->a<i->i<=b->(i:Int)<=j+2->DA h1 q r n t1->J 0 f=.slice q 0 5 n cap ex->J 1 f=.i a->J 4 f=.func ⟨98⟩ [] []->J 11 f=.i i->J 12 f=.i j->
  (∀f' h' t'(i':Nat),a<i'->i'<=b->J 11 f'=.i i'->ah (·=q) h1 h'->DA h' q r n t'->Pm n t1 t'->K (.exit 0 f' h' []))->W T (.loop l156_2) f h1 [] K:=by
  intro m
  induction m using Nat.strongRecOn with
  |_ m ih=>
   intro i j h1 t1 f K hm hj hi ue DV x1 f0 f1 f4 fi fj hk;rw[aP];generalize hU:CC.loop l156_1=U;generalize hD:CC.loop l156_0=D;show W T (CC.block 1 ((CC.block 2 (CC.loop l156_1)).seq ((CC.block 4 (CC.loop l156_0)).seq XC))) f h1 [] _;rw[hU,hD];refine ag ?_;subst hU;refine aks HT (show a<n by omega) hn _ i j h1 t1 _ _ rfl zo zo x1 f0 f1 f4 fi fj λf2 h2 i2 mC g2 l1 l2 tv Va=>?_;have q0:=mC 0 zd;have q1:=mC 1 zd;have q4:=mC 4 zd
   rw[f0] at q0;rw[f1] at q1;rw[f4] at q4;have x2:=x1.mono (g2.get _ x1.lt id);refine ag ?_;subst hD;refine akt HT (show a<n by omega) hn _ i2 j h2 t1 _ _ rfl zo zo zo x2 q0 q1 q4 tv Va λf3 h3 j3 so g3 l3 l4 vP EY=>?_;have r0:=so 0 zd;have r1:=so 1 zd;have r4:=so 4 zd
   rw[q0] at r0;rw[q1] at r1;rw[q4] at r4;have x3:=x2.mono (g3.get _ x2.lt id);have g13:=g2.trans g3
   by_cases c:j3<(i2:Int)
   refine aU vP EY c ?_;exact hk _ _ t1 i2 zo zo zA (ah.cn g13) x3 Pm.refl;obtain⟨jn,rfl⟩:=at6 (show 0<=j3 by omega);have i1:i2<n:=zo;have j1:jn<n:=zo;have c':¬jn<i2:=zo;obtain⟨d1,e1⟩:=x3.row i2 i1;obtain⟨d2,e2⟩:=x3.row jn j1;have e1':=e1;have e2':=e2
   simp only[aC.row] at e1' e2';have hg:=x3.get;have dA:=x3.le;refine nA vP EY c c' r0 hg e1' e2' i1 j1 ?_;obtain⟨t4,H',eH,x4,p4,g4⟩:=x3.sw i1 j1 e1 e2;rw[<-eH];exact ih _ zo (i2+1) ((jn:Int)- 1) H' t4 _ K rfl zo zo zo zo x4 (au r0) (au r1) (au r4) aa aa λf' h' t' i' h1' h2' h3' g' x' p'=>hk f' h' t' i' h1' h2' h3' ((ah.cn g13).trans (g4.trans g')) x' (p4.trans p')
 generalize hL:CC.loop l156_2=L;have i1:a<n:=zo;obtain⟨d1,e1⟩:=x.row a i1;obtain⟨d2,e2⟩:=x.row pv fu;have e1':=e1;have e2':=e2
 simp only[aC.row] at e1' e2';have hg:=x.get;have dA:=x.le;refine cC hg e1' e2' i1 fu ?_;obtain⟨t2,H',eH,x2,p2,g2⟩:=x.sw i1 fu e1 e2;rw[<-eH];subst hL;refine key _ (a+1) ((b:Int)- 1) H' t2 _ _ rfl zo zo zo zo x2 aa aa aa aa aa λf' h' t' i' l1 l2 fi g' x' p'=>?_;refine aB fi ?_;exact hk _ _ i' l1 l2 (g2.trans g') x' (p2.trans p')
theorem akv(HT:aA T){a b pv:Nat}(x:DA h q r n t)(qU:a<b)(hb:b<=n)(fu:pv<n)(hn:n<1073741824)
 (hk:∀h' t'(j:Nat)(c:Bool),a<=j->j<b->ah (·=q) h h'->DA h' q r n t'->Pm n t t'->k (.ret (.bA [.i j,.bool c]) h')):aE T (W T) ⟨157⟩ [.slice q 0 5 n cap ex,.i a,.i b,.i pv,.func ⟨98⟩ [] []] h k:=by
 rw[aJ HT.t157];have i1:a<n:=zo;have key:∀(m i:Nat)(j:Int)(h1:Hp)(t1:Nat->List AV)(f:Fr)(K:aT->Prop),(j+2- i).toNat=m->j<b->a<i->i<=b->(i:Int)<=j+2->(a:Int)<=j->DA h1 q r n t1->J 0 f=.slice q 0 5 n cap ex->J 1 f=.i a->J 4 f=.func ⟨98⟩ [] []->J 12 f=.i i->J 13 f=.i j->
  (∀f' h' t'(j':Nat),a<=j'->j'<b->J 0 f'=.slice q 0 5 n cap ex->J 1 f'=.i a->J 13 f'=.i j'->ah (·=q) h1 h'->DA h' q r n t'->Pm n t1 t'->K (.exit 4 f' h' []))->W T (.loop l157_2) f h1 [] K:=by
  intro m
  induction m using Nat.strongRecOn with
  |_ m ih=>
   intro i j h1 t1 f K hm hj hi ue DV haj x1 f0 f1 f4 fi fj hk;rw[aP];generalize hU:CC.loop l157_1=U;generalize hD:CC.loop l157_0=D;show W T (CC.block 5 ((CC.block 6 (CC.loop l157_1)).seq ((CC.block 8 (CC.loop l157_0)).seq XD))) f h1 [] _;rw[hU,hD];refine ag ?_;subst hU;refine akq HT i1 hn _ i j h1 t1 _ _ rfl zo zo x1 f0 f1 f4 fi fj λf2 h2 i2 mC g2 l1 l2 tv Va=>?_;have q0:=mC 0 zd;have q1:=mC 1 zd;have q4:=mC 4 zd
   rw[f0] at q0;rw[f1] at q1;rw[f4] at q4;have x2:=x1.mono (g2.get _ x1.lt id);refine ag ?_;subst hD;refine akr HT i1 hn _ i2 j h2 t1 _ _ rfl zo zo zo x2 q0 q1 q4 tv Va λf3 h3 j3 so g3 l3 l4 vP EY=>?_;have r0:=so 0 zd;have r1:=so 1 zd;have r4:=so 4 zd
   rw[q0] at r0;rw[q1] at r1;rw[q4] at r4;have x3:=x2.mono (g3.get _ x2.lt id);have g13:=g2.trans g3;obtain⟨jn,rfl⟩:=at6 (show 0<=j3 by omega)
   by_cases c:(jn:Int)<(i2:Int)
   have c':jn<i2:=zo;refine bK vP EY c c' ?_;exact hk _ _ t1 jn zo zo (au r0) (au r1) zA (ah.cn g13) x3 Pm.refl;have i1:i2<n:=zo;have j1:jn<n:=zo;have c':¬jn<i2:=zo;obtain⟨d1,e1⟩:=x3.row i2 i1;obtain⟨d2,e2⟩:=x3.row jn j1;have e1':=e1;have e2':=e2
   simp only[aC.row] at e1' e2';have hg:=x3.get;have dA:=x3.le;refine nA vP EY c c' r0 hg e1' e2' i1 j1 ?_;obtain⟨t4,H',eH,x4,p4,g4⟩:=x3.sw i1 j1 e1 e2;rw[<-eH];exact ih _ zo (i2+1) ((jn:Int)- 1) H' t4 _ K rfl zo zo zo zo zo x4 (au r0) (au r1) (au r4) aa aa λf' h' t' j' h1' h2' h0 akw h3' g' x' p'=>hk f' h' t' j' h1' h2' h0 akw h3' ((ah.cn g13).trans (g4.trans g')) x' (p4.trans p')
 generalize hU:CC.loop l157_4=U;generalize hD:CC.loop l157_3=D;generalize hM:CC.loop l157_2=M;obtain⟨d1,e1⟩:=x.row a i1;obtain⟨d2,e2⟩:=x.row pv fu;have e1':=e1;have e2':=e2
 simp only[aC.row] at e1' e2';have hg:=x.get;have dA:=x.le;refine cC hg e1' e2' i1 fu ?_;obtain⟨t2,H',eH,x2,p2,g2⟩:=x.sw i1 fu e1 e2;rw[<-eH];subst hU;refine ako (cap:=cap) (ex:=ex) HT i1 hn _ (a+1) ((b:Int)- 1) H' t2 _ _ rfl zo zo x2 aa aa aa aa aa λf3 h3 i3 so g3 l1 l2 vP EY=>?_;have q0:=so 0 zd;have q1:=so 1 zd;have q4:=so 4 zd
 simp(disch:=omega) at q0 q1 q4;have x3:=x2.mono (g3.get _ x2.lt id);refine ag ?_;subst hD;refine akp HT i1 hn _ i3 ((b:Int)- 1) h3 t2 _ _ rfl zo zo zo x3 q0 q1 q4 vP EY λf4 h4 j4 Ld g4 l3 l4 OM fj4=>?_;have r0:=Ld 0 zd;have r1:=Ld 1 zd;have r4:=Ld 4 zd
 rw[q0] at r0;rw[q1] at r1;rw[q4] at r4;have x4:=x3.mono (g4.get _ x3.lt id);have g24:ah (·=q) h h4:=g2.trans (ah.cn (g3.trans g4));obtain⟨jn,rfl⟩:=at6 (show 0<=j4 by omega);have j1:jn<n:=zo;obtain⟨d3,e3⟩:=x4.row jn j1;obtain⟨d4,e4⟩:=x4.row a i1;have e3':=e3;have e4':=e4
 simp only[aC.row] at e3' e4';have hg4:=x4.get;have atg:=x4.le
 by_cases c:(jn:Int)<(i3:Int)
 have c':jn<i3:=zo;refine wM OM fj4 c c' r0 r1 hg4 e3' e4' i1 j1 ?_;obtain⟨t5,H5,Vb,x5,p5,g5⟩:=x4.sw j1 i1 e3 e4;rw[<-Vb];exact hk _ _ jn true zo zo (g24.trans g5) x5 (p2.trans p5);have c':¬jn<i3:=zo;have HR:i3<n:=zo;obtain⟨d5,e5⟩:=x4.row i3 HR;have e5':=e5;simp only[aC.row] at e5';refine wM OM fj4 c c' r0 r1 hg4 e3' e5' HR j1 ?_;obtain⟨t5,H5,Vb,x5,p5,g5⟩:=x4.sw HR j1 e5 e3;rw[<-Vb];subst hM;refine key _ (i3+1) ((jn:Int)- 1) H5 t5 _ _ rfl zo zo zo zo zo x5 (au r0) (au r1) (au r4) aa aa λf6 h6 t6 j6 l5 l6 s0 s1 s13 g6 x6 p6=>?_;have Vc:j6<n:=zo;obtain⟨d6,e6⟩:=x6.row j6 Vc;obtain⟨d7,e7⟩:=x6.row a i1;have e6':=e6;have e7':=e7
 simp only[aC.row] at e6' e7';have hg6:=x6.get;have ath:=x6.le;refine fY s0 s1 s13 hg6 e6' e7' i1 Vc ?_;obtain⟨t7,H7,eH7,x7,p7,g7⟩:=x6.sw Vc i1 e6 e7;rw[<-eH7];exact hk _ _ j6 false zo zo (((g24.trans g5).trans g6).trans g7) x7 (((p2.trans p5).trans p6).trans p7)
theorem akx(HT:aA T){a b:Nat}(x:DA h q r n t)(qU:a<b)(hb:b<=n)(hn:n<1073741824)
 (hk:∀h' t'(c:Bool),ah (·=q) h h'->DA h' q r n t'->Pm n t t'->k (.ret (.bool c) h')):aE T (W T) ⟨155⟩ [.slice q 0 5 n cap ex,.i a,.i b,.func ⟨98⟩ [] []] h k:=by
 rw[aJ HT.t155];have aky:∀(m i:Nat)(h1:Hp)(t1:Nat->List AV)(f:Fr)(K:aT->Prop),b- i=m->0<i->i<=b->DA h1 q r n t1->J 0 f=.slice q 0 5 n cap ex->J 2 f=.i b->J 3 f=.func ⟨98⟩ [] []->J 9 f=.i i->
  (∀f' h'(i':Nat),(∀p,p<=8\/p=10->J p f'=J p f)->ax h1 h'->i<=i'->i'<=b->J 9 f'=.i i'->K (.exit 2 f' h' []))->W T (.loop l155_2) f h1 [] K:=by
  intro m
  induction m with
  |zero=>
   intro i h1 t1 f K hm h0 hi x1 f0 f2 f3 f9 hk;have e:¬i<b:=zo;rw[aP];refine aU f2 f9 e ?_;exact hk _ _ i (λp hp=>by rcases hp with hp|rfl;repeat rw[eG (m:=9) zo zd]
                                                                                                                      exact aa) (ah.refl _) zl hi zA
  |succ m ih=>
   intro i h1 t1 f K hm h0 hi x1 f0 f2 f3 f9 hk;obtain⟨i,rfl⟩:∃q,i=q+1:=⟨i- 1,by omega⟩;have e:(i:Int)+1<b:=zo;obtain⟨d1,e1⟩:=x1.row (i+1) zo;obtain⟨d2,e2⟩:=x1.row i zo;have e1':=e1;have e2':=e2
   simp only[aC.row] at e1' e2';have hg:=x1.get;have dA:=x1.le;rw[aP];refine fY f0 f2 f3 f9 e hg e1' e2' ?_;refine uD (d:=d1) (e:=d2) HT λrr h2 g2=>?_
   by_cases c:rr<0
   ·refine aS f9 c ?_;exact hk _ _ (i+1) (λp hp=>by rcases hp with hp|rfl;repeat rw[eG (m:=9) zo zd]
                                                    exact aa) g2 zl hi zA
   ·refine aS f9 c ?_;refine ih (i+1+1) h2 t1 _ K zo zo zo (x1.mono (g2.get _ x1.lt id)) zA zA zA aa λf' h' i' hf g' h3 h4 h9=>hk f' h' i' (λp hp=>?_) (g2.trans g') zo h4 h9;rw[hf p hp];rcases hp with hp|rfl
    ·repeat rw[eG (m:=9) zo zd]
    exact aa
 have left:∀(j:Nat)(h1:Hp)(t1:Nat->List AV)(f:Fr)(K:aT->Prop),j<n->DA h1 q r n t1->J 0 f=.slice q 0 5 n cap ex->J 3 f=.func ⟨98⟩ [] []->J 11 f=.i j->
  (∀f' h' t',(∀p,p<=10->J p f'=J p f)->ah (·=q) h1 h'->DA h' q r n t'->Pm n t1 t'->K (.exit 4 f' h' []))->W T (.loop l155_1) f h1 [] K:=by
  intro j
  induction j with
  |zero=>
   intro h1 t1 f K hj x1 f0 f3 f11 hk;rw[aP];refine aB f11 ?_;exact hk _ _ t1 (λp hp=>by repeat rw[eG (m:=11) zo zd]) (ah.refl _) x1 Pm.refl
  |succ j ih=>
   intro h1 t1 f K hj x1 f0 f3 f11 hk;obtain⟨d1,e1⟩:=x1.row (j+1) hj;obtain⟨d2,e2⟩:=x1.row j zo;have e1':=e1;have e2':=e2
   simp only[aC.row] at e1' e2';have hg:=x1.get;have dA:=x1.le;have e:(1:Int)<=j+1:=zo;rw[aP];refine iR f0 f3 f11 hg e1' e2' e ?_;refine uD (d:=d1) (e:=d2) HT λrr h2 g2=>?_;have x2:=x1.mono (g2.get _ x1.lt id);have nv:=x2.get
   by_cases c:rr<0
   ·refine cq f0 f11 c nv e1' e2' ?_;obtain⟨t3,H',eH,x3,p3,g3⟩:=x2.sw hj (show j<n by omega) e1 e2;rw[<-eH];refine ih H' t3 _ K zo x3 zA zA aa λf' h' t' hf g' x' p'=>hk f' h' t' (λp hp=>?_) ((ah.cn g2).trans (g3.trans g')) x' (p3.trans p');rw[hf p hp]
    repeat rw[eG (m:=11) zo zd]
   ·refine aS f11 c ?_;exact hk _ _ t1 (λp hp=>by repeat rw[eG (m:=11) zo zd]) (ah.cn g2) x2 Pm.refl
 have right:∀(m j:Nat)(h1:Hp)(t1:Nat->List AV)(f:Fr)(K:aT->Prop),b- j=m->0<j->j<2147483648->DA h1 q r n t1->J 0 f=.slice q 0 5 n cap ex->J 2 f=.i b->J 3 f=.func ⟨98⟩ [] []->J 12 f=.i j->
  (∀f' h' t',(∀p,p<=10->J p f'=J p f)->ah (·=q) h1 h'->DA h' q r n t'->Pm n t1 t'->K (.exit 6 f' h' []))->W T (.loop l155_0) f h1 [] K:=by
  intro m
  induction m with
  |zero=>
   intro j h1 t1 f K hm h0 hj x1 f0 f2 f3 f12 hk;have e:¬j<b:=zo;rw[aP];refine aU f2 f12 e ?_;exact hk _ _ t1 (λp hp=>by repeat rw[eG (m:=11) zo zd]) (ah.refl _) x1 Pm.refl
  |succ m ih=>
   intro j h1 t1 f K hm h0 hj x1 f0 f2 f3 f12 hk;obtain⟨j,rfl⟩:∃q,j=q+1:=⟨j- 1,by omega⟩;have jn:j+1<n:=zo;obtain⟨d1,e1⟩:=x1.row (j+1) jn;obtain⟨d2,e2⟩:=x1.row j zo;have e1':=e1;have e2':=e2
   simp only[aC.row] at e1' e2';have hg:=x1.get;have dA:=x1.le;have e:(j:Int)+1<b:=zo;rw[aP];refine fY f0 f2 f3 f12 hg e1' e2' e ?_;refine uD (d:=d1) (e:=d2) HT λrr h2 g2=>?_;have x2:=x1.mono (g2.get _ x1.lt id);have nv:=x2.get
   by_cases c:rr<0
   ·refine cq f0 f12 c nv e1' e2' ?_;obtain⟨t3,H',eH,x3,p3,g3⟩:=x2.sw jn (show j<n by omega) e1 e2;rw[<-eH];refine ih (j+1+1) H' t3 _ K zo zo zo x3 zA zA zA aa λf' h' t' hf g' x' p'=>hk f' h' t' (λp hp=>?_) ((ah.cn g2).trans (g3.trans g')) x' (p3.trans p');rw[hf p hp]
    repeat rw[eG (m:=11) zo zd]
   ·refine aS f12 c ?_;exact hk _ _ t1 (λp hp=>by repeat rw[eG (m:=11) zo zd]) (ah.cn g2) x2 Pm.refl
 have Lc:∀(m c i:Nat)(h1:Hp)(t1:Nat->List AV)(f:Fr)(K:aT->Prop),5- c=m->c<=5->0<i->i<=b->DA h1 q r n t1->J 0 f=.slice q 0 5 n cap ex->J 1 f=.i a->J 2 f=.i b->J 3 f=.func ⟨98⟩ [] []->J 9 f=.i i->J 10 f=.i c->
  (∀f' h' t',ah (·=q) h1 h'->DA h' q r n t'->Pm n t1 t'->K (.exit 0 f' h' []))->(∀f' h' t' cc,ah (·=q) h1 h'->DA h' q r n t'->Pm n t1 t'->J 8 f'=.bool cc->K (.ret f' h' []))->W T (.loop l155_3) f h1 [] K:=by
  intro m
  induction m with
  |zero=>
   intro c i h1 t1 f K hm hc h0 hi x1 f0 f1 f2 f3 f9 f10 k1 k2;have e:¬(c:Int)<5:=zo;have e':¬c<5:=zo;rw[aP];refine aU f10 e e' ?_;exact k1 _ _ t1 (ah.refl _) x1 Pm.refl
  |succ m ih=>
   intro c i h1 t1 f K hm hc h0 hi x1 f0 f1 f2 f3 f9 f10 k1 k2;have e:(c:Int)<5:=zo;have e':c<5:=zo;rw[aP];show W T Q4 f h1 [] _;unfold Q4;generalize hS:CC.loop l155_2=SL;generalize hF:CC.loop l155_1=LF;generalize pV:Q0=T1;refine aU f10 e e' ?_;subst hS;refine aky _ i h1 t1 _ _ rfl h0 hi x1 zA zA zA zA λf2' h2 i2 mC g2 l1 l2 tv=>?_;have q0:=mC 0 (.inl zd);have q1:=mC 1 (.inl zd);have q2:=mC 2 (.inl zd);have q3:=mC 3 (.inl zd);have q10:=mC 10 (.inr rfl)
   simp(disch:=omega) [f0,f1,f2,f3,f10] at q0 q1 q2 q3 q10;have x2:=x1.mono (g2.get _ x1.lt id)
   by_cases c1:i2=b
   have c1':(i2:Int)=b:=zo;refine bK tv q2 c1 c1' ?_;exact k2 _ _ t1 true (ah.cn g2) x2 Pm.refl aa;have c1':¬(i2:Int)=b:=zo
   by_cases c2:(b:Int)- a<50
   refine cq tv q1 q2 c1 c1' c2 ?_;exact k2 _ _ t1 false (ah.cn g2) x2 Pm.refl aa;obtain⟨i3,rfl⟩:∃q,i2=q+1:=⟨i2- 1,by omega⟩;have c1':¬(i3:Int)+1=b:=zo;have HR:i3+1<n:=zo;have Vd:i3<n:=zo;obtain⟨d1,e1⟩:=x2.row (i3+1) HR;obtain⟨d2,e2⟩:=x2.row i3 Vd;have e1':=e1;have e2':=e2
   simp only[aC.row] at e1' e2';have hg:=x2.get;have dA:=x2.le;have goT:∀(f4:Fr)(h4:Hp)(t4:Nat->List AV),ah (·=q) h1 h4->DA h4 q r n t4->Pm n t1 t4->J 0 f4=.slice q 0 5 n cap ex->J 1 f4=.i a->J 2 f4=.i b->J 3 f4=.func ⟨98⟩ [] []->J 9 f4=.i (i3+1)->J 10 f4=.i c->
    W T T1 f4 h4 [] (bY 1 (bF (W T (.af r155_23)) (bF (W T (.loop l155_3)) K))):=by
    intro f4 h4 t4 g4 x4 p4 s0 s1 s2 s3 s9 s10;subst pV;unfold Q0;generalize hR:CC.loop l155_0=LR;have nx:∀(f5:Fr)(h5:Hp)(t5:Nat->List AV),ah (·=q) h1 h5->DA h5 q r n t5->Pm n t1 t5->J 0 f5=.slice q 0 5 n cap ex->J 1 f5=.i a->J 2 f5=.i b->J 3 f5=.func ⟨98⟩ [] []->J 9 f5=.i (i3+1)->J 10 f5=.i c->W T (.af r155_23) f5 h5 [] (bF (W T (.loop l155_3)) K):=by intro f5 h5 t5 g5 x5 p5 u0 u1 u2 u3 u9 u10;refine aB u10 ?_;exact ih (c+1) (i3+1) h5 t5 _ K zo zo zo zo x5 (au u0) (au u1) (au u2) (au u3) (au u9) aa (λf' h' t' g' x' p'=>k1 f' h' t' (g5.trans g') x' (p5.trans p')) (λf' h' t' cc g' x' p' e8=>k2 f' h' t' cc (g5.trans g') x' (p5.trans p') e8)
    generalize hN:CC.af r155_23=N at nx⊢
    by_cases c3:(2:Int)<=b- (i3+1)
    refine aU s2 s9 c3 ?_;subst hR;refine right _ (i3+1+1) h4 t4 _ _ rfl zo zo x4 (au s0) (au s2) (au s3) aa λf6 h6 t6 tA g6 x6 p6=>?_;have w0:=tA 0 zd;have w1:=tA 1 zd;have w2:=tA 2 zd;have w3:=tA 3 zd;have w9:=tA 9 zd;have w10:=tA 10 zd
    simp(disch:=omega) [s0,s1,s2,s3,s9,s10] at w0 w1 w2 w3 w9 w10;refine ag ?_;exact nx _ h6 t6 (g4.trans g6) x6 (p4.trans p6) w0 w1 w2 w3 w9 w10;refine aU s2 s9 c3 ?_;exact nx _ h4 t4 g4 x4 p4 (au s0) (au s1) (au s2) (au s3) (au s9) (au s10)
   obtain⟨t3,H',eH,x3,p3,g3⟩:=x2.sw HR Vd e1 e2
   by_cases c4:(2:Int)<=(i3:Int)+1- a
   refine wM tv q0 q1 q2 c1 c1' c2 hg e1' e2' c4 ?_;rw[<-eH];subst hF;refine left i3 H' t3 _ _ Vd x3 (au q0) (au q3) aa λf6 h6 t6 tA g6 x6 p6=>?_;have w0:=tA 0 zd;have w1:=tA 1 zd;have w2:=tA 2 zd;have w3:=tA 3 zd;have w9:=tA 9 zd;have w10:=tA 10 zd
   simp(disch:=omega) [q0,q1,q2,q3,tv,q10] at w0 w1 w2 w3 w9 w10;refine ag ?_;exact goT _ h6 t6 ((ah.cn g2).trans (g3.trans g6)) x6 (p3.trans p6) w0 w1 w2 w3 w9 w10;refine wM tv q0 q1 q2 c1 c1' c2 hg e1' e2' c4 ?_;rw[<-eH];exact goT _ H' t3 ((ah.cn g2).trans g3) x3 p3 (au q0) (au q1) (au q2) (au q3) zA (au q10)
 generalize hL:CC.loop l155_3=L;refine ag ?_;subst hL;refine Lc 5 0 (a+1) h t _ _ rfl zo zo zo x aa aa aa aa aa aa (λf' h' t' g' x' p'=>?_) (λf' h' t' cc g' x' p' e8=>?_);refine ag ?_;exact hk _ _ false g' x' p';refine aB e8 ?_;exact hk _ _ cc g' x' p'
end
section
open Go (IntKind)
variable{h:Hp}{k:aK->Prop}{q r n:Nat}{t:Nat->List AV}{cap:Nat}{ex:Bool}
def As(h:Hp)(sb:Nat):Prop:=∃c:Int,h.get sb=.one 3 [.i c]
theorem Ve(HT:aA T){a b sb:Nat}(x:DA h q r n t)(hs:As h sb)(ha:a<n)(hb:b<n)(hn:n<1073741824)
 (hk:∀(u v:Nat) h',(u=a\/u=b)->(v=a\/v=b)->ah (·=sb) h h'->As h' sb->k (.ret (.bA [.i u,.i v]) h')):aE T (W T) ⟨197⟩ [.slice q 0 5 n cap ex,.i a,.i b,.ptr sb 0,.func ⟨98⟩ [] []] h k:=by
 rw[aJ HT.t197];obtain⟨d1,e1⟩:=x.row a ha;obtain⟨d2,e2⟩:=x.row b hb;have e1':=e1;have e2':=e2
 simp only[aC.row] at e1' e2';have hg:=x.get;have dA:=x.le;obtain⟨c,hc⟩:=hs;have ls:=Hp.lt hc rfl;refine cC hg e1' e2' ha hb ?_;refine uD (d:=d2) (e:=d1) HT λrr h2 g2=>?_;have eZ:h2.get sb=.one 3 [.i c]:=(g2.get _ ls id).trans hc
 by_cases c1:rr<0
 refine aS c1 eZ ?_;exact hk b a _ (.inr rfl) (.inl rfl) (ah.set (M:=(·=sb)) (ah.cn g2) _ (.inr rfl)) ⟨_,Hp.bR rfl⟩;refine aB c1 ?_;exact hk a b _ (.inl rfl) (.inr rfl) (ah.cn g2) ⟨c,eZ⟩
theorem DA.ne{sb:Nat}(x:DA h q r n t)(hs:As h sb):q≠sb:=by rintro rfl;obtain⟨c,hc⟩:=hs;rw[x.get] at hc;cases hc
theorem ab9(HT:aA T){a b c sb:Nat}(x:DA h q r n t)(hs:As h sb)(ha:a<n)(hb:b<n)(hc:c<n)(hn:n<1073741824)
 (hk:∀(v:Nat) h',(v=a\/v=b\/v=c)->ah (·=sb) h h'->As h' sb->k (.ret (.i v) h')):aE T (W T) ⟨183⟩ [.slice q 0 5 n cap ex,.i a,.i b,.i c,.ptr sb 0,.func ⟨98⟩ [] []] h k:=by
 rw[aJ HT.t183];refine ag ?_;refine Ve HT x hs ha hb hn λa1 b1 h1 u1 v1 g1 s1=>?_;have x1:=x.mono (g1.get _ x.lt (x.ne hs));refine ag ?_;refine Ve HT x1 s1 (show b1<n by omega) hc hn λb2 c2 h2 u2 v2 g2 s2=>?_;have x2:=x1.mono (g2.get _ x1.lt (x1.ne s1));refine ag ?_;refine Ve HT x2 s2 (show a1<n by omega) (show b2<n by omega) hn λa3 b3 h3 u3 v3 g3 s3=>?_;refine ag ?_;exact hk b3 _ zo ((g1.trans g2).trans g3) s3
theorem Vf(HT:aA T){a sb:Nat}(x:DA h q r n t)(hs:As h sb)(h0:0<a)(ha:a+1<n)(hn:n<1073741824)
 (hk:∀(v:Nat) h',a- 1<=v->v<=a+1->ah (·=sb) h h'->As h' sb->k (.ret (.i v) h')):aE T (W T) ⟨182⟩ [.slice q 0 5 n cap ex,.i a,.ptr sb 0,.func ⟨98⟩ [] []] h k:=by
 rw[aJ HT.t182];obtain⟨a,rfl⟩:∃z,a=z+1:=⟨a- 1,by omega⟩;refine ag ?_;refine ab9 (a:=a) (b:=a+1) (c:=a+1+1) HT x hs zo zo zo hn λv h1 hv g1 s1=>?_;refine ag ?_;exact hk v _ zo zo g1 s1
theorem akz(HT:aA T){a b:Nat}(x:DA h q r n t)(qU:a+12<b)(hb:b<=n)(hn:n<1073741824)
 (hk:∀(v:Nat)(w:Int) h',a<=v->v<b->ax h h'->k (.ret (.bA [.i v,.i w]) h')):aE T (W T) ⟨153⟩ [.slice q 0 5 n cap ex,.i a,.i b,.func ⟨98⟩ [] []] h k:=by
 rw[aJ HT.t153];have Bx:((b:Int)- a).tdiv 4=(((b- a)/4:Nat):Int):=by rw[avr zo];omega
 have e8:(8:Int)<=b- a:=zo;generalize hT:XA=T1;generalize pY:XB=T2;have b8:∀(f':Fr)(h':Hp)(v:Nat),a<=v->v<b->ax h h'->As h' h.nx->J 13 f'=.i v->J 11 f'=.ptr h.nx 0->W T T2 f' h' [] (finish T (W T) [.tmp 8,.tmp 9] k):=by
  intro f' h' v l1 l2 g s f13 f11;subst pY;obtain⟨c,hc⟩:=s
  by_cases c1:c=0
  refine bK f11 f13 hc c1 ?_;exact hk v _ _ l1 l2 g
  by_cases c2:c=12
  refine cC f11 f13 hc c1 c2 ?_;exact hk v _ _ l1 l2 g;refine cC f11 f13 hc c1 c2 ?_;exact hk v _ _ l1 l2 g
 have ab':∀(f':Fr)(h':Hp)(i j m:Nat),a<=i->i<b->a<=j->j<b->a<=m->m<b->ax h h'->As h' h.nx->J 0 f'=.slice q 0 5 n cap ex->J 3 f'=.func ⟨98⟩ [] []->J 12 f'=.i i->J 13 f'=.i j->J 14 f'=.i m->J 11 f'=.ptr h.nx 0->
  W T T1 f' h' [] (bF (W T T2) (finish T (W T) [.tmp 8,.tmp 9] k)):=by
  intro f' h' i j m i1 i2 j1 j2 m1 m2 g s f0 f3 f12 f13 f14 f11;subst hT;refine cq f0 f3 f11 f12 f13 f14 ?_;refine ab9 HT (x.mono (g.get _ x.lt id)) s (show i<n by omega) (show j<n by omega) (show m<n by omega) hn λv h1 hv g1 s1=>?_;refine ag ?_;exact b8 _ h1 v zo zo (ah.sX g g1 λz hz=>by omega) s1 aa zA
 have g0:ax h (h.push (.one 3 [.i 0])):=aZ;have s0:As (h.push (.one 3 [.i 0])) h.nx:=⟨0,Hp.br rfl⟩;have x0:=x.mono (g0.get _ x.lt id);generalize Hr:(b- a)/4=z at Bx
 by_cases c:(50:Int)<=b- a
 refine aU Bx e8 c ?_;refine Vf (a:=a+z) HT x0 s0 zo zo hn λv1 h1 l1 l2 g1 s1=>?_;have x1:=x0.mono (g1.get _ x0.lt (x0.ne s0));refine ag ?_;refine Vf (a:=a+z*2) HT x1 s1 zo zo hn λv2 h2 l3 l4 g2 s2=>?_;have x2:=x1.mono (g2.get _ x1.lt (x1.ne s1));refine ag ?_;refine Vf (a:=a+z*3) HT x2 s2 zo zo hn λv3 h3 l5 l6 g3 s3=>?_;refine ag ?_;exact ab' _ h3 v1 v2 v3 zo zo zo zo zo zo (ah.sX g0 ((g1.trans g2).trans g3) λz hz=>by omega) s3 aa aa aa aa aa aa;refine aU Bx e8 c ?_;exact ab' _ _ (a+z) (a+z*2) (a+z*3) zo zo zo zo zo zo g0 s0 aa aa aa aa aa aa
def EZ:List UInt8:=[0,1,2,2,3,3,3,3,4,4,4,4,4,4,4,4,5,5,5,5,5,5,5,5,5,5,5,5,5,5,5,5,6,6,6,6,6,6,6,6,6,6,6,6,6,6,6,6,6,6,6,6,6,6,6,6,6,6,6,6,6,6,6,6,7,7,7,7,7,7,7,7,7,7,7,7,7,7,7,7,7,7,7,7,7,7,7,7,7,7,7,7,7,7,7,7,7,7,7,7,7,7,7,7,7,7,7,7,7,7,7,7,7,7,7,7,7,7,7,7,7,7,7,7,7,7,7,7,8,8,8,8,8,8,8,8,8,8,8,8,8,8,8,8,8,8,8,8,8,8,8,8,8,8,8,8,8,8,8,8,8,8,8,8,8,8,8,8,8,8,8,8,8,8,8,8,8,8,8,8,8,8,8,8,8,8,8,8,8,8,8,8,8,8,8,8,8,8,8,8,8,8,8,8,8,8,8,8,8,8,8,8,8,8,8,8,8,8,8,8,8,8,8,8,8,8,8,8,8,8,8,8,8,8,8,8,8,8,8,8,8,8,8,8,8,8,8,8,8,8,8,8,8,8,8,8]
def yI(m:Nat):Nat:=(EZ.getD m 0).toNat
theorem Le:∀m,m<256->m<2^yI m/\(0<m->2^yI m<=2*m)/\yI m<=8:=by decide+kernel
theorem acd{l:List UInt8}{m:Nat}(hm:m<l.length):nh (S l) (.u8 m)=.v (.u8 (l.getD m 0).toNat):=by have:=dQ (l:=l) (a:=(m:Int)) zo zo;have e:nh (S l) (.u8 m)=nh (S l) (.i m):=rfl;rw[e,this];simp[List.getD,hm]
theorem Lf{a:Int}:ko .u8 (.int .u64 a)=.v (.u8 (a% 256).toNat):=by simp only[ko,intOf,mL,Go.IntKind.wrap_u8]
theorem ace{a b:Nat}:((a:Int).fdiv (b:Int))=((a/b:Nat):Int):=by rw[avH _ zo];rfl
theorem Vg(HT:aA T){x:Nat}(hx:x<4294967296)(hk:∀m:Nat,m<=32->x<2^m->(0<x->2^m<=2*x)->k (.ret (.i m) h)):aE T (W T) ⟨126⟩ [.int .u64 x] h k:=by
 rw[aJ HT.t126];refine ag ?_;rw[aJ HT.t159];have c0:¬(4294967296:Int)<=x:=zo;have hl:∀m,m<256->nh (S EZ) (.u8 m)=.v (.u8 (yI m)):=λm hm=>acd qaT;have s16:((x:Int).fdiv 65536)=((x/65536:Nat):Int):=ace (b:=65536);have e8:∀y:Nat,((y:Int).fdiv 256)=((y/256:Nat):Int):=λy=>ace (b:=256);unfold EZ at hl
 by_cases c1:(65536:Int)<=x
 by_cases c2:(256:Int)<=((x/65536:Nat):Int)
 have hm:x/65536/256<256:=zo;have z:(((x/65536/256:Nat):Int)% 256).toNat=x/65536/256:=zo;obtain⟨a1,a2,a3⟩:=Le _ hm;have fV:=hl _ hm;generalize yI (x/65536/256)=L at*;generalize hy:x/65536=y at*;generalize hw:y/256=w at*;simp(disch:=omega) [c0,c1,s16,e8,c2,hw,Lf,z,fV];refine hk (16+8+L) zo ?_ λ_=>?_;rw[auT];have:w+1<=2^L:=a1;have:=au2 (2^(16+8)) this;omega
 rw[auT];have:=au2 (2^(16+8)) (a2 zo);omega
 have hm:x/65536<256:=zo;have z:(((x/65536:Nat):Int)% 256).toNat=x/65536:=zo;obtain⟨a1,a2,a3⟩:=Le _ hm;have fV:=hl _ hm;generalize yI (x/65536)=L at*;generalize hy:x/65536=y at*;simp(disch:=omega) [c0,c1,s16,e8,c2,Lf,z,fV];refine hk (16+L) zo ?_ λ_=>?_;rw[auT];have:y+1<=2^L:=a1;have:=au2 (2^16) this;omega
 rw[auT];have:=au2 (2^16) (a2 zo);omega
 by_cases c2:(256:Int)<=x
 have hm:x/256<256:=zo;have z:(((x/256:Nat):Int)% 256).toNat=x/256:=zo;obtain⟨a1,a2,a3⟩:=Le _ hm;have fV:=hl _ hm;generalize yI (x/256)=L at*;generalize hy:x/256=y at*;simp(disch:=omega) [c0,c1,e8,hy,c2,Lf,z,fV];refine hk (8+L) zo ?_ λ_=>?_;rw[auT];have:y+1<=2^L:=a1;have:=au2 (2^8) this;omega
 rw[auT];have:=au2 (2^8) (a2 zo);omega
 have hm:x<256:=zo;have z:((x:Int)% 256).toNat=x:=zo;obtain⟨a1,a2,a3⟩:=Le _ hm;have fV:=hl _ hm;generalize yI x=L at*;simp(disch:=omega) [c0,c1,c2,Lf,z,fV];exact hk L zo a1 a2
end
section
open Go (IntKind FloatKind)
variable{h:Hp}{k:aK->Prop}
theorem Vh(HT:aA T){b:Bool}(hk:∀v:Int,k (.ret (.int .u64 v) h)):aE T (W T) ⟨209⟩ [.bool b] h k:=by rw[aJ HT.t209];cases b<;>simp(disch:=omega)<;>exact hk _
theorem akA(HT:aA T){b:Bool}(hk:∀v:Nat,v<=1->k (.ret (.i v) h)):aE T (W T) ⟨220⟩ [.bool b] h k:=by rw[aJ HT.t220];cases b;refine ag ?_;exact hk 0 zd;refine ag ?_;exact hk 1 zd
theorem akB(HT:aA T){p:Int}(hp:-1000<p/\p<1000)(hk:∀v:Int,-4000<v->v<4000->k (.ret (.i v) h)):aE T (W T) ⟨217⟩ [.i p] h k:=by rw[aJ HT.t217];have e1:w64 (p*108853)=p*108853:=gf zo zo;have e2:sC (.i (p*108853)) (.int .u64 15)=.v (.i ((p*108853).fdiv 32768)):=rfl;have e3:(p*108853).fdiv 32768=(p*108853)/32768:=avH _ zd;rw[e3] at e2;refine aS e1 e2 ?_;exact hk _ zo zo
theorem akC(HT:aA T){v:Int}(hk:∀v:Int,k (.ret (.int .u64 v) h)):aE T (W T) ⟨221⟩ [.int .u64 v] h k:=by rw[aJ HT.t221];obtain⟨a,e1⟩:∃a,oQ pF (.int .u64 v) (.int .u64 2)=.v (.int .u64 a):=⟨_,rfl⟩;refine aB e1 ?_;exact hk _
theorem akD(HT:aA T){v:Int}(hk:∀v:Int,k (.ret (.int .u64 v) h)):aE T (W T) ⟨223⟩ [.int .u64 v] h k:=by rw[aJ HT.t223];refine ag ?_;exact hk _
theorem acf(HT:aA T){a b:Int}(hk:∀x y:Int,k (.ret (.bA [.int .u64 x,.int .u64 y]) h)):aE T (W T) ⟨231⟩ [.int .u64 a,.int .u64 b] h k:=by rw[aJ HT.t231];refine ag ?_;exact hk _ _
theorem akE(HT:aA T){v e:Int}(hk:∀n x,x=.ji\/x=.iface 215 (.i 1)->k (.ret (.bA [.bN .f64 n,x]) h)):aE T (W T) ⟨226⟩ [.int .u64 v,.i e] h k:=by
 rw[aJ HT.t226];obtain⟨a1,e1⟩:∃a,jI (λ_ a b=>a&&&b) (.int .u64 v) (.int .u64 4503599627370496)=.v (.int .u64 a):=⟨_,rfl⟩;obtain⟨a2,e2⟩:∃a,jI (λ_ a b=>a&&&b) (.int .u64 v) (.int .u64 9223372036854775808)=.v (.int .u64 a):=⟨_,rfl⟩;obtain⟨a3,e3⟩:∃a,jI (λ_ a b=>a|||b) (.int .u64 a2) (.int .u64 9218868437227405312)=.v (.int .u64 a):=⟨_,rfl⟩;have x1:∀n:Int,qo .Dp [.int .u64 n]=.v (.bN .f64 n.toNat):=λn=>rfl
 by_cases z:a1=0
 subst z;simp(disch:=omega) [-oy,e1,x1];exact hk _ _ (.inl rfl)
 by_cases c:972<=e
 simp(disch:=omega) [-oy,e1,e2,e3,x1,z,c];exact hk _ _ (.inr rfl);obtain⟨a4,e4⟩:∃a,jI (λ_ a b=>a&&&~~~b) (.int .u64 v) (.int .u64 4503599627370496)=.v (.int .u64 a):=⟨_,rfl⟩;obtain⟨a5,e5⟩:∃a,lG (.i 1075) (.i e)=.v (.i a):=⟨_,rfl⟩;obtain⟨a6,e6⟩:∃a,ko .u64 (.i a5)=.v (.int .u64 a):=⟨_,rfl⟩;obtain⟨a7,e7⟩:∃a,oQ pF (.int .u64 a6) (.int .u64 52)=.v (.int .u64 a):=⟨_,rfl⟩;obtain⟨a8,e8⟩:∃a,jI (λ_ a b=>a|||b) (.int .u64 a4) (.int .u64 a7)=.v (.int .u64 a):=⟨_,rfl⟩;simp(disch:=omega) [-oy,-zR,-vL,e1,e4,e5,e6,e7,e8,x1,z,c];exact hk _ _ (.inl rfl)
theorem akF:∀m,m<256->yI m<=8:=λm hm=>(Le m hm).2.2
theorem akG(HT:aA T){v:Int}(hk:∀m:Nat,m<=64->k (.ret (.i m) h)):aE T (W T) ⟨159⟩ [.int .u64 v] h k:=by
 rw[aJ HT.t159];have hl:∀m,m<256->nh (S EZ) (.u8 m)=.v (.u8 (yI m)):=λm hm=>acd qaT;unfold EZ at hl;obtain⟨T4,qE⟩:∃X,Q7=X:=⟨_,rfl⟩;rw[qE];obtain⟨T7,HA⟩:∃X,Q6=X:=⟨_,rfl⟩;obtain⟨Oi,EF⟩:∃X,XE=X:=⟨_,rfl⟩;have leaf:∀(f:Fr)(w:Int)(n:Nat),n<=56->J 0 f=.int .u64 w->J 2 f=.i n->W T Oi f h [] (finish T (W T) [.tmp 2] k):=by
  intro f w n hn f0 f2;rw[<-EF];have z:(w% 256).toNat<256:=zo;have fV:=hl _ z;have h8:=akF _ z;have e1:ko .u8 (.int .u64 w)=.v (.u8 (w% 256).toNat):=Lf;generalize(w% 256).toNat=m at fV h8 e1;generalize yI m=L at fV h8;have e2:ko .i64 (.u8 L)=.v (.i (L:Int)):=by show OR.v (.i (w64 (Int.ofNat L)))=_;rw[show Int.ofNat L=(L:Int) from rfl,gf zo zo]
  refine cC f0 f2 e1 fV e2 ?_;exact hk (n+L) zo
 have e7:=HA.symm;unfold Q6 at e7;rw[EF] at e7;have l7:∀(f:Fr)(w:Int)(n:Nat),n<=48->J 0 f=.int .u64 w->J 2 f=.i n->W T T7 f h [] (finish T (W T) [.tmp 2] k):=by
  intro f w n hn f0 f2;rw[e7];obtain⟨a,e1⟩:∃a,sC (.int .u64 w) (.int .u64 8)=.v (.int .u64 a):=⟨_,rfl⟩
  by_cases c:256<=w
  simp(disch:=omega) [-lg,f0,f2,e1,c];refine leaf _ a (n+8) zo ?_ ?_;exact aa;exact aa;simp(maxSteps:=400000) (disch:=first|exact bh|fail) [-lg,f0,f2,e1,c];refine leaf _ w n zo ?_ ?_;exact zA;exact zA
 have e4:=qE.symm;unfold Q7 at e4;rw[HA] at e4;have l4:∀(f:Fr)(w:Int)(n:Nat),n<=32->J 0 f=.int .u64 w->J 2 f=.i n->W T T4 f h [] (finish T (W T) [.tmp 2] k):=by
  intro f w n hn f0 f2;rw[e4];obtain⟨a,e1⟩:∃a,sC (.int .u64 w) (.int .u64 16)=.v (.int .u64 a):=⟨_,rfl⟩
  by_cases c:65536<=w
  simp(disch:=omega) [-lg,f0,f2,e1,c];refine l7 _ a (n+16) zo ?_ ?_;exact aa;exact aa;simp(disch:=omega) [-lg,f0,f2,e1,c];refine l7 _ w n zo ?_ ?_;exact zA;exact zA
 obtain⟨a,e1⟩:∃a,sC (.int .u64 v) (.int .u64 32)=.v (.int .u64 a):=⟨_,rfl⟩
 by_cases c:4294967296<=v
 simp(disch:=omega) [-lg,e1,c];refine l4 _ a 32 zd ?_ ?_;exact aa;exact aa;simp(disch:=omega) [-lg,e1,c];refine l4 _ v 0 zd ?_ ?_;exact aa;exact aa
def E0(h:Hp):Prop:=∀i,i<696->∃a b:Int,cellsOf (h.get 13) (i*2) 1=some [.int .u64 a]/\cellsOf (h.get 13) (i*2+1) 1=some [.int .u64 b]
theorem E0.kp{h':Hp}(x:E0 h)(g:xe h h'):E0 h':=by unfold E0;rw[g 13 zd];exact x
theorem akH{b n:Nat}{a:Nat}(h1:a<n):yY 2 n (.ptr b 0) (.i (a:Int))=.v (.ptr b (a*2)):=by have h1:a+1<=n:=h1;simp[yY,h1]
def ON(h:Hp)(b:Nat)(s:Int):Prop:=∃x y:Int,h.get b=.one 283 [.int .u64 x,.int .u64 y,.i s]
theorem akI(HT:aA T)(pt:E0 h)(hn:22<=h.nx){b:Nat}{s:Int}(hb:22<=b)(x:ON h b s){e p lp:Int}(he:-10000<e/\e<10000)(hp:-345<=p/\p<=310)(hlp:-4000<lp/\lp<4000)
 (hk:∀h',ah (·=b) h h'->ON h' b (-(e+lp+3))->k (.ret (.bA []) h')):aE T (W T) ⟨218⟩ [.ptr b 0,.i e,.i p,.i lp] h k:=by
 rw[aJ HT.t218];obtain⟨x1,x2,xg⟩:=x;obtain⟨q,eq⟩:=at6 (by omega:0<=p- -348);obtain⟨a,c,e1,e2⟩:=pt q zo;have w1:jb (.i p) (.i (-348))=.v (.i (q:Int)):=by rw[kD,gf zo zo,eq]
 have w2:=akH (b:=13) (n:=696) (a:=q) zo;have w3:w64 (e+lp)=e+lp:=gf zo zo;have w4:w64 (e+lp+3)=e+lp+3:=gf zo zo;have w5:uR (.i (e+lp+3))=.v (.i (-(e+lp+3))):=by show OR.v (.i (w64 (0- (e+lp+3))))=_;rw[gf zo zo];exact aui (λz=>OR.v (.i z)) zo
 have nb:¬13=b:=zo;have i13:(13:Nat)<h.nx:=zo;simp(disch:=omega) [-kD,xg,w1,w2,w3,w4,w5,e1,e2,nb];exact hk _ aZ ⟨a,c,Hp.bR rfl⟩
end
section
open Go (IntKind FloatKind)
variable{h:Hp}{k:aK->Prop}{b:Nat}{s:Int}
theorem akJ:∃n:Nat,n<64/\jI (λ_ a b=>a&&&b) (.i s) (.i 63)=.v (.i (n:Int)):=by
 have ao:(BitVec.ofInt IntKind.i64.bits s&&&BitVec.ofInt IntKind.i64.bits 63).toNat<=63:=by rw[aw6];exact at1 Nat.and_le_right zd
 refine⟨(BitVec.ofInt IntKind.i64.bits s&&&BitVec.ofInt IntKind.i64.bits 63).toNat,by omega,?_⟩;show OR.v (mL .i64 (Int.ofNat (BitVec.ofInt IntKind.i64.bits s&&&BitVec.ofInt IntKind.i64.bits 63).toNat))=_;generalize(BitVec.ofInt IntKind.i64.bits s&&&BitVec.ofInt IntKind.i64.bits 63).toNat=z at ao;show OR.v (.i (w64 (Int.ofNat z)))=_;rw[show Int.ofNat z=(z:Int) from rfl,gf zo zo]
theorem Vi{a:Int}{n:Nat}:∃r,sC (.int .u64 a) (.i (n:Int))=.v (.int .u64 r):=⟨_,rfl⟩
theorem acg{a:Int}{n:Nat}:∃r,oQ pF (.int .u64 a) (.i (n:Int))=.v (.int .u64 r):=⟨_,rfl⟩
theorem akK(HT:aA T)(x:ON h b s){v:Int}(hk:∀r:Int,k (.ret (.int .u64 r) h)):aE T (W T) ⟨219⟩ [.int .u64 v,.ptr b 0] h k:=by
 rw[aJ HT.t219];obtain⟨x1,x2,xg⟩:=x;obtain⟨n,hn,e1⟩:=akJ (s:=s);generalize rq:Rp=T3;refine aB xg ?_;refine acf HT λhi yJ=>?_;obtain⟨a1,s1⟩:=Vi (a:=hi) (n:=n);obtain⟨a2,s2⟩:=acg (a:=a1) (n:=n);obtain⟨a3,s3⟩:∃a,jI (λ_ a b=>a|||b) (.int .u64 a1) (.int .u64 1)=.v (.int .u64 a):=⟨_,rfl⟩;subst rq;unfold Rp;generalize ju:CC.aR r219_7=Dr
 by_cases c:a2=hi
 simp(disch:=omega) [-G5,xg,e1,s1,s2,c];refine acf HT λm2 lo=>?_;refine ag ?_;refine Vh HT λw=>?_;obtain⟨a4,s4⟩:∃a,jb (.int .u64 hi) (.int .u64 w)=.v (.int .u64 a):=⟨_,rfl⟩;simp(disch:=omega) [-ru,s4];subst ju;rw[lI,mu];generalize ku _ _=fm;obtain⟨a5,s5⟩:=Vi (a:=a4) (n:=n);obtain⟨a6,s6⟩:∃a,jb (.int .u64 yJ) (.int .u64 m2)=.v (.int .u64 a):=⟨_,rfl⟩;simp(disch:=omega) [-ru,s5,s6,-Cp];rw[Cp,ZS,ZQ];refine ag ?_;refine Vh HT λz=>?_;refine ag ?_;exact hk _;simp(disch:=omega) [-oy,-G5,xg,e1,s1,s2,s3,c];exact hk _
theorem ach(HT:aA T)(pt:E0 h)(hn:22<=h.nx){v p sg:Int}(hp:-345<=p/\p<=310)(hk:∀h' n x,ax h h'->x=.ji\/x=.iface 215 (.i 1)->k (.ret (.bA [.bN .f64 n,x]) h')):aE T (W T) ⟨212⟩ [.int .u64 v,.i p,.int .u64 sg] h k:=by
 rw[aJ HT.t212];generalize rq:Ro=T3;refine ag ?_;refine akG HT λb hb=>?_;refine ag ?_;refine akB HT zo λlp l1 l2=>?_;refine ag ?_;subst rq;unfold Ro;generalize Vj:Rn=T6;have w1:jb (.i 53) (.i (b:Int))=.v (.i (53- b)):=by rw[kD,gf zo zo]
 have w2:jb (.i (53- b)) (.i lp)=.v (.i (53- b- lp)):=by rw[kD,gf zo zo]
 have w3:jb (.i 64) (.i (b:Int))=.v (.i ((64- b:Nat):Int)):=by rw[kD,gf zo zo];exact aui (λz=>OR.v (.i z)) zo
 simp(disch:=omega) [-kD,w1,w2,w3];generalize hE:(if 53- (b:Int)- lp<1074 then 53- (b:Int)- lp else 1074)=E;have bE:-6000<E/\E<=1074:=by rw[<-hE];split<;>omega
 clear hE w1 w2;have w4:jb (.i E) (.i ((64- b:Nat):Int))=.v (.i (E- (64- b:Nat))):=by rw[kD,gf zo zo]
 simp(disch:=omega) [-kD,w4];generalize hH:(Hp.push h _:Hp)=H;have xH:ON H h.nx 0:=by rw[<-hH];exact⟨0,0,Hp.br rfl⟩
 have gH:ax h H:=by rw[<-hH];exact aZ
 have nH:H.nx=h.nx+1:=by rw[<-hH];rfl
 have kp:xe h H:=λi hi=>gH.get i zo id;clear hH;refine akI HT (pt.kp kp) zo hn xH zo hp zo λh2 g2 x2=>?_;have g02:ax h h2:=⟨by have:=g2.nx;omega,λi hi _=>(g2.get i zo zo).trans (gH.get i hi id)⟩;have x2':=x2;obtain⟨y1,y2,xg⟩:=x2';generalize hS:-(E- (64- b:Nat)+lp+3)=S1 at x2 xg;refine ag ?_;subst Vj;unfold Rn;generalize Ol:XO=T8
 by_cases c:64<=S1
 have x1:∀n:Int,qo .Dp [.int .u64 n]=.v (.bN .f64 n.toNat):=λn=>rfl;refine aU xg c x1 ?_;exact hk h2 _ _ g02 (.inl rfl);obtain⟨a1,s1⟩:=acg (a:=v) (n:=64- b);refine aS xg c ?_;subst Ol;simp(disch:=omega) [-kD,w3,s1];refine akK HT x2 λu=>?_;refine ag ?_;refine akC HT λm=>?_;refine ag ?_;refine akA HT λq hq=>?_;obtain⟨a2,s2⟩:=Vi (a:=u) (n:=q);obtain⟨a3,s3⟩:∃a,jI (λ_ a b=>a&&&b) (.int .u64 u) (.int .u64 1)=.v (.int .u64 a):=⟨_,rfl⟩;obtain⟨a4,s4⟩:∃a,jI (λ_ a b=>a|||b) (.int .u64 a2) (.int .u64 a3)=.v (.int .u64 a):=⟨_,rfl⟩;obtain⟨a5,s5⟩:∃a,jb (.i E) (.i (q:Int))=.v (.i a):=⟨_,rfl⟩;simp(disch:=omega) [-kD,-oy,s2,s3,s4,s5];refine akD HT λr=>?_;obtain⟨a6,s6⟩:∃a,jI (λ_ a b=>a|||b) (.int .u64 sg) (.int .u64 r)=.v (.int .u64 a):=⟨_,rfl⟩;obtain⟨a7,s7⟩:∃a,uR (.i a5)=.v (.i a):=⟨_,rfl⟩;simp(disch:=omega) [-oy,s6,s7];refine akE HT λn x hx=>?_;refine ag ?_;exact hk h2 n x g02 hx
def Lg(h:Hp):Prop:=∃q cap ex,cellsOf (h.get 12) 0 1=some [.slice q 0 1 23 cap ex]/\q<22/\∀i,i<23->∃b,cellsOf (h.get q) i 1=some [.bN .f64 b]/\Bn b=true
theorem Lg.kp{h':Hp}(x:Lg h)(g:xe h h'):Lg h':=by obtain⟨q,cap,ex,e,hq,a⟩:=x;exact⟨q,cap,ex,by rw[g 12 zd];exact e,hq,λi hi=>by rw[g q hq];exact a i hi⟩
theorem aci{b:Nat}(h:Bn b=true):lW b:=by obtain⟨s,n,p,e,_⟩:=Ux h;intro s t;rw[e];simp
theorem akL:lW 4831355200913801216:=aci zd
theorem akM:lW 14054727237768577024:=aci zd
theorem akN{a b:Nat}(ha:lW a)(hb:lW b):∃r,uc (.bN .f64 a) (.bN .f64 b)=.v (.bool r):=abu ha hb
theorem akO{a b:Nat}(ha:lW a)(hb:lW b):∃r,ua (.bN .f64 a) (.bN .f64 b)=.v (.bool r):=abu ha hb
theorem akP(HT:aA T)(ft:Bm h)(pf:Lg h){v p:Int}(hp:-1000<p/\p<1000)(hk:∀(n:Nat)(r:Bool),k (.ret (.bA [.bN .f64 n,.bool r]) h)):aE T (W T) ⟨211⟩ [.int .u64 v,.i p,.bool false] h k:=by
 rw[aJ HT.t211];obtain⟨t1,t2,t3⟩:=ft;obtain⟨q,cap,ex,pe,hq,pa⟩:=pf;obtain⟨a1,s1⟩:∃a,sC (.int .u64 v) (.int .u64 52)=.v (.int .u64 a):=⟨_,rfl⟩
 by_cases z:a1=0
 obtain⟨f0,e0,n0⟩:=ajJ (n:=v)
 by_cases c0:p=0
 simp(disch:=omega) [-lg,t1,s1,z,e0,c0];exact hk _ _
 by_cases c1:0<p
 by_cases c2:p<=37
 generalize akQ:XN=T11;have rest:∀(f:Fr)(i:Nat)(w:Nat),i<23->lW w->J 1 f=.i i->J 6 f=.bN .f64 w->J 7 f=.bool false->W T T11 f h [] (bY 0 (bF (W T CC.ret) (finish T (W T) [.tmp 6,.tmp 7] k))):=by
  intro f i w hi nw p1 p6 p7;obtain⟨bb,eb,fb⟩:=pa i hi;obtain⟨r1,g1⟩:=akN nw akL;obtain⟨r2,g2⟩:=akO nw akM;obtain⟨m,em,_⟩:=abt nw fb;have dD:(i:Int)<23:=zo;subst akQ;cases r1 with
  |true=>
   refine bK p1 p6 p7 g1 ?_;exact hk _ _
  |false=>
   cases r2 with
   |true=>
    refine cC p1 p6 p7 g1 g2 ?_;exact hk _ _
   |false=>
    refine nA p1 p6 p7 g1 g2 pe hi dD eb em ?_;exact hk _ _
 by_cases c3:22<p
 obtain⟨i,ei⟩:=at6 (by omega:0<=p- 22);have w1:jb (.i p) (.i 22)=.v (.i (i:Int)):=by rw[kD,gf zo zo,ei]
 have hi:i<23:=zo;have dD:(i:Int)<23:=zo;obtain⟨bb,eb,fb⟩:=pa i hi;obtain⟨m,em,nm⟩:=abt n0 fb;simp(disch:=omega) [-lg,-kD,t1,s1,z,e0,c0,c1,c2,c3,w1,pe,hi,dD,eb,em];refine rest _ 22 m zd nm ?_ ?_ ?_;exact aa;exact aa;exact aa;obtain⟨i,ei⟩:=at6 (by omega:0<=p);have hi:i<23:=zo;simp(disch:=omega) [-lg,t1,s1,z,e0,c0,c1,c2,c3];refine rest _ i f0 hi n0 ?_ ?_ ?_;exact au ei;exact aa;exact aa;have c4:¬p<0:=zo;simp(disch:=omega) [-lg,t1,s1,z,e0,c0,c1,c2,c4];exact hk _ _;have c4:p<0:=zo
 by_cases c5:-22<=p
 obtain⟨i,ei⟩:=at6 (by omega:0<=-p);have w1:uR (.i p)=.v (.i (i:Int)):=by show OR.v (.i (w64 (0- p)))=_;rw[gf zo zo];exact aui (λz=>OR.v (.i z)) zo
 have hi:i<23:=zo;have dD:(i:Int)<23:=zo;obtain⟨bb,eb,fb⟩:=pa i hi;obtain⟨m,em⟩:=ajH n0 fb;simp(disch:=omega) [-lg,t1,s1,z,e0,c0,c1,c4,c5,w1,pe,hi,dD,eb,em];exact hk _ _;simp(disch:=omega) [-lg,t1,s1,z,e0,c0,c1,c4,c5];exact hk _ _;simp(disch:=omega) [-lg,t1,s1,z];exact hk _ _
end
section
open Go (IntKind FloatKind)
variable{h:Hp}{k:aK->Prop}{s:List UInt8}
theorem akR(fl:qa s):∃u,nh (S s) (.i 0)=.v (.u8 u)/\48<=u/\u<=57:=by
 have l0:0<s.length:=auA.2 fl.ne;have a:=Ov fl.hd;refine⟨(s.headD 0).toNat,?_,a⟩;rw[dQ zd (by simpa using l0)];cases s with
 |nil=>simp at l0
 |cons c r=>rfl
theorem akS(fl:qa s){n:Nat}(h:s.take n≠[]):qa (s.take n):=by
 refine⟨h,?_,λc hc=>fl.all c (axk hc)⟩;have:=fl.hd;cases s with
 |nil=>simp at h
 |cons c r=>
  cases n with
  |zero=>simp at h
  |succ n=>exact this
theorem akT(H2:uU T)(fl:qa s)(hk:k (.ret (.bA [.bN .f64 0,.i 0,.bool false]) h)):aE T (W T) ⟨200⟩ [S s] h k:=by rw[aJ H2.t200];have l0:0<s.length:=auA.2 fl.ne;obtain⟨u,ix,u1,u2⟩:=akR fl;have KZ:¬s.length=0:=zo;have sl:¬(s.length:Int)=0:=zo;have c1:¬u=43:=zo;have c2:¬u=45:=zo;have c3:¬u=105:=zo;have c4:¬u=73:=zo;have c5:¬u=110:=zo;have c6:¬u=78:=zo;simp(disch:=omega) [-dQ,ix,sl,KZ,c1,c2,c3,c4,c5,c6];exact hk
theorem akU(HT:aA T){b:Nat}(x:bM h b (λ_=>0) 0 0 false false) (hk:∀h',ah (·=b) h h'->k (.ret (.bool false) h')):aE T (W T) ⟨207⟩ [.ptr b 0,S []] h k:=by rw[aJ HT.t207];have x':=x;unfold bM at x';refine aB x' ?_;exact hk _ aZ
def ErX(x:AV):Prop:=x=.ji\/x=.iface 215 (.i 1)\/x=.iface 215 (.i 2)
structure xo(h:Hp):Prop where
 n:22<=h.nx
 ct:CS h
 pt:EO h
 ft:Bm h
 p10:E0 h
 pf:Lg h
 op:cellsOf (h.get 8) 0 1=some [.bool true]
theorem xo.kp{h':Hp}(x:xo h)(g:xe h h')(hn:22<=h'.nx):xo h':=⟨hn,x.ct.kp g,x.pt.kp g,x.ft.kp g,x.p10.kp g,x.pf.kp g,by rw[g 8 zd];exact x.op⟩
theorem xo.g0{h':Hp}(x:xo h)(g:ax h h'):xo h':=x.kp (λi hi=>g.get i (by have:=x.n;omega) id) (at1 x.n g.nx)
theorem akV{H:Hp}{b:Nat}(e:H.get b=.one 270 (List.replicate 800 (.u8 0)++[.i 0,.i 0,.bool false,.bool false])):bM H b (λ_=>0) 0 0 false false:=by unfold bM;rw[e];unfold kO;rw[List.map_const',List.length_range];rfl
theorem akW(H2:uU T)(L:xo h)(fl:qa s)(hl:s.length<=60)(hk:∀h' v(n:Int) x,ax h h'->ErX x->k (.ret (.bA [v,.i n,x]) h')):aE T (W T) ⟨191⟩ [S s] h k:=by
 have HT:=H2.h;rw[aJ HT.t191];have n19:=L.n;have x1:∀n:Int,qo .Dp [.int .u64 n]=.v (.bN .f64 n.toNat):=λn=>rfl;generalize akX:XH=T28;refine ag ?_;refine akT H2 fl ?_;refine ag ?_;refine ajC H2 fl hl λm e tr ok i hi e1 e2=>?_;have Nq:∀(f:Fr)(h1:Hp),ax h h1->J 0 f=S s->J 3 f=.i i->J 4 f=.ji->W T T28 f h1 [] (finish T (W T) [.tmp 2,.tmp 3,.tmp 4] k):=by
  intro f h1 g1 f0 f3 f4;subst akX;have L1:=L.g0 g1;have n1:=L1.n;have sl:wh (S s) none (some (.i (i:Int)))=.v (S (s.take i)):=by rw[Z2 zo zo];rfl
  simp(maxSteps:=400000) (disch:=first|exact bh|fail) [-List.reduceReplicate,-Z2,f0,f3,sl];generalize hH:(Hp.push h1 _:Hp)=H;have xH:bM H h1.nx (λ_=>0) 0 0 false false:=akV (by rw[<-hH];exact Hp.br rfl);have gH:ax h1 H:=by rw[<-hH];exact aZ
  have nH:H.nx=h1.nx+1:=by rw[<-hH];rfl
  have LH:=L1.g0 gH;clear hH;have up:∀{h2:Hp},ah (·=h1.nx) H h2->ax h h2:=λ{h2} g=>⟨by have:=g.nx;have:=g1.nx;omega,λj hj _=>(g.get j qaF qaF).trans ((gH.get j qaF id).trans (g1.get j hj id))⟩
  by_cases c:s.take i=[]
  rw[c];refine akU HT xH λh2 g2=>?_;refine aB f3 ?_;exact hk h2 _ _ _ (up g2) (.inr (.inr rfl));refine ajo H2 xH (akS fl c) zn λr h2 D nd dp ng fT g2 x2 yx d1 d2=>?_;cases r with
  |false=>
   refine aB f3 ?_;exact hk h2 _ _ _ (up g2) (.inr (.inr rfl))
  |true=>
   have kp:xe H h2:=.of g2 n1 LH.n;have L2:=LH.kp kp (at1 LH.n g2.nx);refine ag ?_;refine ajx HT x2 yx ⟨d1,d2⟩ L2.ct L2.pt L2.ft n1 L2.n λv r h3 g3=>?_;cases r with
   |true=>
    refine aU x1 f3 f4 ?_;exact hk h3 _ _ _ (up (g2.trans g3)) (.inr (.inl rfl))
   |false=>
    refine aU x1 f3 f4 ?_;exact hk h3 _ _ _ (up (g2.trans g3)) (.inl rfl)
 cases ok with
 |false=>
  refine ag ?_;exact hk h _ _ _ (ah.refl _) (.inr (.inr rfl))
 |true=>
  refine aB L.op ?_;refine Vh HT λw=>?_;obtain⟨sg,s1⟩:∃a,oQ pF (.int .u64 w) (.int .u64 63)=.v (.int .u64 a):=⟨_,rfl⟩;obtain⟨b1,s2⟩:∃a,jI (λ_ a b=>a|||b) (.int .u64 sg) (.int .u64 0)=.v (.int .u64 a):=⟨_,rfl⟩;obtain⟨b2,s3⟩:∃a,jI (λ_ a b=>a|||b) (.int .u64 sg) (.int .u64 9218868437227405312)=.v (.int .u64 a):=⟨_,rfl⟩;obtain⟨T18,Ox⟩:∃X,Ra=X:=⟨_,rfl⟩;rw[Ox];obtain⟨T22,acj⟩:∃X,XG=X:=⟨_,rfl⟩;have e18:=Ox.symm;unfold Ra at e18;rw[acj] at e18;have p22:∀(f:Fr)(h1:Hp),ax h h1->-345<=e->e<=310->J 0 f=S s->J 3 f=.i i->J 4 f=.ji->J 8 f=.int .u64 m->J 9 f=.i e->J 11 f=.bool tr->J 16 f=.int .u64 sg->W T T22 f h1 [] (bF (W T T28) (finish T (W T) [.tmp 2,.tmp 3,.tmp 4] k)):=by
   intro f h1 g1 b1 b2 f0 f3 f4 f8 f9 f11 f16;rw[<-acj];have L1:=L.g0 g1;refine aU f8 f9 f16 ?_;refine ach HT L1.p10 L1.n ⟨b1,b2⟩ λh2 r1 x1 g2 mV=>?_;have g12:=g1.trans g2;cases tr with
   |false=>
    refine aS f3 f11 ?_;refine hk h2 _ _ _ g12 ?_;rcases mV with q|q;exact .inl q;exact .inr (.inl q)
   |true=>
    have L2:=L1.g0 g2;obtain⟨m2,s4⟩:∃a,lG (.int .u64 m) (.int .u64 1)=.v (.int .u64 a):=⟨_,rfl⟩;simp(disch:=omega) [-vJ,f8,f9,f11,f16,s4];refine ach HT L2.p10 L2.n ⟨b1,b2⟩ λh3 r2 x2 g3 kT=>?_;have g13:=g12.trans g3;obtain⟨r,s5⟩:=ajI (a:=r1) (b:=r2);cases r with
    |true=>
     simp(disch:=omega) [-Dv,s5,f3];refine hk h3 _ _ _ g13 ?_;rcases mV with q|q;exact .inl q;exact .inr (.inl q)
    |false=>
     simp(disch:=omega) [-Dv,s5,f3];refine Nq _ h3 g13 ?_ ?_ ?_;exact zA;exact zA;exact zA
  by_cases z:m=0
  subst z;simp(disch:=omega) [-oy,s1,s2,x1];exact hk h _ _ _ (ah.refl _) (.inl rfl)
  ·by_cases c1:310<e
   simp(disch:=omega) [-oy,s1,s3,x1,z,c1];exact hk h _ _ _ (ah.refl _) (.inr (.inl rfl))
   ·by_cases c2:e< -345
    simp(disch:=omega) [-oy,s1,s2,x1,z,c1,c2];exact hk h _ _ _ (ah.refl _) (.inl rfl)
    ·simp(disch:=omega) [-oy,s1,z,c1,c2];rw[e18];cases tr with
     |true=>
      refine ag ?_;refine p22 _ h (ah.refl _) zo zo ?_ ?_ ?_ ?_ ?_ ?_ ?_
      all_goals simp(disch:=omega)
     |false=>
      refine ag ?_;refine akP HT L.ft L.pf zo λn r=>?_;cases r with
      |true=>
       refine ag ?_;exact hk h _ _ _ (ah.refl _) (.inl rfl)
      |false=>
       refine ag ?_;refine p22 _ h (ah.refl _) zo zo ?_ ?_ ?_ ?_ ?_ ?_ ?_
       all_goals simp(disch:=omega)
theorem akY(HT:aA T){p:List UInt8}(hl:s.length<1073741824)(h5:ry h 5)(hk:∀v h',ax h h'->k (.ret v h')):aE T (W T) ⟨163⟩ [S p,S s] h k:=by
 rw[aJ HT.t163];obtain⟨h5,t,v,e5⟩:=h5;refine aB e5 ?_;refine aa2 HT hl λw w' h1 g1=>?_;have e1:cellsOf (h1.get 5) 0 1=some [.iface t v]:=by rw[g1.get _ h5 id];exact e5
 refine aB e1 ?_;exact hk _ _ aZ
theorem akZ(HT:aA T){p:List UInt8}{b z:Int}(hl:s.length<1073741824)(h5:ry h 5)(hk:∀v h',ax h h'->k (.ret (.iface 218 v) h')):aE T (W T) ⟨138⟩ [S p,S s,.i b,.i z,.iface 215 (.i 2)] h k:=by rw[aJ HT.t138];refine ag ?_;refine akY HT hl h5 λv h1 g1=>?_;refine ag ?_;exact hk _ _ aZ
theorem ak0(H2:uU T)(L:xo h)(fl:qa s)(hl:s.length<=60)(hk:∀h' v x,ax h h'->ErX x->k (.ret (.bA [v,x]) h')):aE T (W T) ⟨139⟩ [S s,.i 64] h k:=by
 rw[aJ H2.h.t139];refine ag ?_;rw[aJ H2.h.t167];refine ag ?_;refine akW H2 L fl hl λh' v n x g hx=>?_;refine ag ?_
 by_cases c:n=s.length
 refine aB c ?_;exact hk h' _ _ g hx;refine aB c ?_;exact hk h' _ _ g (.inr (.inr rfl))
theorem ak1(H2:uU T)(L:xo h)(h5:ry h 5)(h6:ry h 6)(fl:qa s)(hl:s.length<=60)(hk:∀h' v x,ax h h'->(x=.ji\/∃w,x=.iface 218 w)->k (.ret (.bA [v,x]) h')):aE T (W T) ⟨114⟩ [S s,.i 64] h k:=by rw[aJ H2.h.t114];refine ag ?_;refine ak0 H2 L fl hl λh1 v x g hx=>?_;rcases hx with rfl|rfl|rfl;refine ag ?_;exact hk h1 _ _ g (.inl rfl);refine ag ?_;refine aa3 H2.h zo (h6.mono g) λw h2 g2=>?_;refine ag ?_;exact hk h2 _ _ (g.trans g2) (.inr ⟨_,rfl⟩);refine ag ?_;refine akZ H2.h zo (h5.mono g) λw h2 g2=>?_;refine ag ?_;exact hk h2 _ _ (g.trans g2) (.inr ⟨_,rfl⟩)
theorem ak2(H2:uU T)(L:xo h)(h5:ry h 5)(h6:ry h 6):CA T h:=by
 intro s k hl hk;rw[aJ H2.h.t80]
 by_cases c:60<s.length
 have c':(60:Int)<s.length:=zo;refine aS c c' ?_;exact hk _ _ _ (ah.refl _);have c':¬(60:Int)<s.length:=zo;refine aS c c' ?_;refine aiV H2.h hl λb hb=>?_;cases b with
 |false=>
  refine ag ?_;exact hk _ _ _ (ah.refl _)
 |true=>
  refine ag ?_;refine ak1 H2 L h5 h6 (hb rfl) zo λh1 v x g hx=>?_;rcases hx with rfl|⟨w,rfl⟩;refine ag ?_;exact hk _ _ _ g;refine ag ?_;exact hk _ _ _ g
end
section
open Go (IntKind)
variable{h:Hp}{k:aK->Prop}{q r n:Nat}{t:Nat->List AV}{cap:Nat}{ex:Bool}
def Lh(h:Hp)(b:Nat):Prop:=∃c:Int,h.get b=.one 232 [.int .u64 c]
theorem ak3(HT:aA T){b:Nat}(hb:Lh h b)(hk:∀(y:Int) h',ah (·=b) h h'->Lh h' b->k (.ret (.int .u64 y) h')):aE T (W T) ⟨181⟩ [.ptr b 0] h k:=by rw[aJ HT.t181];obtain⟨c,hc⟩:=hb;have lb:=Hp.lt hc rfl;refine aB hc ?_;refine hk _ _ ?_ ⟨_,Hp.bR rfl⟩;exact ah.set (M:=(·=b)) (ah.set (M:=(·=b)) (ah.set (M:=(·=b)) (ah.refl _) _ (.inr rfl)) _ (.inr rfl)) _ (.inr rfl)
theorem ak4(HT:aA T){x:Nat}(h0:0<x)(hx:x<1073741824)(hk:∀m:Nat,x<m->m<=2*x->(∀y:Int,0<=bW (λ_ a b=>a&&&b) y ((m:Int)- 1)/\bW (λ_ a b=>a&&&b) y ((m:Int)- 1)<m)->k (.ret (.int .u64 m) h)):aE T (W T) ⟨180⟩ [.i x] h k:=by
 rw[aJ HT.t180];have e:(x:Int)% 18446744073709551616=x:=zo;refine aB e ?_;refine Vg HT zo λm m0 m1 m2=>?_;have m2:=m2 h0;have hs:oQ pF (.int .u64 1) (.i m)=.v (.int .u64 ((2^m:Nat):Int)):=by show OR.v (.int .u64 (IntKind.u64.wrap (1*2^(min m 64))))=_;rw[show min m 64=m by omega,Go.IntKind.wrap_u64];have:(2^m:Nat)<18446744073709551616:=zo;congr 2;rw[Int.one_mul,show((2:Int)^m)=((2^m:Nat):Int) by simp];omega
 refine aB hs ?_;rw[show((2:Int)^m)=((2^m:Nat):Int) by simp];generalize hp:2^m=p at*;refine hk p m1 m2 λy=>⟨ahu.1,?_⟩;simp only[bW,qN,mL,Go.IntKind.wrap_u64];have ao:(BitVec.ofInt IntKind.u64.bits y&&&BitVec.ofInt IntKind.u64.bits ((p:Int)- 1)).toNat<=p- 1:=by rw[aw6];refine at1 Nat.and_le_right ?_;show(BitVec.ofInt 64 ((p:Int)- 1)).toNat<=p- 1;rw[awo];omega
 generalize(BitVec.ofInt IntKind.u64.bits y&&&BitVec.ofInt IntKind.u64.bits ((p:Int)- 1)).toNat=z at ao⊢;simp only[au8];omega
theorem ak5(HT:aA T){a b:Nat}(x:DA h q r n t)(qU:a+12<b)(hb:b<=n)(hn:n<1073741824)
 (hk:SK h q r n t k (.bA [])):aE T (W T) ⟨152⟩ [.slice q 0 5 n cap ex,.i a,.i b,.func ⟨98⟩ [] []] h k:=by
 rw[aJ HT.t152];have Bx:((b:Int)- a).tdiv 4=(((b- a)/4:Nat):Int):=by rw[avr zo];omega
 have e8:(8:Int)<=b- a:=zo;have eL:(b:Int)- a=((b- a:Nat):Int):=zo;generalize hz:(b- a)/4=z at Bx;have key:∀(m i md:Nat)(h1:Hp)(t1:Nat->List AV)(f:Fr)(K:aT->Prop),a+z*2+2- i=m->i<b->i<=a+z*2+2->b- a<md->md<=2*(b- a)->(∀y:Int,0<=bW (λ_ a b=>a&&&b) y ((md:Int)- 1)/\bW (λ_ a b=>a&&&b) y ((md:Int)- 1)<md)->
  DA h1 q r n t1->h.nx<=h1.nx->Lh h1 h.nx->J 0 f=.slice q 0 5 n cap ex->J 1 f=.i a->J 8 f=.i ((b:Int)- a)->J 9 f=.ptr h.nx 0->J 10 f=.int .u64 md->J 11 f=.i i->
  (∀f' h' t',ah (λp=>p=q\/p=h.nx) h1 h'->DA h' q r n t'->Pm n t1 t'->K (.exit 0 f' h' []))->W T (.loop l152_0) f h1 [] K:=by
  intro m
  induction m with
  |zero=>
   intro i md h1 t1 f K hm hi NO OO OP Li x1 xp s1 f0 f1 f8 f9 f10 f11 hk;have e:¬(i:Int)<=a+z*2+1:=zo;rw[aP];refine cC f1 f8 f11 Bx e ?_;exact hk _ _ t1 (ah.refl _) x1 Pm.refl
  |succ m ih=>
   intro i md h1 t1 f K hm hi NO OO OP Li x1 xp s1 f0 f1 f8 f9 f10 f11 hk;have e:(i:Int)<=a+z*2+1:=zo;have ez:(i:Int)<=(a:Int)+z*2+1:=e;rw[aP];refine cq f1 f8 f9 f11 Bx e ?_;refine ak3 HT s1 λy h2 g2 s2=>?_;have qn:q≠h.nx:=by rintro rfl;obtain⟨c,hc⟩:=s1;rw[x1.get] at hc;cases hc
   have x2:=x1.mono (g2.get _ x1.lt qn);have ack:((md:Int)- 1)% 18446744073709551616=(md:Int)- 1:=zo;obtain⟨w1,w2⟩:=Li y;generalize hw:bW (λ_ a b=>a&&&b) y ((md:Int)- 1)=w at w1 w2;have acm:w64 w=w:=gf zo zo;have g12:ah (λp=>p=q\/p=h.nx) h1 h2:=g2.mono λ_ _ hh=>.inr hh;have b8:∀(o:Nat)(f':Fr),o<b- a->J 0 f'=.slice q 0 5 n cap ex->J 1 f'=.i a->J 8 f'=.i ((b:Int)- a)->J 9 f'=.ptr h.nx 0->J 10 f'=.int .u64 md->J 11 f'=.i i->J 12 f'=.i o->
    W T (.aR r152_9) f' h2 [] (bY 1 (bF (W T (.af r152_10)) (bF (W T (.loop l152_0)) K))):=by
    intro o f' ho f0 f1 f8 f9 f10 f11 f12;have i1:i<n:=zo;have i2:a+o<n:=zo;obtain⟨d1,e1⟩:=x2.row i i1;obtain⟨d2,e2⟩:=x2.row (a+o) i2;have e1':=e1;have e2':=e2
    simp only[aC.row] at e1' e2';have hg:=x2.get;have dA:=x2.le;have z2:((a:Int)+o).toNat=a+o:=zo;have i2':(a:Int)+o<n:=zo;refine kC f0 f1 f8 f9 f10 f11 f12 hg e1' e2' i1 i2 z2 ?_;obtain⟨t3,H',eH,x3,p3,g3⟩:=x2.sw i1 i2 e1 e2;rw[<-eH];have g3':ah (λp=>p=q\/p=h.nx) h2 H':=g3.mono λ_ _ hh=>.inl hh;have s3:Lh H' h.nx:=by obtain⟨c,hc⟩:=s2;exact⟨c,(g3.get _ (Hp.lt hc rfl) (Ne.symm qn)).trans hc⟩
    exact ih (i+1) md H' t3 _ K zo zo zo OO OP Li x3 (at1 xp (at1 g2.nx g3.nx)) s3 zA zA zA zA zA aa λvM h' t' g' x' p'=>hk vM h' t' (g12.trans (g3'.trans g')) x' (p3.trans p')
   generalize hN:CC.aR r152_9=N at b8
   by_cases c:(b:Int)- a<=w
   refine cq f8 f10 ack hw acm c ?_;obtain⟨o,ho⟩:=at6 (show 0<=w- ((b:Int)- a) by omega);refine b8 o _ zo zA zA zA zA zA zA qan;refine cq f8 f10 ack hw acm c ?_;obtain⟨o,ho⟩:=at6 (show 0<=w by omega);refine b8 o _ zo zA zA zA zA zA zA qan
 generalize hL:CC.loop l152_0=L;have n8:((b:Int)- a)% 18446744073709551616=b- a:=zo;have g1:ax h ((h.push (.one 232 [.int .u64 0])).set h.nx (.one 232 [.int .u64 ((b:Int)- a)])):=fZ;have x1:=x.mono (g1.get _ x.lt id);have s1:Lh ((h.push (.one 232 [.int .u64 0])).set h.nx (.one 232 [.int .u64 ((b:Int)- a)])) h.nx:=⟨_,Hp.bR rfl⟩;refine aU e8 n8 Bx ?_;rw[eL];rw[eL] at x1 s1 g1;refine ak4 HT (show 0<b- a by omega) zo λmd OO OP Li=>?_;refine aB Bx ?_;subst hL;refine key _ (a+z*2- 1) md _ t _ _ rfl zo zo OO OP Li x1 g1.nx s1 aa aa qan aa aa qan λf' h' t' g' x' p'=>?_;refine ag ?_;refine hk _ _ ⟨at1 g1.nx g'.nx,λi hi hq=>?_⟩ x' p';have hq:¬i=q:=hq;rw[g'.get i (aur hi g1.nx) zo,g1.get i hi id]
def PL(T:aM->Option CF)(q r n cap:Nat)(ex:Bool)(m:Nat):Prop:=∀(a b:Nat)(sr:Int)(w p:Bool)(h1:Hp)(t1:Nat->List AV)(f:Fr)(K:aT->Prop),b- a=m->a<=b->b<=n->DA h1 q r n t1->J 0 f=.slice q 0 5 n cap ex->J 1 f=.i a->J 2 f=.i b->J 3 f=.i sr->J 4 f=.func ⟨98⟩ [] []->J 10 f=.bool w->J 11 f=.bool p->
 (∀f' h' t',ah (·=q) h1 h'->DA h' q r n t'->Pm n t1 t'->K (.ret f' h' []))->W T (.loop l125_0) f h1 [] K
theorem PL.call(HT:aA T){a b:Nat}{sr:Int}(P:PL T q r n cap ex (b- a))(x:DA h q r n t)(qU:a<=b)(hb:b<=n)(hk:SK h q r n t k (.bA [])):aE T (W T) ⟨125⟩ [.slice q 0 5 n cap ex,.i a,.i b,.i sr,.func ⟨98⟩ [] []] h k:=by rw[aJ HT.t125];generalize hL:CC.loop l125_0=L;refine ag ?_;subst hL;refine P a b sr true true h t _ _ rfl qU hb x aa aa aa aa aa aa aa λf' h' t' g' x' p'=>?_;refine ag ?_;exact hk _ _ g' x' p'
theorem ak6(HT:aA T)(hn:n<1073741824):∀m,PL T q r n cap ex m:=by
 intro m
 induction m using Nat.strongRecOn with
 |_ m ih=>
 intro a b sr w p h1 t1 f K hm qU hb x1 f0 f1 f2 f3 f4 f10 f11 hk;rw[aP];show W T QZ f h1 [] _;unfold QZ
 by_cases c1:(b:Int)- a<=12
 refine cq f0 f1 f2 f3 f4 c1 ?_;refine akl HT x1 zo hb hn λh2 t2 g2 x2 p2=>?_;refine ag ?_;exact hk _ _ t2 g2 x2 p2
 by_cases c2:sr=0
 refine iR f0 f1 f2 f3 f4 c1 c2 ?_;refine akm HT x1 qU hb hn λh2 t2 g2 x2 p2=>?_;refine ag ?_;exact hk _ _ t2 g2 x2 p2;have c3:a+12<b:=zo;generalize hR1:QY=R1;have ED:∀(f':Fr)(h2:Hp)(t2:Nat->List AV)(sr:Int),ah (·=q) h1 h2->DA h2 q r n t2->Pm n t1 t2->J 0 f'=.slice q 0 5 n cap ex->J 1 f'=.i a->J 2 f'=.i b->J 3 f'=.i sr->J 4 f'=.func ⟨98⟩ [] []->J 10 f'=.bool w->J 11 f'=.bool p->J 12 f'=.i ((b:Int)- a)->
  W T R1 f' h2 [] (bY 1 (bF (W T (.loop l125_0)) K)):=by
  intro f' h2 t2 sr g2 x2 p2 f0 f1 f2 f3 f4 f10 f11 f12;subst hR1;unfold QY;generalize hR2:QX=R2;have k9:∀(f':Fr)(h3:Hp)(t3:Nat->List AV)(pv:Nat)(E1:Int),a<=pv->pv<b->ah (·=q) h1 h3->DA h3 q r n t3->Pm n t1 t3->J 0 f'=.slice q 0 5 n cap ex->J 1 f'=.i a->J 2 f'=.i b->J 3 f'=.i sr->J 4 f'=.func ⟨98⟩ [] []->J 10 f'=.bool w->J 11 f'=.bool p->J 12 f'=.i ((b:Int)- a)->J 13 f'=.i pv->J 14 f'=.i E1->
   W T R2 f' h3 [] (bY 1 (bF (W T (.loop l125_0)) K)):=by
   intro f' h3 t3 pv E1 pv1 pv2 g3 x3 p3 f0 f1 f2 f3 f4 f10 f11 f12 f13 f14;subst hR2;unfold QX;generalize hR3:QW=R3;have vG:∀(f':Fr)(h3:Hp)(t3:Nat->List AV),ah (·=q) h1 h3->DA h3 q r n t3->Pm n t1 t3->J 0 f'=.slice q 0 5 n cap ex->J 1 f'=.i a->J 2 f'=.i b->J 3 f'=.i sr->J 4 f'=.func ⟨98⟩ [] []->J 10 f'=.bool w->J 11 f'=.bool p->J 12 f'=.i ((b:Int)- a)->J 13 f'=.i pv->
    W T R3 f' h3 [] (bY 1 (bF (W T (.loop l125_0)) K)):=by
    intro f' h3 t3 g3 x3 p3 f0 f1 f2 f3 f4 f10 f11 f12 f13;subst hR3;unfold QW;generalize OQ:Xz=R4;have CJ:∀(f':Fr)(h3:Hp)(t3:Nat->List AV),ah (·=q) h1 h3->DA h3 q r n t3->Pm n t1 t3->J 0 f'=.slice q 0 5 n cap ex->J 1 f'=.i a->J 2 f'=.i b->J 3 f'=.i sr->J 4 f'=.func ⟨98⟩ [] []->J 12 f'=.i ((b:Int)- a)->J 13 f'=.i pv->
     W T R4 f' h3 [] (bY 1 (bF (W T (.loop l125_0)) K)):=by
     intro f' h3 t3 g3 x3 p3 f0 f1 f2 f3 f4 f12 f13;subst OQ;refine cC f0 f1 f2 f4 f13 ?_;refine akv HT x3 zo hb zo hn λh4 t4 yJ cc m1 m2 g4 x4 p4=>?_;have eq8:((b:Int)- a).tdiv 8=(((b- a)/8:Nat):Int):=by rw[avr zo];omega
     by_cases c5:(yJ:Int)- a<b- yJ
     refine fY f0 f1 f2 f3 f4 f12 eq8 c5 ?_;refine PL.call HT (ih (yJ- a) zo) x4 m1 zo λh5 t5 g5 x5 p5=>?_;refine ag ?_;exact ih (b- (yJ+1)) zo (yJ+1) b sr _ cc h5 t5 _ K rfl zo hb x5 zA aa zA zA zA qbk aa λvM h' t' g' x' p'=>hk vM h' t' (((g3.trans g4).trans g5).trans g') x' (((p3.trans p4).trans p5).trans p');refine fY f0 f1 f2 f3 f4 f12 eq8 c5 ?_;refine PL.call (a:=yJ+1) HT (ih (b- (yJ+1)) zo) x4 zo hb λh5 t5 g5 x5 p5=>?_;refine ag ?_;exact ih (yJ- a) zo a yJ sr _ cc h5 t5 _ K rfl m1 zo x5 zA zA aa zA zA qbk aa λvM h' t' g' x' p'=>hk vM h' t' (((g3.trans g4).trans g5).trans g') x' (((p3.trans p4).trans p5).trans p')
    by_cases c6:a=0
    refine aS f1 c6 ?_;exact CJ _ h3 t3 g3 x3 p3 zA zA zA zA zA zA zA;obtain⟨a',ea⟩:∃z,a=z+1:=⟨a- 1,by omega⟩;have an:a'<n:=zo;have pn:pv<n:=zo;obtain⟨d1,e1⟩:=x3.row a' an;obtain⟨d2,e2⟩:=x3.row pv pn;have e1':=e1;have e2':=e2
    simp only[aC.row] at e1' e2';have hg:=x3.get;have dA:=x3.le;have f1':J 1 f'=.i ((a':Int)+1):=by rw[f1,ea];rfl
    have a0:(0:Int)<(a':Int)+1:=zo;refine nA f0 f1' f4 f13 a0 hg e1' e2' an pn ?_;refine uD (d:=d1) (e:=d2) HT λrr h4 g4=>?_;have x4:=x3.mono (g4.get _ x3.lt id);have g34:=g3.trans (ah.cn g4)
    by_cases c7:rr<0
    refine aB c7 ?_;exact CJ _ h4 t3 g34 x4 p3 zA zA zA zA zA zA zA;refine cq c7 f0 f1 f2 f4 f13 ?_;refine aku HT x4 zo hb pn hn λh5 t5 i i1 i2 g5 x5 p5=>?_;refine ag ?_;exact ih (b- i) zo i b sr w p h5 t5 _ K rfl i2 hb x5 zA aa zA zA zA zA zA λvM h' t' g' x' p'=>hk vM h' t' ((g34.trans g5).trans g') x' ((p3.trans p5).trans p')
   by_cases c8:w=true/\p=true/\E1=1
   obtain⟨rfl,rfl,rfl⟩:=c8;refine iR f10 f11 f14 f0 f1 f2 f4 ?_;refine akx HT x3 zo hb hn λh4 t4 cc g4 x4 p4=>?_;cases cc with
   |true=>refine ag ?_;exact hk _ _ t4 (g3.trans g4) x4 (p3.trans p4)
   |false=>
    refine ag ?_;exact vG _ h4 t4 (g3.trans g4) x4 (p3.trans p4) zA zA zA zA zA zA zA zA zA
   cases w with
   |false=>
    refine aU f10 f11 f14 ?_;exact vG _ h3 t3 g3 x3 p3 zA zA zA zA zA zA zA zA zA
   |true=>
    cases p with
    |false=>
     refine aU f10 f11 f14 ?_;exact vG _ h3 t3 g3 x3 p3 zA zA zA zA zA zA zA zA zA
    |true=>
     have c9:¬E1=1:=λe=>c8 ⟨rfl,rfl,e⟩;refine bK f10 f11 f14 c9 ?_;exact vG _ h3 t3 g3 x3 p3 zA zA zA zA zA zA zA zA zA
  refine bK f0 f1 f2 f4 ?_;refine akz HT x2 c3 hb hn λpv E1 h3 l1 l2 g3=>?_;have x3:=x2.mono (g3.get _ x2.lt id);have g23:=g2.trans (ah.cn g3)
  by_cases c4:E1=2
  subst c4;refine bK f0 f1 f2 f4 ?_;refine akn HT x3 qU hb hn λh4 t4 g4 x4 p4=>?_;refine aS f1 f2 ?_;exact k9 _ h4 t4 (b- 1- (pv- a)) 1 zo zo (g23.trans g4) x4 (p2.trans p4) zA zA zA zA zA zA zA zA qan aa;refine aB c4 ?_;exact k9 _ h3 t2 pv E1 l1 l2 g23 x3 p2 zA zA zA zA zA zA zA zA aa aa
 cases w with
 |true=>
  refine fY f0 f1 f2 f3 f4 c1 c2 f10 ?_;exact ED _ h1 t1 sr (ah.refl _) x1 Pm.refl zA zA zA zA zA zA zA aa
 |false=>
  refine fY f0 f1 f2 f3 f4 c1 c2 f10 ?_;refine ak5 HT x1 c3 hb hn λh2 t2 g2 x2 p2=>?_;refine aB f3 ?_;exact ED _ h2 t2 _ g2 x2 p2 zA zA zA qbk zA zA zA aa
theorem ak7(HT:aA T)(x:DA h q r n t)(hn:n<1073741824)(hk:SK h q r n t k (.bA [])):aE T (W T) ⟨97⟩ [.slice q 0 5 n cap ex,.func ⟨98⟩ [] []] h k:=by rw[aJ HT.t97];have e:(n:Int)% 18446744073709551616=n:=zo;refine aB e ?_;refine Vg HT zo λm _ _ _=>?_;refine ag ?_;refine PL.call (a:=0) HT (ak6 HT hn _) x zo zl λh' t' g' x' p'=>?_;refine ag ?_;exact hk _ _ g' x' p'
end
theorem ak8{α β:Type}{f:α->β}{M L:List β}(p:M.Perm L):∀{l:List α},l.map f=M->∃l':List α,l'.Perm l/\l'.map f=L:=by
 induction p with
 |nil=>intro l e;exact⟨l,awU _,e⟩
 |cons x p ih=>
  intro l e;cases l with
  |nil=>cases e
  |cons a l=>
   simp only[aul,awm] at e;obtain⟨l',h1,h2⟩:=ih e.2;exact⟨a::l',h1.cons a,by simp[e.1,h2]⟩
 |swap x y l0=>
  intro l e
  match l,e with
  |a::b::l,e=>
   simp only[aul,awm] at e;exact⟨b::a::l,List.Perm.swap _ _ _,by simp[e.1,e.2.1,e.2.2]⟩
 |trans p1 p2 ih1 ih2=>
  intro l e;obtain⟨l1,h1,h2⟩:=ih1 e;obtain⟨l2,h3,h4⟩:=ih2 h2;exact⟨l2,h3.trans h1,h4⟩
section
variable{h:Hp}{k:aK->Prop}{v:AV}{ds:List aC}
theorem Vk(HT:aA T){p:Nat}{c0 c1 c2 c6 c7 c8 c9:AV}{f:cN}(hp:h.get p=.one 52 (bS c0 c1 c2 f c6 c7 c8 c9))(hd:yG h v ds)(hl:ds.length<1073741824)
 (hk:∀h' f',ah (·=p) h h'->h'.get p=.one 52 (bS c0 c1 c2 f' c6 c7 c8 c9)->((ds.map (·.name)).Nodup->f'=f)->k (.ret (.bA []) h')):aE T (W T) ⟨61⟩ [.ptr p 0,v] h k:=by
 rw[aJ HT.t61];have lp:=Hp.lt hp rfl;have gm:ax h (h.push (.map [] 0)):=aZ;generalize hL:CC.loop l61_0=L;refine ag ?_;refine abE HT (hd.mono λq hq _=>gm.get q hq id) hl λh1 v1 g1 iu ak9=>?_;have HS:ax h h1:=gm.trans g1;have m1:iV h1 h.nx []:=(iV.new (h:=h.push (.map [] 0)) (Hp.br rfl)).mono (g1.get _ zm id);have fu:h1.get p=_:=(HS.get _ lp id).trans hp;rcases iu with⟨rfl,rfl⟩|⟨bg,q,t,cap,ex,r,rfl,hq,hr,ht⟩;refine ag ?_;rw[aJ HT.t97];refine ag ?_;refine Vg (x:=0) HT zd λm _ _ _=>?_;refine ag ?_;rw[aJ HT.t125];refine ag ?_;rw[aP];refine ag ?_;rw[aJ HT.t150];refine ag ?_;rw[aP];refine ag ?_;subst hL;rw[aP];refine ag ?_;exact hk _ f (ah.cn HS) fu λ_=>rfl;have hqn:h.nx+1<=q:=by have:=ak9 _ _ _ _ _ _ rfl;simpa using this
 have x:DA h1 q r ds.length t:=⟨hq,hr,λj hj=>⟨ds[j],ht j hj⟩⟩;refine ag ?_;refine ak7 HT x hl λh2 t2 g2 x2 p2=>?_;have er:dw t ds.length 0=ds.map aC.row:=by
  apply avs;intro j
  by_cases hj:j<ds.length
  rw[vw _ _ _ _ hj,aue,ht j hj];simp[hj];rw[auI (by rw[oZ];omega),auI zn]
 obtain⟨pS,pd,ed⟩:=ak8 (show(dw t ds.length 0).Perm (dw t2 ds.length 0) from p2.symm) er.symm;have bz:pS.length=ds.length:=pd.length_eq;have Vl:∀j,(hj:j<pS.length)->t2 j=pS[j].row:=λj hj=>by have:=vw t2 ds.length 0 j zo;rw[<-ed,aue] at this;simp[hj] at this;exact this.symm
 have g2':ah (·=q) h1 h2:=g2;have eK:h2.get p=_:=(g2.get _ (aur lp HS.nx) zo).trans fu;have m2:iV h2 h.nx []:=m1.mono (g2.get _ m1.lt zo);have g02:ax h h2:=⟨at1 HS.nx g2.nx,λi hi _=>by rw[g2.get i (aur hi HS.nx) zo,HS.get i hi id]⟩;have ak':(ds.map (·.name)).Nodup->(pS.map (·.name)).Nodup:=λhh=>(pd.map _).nodup_iff.2 hh;have A5:=x2.get;have ati:=x2.le;clear g1 hq ht x er p2 ed;have key:∀(m i:Nat)(h3:Hp)(Q:SL)(f1:cN)(fr:Fr)(K:aT->Prop),m=pS.length- i->i<=pS.length->h3.get q=.rows 34 5 r 0 t2->iV h3 h.nx Q->(∀s w,eV Q s=some w->∃c:Int,w=.i c)->((ds.map (·.name)).Nodup->f1=f/\∀s,(eV Q s).isSome=true->s∈(pS.take i).map (·.name))->
  ah (·=p) h h3->h3.get p=.one 52 (bS c0 c1 c2 f1 c6 c7 c8 c9)->J 0 fr=.ptr p 0->J 4 fr=.map h.nx->J 13 fr=.slice q 0 5 ds.length cap ex->J 14 fr=.i ds.length->J 15 fr=.i i->
  (∀f' h' f2,ah (·=p) h h'->h'.get p=.one 52 (bS c0 c1 c2 f2 c6 c7 c8 c9)->((ds.map (·.name)).Nodup->f2=f)->K (.exit 0 f' h' []))->W T (.loop l61_0) fr h3 [] K:=by
  intro m
  induction m with
  |zero=>
   intro i h3 Q f1 fr K hm hi HU m3 hv dB g3 kF e0 e4 e13 e14 e15 hk;have e:¬i<ds.length:=zo;rw[aP];refine aU e14 e15 e ?_;exact hk _ _ f1 g3 kF λhh=>(dB hh).1
  |succ m ih=>
   intro i h3 Q f1 fr K hm hi HU m3 hv dB g3 kF e0 e4 e13 e14 e15 hk;have ao:i<pS.length:=zo;have aY:i<ds.length:=zo;have kz:=Vl i ao;generalize bC:pS[i]=d at kz;simp only[aC.row] at kz;have lm:=m3.lt;have lq3:=Hp.lt HU rfl;rw[aP];have fC:∀H:Hp,iV H h.nx Q->∃c:Int,me (.cell .str) H (.i 0) (.map h.nx) (S d.name) false=.v (.i c)/\(eV Q d.name=none->c=0):=λH mH=>by
    rw[mH.jV];cases hq:eV Q d.name with
    |none=>exact⟨0,rfl,λ_=>rfl⟩
    |some w=>
     obtain⟨c,rfl⟩:=hv _ _ hq;exact⟨c,rfl,λe=>by cases e⟩
   obtain⟨c,hc,wE⟩:=fC ((h3.push (.one 34 [.i 0,S [],.i 0,.i 0,S []])).set h3.nx (.one 34 [.i d.kind,S d.name,.i d.doc,.i d.at_,S d.dir])) (m3.mono aa);refine mz e0 e4 e13 e14 e15 aY HU kz hc ?_;generalize hH:((h3.push _).set _ _:Hp)=H;have gH:ax h3 H:=by rw[<-hH];exact fZ
   have u1:H.get h3.nx=.one 34 [.i d.kind,S d.name,.i d.doc,.i d.at_,S d.dir]:=by rw[<-hH];simp(disch:=omega)
   clear hH;have mH:=m3.mono (gH.get _ lm id);obtain⟨o,eo,fo⟩:=mH.pE (s:=d.name) (v:=.i (w64 (c+1)));have Bt:H.get q=_:=(gH.get _ lq3 id).trans HU;have lB:H.get p=_:=(gH.get _ (Hp.lt kF rfl) id).trans kF;have nH:=gH.nx;have lu1:=Hp.lt u1 rfl;have m5:iV (H.set h.nx o) h.nx (mA Q d.name (.i (w64 (c+1)))):=fo _ (Hp.bR rfl);have At:me (.cell .str) (H.set h.nx o) (.i 0) (.map h.nx) (S d.name) false=.v (.i (w64 (c+1))):=by rw[m5.jV,Bq,atV rfl];rfl
   have hpn:p≠h.nx:=zo;have ala:q≠h.nx:=zo;have g5:ah (·=p) h (H.set h.nx o):=ah.set (g3.trans (ah.cn gH)) _ (.inl zl);have OH:(H.set h.nx o).get p=.one 52 (bS c0 c1 c2 f1 c6 c7 c8 c9):=by rw[Hp.de hpn];exact lB
   have Vm:(H.set h.nx o).get q=.rows 34 5 r 0 t2:=by rw[Hp.de ala];exact Bt
   have hv5:∀s w,eV (mA Q d.name (.i (w64 (c+1)))) s=some w->∃c:Int,w=.i c:=λs w hh=>by rw[Bq] at hh;split at hh;cases hh;exact⟨_,rfl⟩;exact hv _ _ hh
   have alb:(ds.map (·.name)).Nodup->∀s,(eV (mA Q d.name (.i (w64 (c+1)))) s).isSome=true->s∈(pS.take (i+1)).map (·.name):=λhh s hs=>by rw[avb ao,au4,auj];rw[Bq] at hs;split at hs;rename_i e;subst e;right;simp[bC];exact .inl ((dB hh).2 _ hs)
   by_cases cc:1<w64 (c+1)
   have alc:¬(ds.map (·.name)).Nodup:=λhh=>by
    have hnn:=ak' hh;have:eV Q d.name=none:=by
     cases hq:eV Q d.name with
     |none=>rfl
     |some w=>
      have:=(dB hh).2 d.name (by rw[hq];rfl);rw[<-av6 i pS,au4,av'] at hnn;have h3:=hnn.2.2 d.name this d.name (by rw[aut ao,aul,bC];simp);exact absurd rfl h3
    rw[wE this] at cc;exact absurd cc zd
   refine cq e0 e4 At u1 eo cc ?_;refine ES HT (x:=⟨d.doc,d.at_,13⟩) (f:=f1) OH λh6 g6 yH=>?_;refine aS e14 e15 ?_;have g56:ah (·=p) (H.set h.nx o) h6:=g6;exact ih (i+1) h6 _ _ _ K zo zo ((g6.get _ (Hp.lt Vm rfl) zo).trans Vm) (m5.mono (g6.get _ m5.lt zo)) hv5 (λhh=>absurd hh alc) (g5.trans g6) yH (au e0) (au e4) (au e13) (au e14) aa hk;refine fY e0 e4 At u1 eo cc e14 e15 ?_;exact ih (i+1) (H.set h.nx o) _ f1 _ K zo zo Vm m5 hv5 (λhh=>⟨(dB hh).1,alb hh⟩) g5 OH (au e0) (au e4) (au e13) (au e14) aa hk
 refine ag ?_;subst hL;refine key _ 0 h2 [] f _ _ rfl zo A5 m2 (λs w hh=>by cases hh) (λ_=>⟨rfl,λs hs=>by cases hs⟩) (ah.cn g02) eK aa aa aa aa aa λf' h' f2 g' dj dB=>?_;refine ag ?_;exact hk _ f2 g' dj dB
end
abbrev Kk:=Nat×List UInt8
def qc(b:Nat)(ds:List aC):AV:=.slice b 0 5 ds.length ds.length false
def kV(o:Option Nat)(ds:List aC):AV:=match o with|none=>.bx|some b=>qc b ds
def iY{α:Type}(B:Kk->α)(κ:Kk)(x:α):Kk->α:=λa=>if a=κ then x else B a
def rD(h:Hp)(b:Nat)(ds:List aC):Prop:=∃r t,h.get b=.rows 34 5 r 0 t/\ds.length<=r/\∀j,(hj:j<ds.length)->t j=ds[j].row
structure nF(h:Hp)(tb pb mb:Nat)(B:Kk->Option Nat)(D:Kk->List aC):Prop where
 map:∀c,c<3->∃L,iV h (if c=0 then tb else if c=1 then pb else mb) L/\∀s,eV L s=(B (c,s)).map λb=>qc b (D (c,s))
 rows:∀κ,(B κ=none->D κ=[])/\∀b,B κ=some b->D κ≠[]/\rD h b (D κ)
 inj:∀κ xq b,B κ=some b->B xq=some b->κ=xq
 ne:tb≠pb/\tb≠mb/\pb≠mb
def ja(tb pb mb c:Nat):Nat:=if c=0 then tb else if c=1 then pb else mb
section
variable{h h':Hp}{tb pb mb:Nat}{B:Kk->Option Nat}{D:Kk->List aC}{κ:Kk}{d:aC}
theorem rD.lt{b:Nat}{ds:List aC}(x:rD h b ds):b<h.nx:=by obtain⟨r,t,e,_⟩:=x;exact Hp.lt e rfl
theorem rD.mono{b:Nat}{ds:List aC}(x:rD h b ds)(e:h'.get b=h.get b):rD h' b ds:=by obtain⟨r,t,q,w⟩:=x;exact⟨r,t,e.trans q,w⟩
theorem rD.E2{b:Nat}{ds:List aC}(x:rD h b ds){es aD}:h.get b≠.map es aD:=by obtain⟨r,t,q,w⟩:=x;rw[q];exact λe=>by cases e
theorem rD.acn{b:Nat}{ds:List aC}(x:rD h b ds){el l}:h.get b≠.one el l:=by obtain⟨r,t,q,w⟩:=x;rw[q];exact λe=>by cases e
theorem nF.mono(x:nF h tb pb mb B D)(e:∀i,(i=tb\/i=pb\/i=mb\/∃κ,B κ=some i)->h'.get i=h.get i):nF h' tb pb mb B D:=by refine⟨λc hc=>?_,λκ=>⟨(x.rows κ).1,λb hb=>⟨((x.rows κ).2 b hb).1,((x.rows κ).2 b hb).2.mono (e b (.inr (.inr (.inr ⟨κ,hb⟩))))⟩⟩,x.inj,x.ne⟩;obtain⟨L,m,q⟩:=x.map c hc;refine⟨L,m.mono (e _ ?_),q⟩;split;exact .inl rfl;split;exact .inr (.inl rfl);exact .inr (.inr (.inl rfl))
theorem nF.jV(x:nF h tb pb mb B D){c:Nat}(hc:c<3){s:List UInt8}:me (.cell .str) h .bx (.map (ja tb pb mb c)) (S s) false=.v (kV (B (c,s)) (D (c,s))):=by obtain⟨L,m,q⟩:=x.map c hc;show me _ h .bx (.map (if c=0 then tb else if c=1 then pb else mb)) (S s) false=_;rw[m.jV,q];cases B (c,s)<;>rfl
theorem nF.lt(x:nF h tb pb mb B D):tb<h.nx/\pb<h.nx/\mb<h.nx:=by obtain⟨L,m,_⟩:=x.map 0 zd;obtain⟨L',m',_⟩:=x.map 1 zd;obtain⟨L'',m'',_⟩:=x.map 2 zd;exact⟨m.lt,m'.lt,m''.lt⟩
theorem nF.lZ(x:nF h tb pb mb B D):∀c,c<3->∃es aD,h.get (ja tb pb mb c)=.map es aD:=λc hc=>by obtain⟨L,⟨⟨aD,e⟩,_⟩,_⟩:=x.map c hc;exact⟨_,aD,e⟩
theorem nF.fF(x:nF h tb pb mb B D)(κ:Kk){ds:List aC}{sv:AV}{sb:Nat}{cap:Nat}{ex:Bool}(hsv:sv=.slice sb 0 5 ds.length cap ex)(hs:rD h sb ds)(bg:ds≠[])(GR:B κ≠some sb)(hl:(D κ).length+ds.length<2147483648):
 ∃H',kJ h 34 5 56 (kV (B κ) (D κ)) sv=.vh (qc h.nx (D κ++ds)) H'/\h.nx<H'.nx/\rD H' h.nx (D κ++ds)/\∀i,i<h.nx->B κ≠some i->H'.get i=h.get i:=by
 subst hsv;obtain⟨r,t,hb,hr,ht⟩:=hs;have h0:0<ds.length:=auA.2 bg;obtain⟨n,hn⟩:∃n,ds.length=n+1:=⟨ds.length- 1,by omega⟩;have er:dw t ds.length 0=ds.map aC.row:=by
  apply avs;intro j
  by_cases hj:j<ds.length
  rw[vw _ _ _ _ hj,aue,ht j hj];simp[hj];rw[auI (by rw[oZ];omega),auI zn]
 have nq:=Ke (h:=h) (el:=34) (rw:=5) (n:=ds.length) (b:=sb) (cap:=cap) (ex:=ex) zd hb hr;rw[er] at nq;cases hB:B κ with
 |none=>
  have hD:=(x.rows κ).1 hB;rw[hD];have ea:=A7 (h:=h) (el:=34) (rw:=5) (bytes:=56) (n:=n) nq qaM (rV zo zo);refine⟨h.push (jJ 34 5 (n+1) (ds.map aC.row)),by simp only[kV];rw[ea];simp[qc,hn],by simp,⟨n+1,jy fG 0 (ds.map aC.row),by rw[Hp.br rfl];rfl,by simp[hn],λj hj=>?_⟩,λi hi _=>Hp.qZ hi⟩;simp only[au5] at hj⊢;rw[wO qax];simp
 |some b=>
  obtain⟨atj,r2,t2,fX,lU,Vl⟩:=(x.rows κ).2 b hB;have lb:=Hp.lt fX rfl;have ea:=A8 (h:=h) (el:=34) (rw:=5) (bytes:=56) (n:=n) (i:=b) (len:=(D κ).length) (cnt:=r2) (t:=t2) fX lU nq qaM (rV zo zo);refine⟨(h.set b AO.eD).push (AO.rows 34 5 ((D κ).length+(n+1)) 0 (jy t2 (D κ).length (List.map aC.row ds))),by simp only[kV,qc];rw[ea];simp[hn],by rw[Hp.eE,Hp.tT lb];omega,⟨(D κ).length+(n+1),jy t2 (D κ).length (ds.map aC.row),?_,by simp[hn],λj hj=>?_⟩,λi hi bg=>?_⟩;have e:(h.set b .eD).nx=h.nx:=Hp.tT lb;rw[Hp.br e.symm];rw[G3];simp only[auk] at hj
  by_cases c:j<(D κ).length
  rw[atS zo,ava c,Vl j c];rw[atV zn,awV zo];have:j- (D κ).length<ds.length:=zo;simp[List.getD,this];have e:(h.set b .eD).nx=h.nx:=Hp.tT lb;have ue:i≠b:=λq=>bg (by rw[q]);rw[Hp.qZ (by rw[e];exact hi),Hp.de ue]
theorem nF.put(x:nF h tb pb mb B D){c:Nat}(hc:c<3){s:List UInt8}{ds:List aC}(bg:ds≠[]){nb:Nat}(xY:h.nx<=nb)(hr:rD h' nb (D (c,s)++ds))(he:∀i,i<h.nx->B (c,s)≠some i->h'.get i=h.get i):
 ∃o,wk (.cell .str) h' (.map (ja tb pb mb c)) (S s) (qc nb (D (c,s)++ds))=.vh undef (h'.set (ja tb pb mb c) o)/\
  ∀ET:Hp,ET.get (ja tb pb mb c)=o->(∀i,i≠ja tb pb mb c->ET.get i=h'.get i)->nF ET tb pb mb (iY B (c,s) (some nb)) (iY D (c,s) (D (c,s)++ds)):=by
 obtain⟨L,m,q⟩:=x.map c hc;have By:=x.lt;have ltm:ja tb pb mb c<h.nx:=m.lt;have nB:∀c',c'<3->B (c,s)≠some (ja tb pb mb c'):=λc' jQ e=>by obtain⟨es,aD,w⟩:=x.lZ c' jQ;exact((x.rows _).2 _ e).2.E2 w
 have m':iV h' (ja tb pb mb c) L:=m.mono (he _ ltm (nB c hc));obtain⟨o,eo,fo⟩:=m'.pE (s:=s) (v:=qc nb (D (c,s)++ds));refine⟨o,eo,λET e1 e2=>⟨λc' jQ=>?_,λκ=>?_,λκ xq b h1 h2=>?_,x.ne⟩⟩
 by_cases Bk:c'=c
 subst Bk;refine⟨_,fo ET e1,λs'=>?_⟩;rw[Bq,q];unfold iY
 by_cases hs:s'=s
 subst hs;simp;simp[hs];obtain⟨L',m1,q'⟩:=x.map c' jQ;have ald:ja tb pb mb c'≠ja tb pb mb c:=by
  obtain⟨n1,n2,n3⟩:=x.ne;unfold ja
  match c,c',hc,jQ,Bk with
  |0,1,_,_,_=>exact λe=>n1 e.symm
  |0,2,_,_,_=>exact λe=>n2 e.symm
  |1,0,_,_,_=>exact n1
  |1,2,_,_,_=>exact λe=>n3 e.symm
  |2,0,_,_,_=>exact n2
  |2,1,_,_,_=>exact n3
  |0,0,_,_,h=>exact absurd rfl h
  |1,1,_,_,h=>exact absurd rfl h
  |2,2,_,_,h=>exact absurd rfl h
 refine⟨L',m1.mono ?_,λs'=>?_⟩;have l':ja tb pb mb c'<h.nx:=m1.lt;exact(e2 _ ald).trans (he _ l' (nB c' jQ));rw[q'];unfold iY;simp[Bk];unfold iY
 by_cases hk:κ=(c,s)
 subst hk;simp only[auo];refine⟨λe=>qbj,λb e=>?_⟩;cases e;refine⟨by simp[bg],hr.mono (e2 _ ?_)⟩;omega;simp only[hk,auM];refine⟨(x.rows κ).1,λb e=>⟨((x.rows κ).2 b e).1,?_⟩⟩;have rb:=((x.rows κ).2 b e).2;refine rb.mono ((e2 b ?_).trans (he b rb.lt ?_));intro hb;obtain⟨es,aD,w⟩:=x.lZ c hc;rw[hb] at rb;exact rb.E2 w;intro e';exact hk (x.inj _ _ _ e e');unfold iY at h1 h2;have key:∀E3,B E3≠some nb:=λE3 e=>by have:=((x.rows E3).2 _ e).2.lt;omega
 by_cases k1:κ=(c,s)
 by_cases k2:xq=(c,s)
 rw[k1,k2];rw[atV k1] at h1;rw[atS k2] at h2;cases h1;exact absurd h2 (key _)
 by_cases k2:xq=(c,s)
 rw[atV k2] at h2;rw[atS k1] at h1;cases h2;exact absurd h1 (key _);rw[atS k1] at h1;rw[atS k2] at h2;exact x.inj _ _ _ h1 h2
end
end Yv
