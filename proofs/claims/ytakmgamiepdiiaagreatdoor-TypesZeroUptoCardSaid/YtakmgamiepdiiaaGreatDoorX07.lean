/- A part of the proof of 'TypesZeroUptoCardSaid'. No condition. -/
import Derived.Test.YtakmgamiepdiiaaGreatDoorX06
set_option maxHeartbeats 64000000
set_option maxRecDepth 100000
set_option linter.all false
namespace Yv
variable {K:aT->Prop}{a fb j mb n p tb:Nat}{c0 c1 c2 c6 c7 c8 c9 v:AV}{d:aC}{e:Fr}{f:cN}{fs:List Tree}{h h' hB:Hp}{row:List AV}{us:List dx}
variable {T:aM->Option CF}
section
open Go (IntKind)
variable {k:aK->Prop}{q r:Nat}{t:Nat->List AV}{cap:Nat}{ex:Bool}
def Lh(h:Hp)(b:Nat):Prop:=∃c:Int,h.ac b=.a 281 [.g .u64 c]
def ak3(a:aA T){b:Nat}(d:Lh h b)(f:∀(y:Int) h',ah (·=b) h h'->Lh h' b->k (.a (.g .u64 y) h')):aE T (W T) ⟨211⟩ [.a b 0] h k:=by rw[ic a.t211];obtain⟨c,e⟩:=d;exact aB e (f _ _ (ah.bj (M:=(·=b)) (ah.bj (M:=(·=b)) (ah.bj (M:=(·=b)) (ah.da _) _ (.inr rfl)) _ (.inr rfl)) _ (.inr rfl)) ⟨_,Hp.dq rfl⟩)
theorem ak4(d:aA T){x:Nat}(h0:0<x)(o:x<1073741824)(f:∀m:Nat,x<m->m<=2*x->(∀y:Int,0<=bW (λ_ a b=>a&&&b) y ((m:Int)- 1)/\bW (λ_ a b=>a&&&b) y ((m:Int)- 1)<m)->k (.a (.g .u64 m) h)):aE T (W T) ⟨210⟩ [.i x] h k:=by
 rw[ic d.t210];have e:(x:Int)% 18446744073709551616=x:=zo;refine aB e ?_;refine Vg d zo λm s i c=>?_;have c:=c h0;have g:oQ pF (.g .u64 1) (.i m)=.v (.g .u64 ((2^m:Nat):Int)):=by
  show OR.v (.g .u64 (IntKind.u64.wrap (1*2^(min m 64))))=_;rw[show min m 64=m by omega,Go.IntKind.wrap_u64]
  grind
 refine aB g ?_;rw[show((2:Int)^m)=((2^m:Nat):Int) by simp];generalize l:2^m=p at*;refine f p i c λy=>⟨ahu.1,?_⟩;simp only[bW,qN,aEG,Go.IntKind.wrap_u64];have j:(BitVec.ofInt IntKind.u64.bits y&&&BitVec.ofInt IntKind.u64.bits ((p:Int)- 1)).toNat<=p- 1:=by grind [Nat.and_le_right]
 grind
theorem ak5(O:aA T){a b:Nat}(x:DA h q r n t)(qU:a+12<b)(hb:b<=n)(hn:n<1073741824)
 (E:SK h q r n t k (.p [])):aE T (W T) ⟨181⟩ [.c q 0 5 n cap ex,.i a,.i b,.q ⟨127⟩ [] []] h k:=by
 rw[ic O.t181];have u:((b:Int)- a).tdiv 4=(((b- a)/4:Nat):Int):=by grind
 have e8:(8:Int)<=b- a:=zo;have eL:(b:Int)- a=((b- a:Nat):Int):=zo;generalize hz:(b- a)/4=zn at u;have key:∀(m i md:Nat)(j:Hp)(t1:Nat->List AV)(f:Fr)(K:aT->Prop),a+zn*2+2- i=m->i<b->i<=a+zn*2+2->b- a<md->md<=2*(b- a)->(∀y:Int,0<=bW (λ_ a b=>a&&&b) y ((md:Int)- 1)/\bW (λ_ a b=>a&&&b) y ((md:Int)- 1)<md)->
  DA j q r n t1->h.a<=j.a->Lh j h.a->cg 0 f=.c q 0 5 n cap ex->cg 1 f=.i a->cg 8 f=.i ((b:Int)- a)->cg 9 f=.a h.a 0->cg 10 f=.g .u64 md->cg 11 f=.i i->
  (∀d h' t',ah (λp=>p=q\/p=h.a) j h'->DA h' q r n t'->Pm n t1 t'->K (.a 0 d h' []))->W T (.d l181_0) f j [] K:=by
  intro m
  induction m with
  |zero=>
   intro i md j t1 f K hm hi NO G H g l xp s f0 D f8 f9 f10 f11 E;have e:¬(i:Int)<=a+zn*2+1:=zo;rw[aP];exact cC D f8 f11 u e (E _ _ t1 (ah.da _) l Pm.da)
  |succ m ih=>
   intro i md j t1 f K hm hi NO G H g l xp s f0 D f8 f9 f10 f11 E;have e:(i:Int)<=a+zn*2+1:=zo;have ez:(i:Int)<=(a:Int)+zn*2+1:=e;rw[aP];refine cq D f8 f9 f11 u e ?_;refine ak3 O s λy U g2 s2=>?_;have qn:q≠h.a:=by rintro rfl;obtain⟨c,J⟩:=s;rw[l.b] at J;grind
   have F:=l.aw (g2.f _ l.lt qn);have v:((md:Int)- 1)% 18446744073709551616=(md:Int)- 1:=zo;obtain⟨w1,w2⟩:=g y;generalize hw:bW (λ_ a b=>a&&&b) y ((md:Int)- 1)=w at w1 w2;have A:w64 w=w:=gf zo zo;have Q:ah (λp=>p=q\/p=h.a) j U:=g2.aw λ_ _ hh=>.inr hh;have P:∀(o:Nat)(d:Fr),o<b- a->cg 0 d=.c q 0 5 n cap ex->cg 1 d=.i a->cg 8 d=.i ((b:Int)- a)->cg 9 d=.a h.a 0->cg 10 d=.g .u64 md->cg 11 d=.i i->cg 12 d=.i o->
    W T (.f r181_9) d U [] (bY 1 (bF (W T (.h (z q181 10))) (bF (W T (.d l181_0)) K))):=by
    intro o d ho f0 D f8 f9 f10 f11 f12;have V:i<n:=zo;have X:a+o<n:=zo;obtain⟨d1,e1⟩:=F.a i V;obtain⟨d2,e2⟩:=F.a (a+o) X;have B:=e1;have C:=e2
    simp[aC.ca] at B C;have hg:=F.b;have dA:=F.f;have z2:((a:Int)+o).toNat=a+o:=zo;refine kC f0 D f8 f9 f10 f11 f12 hg B C V X z2 ?_;obtain⟨t3,M,eH,x3,p3,R⟩:=F.sw V X e1 e2;rw[<-eH];have S:ah (λp=>p=q\/p=h.a) U M:=R.aw λ_ _ hh=>.inl hh;have s3:Lh M h.a:=by obtain⟨c,J⟩:=s2;exact⟨c,(R.f _ (Hp.lt J rfl) (Ne.symm qn)).trans J⟩
    exact ih (i+1) md M t3 _ K zo zo zo G H g x3 (at1 xp (at1 g2.g R.g)) s3 zA zA zA zA zA aa λvM h' t' I Z Y=>E vM h' t' (Q.ab (S.ab I)) Z (p3.ab Y)
   generalize hN:CC.f r181_9=N at P
   by_cases c:(b:Int)- a<=w
   refine cq f8 f10 v hw A c ?_;obtain⟨o,ho⟩:=at6 (show 0<=w- ((b:Int)- a) by omega);refine P o _ zo zA zA zA zA zA zA qap;refine cq f8 f10 v hw A c ?_;obtain⟨o,ho⟩:=at6 (show 0<=w by omega);refine P o _ zo zA zA zA zA zA zA qap
 generalize hL:CC.d l181_0=L;have n8:((b:Int)- a)% 18446744073709551616=b- a:=zo;have g1:ax h ((h.am (.a 281 [.g .u64 0])).bj h.a (.a 281 [.g .u64 ((b:Int)- a)])):=fZ;have l:=x.aw (g1.f _ x.lt id);have s:Lh ((h.am (.a 281 [.g .u64 0])).bj h.a (.a 281 [.g .u64 ((b:Int)- a)])) h.a:=⟨_,Hp.dq rfl⟩;refine aU e8 n8 u ?_;rw[eL];rw[eL] at l s g1;refine ak4 O (show 0<b- a by omega) zo λmd G H g=>?_;refine aB u ?_;subst hL;refine key _ (a+zn*2- 1) md _ t _ _ rfl zo zo G H g l g1.g s aa aa qan aa aa qan λd h' t' I Z Y=>?_;refine ag ?_;refine E _ _ ⟨at1 g1.g I.g,λi hi hq=>?_⟩ Z Y;have hq:¬i=q:=hq;rw[I.f i (aur hi g1.g) zo,g1.f i hi id]
def PL(T:aM->Option CF)(q r n cap:Nat)(ex:Bool)(m:Nat):Prop:=∀(a b:Nat)(e:Int)(w p:Bool)(c:Hp)(t1:Nat->List AV)(f:Fr)(K:aT->Prop),b- a=m->a<=b->b<=n->DA c q r n t1->cg 0 f=.c q 0 5 n cap ex->cg 1 f=.i a->cg 2 f=.i b->cg 3 f=.i e->cg 4 f=.q ⟨127⟩ [] []->cg 10 f=.d w->cg 11 f=.d p->
 (∀d h' t',ah (·=q) c h'->DA h' q r n t'->Pm n t1 t'->K (.b d h' []))->W T (.d l154_0) f c [] K
def PL.QR(d:aA T){a b:Nat}{c:Int}(P:PL T q r n cap ex (b- a))(x:DA h q r n t)(l:a<=b)(g:b<=n)(i:SK h q r n t k (.p [])):aE T (W T) ⟨154⟩ [.c q 0 5 n cap ex,.i a,.i b,.i c,.q ⟨127⟩ [] []] h k:=by rw[ic d.t154];generalize f:CC.d l154_0=L;refine ag ?_;subst f;exact P a b c true true h t _ _ rfl l g x aa aa aa aa aa aa aa λo h' t' e m j=>(ag (i _ _ e m j))
theorem ak6(v:aA T)(E:n<1073741824):∀m,PL T q r n cap ex m:=by
 intro m
 induction m using Nat.strongRecOn with
 |_ m U=>
 intro a b A w p I t1 f K hm qU x x1 f0 j o f3 f4 f10 f11 hk;rw[aP];show W T az4 f I [] _;unfold az4 zt
 by_cases c1:(b:Int)- a<=12
 refine cq f0 j o f3 f4 c1 ?_;refine akl v x1 zo x E λD t2 g2 H L=>?_;refine ag ?_
 grind
 by_cases c2:A=0
 refine iR f0 j o f3 f4 c1 c2 ?_;refine akm v x1 qU x E λD t2 g2 H L=>?_;refine ag ?_
 grind
 have c3:a+12<b:=zo;generalize hR1:az3=R1;have ED:∀(c:Fr)(D:Hp)(t2:Nat->List AV)(A:Int),ah (·=q) I D->DA D q r n t2->Pm n t1 t2->cg 0 c=.c q 0 5 n cap ex->cg 1 c=.i a->cg 2 c=.i b->cg 3 c=.i A->cg 4 c=.q ⟨127⟩ [] []->cg 10 c=.d w->cg 11 c=.d p->cg 12 c=.i ((b:Int)- a)->
  W T R1 c D [] (bY 1 (bF (W T (.d l154_0)) K)):=by
  intro c D t2 A g2 H L f0 j o f3 f4 f10 f11 f12;subst hR1;unfold az3 zt;generalize hR2:az2=R2;have k9:∀(c:Fr)(g:Hp)(t3:Nat->List AV)(y:Nat)(F:Int),a<=y->y<b->ah (·=q) I g->DA g q r n t3->Pm n t1 t3->cg 0 c=.c q 0 5 n cap ex->cg 1 c=.i a->cg 2 c=.i b->cg 3 c=.i A->cg 4 c=.q ⟨127⟩ [] []->cg 10 c=.d w->cg 11 c=.d p->cg 12 c=.i ((b:Int)- a)->cg 13 c=.i y->cg 14 c=.i F->
   W T R2 c g [] (bY 1 (bF (W T (.d l154_0)) K)):=by
   intro c g t3 y F pv1 pv2 s l u f0 j o f3 f4 f10 f11 f12 f13 f14;subst hR2;unfold az2 zt;generalize hR3:az1=R3;have vG:∀(c:Fr)(g:Hp)(t3:Nat->List AV),ah (·=q) I g->DA g q r n t3->Pm n t1 t3->cg 0 c=.c q 0 5 n cap ex->cg 1 c=.i a->cg 2 c=.i b->cg 3 c=.i A->cg 4 c=.q ⟨127⟩ [] []->cg 10 c=.d w->cg 11 c=.d p->cg 12 c=.i ((b:Int)- a)->cg 13 c=.i y->
    W T R3 c g [] (bY 1 (bF (W T (.d l154_0)) K)):=by
    intro c g t3 s l u f0 j o f3 f4 f10 f11 f12 f13;subst hR3;unfold az1 zt;generalize OQ:aA5=R4;have CJ:∀(c:Fr)(g:Hp)(t3:Nat->List AV),ah (·=q) I g->DA g q r n t3->Pm n t1 t3->cg 0 c=.c q 0 5 n cap ex->cg 1 c=.i a->cg 2 c=.i b->cg 3 c=.i A->cg 4 c=.q ⟨127⟩ [] []->cg 12 c=.i ((b:Int)- a)->cg 13 c=.i y->
     W T R4 c g [] (bY 1 (bF (W T (.d l154_0)) K)):=by
     intro c g t3 s l u f0 j o f3 f4 f12 f13;subst OQ;refine cC f0 j o f4 f13 ?_;refine akv v l zo x zo E λJ t4 mid cc m1 m2 B C G=>?_;have O:((b:Int)- a).tdiv 8=(((b- a)/8:Nat):Int):=by grind
     by_cases c5:(mid:Int)- a<b- mid
     refine fY f0 j o f3 f4 f12 O c5 ?_;refine PL.QR v (U (mid- a) zo) C m1 zo λh5 t5 S x5 X=>?_;refine ag ?_;exact U (b- (mid+1)) zo (mid+1) b A _ cc h5 t5 _ K rfl zo x x5 zA aa zA zA zA qac aa λY h' t' P Z V=>hk Y h' t' (((s.ab B).ab S).ab P) Z (((u.ab G).ab X).ab V);refine fY f0 j o f3 f4 f12 O c5 ?_;refine PL.QR (a:=mid+1) v (U (b- (mid+1)) zo) C zo x λh5 t5 S x5 X=>?_;refine ag ?_;exact U (mid- a) zo a mid A _ cc h5 t5 _ K rfl m1 zo x5 zA zA aa zA zA qac aa λY h' t' P Z V=>hk Y h' t' (((s.ab B).ab S).ab P) Z (((u.ab G).ab X).ab V)
    by_cases c6:a=0
    refine aS j c6 ?_;exact CJ _ g t3 s l u zA zA zA zA zA zA zA;obtain⟨a',ea⟩:∃z,a=z+1:=⟨a- 1,by omega⟩;have an:a'<n:=zo;have pn:y<n:=zo;obtain⟨d1,e1⟩:=l.a a' an;obtain⟨d2,e2⟩:=l.a y pn;have M:=e1;have N:=e2
    simp only[aC.ca] at M N;have hg:=l.b;have dA:=l.f;have f1':cg 1 c=.i ((a':Int)+1):=by simp_all
    have a0:(0:Int)<(a':Int)+1:=zo;refine nA f0 f1' f4 f13 a0 hg M N an pn ?_;refine aER (d:=d1) (e:=d2) v λrr J B=>?_;have C:=l.aw (B.f _ l.lt id);have R:=s.ab (ah.ka B)
    by_cases c7:rr<0
    refine aB c7 ?_;exact CJ _ J t3 R C u zA zA zA zA zA zA zA;refine cq c7 f0 j o f4 f13 ?_;refine aku v C zo x pn E λh5 t5 i i1 i2 S x5 X=>?_;refine ag ?_;exact U (b- i) zo i b A w p h5 t5 _ K rfl i2 x x5 zA aa zA zA zA zA zA λY h' t' P Z V=>hk Y h' t' ((R.ab S).ab P) Z ((u.ab X).ab V)
   by_cases c8:w=true/\p=true/\F=1
   obtain⟨rfl,rfl,rfl⟩:=c8;refine iR f10 f11 f14 f0 j o f4 ?_;refine akx v l zo x E λJ t4 cc B C G=>?_;cases cc with
   |true=>refine ag ?_;exact hk _ _ t4 (s.ab B) C (u.ab G)
   |false=>
    refine ag ?_;exact vG _ J t4 (s.ab B) C (u.ab G) zA zA zA zA zA zA zA zA zA
   cases w with
   |false=>
    refine aU f10 f11 f14 ?_;exact vG _ g t3 s l u zA zA zA zA zA zA zA zA zA
   |true=>
    cases p with
    |false=>
     refine aU f10 f11 f14 ?_;exact vG _ g t3 s l u zA zA zA zA zA zA zA zA zA
    |true=>
     have c9:¬F=1:=λe=>c8 ⟨rfl,rfl,e⟩;refine bK f10 f11 f14 c9 ?_;exact vG _ g t3 s l u zA zA zA zA zA zA zA zA zA
  refine bK f0 j o f4 ?_;refine akz v H c3 x E λy F g l1 l2 s=>?_;have l:=H.aw (s.f _ H.lt id);have Q:=g2.ab (ah.ka s)
  by_cases c4:F=2
  subst c4;refine bK f0 j o f4 ?_;refine akn v l qU x E λJ t4 B C G=>?_;refine aS j o ?_;exact k9 _ J t4 (b- 1- (y- a)) 1 zo zo (Q.ab B) C (L.ab G) zA zA zA zA zA zA zA zA qan aa;refine aB c4 ?_;exact k9 _ g t2 y F l1 l2 Q l L zA zA zA zA zA zA zA zA aa aa
 cases w with
 |true=>
  refine fY f0 j o f3 f4 c1 c2 f10 ?_;exact ED _ I t1 A (ah.da _) x1 Pm.da zA zA zA zA zA zA zA aa
 |false=>
  refine fY f0 j o f3 f4 c1 c2 f10 ?_;refine ak5 v x1 c3 x E λD t2 g2 H L=>?_;refine aB f3 ?_;exact ED _ D t2 _ g2 H L zA zA zA (by refine ag ?_;rfl) zA zA zA aa
def ak7(b:aA T)(x:DA h q r n t)(f:n<1073741824)(d:SK h q r n t k (.p [])):aE T (W T) ⟨126⟩ [.c q 0 5 n cap ex,.q ⟨127⟩ [] []] h k:=by rw[ic b.t126];have e:(n:Int)% 18446744073709551616=n:=zo;refine aB e ?_;refine Vg b zo λm _ _ _=>?_;refine ag ?_;exact PL.QR (a:=0) b (ak6 b f _) x zo zl λh' t' c i g=>(ag (d _ _ c i g))
end
theorem ak8{j n:Type}{f:j->n}{M L:List n}(p:M.Perm L):∀{l:List j},l.map f=M->∃c:List j,c.Perm l/\c.map f=L:=by
 induction p with
 |nil=>simp
 |cons x p r=>
  intro l e;cases l with
  |nil=>grind
  |cons a l=>
   simp at e;obtain⟨c,d,m⟩:=r e.2;exact⟨a::c,d.cons a,by grind⟩
 |swap x y t=>
  intro l e
  match l,e with
  |a::b::l,e=>
   exact⟨b::a::l,List.Perm.swap _ _ _,by grind⟩
 |trans w z g i=>
  intro l e;obtain⟨u,d,m⟩:=g e;obtain⟨s,o,q⟩:=i m;exact⟨s,o.trans d,q⟩
def ayG(Q:SL)(l:List aC):Prop:=∀s,(eV Q s=none/\s∉l.map (·.a))\/∃c:Int,eV Q s=some (.i c)/\1<=c/\c<=l.length/\s∈l.map (·.a)
theorem ayG.val{Q:SL}{l:List aC}(x:ayG Q l)(s:List UInt8):∃c:Int,(eV Q s).getD (.i 0)=.i c/\0<=c/\c<=l.length/\(c=0 <-> s∉l.map (·.a)):=by
 rcases x s with⟨e,n⟩|⟨c,e,c1,c2,n⟩;simp_all
 grind
theorem ayG.Vo{Q:SL}{l:List aC}{d:aC}{c:Int}(x:ayG Q l)(e:(eV Q d.a).getD (.i 0)=.i c)(c0:0<=c)(c1:c<=l.length):ayG (mA Q d.a (.i (c+1))) (l++[d]):=λs=>by
 rw[Bq]
 by_cases q:s=d.a
 grind
 rcases x s with⟨e,n⟩|⟨c,e,c1,c2,n⟩
 grind
 grind
theorem acG{f x:cN}(a:x.e≠0):(Bp f x).e≠0:=by grind [Bp]
section
variable {k:aK->Prop}{ds:List aC}
theorem Vk(y:aA T){p:Nat}{c0 c1 c2 c6 c7 c8 c9:AV}{f:cN}(hp:h.ac p=.a 67 (bS c0 c1 c2 f c6 c7 c8 c9))(hd:yG h v ds)(hl:ds.length<1073741824)
 (G:∀h' F,ah (·=p) h h'->h'.ac p=.a 67 (bS c0 c1 c2 F c6 c7 c8 c9)->((ds.map (·.a)).Nodup->F=f)->(F.e=0->f.e=0/\(ds.map (·.a)).Nodup)->k (.a (.p []) h')):aE T (W T) ⟨89⟩ [.a p 0,v] h k:=by
 rw[ic y.t89];have lp:=Hp.lt hp rfl;have gm:ax h (h.am (.d [] 0)):=aZ;generalize hL:CC.d l89_0=L;refine ag ?_;refine abE y (hd.aw λq Y _=>gm.f q Y id) hl λM v1 g1 iu ak9=>?_;have C:ax h M:=gm.ab g1;have m1:iV M h.a []:=(iV.ph (h:=h.am (.d [] 0)) (Hp.ba rfl)).aw (g1.f _ zm id);have fu:M.ac p=_:=(C.f _ lp id).trans hp;rcases iu with⟨rfl,rfl⟩|⟨bg,q,t,cap,ex,r,rfl,Y,hr,ht⟩;refine ag ?_;rw[ic y.t126];refine ag ?_;refine Vg (x:=0) y zm λm _ _ _=>?_;refine ag ?_;rw[ic y.t154];refine ag ?_;rw[aP];refine ag ?_;rw[ic y.t179];refine ag ?_;rw[aP];refine ag ?_;subst hL;rw[aP];exact ag (G _ f (ah.ka C) fu (λ_=>rfl) λe=>⟨e,aEe⟩);have hqn:h.a+1<=q:=by have:=ak9 _ _ _ _ _ _ rfl;simp_all
 have x:DA M q r ds.length t:=⟨Y,hr,λj hj=>⟨ds[j],ht j hj⟩⟩;refine ag ?_;refine ak7 y x hl λN t2 g2 x2 p2=>?_;have er:aEt t ds.length 0=ds.map aC.ca:=by
  apply avs
  grind [vw,oZ]
 obtain⟨l,pd,ed⟩:=ak8 (show(aEt t ds.length 0).Perm (aEt t2 ds.length 0) from p2.symm) er.symm;have bz:l.length=ds.length:=pd.length_eq;have ht2:∀j,(hj:j<l.length)->t2 j=l[j].ca:=λj hj=>by
  have:=vw t2 ds.length 0 j zo
  grind
 have g2':ah (·=q) M N:=g2;have hp2:N.ac p=_:=(g2.f _ (aur lp C.g) zo).trans fu;have m2:iV N h.a []:=m1.aw (g2.f _ m1.lt zo);have g02:ax h N:=⟨at1 C.g g2.g,λi hi _=>by rw[g2.f i (aur hi C.g) zo,C.f i hi id]⟩;have ak':(ds.map (·.a)).Nodup->(l.map (·.a)).Nodup:=λhh=>(pd.map _).nodup_iff.2 hh;have A5:=x2.b;have ati:=x2.f;clear g1 Y ht x er p2 ed;have key:∀(m i:Nat)(n:Hp)(Q:SL)(z:cN)(A:Fr)(K:aT->Prop),m=l.length- i->i<=l.length->n.ac q=.b 38 5 r 0 t2->iV n h.a Q->ayG Q (l.take i)->((ds.map (·.a)).Nodup->z=f)->(z.e=0->f.e=0/\((l.take i).map (·.a)).Nodup)->
  ah (·=p) h n->n.ac p=.a 67 (bS c0 c1 c2 z c6 c7 c8 c9)->cg 0 A=.a p 0->cg 4 A=.h h.a->cg 13 A=.c q 0 5 ds.length cap ex->cg 14 A=.i ds.length->cg 15 A=.i i->
  (∀F h' I,ah (·=p) h h'->h'.ac p=.a 67 (bS c0 c1 c2 I c6 c7 c8 c9)->((ds.map (·.a)).Nodup->I=f)->(I.e=0->f.e=0/\(ds.map (·.a)).Nodup)->K (.a 0 F h' []))->W T (.d l89_0) A n [] K:=by
  intro m
  induction m with
  |zero=>
   intro i n Q z A K hm hi U Z hv V R g3 kF D E w g u G;have e:¬i<ds.length:=zo;rw[aP];refine aU g u e ?_
   grind
  |succ m ih=>
   intro i n Q z A K hm hi U Z hv V R g3 kF D E w g u G;have ao:i<l.length:=zo;have aY:i<ds.length:=zo;have kz:=ht2 i ao;generalize bC:l[i]=d at kz;simp only[aC.ca] at kz;have lm:=Z.lt;have lq3:=Hp.lt U rfl;rw[aP];obtain⟨c,ec,z0,z1,ci⟩:=hv.val d.a;have z2:c<=i:=by grind
   have hc:aEx (.a .a) ((n.am (.a 38 [.i 0,S [],.i 0,.i 0,S []])).bj n.a (.a 38 [.i d.b,S d.a,.i d.c,.i d.f,S d.g])) (.i 0) (.h h.a) (S d.a) false=.v (.i c):=by rw[(Z.aw aa).rg,ec];rfl
   refine mz D E w g u aY U kz hc ?_;generalize hH:((n.am _).bj _ _:Hp)=H;have J:ax n H:=by rw[<-hH];exact fZ
   have u1:H.ac n.a=.a 38 [.i d.b,S d.a,.i d.c,.i d.f,S d.g]:=by rw[<-hH];simp
   clear hH;have mH:=Z.aw (J.f _ lm id);obtain⟨o,eo,fo⟩:=mH.sf (s:=d.a) (v:=.i ((c+1)));have Bt:H.ac q=_:=(J.f _ lq3 id).trans U;have lB:H.ac p=_:=(J.f _ (Hp.lt kF rfl) id).trans kF;have nH:=J.g;have lu1:=Hp.lt u1 rfl;have m5:iV (H.bj h.a o) h.a (mA Q d.a (.i ((c+1)))):=fo _ (Hp.dq rfl);have At:aEx (.a .a) (H.bj h.a o) (.i 0) (.h h.a) (S d.a) false=.v (.i ((c+1))):=by rw[m5.rg,Bq,atV rfl];rfl
   have hpn:p≠h.a:=zo;have ala:q≠h.a:=zo;have g5:ah (·=p) h (H.bj h.a o):=ah.bj (g3.ab (ah.ka J)) _ (.inl zl);have OH:(H.bj h.a o).ac p=.a 67 (bS c0 c1 c2 z c6 c7 c8 c9):=by simp_all
   have B:(H.bj h.a o).ac q=.b 38 5 r 0 t2:=by simp_all
   have tk:l.take (i+1)=l.take i++[d]:=by grind [List.take_succ_eq_append_getElem]
   have P:ayG (mA Q d.a (.i ((c+1)))) (l.take (i+1)):=by rw[tk];exact hv.Vo ec z0 z1
   by_cases cc:1<(c+1)
   have alc:¬(ds.map (·.a)).Nodup:=λhh=>by
    have O:=ak' hh;have nm:d.a∈(l.take i).map (·.a):=avu λq=>by grind
    rw[<-av6 i l,au4,av'] at O;have n:=O.2.2 d.a nm d.a (by grind [List.drop_eq_getElem_cons]);exact absurd rfl n
   refine cq D E At u1 eo cc ?_;refine ES y (x:=⟨d.c,d.f,13⟩) (f:=z) OH λh6 X hp6=>?_;refine aS g u ?_;have g56:ah (·=p) (H.bj h.a o) h6:=X;exact ih (i+1) h6 _ _ _ K zo zo ((X.f _ (Hp.lt B rfl) zo).trans B) (m5.aw (X.f _ m5.lt zo)) P (λhh=>absurd hh alc) (λe=>absurd e (acG zm)) (g5.ab X) hp6 (au D) (au E) (au w) (au g) aa G;refine fY D E At u1 eo cc g u ?_;exact ih (i+1) (H.bj h.a o) _ z _ K zo zo B m5 P V (λe=>⟨(R e).1,by rw[tk,au4,av'];refine⟨(R e).2,by simp,λa ha b hb=>?_⟩;simp at hb;subst hb;rintro rfl;exact ci.1 zo ha⟩) g5 OH (au D) (au E) (au w) (au g) aa G
 refine ag ?_;subst hL;refine key _ 0 N [] f _ _ rfl zo A5 m2 (λs=>.inl ⟨rfl,by simp⟩) (λ_=>rfl) (λe=>⟨e,by simp⟩) (ah.ka g02) hp2 aa aa aa aa aa λF h' I g' dj V R=>?_;refine ag ?_;exact G _ I g' dj V R
end
theorem aBF{f:cN}{m:KM}{d:aC}(h:(UM f m d).e=0):f.e=0:=by grind [UM,acG]
theorem aBG(d:aC)(s:WS)(h:(HK d s).a.a.e=0):s.a.a.e=0:=aBF (f:=s.a.a) h
def aCL(d:aC)(s:WS)(h:(EW d s).a.a.e=0):s.a.a.e=0:=aBF (f:=s.a.a) h
theorem aBH{E:fM}{t:Tree}{s:WS}(h:(tj E t s).a.a.e=0):s.a.a.e=0:=by grind [tj,aBG]
mutual
theorem fzE(E:fM):∀(t:Tree)(ms:List KM)(aN:Bool)(ar:KM)(s:WS),(fU E ms aN ar t s).a.a.e=0->s.a.a.e=0
 |.mk kind _ _ a nm b,ms,aN,ar,s=>by
  unfold fU;split;split;rename_i j _ _ _ _ _ ps k _ _ _ _ _ d;intro h;have i:=fzL E d [aX] true aX _ h;have g:=fzE E k [] false aX _ i;have f:=aBH (fzP E ps _ g);exact fzE E j [] false aX ⟨aX,aX,s.a⟩ f;omega;split;exact fzL E b (s.m::ms) true ar ⟨aX,s.b,s.a⟩;split;exact λh=>aCL _ _ (fzL E b ms aN (rA ar nm (kj E 8 nm a)) (EW (kj E 8 nm a) s) h);have l:∀c:WS,(c.a.a.e=0->s.a.a.e=0)->(jF E ms aN ar b c).a.a.e=0->s.a.a.e=0:=λc h e=>h (fzL E b _ _ _ _ e)
  grind [lD,aBG]
theorem fzL(E:fM):∀(t:List Tree)(ms:List KM)(aN:Bool)(ar:KM)(s:WS),(jF E ms aN ar t s).a.a.e=0->s.a.a.e=0
 |[],_,_,_,_=>id
 |t::ts,ms,aN,ar,s=>by exact λh=>fzE E t _ _ _ _ (fzL E ts _ _ _ _ h)
theorem fzP(E:fM):∀(t:List Tree)(s:WS),(oD E t s).a.a.e=0->s.a.a.e=0
 |[],_=>id
 |t::ts,s=>by exact λh=>fzE E t _ _ _ ⟨aX,aX,s.a⟩ (show(WS.a ⟨s.m,s.b,(fU E [] false aX t ⟨aX,aX,s.a⟩).a⟩).a.e=0 from aBH (fzP E ts _ h))
end
def aBI{fs aq bu}:∀(ts:List Tree)(j:Nat)(s:Sc),(uB fs aq bu ts j s).a.e=0->s.a.e=0
 |[],_,_=>id
 |t::ts,j,s=>λh=>fzE (C3 fs aq bu j) t [] false aX ⟨aX,aX,s⟩ (aBI ts (j+1) _ h)
abbrev Kk:=Nat×List UInt8
def slv(b:Nat)(ds:List aC):AV:=.c b 0 5 ds.length ds.length false
def kV(o:Option Nat)(ds:List aC):AV:=match o with|none=>.o|some b=>slv b ds
def iY{b:Type}(B:Kk->b)(κ:Kk)(x:b):Kk->b:=λa=>if a=κ then x else B a
def rD(h:Hp)(b:Nat)(ds:List aC):Prop:=∃r t,h.ac b=.b 38 5 r 0 t/\ds.length<=r/\∀j,(a:j<ds.length)->t j=ds[j].ca
structure nF(h:Hp)(tb g mb:Nat)(B:Kk->Option Nat)(D:Kk->List aC):Prop where
 d:∀c,c<3->∃L,iV h (if c=0 then tb else if c=1 then g else mb) L/\∀s,eV L s=(B (c,s)).map λb=>slv b (D (c,s))
 a:∀κ,(B κ=none->D κ=[])/\∀b,B κ=some b->D κ≠[]/\rD h b (D κ)
 inj:∀κ xq b,B κ=some b->B xq=some b->κ=xq
 f:tb≠g/\tb≠mb/\g≠mb
def ja(tb g mb c:Nat):Nat:=if c=0 then tb else if c=1 then g else mb
section
variable {g:Nat}{B:Kk->Option Nat}{D:Kk->List aC}{κ:Kk}
def rD.lt{b:Nat}{ds:List aC}(x:rD h b ds):b<h.a:=by obtain⟨r,t,e,_⟩:=x;exact Hp.lt e rfl
def rD.aw{b:Nat}{ds:List aC}(x:rD h b ds)(e:h'.ac b=h.ac b):rD h' b ds:=by obtain⟨r,t,q,w⟩:=x;exact⟨r,t,e.trans q,w⟩
theorem rD.Do{b:Nat}{ds:List aC}(x:rD h b ds){a aD}:h.ac b≠.d a aD:=by obtain⟨r,t,q,w⟩:=x;grind
theorem rD.PP{b:Nat}{ds:List aC}(x:rD h b ds){el l}:h.ac b≠.a el l:=by obtain⟨r,t,q,w⟩:=x;grind
theorem nF.aw(x:nF h tb g mb B D)(e:∀i,(i=tb\/i=g\/i=mb\/∃κ,B κ=some i)->h'.ac i=h.ac i):nF h' tb g mb B D:=by
 refine⟨λc k=>?_,λκ=>⟨(x.a κ).1,λb j=>⟨((x.a κ).2 b j).1,((x.a κ).2 b j).2.aw (e b (.inr (.inr (.inr ⟨κ,j⟩))))⟩⟩,x.inj,x.f⟩;obtain⟨L,m,q⟩:=x.d c k;refine⟨L,m.aw (e _ ?_),q⟩
 grind
def nF.rg(x:nF h tb g mb B D){c:Nat}(b:c<3){s:List UInt8}:aEx (.a .a) h .o (.h (ja tb g mb c)) (S s) false=.v (kV (B (c,s)) (D (c,s))):=by obtain⟨L,m,q⟩:=x.d c b;show aEx _ h .o (.h (if c=0 then tb else if c=1 then g else mb)) (S s) false=_;rw[m.rg,q];cases B (c,s)<;>rfl
def nF.lt(x:nF h tb g mb B D):tb<h.a/\g<h.a/\mb<h.a:=by obtain⟨L,m,_⟩:=x.d 0 zm;obtain⟨i,e,_⟩:=x.d 1 zm;obtain⟨c,b,_⟩:=x.d 2 zm;exact⟨m.lt,e.lt,b.lt⟩
def nF.mr(x:nF h tb g mb B D):∀c,c<3->∃b aD,h.ac (ja tb g mb c)=.d b aD:=λc i=>by obtain⟨L,⟨⟨aD,e⟩,_⟩,_⟩:=x.d c i;exact⟨_,aD,e⟩
theorem nF.va(x:nF h tb g mb B D)(κ:Kk){ds:List aC}{sv:AV}{sb:Nat}{cap:Nat}{ex:Bool}(y:sv=.c sb 0 5 ds.length cap ex)(w:rD h sb ds)(k:ds≠[])(A:B κ≠some sb)(E:(D κ).length+ds.length<2147483648):
 ∃c,kJ h 38 5 56 (kV (B κ) (D κ)) sv=.b (slv h.a (D κ++ds)) c/\h.a<c.a/\rD c h.a (D κ++ds)/\∀i,i<h.a->B κ≠some i->c.ac i=h.ac i:=by
 obtain⟨r,t,s,v,F⟩:=w;have h0:=auA.2 k;obtain⟨n,m⟩:∃n,ds.length=n+1:=⟨ds.length- 1,by omega⟩;have er:aEt t ds.length 0=ds.map aC.ca:=by
  apply avs
  grind [vw,oZ]
 have o:=Ke (h:=h) (el:=38) (rw:=5) (n:=ds.length) (b:=sb) (cap:=cap) (ex:=ex) zm s v;cases hB:B κ with
 |none=>
  have C:=(x.a κ).1 hB;have q:=A7 (h:=h) (el:=38) (rw:=5) (bytes:=56) (n:=n) o (by simp[lenOf,m]) (rV zo zo);refine⟨h.am (jJ 38 5 (n+1) (ds.map aC.ca)),by grind [kV,slv],by simp,⟨n+1,jy fG 0 (ds.map aC.ca),by rw[Hp.ba rfl];rfl,by grind,λj u=>?_⟩,λi hi _=>Hp.io hi⟩
  grind [wO]
 |some b=>
  obtain⟨p,r2,t2,l,e,z⟩:=(x.a κ).2 b hB;have lb:=Hp.lt l rfl;have q:=A8 (h:=h) (el:=38) (rw:=5) (bytes:=56) (n:=n) (i:=b) (len:=(D κ).length) (vh:=r2) (t:=t2) l e o (by simp[lenOf,m]) (rV zo zo);refine⟨(h.bj b AO.f).am (AO.b 38 5 ((D κ).length+(n+1)) 0 (jy t2 (D κ).length (List.map aC.ca ds))),by grind [kV,slv],by simp_all,⟨(D κ).length+(n+1),jy t2 (D κ).length (ds.map aC.ca),?_,by grind,λj u=>?_⟩,λi hi k=>?_⟩;simp_all
  grind [G3]
  grind [Hp.jp,Hp.io,Hp.du]
theorem nF.kw(x:nF h tb g mb B D){c:Nat}(p:c<3){s:List UInt8}{ds:List aC}(W:ds≠[]){nb:Nat}(xY:h.a<=nb)(M:rD h' nb (D (c,s)++ds))(z:∀i,i<h.a->B (c,s)≠some i->h'.ac i=h.ac i):
 ∃o,wk (.a .a) h' (.h (ja tb g mb c)) (S s) (slv nb (D (c,s)++ds))=.b undef (h'.bj (ja tb g mb c) o)/\
  ∀j:Hp,j.ac (ja tb g mb c)=o->(∀i,i≠ja tb g mb c->j.ac i=h'.ac i)->nF j tb g mb (iY B (c,s) (some nb)) (iY D (c,s) (D (c,s)++ds)):=by
 obtain⟨L,m,q⟩:=x.d c p;have V:=x.lt;have u:ja tb g mb c<h.a:=m.lt;have Q:∀c',c'<3->B (c,s)≠some (ja tb g mb c'):=λc' t e=>by obtain⟨I,aD,w⟩:=x.mr c' t;exact((x.a _).2 _ e).2.Do w
 have O:=m.aw (z _ u (Q c p));obtain⟨o,H,J⟩:=O.sf (s:=s) (v:=slv nb (D (c,s)++ds));refine⟨o,H,λj G y=>⟨λc' t=>?_,λκ=>?_,λκ U b l n=>?_,x.f⟩⟩
 by_cases A:c'=c
 subst A;refine⟨_,J j G,λR=>?_⟩
 grind [Bq,iY]
 obtain⟨C,P,q'⟩:=x.d c' t;have E:ja tb g mb c'≠ja tb g mb c:=by
  obtain⟨X,Y,Z⟩:=x.f
  grind [ja]
 refine⟨C,P.aw ?_,λR=>?_⟩
 grind [ja]
 grind [iY]
 unfold iY
 by_cases r:κ=(c,s)
 subst r;simp only[auo];refine⟨λe=>qaa,λb e=>?_⟩;cases e;refine⟨by simp_all,M.aw (y _ ?_)⟩;omega;simp[r,auM];refine⟨(x.a κ).1,λb e=>⟨((x.a κ).2 b e).1,?_⟩⟩;have rb:=((x.a κ).2 b e).2;refine rb.aw ((y b ?_).trans (z b rb.lt ?_));intro K;obtain⟨I,aD,w⟩:=x.mr c p;rw[K] at rb;exact rb.Do w;intro F;exact r (x.inj _ _ _ e F);unfold iY at l n;have key:∀k,B k≠some nb:=λk e=>by have:=((x.a k).2 _ e).2.lt;omega
 by_cases k1:κ=(c,s)
 grind
 by_cases N:U=(c,s)
 grind
 rw[atS k1] at l;rw[atS N] at n;exact x.inj _ _ _ l n
end
structure jv where
 a:List UInt8->List aC
 c:List aC
 d:List aC
 b:Kk->List aC
def rF(o:AO):Prop:=∃r f,o=.b 38 5 r 0 f
structure gW(M:Nat->Prop)(h h':Hp):Prop where
 f:h.a<=h'.a
 d:∀i,i<h.a->¬M i->¬rF (h.ac i)->h'.ac i=h.ac i
def DM(aG tb v mb:Nat)(i:Nat):Prop:=i=aG\/i=tb\/i=v\/i=mb
structure gj(p aG tb v mb:Nat)(c0 c1 c2 c9:AV)(f:cN)(n:Nat)(h:Hp)(s:jv)(B:Kk->Option Nat)(D:Kk->List aC):Prop where
 k:h.ac p=.a 67 (bS c0 c1 c2 f (.h aG) (.h tb) (.h v) c9)
 C:lX h aG s.d
 a:nF h tb v mb B D
 H:∀q,D (0,q)=s.a q
 I:D (3,[])=s.c
 A:∀q,D (1,q)=s.b (1,q)/\D (2,q)=s.b (2,q)
 u:∀κ,(D κ).length<=s.d.length
 F:∀d∈s.c,∃i:Nat,i<n/\d.c=i
 G:aG≠tb/\aG≠v/\aG≠mb
section
variable {aG v:Nat}{s:jv}{B:Kk->Option Nat}{D:Kk->List aC}
theorem gW.da{M}(h:Hp):gW M h h:=⟨at2 _,λ_ _ _ _=>rfl⟩
theorem gW.ab{M}{a b c:Hp}(x:gW M a b)(y:gW M b c):gW M a c:=⟨at1 x.f y.f,λi hi j g=>by have e:=x.d i hi j g;rw[y.d i (aur hi x.f) j qaa,e]⟩
def gW.of{M}{a b:Hp}(x:ah M a b):gW M a b:=⟨x.g,λi hi c _=>x.f i hi c⟩
theorem gj.Vl(x:gj p aG tb v mb c0 c1 c2 c9 f n h s B D):∃b aD,h.ac aG=.d b aD:=by obtain⟨L,aD,q,_⟩:=x.C;grind
theorem gj.pne(x:gj p aG tb v mb c0 c1 c2 c9 f n h s B D):¬DM aG tb v mb p:=by have c:=x.k;rintro(rfl|rfl|rfl|rfl);obtain⟨b,aD,q⟩:=x.Vl;grind;obtain⟨b,aD,q⟩:=x.a.mr 0 zm;rw[show ja p v mb 0=p from rfl] at q;grind;obtain⟨b,aD,q⟩:=x.a.mr 1 zm;rw[show ja tb p mb 1=p from rfl] at q;grind;obtain⟨b,aD,q⟩:=x.a.mr 2 zm;rw[show ja tb v p 2=p from rfl] at q;grind
def gj.Vn(x:gj p aG tb v mb c0 c1 c2 c9 f n h s B D){i:Nat}(hi:i=p\/i=aG\/i=tb\/i=v\/i=mb)(κ:Kk):B κ≠some i:=by intro e;have rb:=((x.a.a κ).2 _ e).2;rcases hi with rfl|rfl|rfl|rfl|rfl;exact rb.PP x.k;obtain⟨b,aD,q⟩:=x.Vl;exact rb.Do q;obtain⟨b,aD,q⟩:=x.a.mr 0 zm;exact rb.Do q;obtain⟨b,aD,q⟩:=x.a.mr 1 zm;exact rb.Do q;obtain⟨b,aD,q⟩:=x.a.mr 2 zm;exact rb.Do q
def gj.g0(x:gj p aG tb v mb c0 c1 c2 c9 f n h s B D)(g:ax h h'):gj p aG tb v mb c0 c1 c2 c9 f n h' s B D:=by have lt:=x.a.lt;refine⟨(g.f _ (Hp.lt x.k rfl) id).trans x.k,x.C.aw (g.f _ x.C.lt id),x.a.aw λi hi=>g.f i ?_ id,x.H,x.I,x.A,x.u,x.F,x.G⟩;rcases hi with rfl|rfl|rfl|⟨κ,e⟩;omega;omega;omega;exact((x.a.a κ).2 _ e).2.lt
def gj.wl(x:gj p aG tb v mb c0 c1 c2 c9 f n h s B D)(g:ah (·=aG) h h')(b:lX h' aG (d::s.d)):gj p aG tb v mb c0 c1 c2 c9 f n h' {s with d:=d::s.d} B D:=by have lt:=x.a.lt;obtain⟨c,j,l⟩:=x.G;have m:p≠aG:=λe=>x.pne (.inl e);refine⟨(g.f _ (Hp.lt x.k rfl) m).trans x.k,b,x.a.aw λi hi=>?_,x.H,x.I,x.A,λκ=>awv (x.u κ),x.F,x.G⟩;rcases hi with rfl|rfl|rfl|⟨κ,e⟩;exact g.f _ lt.1 (Ne.symm c);exact g.f _ lt.2.1 (Ne.symm j);exact g.f _ lt.2.2 (Ne.symm l);exact g.f _ ((x.a.a κ).2 _ e).2.lt λq=>x.Vn (.inr (.inl q)) κ e
def vQ(t:List UInt8->List aC)(q:List UInt8)(l:List aC):List UInt8->List aC:=λa=>if a=q then l else t a
theorem gj.QQ(x:gj p aG tb v mb c0 c1 c2 c9 f n h {s with d:=d::s.d} B D)(pP:∀κ,(D κ).length<=s.d.length) {c:Nat} (U:c<3) (q:List UInt8) (bz:s.d.length<536870912) {t1:Nat->List AV} (Z:t1 0=d.ca) {l:Hp} (Q:l=h.am (.b 38 5 1 0 t1)):
 ∃g o,kJ l 38 5 56 (kV (B (c,q)) (D (c,q))) (.c h.a 0 5 1 1 true)=.b (slv l.a (D (c,q)++[d])) g/\wk (.a .a) g (.h (ja tb v mb c)) (S q) (slv l.a (D (c,q)++[d]))=.b undef (g.bj (ja tb v mb c) o)/\
  (∀i,i<h.a->¬rF (h.ac i)->g.ac i=h.ac i)/\h.a<g.a/\
  gj p aG tb v mb c0 c1 c2 c9 f n (g.bj (ja tb v mb c) o) {s with a:=if c=0 then vQ s.a q (s.a q++[d]) else s.a,d:=d::s.d,b:=if c=0 then s.b else iY s.b (c,q) (s.b (c,q)++[d])} (iY B (c,q) (some l.a)) (iY D (c,q) (D (c,q)++[d]))/\
  gW (DM aG tb v mb) h (g.bj (ja tb v mb c) o):=by
 have y:ax h l:=by rw[Q];exact aZ
 have xp:l.a=h.a+1:=by simp_all
 have K:=x.g0 y;have W:rD l h.a [d]:=by
  refine⟨1,t1,by simp_all,by simp,λj hj=>?_⟩
  grind
 have N:∀κ,B κ≠some h.a:=λκ e=>by have:=((x.a.a κ).2 _ e).2.lt;omega
 obtain⟨g,R,l1,V,M⟩:=K.a.va (c,q) (ds:=[d]) (sv:=.c h.a 0 5 1 1 true) rfl W zm (N _) qaa;obtain⟨o,em,P⟩:=K.a.kw U zm zl V M;have O:∀i,i<l.a->¬rF (l.ac i)->g.ac i=l.ac i:=λi hi m=>M i hi λe=>by obtain⟨r,t,w,_⟩:=((K.a.a _).2 _ e).2;exact m ⟨r,t,w⟩
 have E:∀i,i<h.a->¬rF (h.ac i)->g.ac i=h.ac i:=λi hi m=>by rw[O i zo qap,y.f i hi id]
 have X:∀{L aD},¬rF (.d L aD):=λ⟨_,_,e⟩=>by grind
 have J:=P (g.bj (ja tb v mb c) o) (Hp.dq rfl) (λi hi=>Hp.du hi);obtain⟨n1,n2,n3⟩:=x.G;have Y:p≠ja tb v mb c:=λe=>x.pne (by grind [ja,DM]);have nm:aG≠ja tb v mb c:=by grind [ja]
 refine⟨g,o,R,em,E,by omega,⟨?_,x.C.aw ?_,J,λz=>?_,?_,λz=>?_,λκ=>?_,x.F,x.G⟩,⟨?_,λi hi hm m=>?_⟩⟩;rw[Hp.du Y,E p (Hp.lt x.k rfl) (by rw[x.k];rintro⟨_,_,e⟩;grind)];exact x.k;obtain⟨L,aD,w⟩:=x.Vl;rw[Hp.du nm,E _ x.C.lt qaa];unfold iY
 by_cases h0:c=0
 subst h0;unfold vQ;have:=x.H z
 grind
 rw[atS qaa];simp[h0,auM];exact x.H z;unfold iY;rw[atS qaa];exact x.I
 by_cases h0:c=0
 subst h0;exact x.A z;simp[h0,auM];obtain⟨a1,a2⟩:=x.A z;unfold iY
 grind
 grind [iY]
 have:=x.a.lt
 grind [Hp.jp,ja]
 grind [ja,DM,Hp.du]
theorem gj.ale(x:gj p aG tb v mb c0 c1 c2 c9 f n h {s with d:=d::s.d} B D)(pP:∀κ,(D κ).length<=s.d.length) (bz:s.d.length<536870912) {t1:Nat->List AV} (E4:t1 0=d.ca) (W:∃i:Nat,i<n/\d.c=i) {g:Hp} (Z:g=h.am (.b 38 5 1 0 t1)):
 ∃o,kJ g 38 5 56 (kV (B (3,[])) (D (3,[]))) (.c h.a 0 5 1 1 true)=.b (slv g.a (D (3,[])++[d])) o/\(∀i,i<h.a->¬rF (h.ac i)->o.ac i=h.ac i)/\h.a<o.a/\
  gj p aG tb v mb c0 c1 c2 c9 f n o {s with c:=s.c++[d],d:=d::s.d} (iY B (3,[]) (some g.a)) (iY D (3,[]) (D (3,[])++[d])):=by
 have E:ax h g:=by rw[Z];exact aZ
 have xp:g.a=h.a+1:=by simp_all
 have l:=x.g0 E;have hs:rD g h.a [d]:=by
  refine⟨1,t1,by simp_all,by simp,λj hj=>?_⟩
  grind
 have U:∀κ,B κ≠some h.a:=λκ e=>by have:=((x.a.a κ).2 _ e).2.lt;omega
 obtain⟨o,ea,l1,hr,P⟩:=l.a.va (3,[]) (ds:=[d]) (sv:=.c h.a 0 5 1 1 true) rfl hs zm (U _) qaa;have V:∀i,i<g.a->¬rF (g.ac i)->o.ac i=g.ac i:=λi hi J=>P i hi λe=>by obtain⟨r,t,w,_⟩:=((l.a.a _).2 _ e).2;exact J ⟨r,t,w⟩
 have K:∀i,i<h.a->¬rF (h.ac i)->o.ac i=h.ac i:=λi hi J=>by rw[V i zo qap,E.f i hi id]
 have n34:∀{O aD},¬rF (.d O aD):=λ⟨_,_,e⟩=>by grind
 have key:∀M,B M≠some g.a:=λM e=>by have:=((l.a.a M).2 _ e).2.lt;omega
 have N:nF o tb v mb (iY B (3,[]) (some g.a)) (iY D (3,[]) (D (3,[])++[d])):=by
  refine⟨λc R=>?_,λκ=>?_,λκ xq b y z=>?_,x.a.f⟩;obtain⟨L,m,w⟩:=l.a.d c R;refine⟨L,m.aw (P _ m.lt λe=>?_),λq=>?_⟩;obtain⟨O,aD,w'⟩:=l.a.mr c R;exact((l.a.a _).2 _ e).2.Do w';have bg:((c,q):Kk)≠(3,[]):=by grind
  simp_all[iY,atS];unfold iY
  by_cases S:κ=(3,[])
  simp_all;simp[S,auM];refine⟨(l.a.a κ).1,λb e=>⟨((l.a.a κ).2 b e).1,?_⟩⟩;have rb:=((l.a.a κ).2 b e).2;exact rb.aw (P b rb.lt λY=>S (l.a.inj _ _ _ e Y));unfold iY at y z
  by_cases k1:κ=(3,[])
  grind
  by_cases k2:xq=(3,[])
  grind
  rw[atS k1] at y;rw[atS k2] at z;exact l.a.inj _ _ _ y z
 refine⟨o,ea,K,by omega,⟨?_,x.C.aw ?_,N,λQ=>?_,?_,λQ=>?_,λκ=>?_,λd' X=>?_,x.G⟩⟩;rw[K p (Hp.lt x.k rfl) (by rw[x.k];rintro⟨_,_,e⟩;grind)];exact x.k;obtain⟨O,aD,w⟩:=x.Vl;rw[K _ x.C.lt qaa];exact x.H Q;unfold iY;have:=x.I;grind
 exact x.A Q;unfold iY;split
 grind
 grind
 rcases auj.1 X with hh|hh;exact x.F _ hh;obtain rfl:=awQ.1 hh;exact W
end
section
variable {aG z:Nat}{s:jv}{B:Kk->Option Nat}{D:Kk->List aC}
def gj.maps(x:gj p aG tb z mb c0 c1 c2 c9 f n h s B D):∀i,DM aG tb z mb i->∃b aD,h.ac i=.d b aD:=by rintro i (rfl|rfl|rfl|rfl);exact x.Vl;exact x.a.mr 0 zm;exact x.a.mr 1 zm;exact x.a.mr 2 zm
theorem gj.rx(x:gj p aG tb z mb c0 c1 c2 c9 f n h s B D)(g:gW (DM aG tb z mb) h h'){i:Nat}{o:AO}(e:h.ac i=o)(c:jN o=false)(j:∀b aD,o≠.d b aD) (l:¬rF o):h'.ac i=o:=by rw[g.d i (Hp.lt e c) (λm=>by obtain⟨b,aD,w⟩:=x.maps i m;grind) qaa];omega
theorem gj.ly(x:gj p aG tb z mb c0 c1 c2 c9 f n h s B D)(g:gW (DM aG tb z mb) h h'){i el l}(e:h.ac i=.a el l):h'.ac i=.a el l:=
 x.rx g e rfl (λ_ _ q=>by grind) (λ⟨_,_,q⟩=>by grind)
theorem gj.nf(x:gj p aG tb z mb c0 c1 c2 c9 f n h s B D)(g:gW (DM aG tb z mb) h h'):NF 0 h h':=λi r ff _ e=>
 x.rx g e rfl (λ_ _ q=>by grind) (λ⟨_,_,q⟩=>by grind)
theorem gj.xr(x:gj p aG tb z mb c0 c1 c2 c9 f n h s B D)(g:gW (DM aG tb z mb) h h'){v:AV}{ws}(y:cY h v ws):cY h' v ws:=by obtain⟨b,cap,ex,r,t,c,i,e⟩:=y;exact⟨b,cap,ex,r,t,c,x.rx g i rfl (λ_ _ q=>by grind) (λ⟨_,_,q⟩=>by grind),e⟩
def yL(vm key:List UInt8)(j:Nat):List Tree->jv->jv
 |[],s=>s
 |t::ts,s=>yL vm key j ts {s with d:=⟨5,t.bc,j,t.at,vm⟩::s.d,b:=iY s.b (1,key) (s.b (1,key)++[⟨5,t.bc,j,t.at,vm⟩])}
def OT{vm key j}:∀(ts:List Tree)(s:jv),s.d.length<=(yL vm key j ts s).d.length
 |[],_=>at2 _
 |t::ts,s=>at1 (axX s.d.length) (OT ts {s with d:=⟨5,t.bc,j,t.at,vm⟩::s.d,b:=iY s.b (1,key) (s.b (1,key)++[⟨5,t.bc,j,t.at,vm⟩])})
theorem alf(HT:aA T){j m:Nat}{kv:AV}{key:List UInt8}{aq:List (List UInt8)}(hj:j<aq.length):∀(ts:List Tree)(i:Nat)(s:jv)(h:Hp)(B:Kk->Option Nat)(D:Kk->List aC)(e:Fr)(K:aT->Prop),i+ts.length=m->m<4294967296->gj p aG tb z mb c0 c1 c2 c9 f n h s B D->cY h c2 aq->
 (ts≠[]->∃b cap ex r ff,kv=.c b 0 6 m cap ex/\h.ac b=.b 72 6 r 0 ff/\m<=r/\∀q,(v:q<ts.length)->ay 0 h ts[q] (ff (i+q)))->(yL aq[j] key j ts s).d.length<536870912->
 cg 0 e=.a p 0->cg 4 e=.i j->cg 8 e=S key->cg 124 e=kv->cg 125 e=.i m->cg 126 e=.i i->
 (∀G h' C E,(∀q,q<=123/\q≠10->cg q G=cg q e)->gW (DM aG tb z mb) h h'->gj p aG tb z mb c0 c1 c2 c9 f n h' (yL aq[j] key j ts s) C E->C (3,[])=B (3,[])/\E (3,[])=D (3,[])->K (.a 5 G h' []))->W T (.d l58_4) e h [] K:=by
 intro ts
 induction ts with
 |nil=>
  intro i s h B D e K hi hm x hd l F f0 f4 f8 f124 f125 f126 J;subst hi;rw[aP];refine aU f124 f125 f126 ?_;exact J _ _ B D (λq v=>by repeat rw[eG (m:=124) zo zm]) (gW.da _) x ⟨rfl,rfl⟩
 |cons t ts ih=>
  intro i s h B D e K hi hm x hd l F f0 f4 f8 f124 f125 f126 J;obtain⟨b,cap,ex,r,ff,rfl,l,hr,iW⟩:=l zm;simp only[atX] at hi;have U:i<m:=zo;have aY:(i:Int)<m:=zo;have Y:=iW 0 zm;simp only[aus,aud] at Y;obtain⟨kv,jE,Q⟩:=Y.fx;have lb:=Hp.lt l rfl;unfold yL at F J;have R:=x.k;have lp:=Hp.lt R rfl;simp only[bS] at R;have By:=x.a.lt;have O:∀H:Hp,nF H tb z mb B D->aEx (.a .a) H .o (.h z) (S key) false=.v (kV (B (1,key)) (D (1,key))):=λH y=>y.rg (c:=1) zm;have I:ax h ((h.am (.a 72 [.i 0,.i 0,.i 0,.i 0,S [],.o])).bj h.a (.a 72 [.i t.bi,.i t.gl,.i t.to,.i t.at,S t.bc,kv])):=fZ;have A:=x.g0 I;have u:=O _ A.a;have zB:fP (kV (B (1,key)) (D (1,key))) (kV (B (1,key)) (D (1,key)))=true:=Eh _;rw[aP];refine kC f0 f4 f8 f124 f125 f126 U aY l jE Q.lh R u ?_;generalize hH:((h.am _).bj _ _:Hp)=H at I A u⊢;have u1:H.ac h.a=.a 72 [.i t.bi,.i t.gl,.i t.to,.i t.at,S t.bc,kv]:=by rw[<-hH];simp
  clear hH;have P:=hd.aw (M:=λ_=>False) I λ_ _ _ _=>id;refine CV HT (p:=p) (aG:=aG) (j:=j) (N:=s.d) A.k A.C P hj λh2 gn V=>?_;have en:(⟨5,t.bc,(j:Int),t.at,if(5:Int)=1 then t.bc else aq[j]⟩:aC)=⟨5,t.bc,j,t.at,aq[j]⟩:=by simp
  rw[en] at V⊢;generalize vg:(⟨5,t.bc,(j:Int),t.at,aq[j]⟩:aC)=a at*;have w:=A.wl gn V;have g:=w.k;simp only[bS] at g;have yM:=Hp.lt g rfl;have atk:=w.a.lt;have At:=O _ w.a;have gB:ax h2 (h2.am (.b 38 5 1 0 (cx (cx fG 0 [.i 0,S [],.i 0,.i 0,S []]) 0 [.i a.b,S a.a,.i a.c,.i a.f,S a.g]))):=aZ;have E5:=O _ (w.g0 gB).a;obtain⟨L,o,ea,em,vR,lH,x4,Z⟩:=w.QQ x.u (c:=1) zm key (auD (at1 (axX s.d.length) (OT ts {s with d:=a::s.d,b:=iY s.b (1,key) (s.b (1,key)++[a])})) F) (t1:=cx (cx fG 0 [.i 0,S [],.i 0,.i 0,S []]) 0 [.i a.b,S a.a,.i a.c,.i a.f,S a.g]) qac rfl;have lB:L.ac p=_:=(vR p yM qad).trans g;simp only[aC.ca];refine cC g At E5 zB ea ?_;have eM:ja tb z mb 1=z:=rfl;rw[eM] at em x4 Z;simp only[Hp.dC] at em;refine bK lB em f126 U ?_;have k:gW (DM aG tb z mb) h (L.bj z o):=((gW.of (ah.ka I)).ab (gW.of (gn.aw λ_ _ q=>.inl q))).ab Z;have nf:=x.nf k;refine ih (i+1) _ (L.bj z o) _ _ _ K zo hm x4 (x.xr k hd) (λ_=>⟨b,cap,ex,r,ff,rfl,nf _ _ _ (auz _) l,hr,λq v=>?_⟩) F zA zA zA zA zA aa λG h' C E hf g' x' X=>J G h' C E (λq v=>?_) (k.ab g') x' ⟨X.1.trans qac,X.2.trans qac⟩;have:=iW (q+1) qaa;simp[auu,show i+(q+1)=i+1+q by omega] at this;exact this.nf nf zl
  ·rw[hf q v];have:=v.2
   repeat first|rw[eG (m:=124) zo zd]|rw[qA,atS this]
end
section
variable {k:aK->Prop}{aG e:Nat}{s:jv}{B:Kk->Option Nat}{D:Kk->List aC}
theorem acp(c:aA T){a b:List UInt8}(j:a.length<4294967296)(l:b.length<4294967296)(m:k (.a (S (a++[32]++b)) h)):aE T (W T) ⟨88⟩ [S a,S b] h k:=by rw[ic c.t88];have g:lG (S a) (S [32])=.v (S (a++[32])):=Tc qaa;have i:lG (S (a++[32])) (S b)=.v (S (a++[32]++b)):=Tc qaa;simp_all
def kX(vm:List UInt8)(j:Nat)(t:Tree)(s:jv):jv:=
 if t.bi=2 then{s with c:=s.c++[⟨1,t.bc,j,t.at,t.bc⟩],d:=⟨1,t.bc,j,t.at,t.bc⟩::s.d}
 else if t.bi=3 then yL vm (vm++[32]++t.bc) j t.bv {s with a:=vQ s.a vm (s.a vm++[⟨2,t.bc,j,t.at,vm⟩]),d:=⟨2,t.bc,j,t.at,vm⟩::s.d}
 else if(t.bv.headD zT).bi=0 then{s with a:=vQ s.a vm (s.a vm++[⟨3,t.bc,j,t.at,vm⟩]),d:=⟨3,t.bc,j,t.at,vm⟩::s.d}
 else{s with d:=⟨4,t.bc,j,t.at,vm⟩::s.d,b:=iY s.b (2,vm++[32]++((t.bv.headD zT).bv.headD zT).bc) (s.b (2,vm++[32]++((t.bv.headD zT).bv.headD zT).bc)++[⟨4,t.bc,j,t.at,vm⟩])}
def tB(vm:List UInt8)(j:Nat):List Tree->jv->jv
 |[],s=>s
 |t::ts,s=>tB vm j ts (kX vm j t s)
def yN(t:Tree):Prop:=t.bi=2\/(t.bi=3/\t.bc.length<4294967296)\/(t.bi≠3/\t.bv≠[]/\((t.bv.headD zT).bi≠0->(t.bv.headD zT).bv≠[]/\((t.bv.headD zT).bv.headD zT).bc.length<4294967296))
theorem alg{vm j}(t:Tree)(s:jv):s.d.length+1<=(kX vm j t s).d.length:=by
 unfold kX;split;simp;split;exact OT t.bv {s with a:=vQ s.a vm (s.a vm++[⟨2,t.bc,j,t.at,vm⟩]),d:=⟨2,t.bc,j,t.at,vm⟩::s.d}
 grind
def Vq{vm j}:∀(ts:List Tree)(s:jv),s.d.length<=(tB vm j ts s).d.length
 |[],_=>at2 _
 |t::ts,s=>at1 (at1 (axX _) (alg t s)) (Vq ts (kX vm j t s))
def fN(a:Fr)(B:Kk->Option Nat)(D:Kk->List aC):Prop:=cg 3 a=kV (B (3,[])) (D (3,[]))
def E6{b:Type}{B:Kk->b}{κ a:Kk}{x:b}(h:a≠κ):iY B κ x a=B a:=by simp_all[iY]
end
def Vr:∀{l:List Tree}(h:0<l.length),l[0]=l.headD zT
 |a::l,_=>rfl
section
variable {k:aK->Prop}{aG g:Nat}{s:jv}{B:Kk->Option Nat}{D:Kk->List aC}{m:Nat}{aq:List (List UInt8)}{t:Tree}
def Ll(p aG tb g mb:Nat)(c0 c1 c2 c9:AV)(f:cN)(n:Nat)(e:Fr)(h:Hp)(s:jv)(K:aT->Prop):Prop:=
 ∀a h' b c,(∀q,q=0\/q=2\/q=4\/q=34\/q=35\/q=36\/22<=q/\q<=28->cg q a=cg q e)->fN a b c->gW (DM aG tb g mb) h h'->gj p aG tb g mb c0 c1 c2 c9 f n h' s b c->K (.d a h' [])
theorem HV{q p:Nat}{v:AV}{f:Fr}(a:q=0\/q=2\/q=4\/q=34\/q=35\/q=36\/22<=q/\q<=28)(b:37<=p\/p=3\/5<=p/\p<=21):cg q (fO p v f)=cg q f:=by rw[qA,atS zo]
theorem alh(w:aA T)(x:gj p aG tb g mb c0 c1 c2 c9 f n h s B D)(hd:cY h c2 aq)(F:j<aq.length)(O:j<n)(L:h.ac m=.a 72 row)(I:ay 0 h t row)(G:t.bi=2)
 (z:(kX aq[j] j t s).d.length<536870912) (f0:cg 0 e=.a p 0) (f4:cg 4 e=.i j) (f7:cg 7 e=.a m 0) (r:fN e B D) (v:Ll p aG tb g mb c0 c1 c2 c9 f n e h (kX aq[j] j t s) K):W T ayK e h [] K:=by
 obtain⟨kv,rfl,H⟩:=I.fx;unfold fN at r;have M:kX aq[j] j t s={s with c:=s.c++[⟨1,t.bc,j,t.at,t.bc⟩],d:=⟨1,t.bc,j,t.at,t.bc⟩::s.d}:=by simp_all[kX]
 rw[M] at v z;refine cq f0 f4 f7 r L G ?_;refine CV w (p:=p) (aG:=aG) (j:=j) (N:=s.d) x.k x.C hd F λU u o=>?_;have C:(⟨1,t.bc,(j:Int),t.at,if(1:Int)=1 then t.bc else aq[j]⟩:aC)=⟨1,t.bc,j,t.at,t.bc⟩:=by simp
 rw[C] at o⊢;have y:∃i:Nat,i<n/\(⟨1,t.bc,(j:Int),t.at,t.bc⟩:aC).c=i:=⟨j,O,rfl⟩;generalize X:(⟨1,t.bc,(j:Int),t.at,t.bc⟩:aC)=a at*;have Q:=x.wl u o;obtain⟨l,A,P,V,R⟩:=Q.ale x.u qaa (t1:=cx (cx fG 0 [.i 0,S [],.i 0,.i 0,S []]) 0 [.i a.b,S a.a,.i a.c,.i a.f,S a.g]) qac y rfl;simp[aC.ca];refine aB A ?_;have E:gW (DM aG tb g mb) h l:=(gW.of (u.aw λ_ _ q=>.inl q)).ab ⟨by omega,λi hi _ b=>P i hi b⟩;refine v _ l _ _ (λq J=>?_) ?_ E R
 ·repeat rw[HV J zm]
 rfl
theorem ali(HT:aA T)(x:gj p aG tb g mb c0 c1 c2 c9 f n h s B D)(hd:cY h c2 aq)(v:j<aq.length)(hr:h.ac m=.a 72 row)(hn:ay 0 h t row)(hk:t.bi≠2)(Bz:t.bi≠3)(O:t.bv≠[])(js:(t.bv.headD zT).bi=0)
 (P:(kX aq[j] j t s).d.length<536870912) (f0:cg 0 e=.a p 0) (f4:cg 4 e=.i j) (f7:cg 7 e=.a m 0) (X:fN e B D) (hK:Ll p aG tb g mb c0 c1 c2 c9 f n e h (kX aq[j] j t s) K):W T ayK e h [] K:=by
 obtain⟨kv,rfl,I⟩:=hn.fx;unfold fN at X;have hs:kX aq[j] j t s={s with a:=vQ s.a aq[j] (s.a aq[j]++[⟨3,t.bc,j,t.at,aq[j]⟩]),d:=⟨3,t.bc,j,t.at,aq[j]⟩::s.d}:=by simp_all[kX]
 rw[hs] at hK P;simp only at P;obtain⟨b,cap,ex,r,ff,rfl,hb,Bg,iW⟩:=I.pj O;have A:0<t.bv.length:=auA.2 O;have C:=iW 0 A;simp only[aud] at C;rw[Vr A] at C;obtain⟨OE,U,C2⟩:=C.fx;rw[js] at U;have J:=x.k;simp only[bS] at J;have lp:=Hp.lt J rfl;have E:∀H:Hp,nF H tb g mb B D->aEx (.a .a) H .o (.h tb) (S aq[j]) false=.v (kV (B (0,aq[j])) (D (0,aq[j]))):=λH y=>y.rg (c:=0) zm;have Lm:=E _ x.a;have zB:fP (kV (B (0,aq[j])) (D (0,aq[j]))) (kV (B (0,aq[j])) (D (0,aq[j])))=true:=Eh _;have bC:=hd;obtain⟨R,xu,xw,dr,dt,rfl,L,HW,vS⟩:=bC;have u:=vS j v;have V:(j:Int)<aq.length:=zo;have F:(0:Int)<t.bv.length:=zo;have HX:=Hp.lt L rfl;refine kC f0 f4 f7 X hr hk Bz hb A F U J (atQ (atQ (atQ (atQ L u) v) V) Lm) ?_;refine CV HT (p:=p) (aG:=aG) (j:=j) (N:=s.d) x.k x.C hd v λG Z Q=>?_;have en:(⟨3,t.bc,(j:Int),t.at,if(3:Int)=1 then t.bc else aq[j]⟩:aC)=⟨3,t.bc,j,t.at,aq[j]⟩:=by simp
 rw[en] at Q⊢;generalize vg:(⟨3,t.bc,(j:Int),t.at,aq[j]⟩:aC)=i at*;have w:=x.wl Z Q;have l:=w.k;simp only[bS] at l;have yM:=Hp.lt l rfl;have g2:gW (DM aG tb g mb) h G:=gW.of (Z.aw λ_ _ q=>.inl q);have z:=x.rx g2 L rfl (λ_ _ q=>by grind) (λ⟨_,_,q⟩=>by grind);have Vs:=Hp.lt z rfl;have At:=E _ w.a;have gB:ax G (G.am (.b 38 5 1 0 (cx (cx fG 0 [.i 0,S [],.i 0,.i 0,S []]) 0 [.i i.b,S i.a,.i i.c,.i i.f,S i.g]))):=aZ;have E5:=E _ (w.g0 gB).a;obtain⟨M,o,ea,em,vR,lH,x4,Y⟩:=w.QQ x.u (c:=0) zm aq[j] qaa (t1:=cx (cx fG 0 [.i 0,S [],.i 0,.i 0,S []]) 0 [.i i.b,S i.a,.i i.c,.i i.f,S i.g]) qac rfl;have lB:M.ac p=_:=(vR p yM qad).trans l;have Vt:M.ac R=_:=(vR R Vs qad).trans z;have eM:ja tb g mb 0=tb:=rfl;rw[eM] at em x4 Y;simp only[Hp.dC] at em;simp only[aC.ca];refine pU l z u v V At E5 zB ea lB Vt em ?_;refine hK _ _ _ _ (λq hq=>?_) ?_ (g2.ab Y) x4
 ·repeat rw[HV hq zm]
 simp_all[fN,iY]
end
section
variable {k:aK->Prop}{aG g:Nat}{s:jv}{B:Kk->Option Nat}{D:Kk->List aC}{i:Nat}{aq:List (List UInt8)}{t:Tree}
theorem alj(R:aA T)(x:gj p aG tb g mb c0 c1 c2 c9 f n h s B D)(hd:cY h c2 aq)(I:j<aq.length)(mT:aq[j].length<4294967296)(hr:h.ac i=.a 72 row)(hn:ay 0 h t row)(hk:t.bi≠2)(Bz:t.bi≠3)(U:t.bv≠[])(js:(t.bv.headD zT).bi≠0)(l:(t.bv.headD zT).bv≠[])(sk:((t.bv.headD zT).bv.headD zT).bc.length<4294967296)
 (V:(kX aq[j] j t s).d.length<536870912) (f0:cg 0 e=.a p 0) (Y:cg 2 e=.h mb) (f4:cg 4 e=.i j) (f7:cg 7 e=.a i 0) (Z:fN e B D) (G:Ll p aG tb g mb c0 c1 c2 c9 f n e h (kX aq[j] j t s) K):W T ayK e h [] K:=by
 obtain⟨kv,rfl,J⟩:=hn.fx;unfold fN at Z;have hs:kX aq[j] j t s={s with d:=⟨4,t.bc,j,t.at,aq[j]⟩::s.d,b:=iY s.b (2,aq[j]++[32]++((t.bv.headD zT).bv.headD zT).bc) (s.b (2,aq[j]++[32]++((t.bv.headD zT).bv.headD zT).bc)++[⟨4,t.bc,j,t.at,aq[j]⟩])}:=by simp_all[kX]
 rw[hs] at G V;simp only at V;obtain⟨b,cap,ex,r,ff,rfl,hb,Bg,iW⟩:=J.pj U;have u:0<t.bv.length:=auA.2 U;have z:=iW 0 u;simp only[aud] at z;rw[Vr u] at z;obtain⟨OE,e0,Q⟩:=z.fx;obtain⟨b0,atm,ex0,r0,ff0,rfl,N7,atn,m⟩:=Q.pj l;have P:0<(t.bv.headD zT).bv.length:=auA.2 l;have w:=m 0 P;simp only[aud] at w;rw[Vr P] at w;obtain⟨kv1,e1,U3⟩:=w.fx;have L:=x.k;simp only[bS] at L;have lp:=Hp.lt L rfl;have bC:=hd;obtain⟨db,xu,xw,dr,dt,rfl,kY,HW,vS⟩:=bC;have v:=vS j I;have eY:(j:Int)<aq.length:=zo;have C:(0:Int)<t.bv.length:=zo;have E:(0:Int)<(t.bv.headD zT).bv.length:=zo;have HX:=Hp.lt kY rfl;clear m Q;generalize ato:((t.bv.headD zT).bv.headD zT).bc=M at*;generalize atp:(t.bv.headD zT).bi=k0v at*;generalize Ln:(t.bv.headD zT).bv.length=lv at*;refine kC f0 Y f4 f7 Z hr hk Bz hb u C e0 (atQ (atQ (atQ (atQ (atQ (atQ (atQ (atQ (atQ N7 e1) L) kY) v) I) eY) P) E) js) ?_;refine acp R mT sk ?_;generalize aq[j]++[32]++M=key at G⊢;have A:∀H:Hp,nF H tb g mb B D->aEx (.a .a) H .o (.h mb) (S key) false=.v (kV (B (2,key)) (D (2,key))):=λH y=>y.rg (c:=2) zm;have Lm:=A _ x.a;have zB:fP (kV (B (2,key)) (D (2,key))) (kV (B (2,key)) (D (2,key)))=true:=Eh _;refine cq f0 Y f4 f7 hr Lm ?_;refine CV R (p:=p) (aG:=aG) (j:=j) (N:=s.d) x.k x.C hd I λF gn X=>?_;have en:(⟨4,t.bc,(j:Int),t.at,if(4:Int)=1 then t.bc else aq[j]⟩:aC)=⟨4,t.bc,j,t.at,aq[j]⟩:=by simp
 rw[en] at X⊢;generalize vg:(⟨4,t.bc,(j:Int),t.at,aq[j]⟩:aC)=a at*;have O:=x.wl gn X;have g2:gW (DM aG tb g mb) h F:=gW.of (gn.aw λ_ _ q=>.inl q);have At:=A _ O.a;have gB:ax F (F.am (.b 38 5 1 0 (cx (cx fG 0 [.i 0,S [],.i 0,.i 0,S []]) 0 [.i a.b,S a.a,.i a.c,.i a.f,S a.g]))):=aZ;have E5:=A _ (O.g0 gB).a;obtain⟨H',o,ea,em,vR,lH,x4,g4⟩:=O.QQ x.u (c:=2) zm key qaa (t1:=cx (cx fG 0 [.i 0,S [],.i 0,.i 0,S []]) 0 [.i a.b,S a.a,.i a.c,.i a.f,S a.g]) qac rfl;have eM:ja tb g mb 2=mb:=rfl;rw[eM] at em x4 g4;simp only[Hp.dC] at em;simp only[aC.ca];refine cC At E5 zB ea em ?_;refine G _ _ _ _ (λq hq=>?_) ?_ (g2.ab g4) x4
 ·repeat rw[HV hq zm]
 simp_all[fN,iY]
theorem alk(F:aA T)(x:gj p aG tb g mb c0 c1 c2 c9 f n h s B D)(hd:cY h c2 aq)(v:j<aq.length)(mT:aq[j].length<4294967296)(hr:h.ac i=.a 72 row)(hn:ay 0 h t row)(rB:rY t)(V:t.bi=3)(sk:t.bc.length<4294967296)
 (J:(kX aq[j] j t s).d.length<536870912) (f0:cg 0 e=.a p 0) (f4:cg 4 e=.i j) (f7:cg 7 e=.a i 0) (fi:fN e B D) (hK:Ll p aG tb g mb c0 c1 c2 c9 f n e h (kX aq[j] j t s) K):W T (CC.j 4 (.g (.h (z q58 8)) (.i (.t 69) (.h (z q58 9)) (.g (.h (z q58 10)) (.i (.t 80) (.g (.f r58_11) (.g (.f r58_12) (.g (.h (z q58 13)) (.j 5 (.d l58_4))))) (.g (.h (z q58 18)) (.i (.t 148) (.g (.f r58_19) (.f r58_20)) (.f r58_21)))))))) e h [] K:=by
 obtain⟨kv,rfl,P⟩:=hn.fx;unfold fN at fi;have hk:¬t.bi=2:=zo;have hs:kX aq[j] j t s=yL aq[j] (aq[j]++[32]++t.bc) j t.bv {s with a:=vQ s.a aq[j] (s.a aq[j]++[⟨2,t.bc,j,t.at,aq[j]⟩]),d:=⟨2,t.bc,j,t.at,aq[j]⟩::s.d}:=by simp_all[kX]
 rw[hs] at hK J;have Q:=x.k;simp only[bS] at Q;have lp:=Hp.lt Q rfl;have L:∀H:Hp,nF H tb g mb B D->aEx (.a .a) H .o (.h tb) (S aq[j]) false=.v (kV (B (0,aq[j])) (D (0,aq[j]))):=λH y=>y.rg (c:=0) zm;have Lm:=L _ x.a;have zB:fP (kV (B (0,aq[j])) (D (0,aq[j]))) (kV (B (0,aq[j])) (D (0,aq[j])))=true:=Eh _;have bC:=hd;obtain⟨Z,xu,xw,dr,dt,rfl,w,HW,vS⟩:=bC;have u:=vS j v;have eY:(j:Int)<aq.length:=zo;have HX:=Hp.lt w rfl;generalize O:CC.d l58_4=L4;refine pU f0 f4 f7 fi hr V Q w u v eY Lm ?_;rw[<-V];refine CV F (p:=p) (aG:=aG) (j:=j) (N:=s.d) x.k x.C hd v λM gn Y=>?_;have en:(⟨2,t.bc,(j:Int),t.at,if(2:Int)=1 then t.bc else aq[j]⟩:aC)=⟨2,t.bc,j,t.at,aq[j]⟩:=by simp
 rw[en] at Y⊢;have G:=auD (OT t.bv _) J;simp only[atX] at G;generalize vg:(⟨2,t.bc,(j:Int),t.at,aq[j]⟩:aC)=l at*;have A:=x.wl gn Y;have r:=A.k;simp only[bS] at r;have yM:=Hp.lt r rfl;have g2:gW (DM aG tb g mb) h M:=gW.of (gn.aw λ_ _ q=>.inl q);have C:=x.rx g2 w rfl (λ_ _ q=>by grind) (λ⟨_,_,q⟩=>by grind);have Vs:=Hp.lt C rfl;have At:=L _ A.a;have gB:ax M (M.am (.b 38 5 1 0 (cx (cx fG 0 [.i 0,S [],.i 0,.i 0,S []]) 0 [.i l.b,S l.a,.i l.c,.i l.f,S l.g]))):=aZ;have E5:=L _ (A.g0 gB).a;obtain⟨E,o,ea,em,vR,lH,U,g4⟩:=A.QQ x.u (c:=0) zm aq[j] zo (t1:=cx (cx fG 0 [.i 0,S [],.i 0,.i 0,S []]) 0 [.i l.b,S l.a,.i l.c,.i l.f,S l.g]) qac rfl;have lB:E.ac p=_:=(vR p yM qad).trans r;have Vt:E.ac Z=_:=(vR Z Vs qad).trans C;have eM:ja tb g mb 0=tb:=rfl;rw[eM] at em U g4;simp only[Hp.dC] at em;have b:=g2.ab g4;have X:=x.ly b hr;have m7:=U.k;simp only[bS] at m7;have I:=x.rx b w rfl (λ_ _ q=>by grind) (λ⟨_,_,q⟩=>by grind);have nf:=x.nf b;have zY:=P.nf nf;have R:=Aq rB;generalize oU:E.bj tb o=H4 at*;simp only[aC.ca];refine kC r C u v eY At E5 zB ea lB Vt em (atQ (atQ (atQ (atQ (atQ (atQ oU f0) f4) f7) m7) I) X) ?_;refine acp F mT sk ?_;simp(disch:=omega) [f7,X,zY.px];subst O;refine alf F (key:=aq[j]++[32]++t.bc) (aq:=aq) (m:=t.bv.length) (kv:=kv) v t.bv 0 _ H4 _ _ _ _ zo R.1 U (x.xr b hd) zY.pj J zA zA aa aa aa aa λf' h' B' D' hf g' x' e3=>?_;refine ag ?_;refine hK f' h' B' D' (λq hq=>?_) ?_ (b.ab g') x'
 ·rw[hf q zo]
  repeat rw[HV hq zm]
 unfold fN;rw[hf 3 zm,e3.1,e3.2];exact zA
end
def jG(aq:List (List UInt8)):List Tree->Nat->jv->jv
 |[],_,s=>s
 |t::ts,j,s=>jG aq ts (j+1) (tB (aq.getD j []) j t.bv s)
def acs{aq}:∀(ts:List Tree)(j:Nat)(s:jv),s.d.length<=(jG aq ts j s).d.length
 |[],_,_=>at2 _
 |t::ts,j,s=>at1 (Vq t.bv s) (acs ts (j+1) (tB (aq.getD j []) j t.bv s))
section
variable {k:aK->Prop}{aG:Nat}{aq:List (List UInt8)}
theorem alo(A:aA T){j m:Nat}{kv:AV}(O:j<aq.length)(sR:j<n)(mT:aq[j].length<4294967296):∀(ts:List Tree)(i:Nat)(s:jv)(h:Hp)(B:Kk->Option Nat)(D:Kk->List aC)(c:Fr)(K:aT->Prop),i+ts.length=m->m<4294967296->gj p aG tb a mb c0 c1 c2 c9 f n h s B D->cY h c2 aq->
 (ts≠[]->∃b cap ex r ff,kv=.c b 0 6 m cap ex/\h.ac b=.b 72 6 r 0 ff/\m<=r/\∀q,(v:q<ts.length)->ay 0 h ts[q] (ff (i+q)))->pq ts->(∀t∈ts,yN t)->(tB aq[j] j ts s).d.length<536870912->
 cg 0 c=.a p 0->cg 2 c=.h mb->cg 4 c=.i j->cg 34 c=kv->cg 35 c=.i m->cg 36 c=.i i->fN c B D->
 (∀L h' w y,(∀q,q=0\/q=2\/22<=q/\q<=28->cg q L=cg q c)->fN L w y->gW (DM aG tb a mb) h h'->gj p aG tb a mb c0 c1 c2 c9 f n h' (tB aq[j] j ts s) w y->K (.a 2 L h' []))->W T (.d l58_5) c h [] K:=by
 intro ts
 induction ts with
 |nil=>
  intro i s h B D c K hi hm x hd u V BB I f0 f2 f4 f34 f35 f36 fi P;subst hi;rw[aP];refine aU f34 f35 f36 ?_;refine P _ _ B D (λq v=>by grind [HV]) ?_ (gW.da _) x;simp_all[fN]
 |cons t ts ih=>
  intro i s h B D c K hi hm x hd u V BB I f0 f2 f4 f34 f35 f36 fi P;obtain⟨b,cap,ex,r,ff,rfl,u,hr,iW⟩:=u zm;simp only[atX] at hi;have ao:i<m:=zo;have aY:(i:Int)<m:=zo;have eJ:=iW 0 zm;simp only[aus,aud] at eJ;obtain⟨kv,jE,hkv⟩:=eJ.fx;have lb:=Hp.lt u rfl;unfold pq at V;unfold tB at I P;have yO:=auD (Vq ts _) I;have OL:=BB t zm;generalize hC:ayK=C;rw[aP];show W T ((CC.h (z q58 6)).g ((CC.i (CX.t 37) CC.k (CC.n 2)).g ((CC.j 3 ((CC.h (z q58 7)).g ayK)).g (CC.h (z q58 22))))) c h [] _;rw[hC];refine fY f34 f35 f36 ao aY u jE hkv.lh ?_;rw[<-jE];generalize hH:((h.am _).bj _ _:Hp)=H;have N:ax h H:=by rw[<-hH];exact fZ
  have X:H.ac h.a=.a 72 (ff i):=by rw[<-hH,Hp.dq rfl]
  clear hH;have Y:=x.g0 N;have E:=hd.aw (M:=λ_=>False) N λ_ _ _ _=>id;have G:=eJ.nf (mY N) zl;have Lo:=fi;unfold fN at Lo;have nx:∀bJ,(∀q,q=0\/q=2\/q=4\/q=34\/q=35\/q=36\/22<=q/\q<=28->cg q bJ=cg q c)->Ll p aG tb a mb c0 c1 c2 c9 f n bJ H (kX aq[j] j t s) (bY 3 (bF (W T (.h (z q58 22))) (bF (W T (.d l58_5)) K))):=by intro bJ g L h' w y o tv g2 x2;have e0:=(o 0 zm).trans (g 0 zm);have e2:=(o 2 zm).trans (g 2 zm);have e4:=(o 4 zm).trans (g 4 zm);have e34:=(o 34 zm).trans (g 34 zm);have e35:=(o 35 zm).trans (g 35 zm);have e36:=(o 36 zm).trans (g 36 zm);have l:gW (DM aG tb a mb) h h':=(gW.of (ah.ka N)).ab g2;have nf:=x.nf l;refine aS (e36.trans f36) ao ?_;refine ih (i+1) _ h' w y _ K zo hm x2 (x.xr l hd) (λ_=>⟨b,cap,ex,r,ff,rfl,nf _ _ _ (auz _) u,hr,λq v=>?_⟩) V.2 (λt ht=>BB t qaa) I (au (e0.trans f0)) (au (e2.trans f2)) (au (e4.trans f4)) (au (e34.trans f34)) (au (e35.trans f35)) aa ?_ λf3 h3 B3 D3 so vP g3 x3=>P f3 h3 B3 D3 (λq v=>?_) vP (l.ab g3) x3;have:=iW (q+1) qaa;simp[auu,show i+(q+1)=i+1+q by omega] at this;exact this.nf nf zl;exact zA;rw[so q v];have e:=(o q zo).trans (g q zo);rw[<-e,qA,atS zo,qA,atS zo]
  have F:∀q,q=0\/q=2\/q=4\/q=34\/q=35\/q=36\/22<=q/\q<=28->cg q (fO 7 (.a h.a 0) (fO 39 (.j (ff i)) (fO 38 (.a b (i*6)) (fO 37 (.d true) c))))=cg q c:=λq v=>by repeat rw[HV v zd]
  have Z:=nx _ F;have R:fN (fO 7 (.a h.a 0) (fO 39 (.j (ff i)) (fO 38 (.a b (i*6)) (fO 37 (.d true) c)))) B D:=by unfold fN;exact zA
  have U:cg 7 (fO 7 (.a h.a 0) (fO 39 (.j (ff i)) (fO 38 (.a b (i*6)) (fO 37 (.d true) c))))=.a h.a 0:=aa;have Q:=(F 0 zd).trans f0;have i2:=(F 2 zd).trans f2;have S:=(F 4 zd).trans f4;generalize fO 7 (.a h.a 0) (fO 39 (.j (ff i)) (fO 38 (.a b (i*6)) (fO 37 (.d true) c)))=Vu at*;subst hC
  by_cases d:t.bi=2
  exact alh A Y E O sR X G d yO Q S U R Z
  by_cases c3:t.bi=3
  rcases OL with q|q|q;exact absurd q d;exact alk A Y E O mT X G V.1 c3 q.2 yO Q S U R Z;exact absurd c3 q.1;obtain⟨q1,q2⟩:t.bv≠[]/\((t.bv.headD zT).bi≠0->(t.bv.headD zT).bv≠[]/\((t.bv.headD zT).bv.headD zT).bc.length<4294967296):=by rcases OL with q|q|q;exact absurd q d;exact absurd q.1 c3;exact q.2
  by_cases J:(t.bv.headD zT).bi=0
  exact ali A Y E O X G d c3 q1 J yO Q S U R Z;exact alj A Y E O mT X G d c3 q1 J (q2 J).1 (q2 J).2 yO Q i2 S U R Z
theorem alp(HT:aA T){fs:List Tree}(pK:fs.length=aq.length)(Y:fs.length=n)(nV:n<4294967296)(mT:∀d∈aq,d.length<4294967296):∀(ts:List Tree)(j:Nat)(s:jv)(h:Hp)(B:Kk->Option Nat)(D:Kk->List aC)(c:Fr)(K:aT->Prop),j+ts.length=n->(∀i(hi:i<ts.length),fs[j+i]? =some ts[i])->gj p aG tb a mb c0 c1 c2 c9 f n h s B D->yb h c2 aq->
 lC 0 h c1 fs->pq ts->(∀t∈ts,∀t'∈t.bv,yN t')->(jG aq ts j s).d.length<536870912->cg 0 c=.a p 0->cg 2 c=.h mb->cg 26 c=c1->cg 27 c=.i n->cg 28 c=.i j->fN c B D->
 (∀u h' A C,cg 0 u=.a p 0->cg 2 u=.h mb->fN u A C->gW (DM aG tb a mb) h h'->gj p aG tb a mb c0 c1 c2 c9 f n h' (jG aq ts j s) A C->K (.a 0 u h' []))->W T (.d l58_6) c h [] K:=by
 intro ts
 induction ts with
 |nil=>
  intro j s h B D c K J N x hd I F G g f0 S f26 f27 f28 U w;subst J;rw[aP];refine aU f26 f27 f28 ?_;refine w _ _ B D zA zA ?_ (gW.da _) x;simp_all[fN]
 |cons t ts ih=>
  intro j s h B D c K J N x hd I F G g f0 S f26 f27 f28 U w;have tY:=hd;have hd:=hd (Cq (j:=j) qaa);simp only[atX] at J;have O:j<n:=zo;have aY:(j:Int)<n:=zo;have jf:j<fs.length:=zo;have Z:j<aq.length:=zo;have et:fs[j]=t:=by
   have:=N 0 zm
   grind
  obtain⟨b,cap,ex,r,ff,rfl,X,hr,iW⟩:=I.pj qaa;rw[Y] at f26;have R:=iW j jf;simp only[aue,et] at R;obtain⟨kv,jE,y⟩:=R.fx;have lb:=Hp.lt X rfl;have jr:j<r:=zo;unfold pq at F;unfold jG at g w;have yO:=auD (acs ts _ _) g;have ed:aq.getD j []=aq[j]:=by grind
  rw[ed] at g w yO;have Lo:=U;unfold fN at Lo;generalize hL:CC.d l58_5=L;rw[aP];simp(disch:=omega) [f26,f27,f28,aY,X,jE,y.px];generalize V:((h.am _).bj _ _:Hp)=H;have E:ax h H:=by rw[<-V];exact fZ
  clear V;have xH:=x.g0 E;have HY:=hd.aw (M:=λ_=>False) E λ_ _ _ _=>id;have HZ:=y.nf (mY E);have z:=Aq F.1;subst hL;refine alo HT (m:=t.bv.length) (kv:=kv) Z O (mT _ (auy Z)) t.bv 0 s H B D _ _ zo z.1 xH HY HZ.pj z.2 (G t zm) yO zA zA aa aa aa aa (by exact zA) λu h' A C v tv g2 x2=>?_;have e:gW (DM aG tb a mb) h h':=(gW.of (ah.ka E)).ab g2;have P:=v 0 zm;have Q:=v 2 zm;have l:=v 26 zm;have o:=v 27 zm;have q:=v 28 zm
  simp(disch:=omega) [f0,S,f26,f27,f28] at P Q l o q;refine aS q O ?_;have jQ:lC 0 h' (.c b 0 6 fs.length cap ex) fs:=I.nf (x.nf e);refine ih (j+1) _ h' A C _ K zo (λi hi=>?_) x2 (λ_=>x.xr e hd) jQ F.2 (λt ht=>G t qaa) g (au P) (au Q) (bV l Y) (au o) aa (by exact zA) λf3 h3 B3 D3 a0 a2 vP g3 x3=>w f3 h3 B3 D3 a0 a2 vP (e.ab g3) x3;have:=N (i+1) qaa;simp only[auu] at this;rw[show j+1+i=j+(i+1) by omega];exact this
end
section
variable {k:aK->Prop}{aG g:Nat}{aq:List (List UInt8)}
structure DeB(p aG tb g mb:Nat)(c0 c1 c2 c9:AV)(f:cN)(n:Nat)(h:Hp)(s:jv)(B:Kk->Option Nat)(D:Kk->List aC):Prop where
 j:h.ac p=.a 67 (bS c0 c1 c2 f (.h aG) (.h tb) (.h g) c9)
 l:lX h aG s.d
 c:nF h tb g mb B D
 o:∀q,D (0,q)=s.a q
 t:D (3,[])=s.c
 k:∀κ,(D κ).length<1073741824
 r:∀d∈s.c,∃i:Nat,i<n/\d.c=i
 u:aG≠tb/\aG≠g/\aG≠mb
def gj.b{s B D}(x:gj p aG tb g mb c0 c1 c2 c9 f n h s B D)(b:s.d.length<536870912):DeB p aG tb g mb c0 c1 c2 c9 f n h s B D:=
 ⟨x.k,x.C,x.a,x.H,x.I,λκ=>by have:=x.u κ;omega,x.F,x.G⟩
theorem alq(HT:aA T){s:jv}{D0:Kk->List aC}{L:SL}{aD it:Nat}{B2:List UInt8->Option Nat}(pP:∀κ,(D0 κ).length<536870912) (hL:∀q,eV L q=(B2 q).map λb=>slv b (D0 (2,q))) (C6:(cD L).Nodup):∀(m:Nat)(todo:List (List UInt8))(h:Hp)(eC:Option AV)(B:Kk->Option Nat)(D:Kk->List aC)(z:Fr)(K:aT->Prop),todo.length=m->
 DeB p aG tb g mb c0 c1 c2 c9 f n h s B D->h.ac mb=.d (di L) aD->h.ac it=.c (.a .a) mb aD (todo.map S) eC->todo.Nodup->(∀q∈todo,(eV L q).isSome=true)->(∀q,B (2,q)=B2 q/\D (2,q)=D0 (2,q))->(∀q,D (1,q)=if q∈todo then D0 (1,q) else D0 (1,q)++D0 (2,q))->
 cg 0 z=.a p 0->cg 185 z=.a it 0->fN z B D->(∀F h' Q A,cg 0 F=.a p 0->fN F Q A->gW (λi=>DM aG tb g mb i\/i=it) h h'->DeB p aG tb g mb c0 c1 c2 c9 f n h' s Q A->(∀q,A (1,q)=D0 (1,q)++D0 (2,q))->K (.a 7 F h' []))->W T (.d l58_3) z h [] K:=by
 intro m
 induction m with
 |zero=>
  intro todo h eC B D z K bz x N U dB I V h1 f0 f185 fi hk;obtain rfl:=avW.1 bz;rw[aP];refine aB f185 ?_;refine C1 U N (λ_=>?_) (λe r v=>absurd v.length_eq zm);refine ag ?_;refine hk _ h B D zA ?_ (gW.da _) x λq=>by grind
  simp_all[fN]
 |succ m ih=>
  intro todo h eC B D z K bz x N U dB I V h1 f0 f185 fi hk;rw[aP];refine aB f185 ?_;refine C1 U N (λe=>by grind) (λe r v=>?_);have he:e∈todo:=v.mem_iff.1 zm;have Bw:(e::r).Nodup:=v.nodup_iff.2 dB;obtain⟨R,fX⟩:∃b,B2 e=some b:=by
   cases q:B2 e with
   |none=>grind
   |some b=>grind
  have hv:eV L e=some (slv R (D0 (2,e))):=by grind
  have l1:=Hp.lt N rfl;have l2:=Hp.lt U rfl;have zV:mb≠it:=by grind
  have nit:∀i el l,h.ac i=.a el l->i≠it:=λi el l q e=>by grind
  have y:∀i E P,h.ac i=.d E P->i≠it:=λi E P q e=>by grind
  have nir:∀κ b,B κ=some b->b≠it:=λκ b q e=>by
   obtain⟨r,t,w,_⟩:=((x.c.a κ).2 b q).2
   grind
  generalize hH:h.bj it (.c (.a .a) mb aD (r.map S) (some (S e)))=H;have a:ah (·=it) h H:=by rw[<-hH];exact ah.bj (M:=(·=it)) (ah.da _) _ (.inr rfl)
  have O:H.ac it=.c (.a .a) mb aD (r.map S) (some (S e)):=by rw[<-hH];simp
  clear hH;have X:H.ac mb=.d (di L) aD:=(a.f _ l1 zV).trans N;have lB:H.ac p=_:=(a.f _ (Hp.lt x.j rfl) (nit _ _ _ x.j)).trans x.j;have j:nF H tb g mb B D:=x.c.aw λi hi=>by
   have By:=x.c.lt;rcases hi with rfl|rfl|rfl|⟨κ,e⟩;obtain⟨E,P,w⟩:=x.c.mr 0 zm;exact a.f _ By.1 (y _ _ _ w);obtain⟨E,P,w⟩:=x.c.mr 1 zm;exact a.f _ By.2.1 (y _ _ _ w)
   grind
   exact a.f _ ((x.c.a κ).2 _ e).2.lt (nir _ _ e)
  have en:=OC (h:=H) O X C6 hv;have OV:B (2,e)=some R:=(V e).1.trans fX;obtain⟨Y,dX⟩:=(j.a (2,e)).2 R OV;rw[(V e).2] at Y dX;have G:D (1,e)=D0 (1,e):=by grind
  have fC:=j.rg (c:=1) zm (s:=e);have eM:ja tb g mb 1=g:=rfl;rw[eM] at fC;obtain⟨d,ea,lH2,hrn,vR⟩:=j.va (1,e) (sv:=slv R (D0 (2,e))) rfl dX Y (λq=>by have:=j.inj _ _ _ q OV;grind) qaa;obtain⟨o,em,OS⟩:=j.kw (c:=1) (s:=e) zm Y zl hrn vR;rw[eM] at em OS;have Z:=OS (d.bj g o) (Hp.dq rfl) (λi hi=>Hp.du hi);have kp:∀i,i<H.a->¬rF (H.ac i)->d.ac i=H.ac i:=λi hi u=>vR i hi λq=>by obtain⟨r,t,w,_⟩:=((j.a _).2 _ q).2;exact u ⟨r,t,w⟩
  have J:d.ac p=_:=(kp p (Hp.lt lB rfl) qad).trans lB;have dj:=lB;have C:=J;simp only[bS] at dj C;have lp:=Hp.lt dj rfl;simp only[wm];refine fY f185 f0 en dj fC ea C em ?_;obtain⟨n1,n2,n3⟩:=x.u;obtain⟨E,P,OW⟩:=j.mr 1 zm;have ppb:p≠g:=λq=>by grind
  obtain⟨s1,s2,s3⟩:=x.c.f;have als:lX (d.bj g o) aG s.d:=by obtain⟨LL,ve',w,_⟩:=x.l;have w0:H.ac aG=h.ac aG:=a.f _ (Hp.lt w rfl) (y _ _ _ w);refine x.l.aw ?_;rw[Hp.du n2,kp _ (by have:=a.g;have:=Hp.lt w rfl;omega) (by rw[w0,w];rintro⟨_,_,q⟩;cases q),w0]
  have Lo:=fi;unfold fN at Lo;have g3:gW (λi=>DM aG tb g mb i\/i=it) h (d.bj g o):=by
   refine⟨?_,λi hi hm u=>?_⟩;have:=a.g;have hs:d.a<=(d.bj g o).a:=by rw[Hp.ii];exact Nat.le_max_left _ _
   omega;rw[Hp.du (λq=>hm (.inl (.inr (.inr (.inl q))))),kp i (by have:=a.g;omega) (by rw[a.f i hi λq=>hm (.inr q)];exact u),a.f i hi λq=>hm (.inr q)]
  have x3:DeB p aG tb g mb c0 c1 c2 c9 f n (d.bj g o) s (iY B (1,e) (some H.a)) (iY D (1,e) (D (1,e)++D0 (2,e))):=by
   refine⟨by rw[Hp.du ppb];exact J,als,Z,λq=>?_,?_,λκ=>?_,x.r,x.u⟩;rw[E6 zm];exact x.o q;rw[E6 zm];exact x.t;unfold iY;split;rw[G];have:=pP (1,e);have:=pP (2,e);simp;omega
   exact x.k κ
  refine ih r (d.bj g o) (some (S e)) _ _ _ K ?_ x3 (by rw[Hp.du (Ne.symm s3),kp _ (Hp.lt X rfl) (by rw[X];rintro⟨_,_,q⟩;cases q)];exact X) ?_ (au6.1 Bw).2 (λq hq=>I q (v.mem_iff.1 (by simp[hq]))) (λq=>?_) (λq=>?_) zA zA ?_ λF h' Q A a0 a1 g' x' e1=>hk F h' Q A a0 a1 (g3.ab g') x' e1;have:=v.length_eq;simp at this;omega;have:it≠g:=λq=>by rw[eM,<-q,O] at OW;cases OW
  rw[Hp.du this,kp _ (Hp.lt O rfl) (by rw[O];rintro⟨_,_,q⟩;cases q)];exact O;rw[E6 zm,E6 zm];exact V q
  by_cases q':q=e
  subst q';have:q∉r:=(au6.1 Bw).1;unfold iY;rw[atV rfl,atS this,G];rw[E6 (by simp[q']),h1];have:q∈todo <-> q∈r:=by rw[<-v.mem_iff];simp[q']
  simp only[this];unfold fN;rw[E6 zm,E6 zm];exact zA
end
section
variable {k:aK->Prop}{aG:Nat}{d:cN}{aq:List (List UInt8)}{s:jv}{B:Kk->Option Nat}{D:Kk->List aC}
theorem DeB.pk(x:DeB p aG tb a mb c0 c1 c2 c9 f n h s B D):p≠aG/\p≠tb/\p≠a/\p≠mb/\∀κ,B κ≠some p:=by have g:=x.j;refine⟨?_,?_,?_,?_,λκ e=>((x.c.a κ).2 _ e).2.PP g⟩;obtain⟨L,aD,q,_⟩:=x.l;grind;obtain⟨b,aD,q⟩:=x.c.mr 0 zm;rw[show ja tb a mb 0=tb from rfl] at q;grind;obtain⟨b,aD,q⟩:=x.c.mr 1 zm;rw[show ja tb a mb 1=a from rfl] at q;grind;obtain⟨b,aD,q⟩:=x.c.mr 2 zm;rw[show ja tb a mb 2=mb from rfl] at q;grind
def DeB.xv{M:Nat->Prop}(x:DeB p aG tb a mb c0 c1 c2 c9 f n h s B D)(g:ah M h h')(b:∀i,M i->i≠aG/\i≠tb/\i≠a/\i≠mb/\∀κ,B κ≠some i) (v:h'.ac p=.a 67 (bS c0 c1 c2 d (.h aG) (.h tb) (.h a) c9)):DeB p aG tb a mb c0 c1 c2 c9 d n h' s B D:=by have q:=x.c.lt;refine⟨v,x.l.aw (g.f _ x.l.lt λm=>(b _ m).1 rfl),x.c.aw λi hi=>?_,x.o,x.t,x.k,x.r,x.u⟩;rcases hi with rfl|rfl|rfl|⟨κ,e⟩;exact g.f _ q.1 λm=>(b _ m).2.1 rfl;exact g.f _ q.2.1 λm=>(b _ m).2.2.1 rfl;exact g.f _ q.2.2 λm=>(b _ m).2.2.2.1 rfl;exact g.f _ ((x.c.a κ).2 _ e).2.lt λm=>(b _ m).2.2.2.2 κ e
def rD.Vv{b:Nat}{ds:List aC}(x:rD h b ds)(c:ds≠[]):yG h (slv b ds) ds:=by obtain⟨r,t,e,l,w⟩:=x;exact .inr ⟨c,b,t,_,_,r,rfl,e,l,w⟩
theorem alu(HT:aA T){L:SL}{aD it:Nat}(hL:∀q,eV L q=(B (0,q)).map λb=>slv b (D (0,q))) (C6:(cD L).Nodup):∀(m:Nat)(todo:List (List UInt8))(f:cN)(h:Hp)(I:Option AV)(l:Fr)(K:aT->Prop),todo.length=m->
 DeB p aG tb a mb c0 c1 c2 c9 f n h s B D->h.ac tb=.d (di L) aD->h.ac it=.c (.a .a) tb aD (todo.map S) I->todo.Nodup->(∀q∈todo,(eV L q).isSome=true)->
 cg 0 l=.a p 0->cg 208 l=.a it 0->fN l B D->(∀d h' u,cg 0 d=.a p 0->fN d B D->ah (λi=>i=p\/i=it) h h'->DeB p aG tb a mb c0 c1 c2 c9 u n h' s B D->((∀q,((D (0,q)).map (·.a)).Nodup)->u=f)->(u.e=0->f.e=0/\∀q∈todo,((D (0,q)).map (·.a)).Nodup)->K (.a 9 d h' []))->W T (.d l58_2) l h [] K:=by
 intro m
 induction m with
 |zero=>
  intro todo f h I l K Z x v F dB c f0 C fi O;obtain rfl:=avW.1 Z;rw[aP];refine aB C ?_;refine C1 F v (λ_=>?_) (λe r g=>absurd g.length_eq zm);refine ag ?_;refine O _ h f zA ?_ (ah.da _) x (λ_=>rfl) λe=>⟨e,λq o=>absurd o awg⟩;simp_all[fN]
 |succ m ih=>
  intro todo f h I l K Z x v F dB c f0 C fi O;rw[aP];refine aB C ?_;refine C1 F v (λe=>by grind) (λe r g=>?_);have he:e∈todo:=g.mem_iff.1 zm;have Bw:(e::r).Nodup:=g.nodup_iff.2 dB;obtain⟨Y,fX⟩:∃b,B (0,e)=some b:=by
   have:=c e he;cases q:B (0,e) with
   |none=>grind
   |some b=>grind
  have hv:eV L e=some (slv Y (D (0,e))):=by grind
  have l1:=Hp.lt v rfl;have l2:=Hp.lt F rfl;have zV:tb≠it:=by grind
  have hM:∀i,i=it->i≠aG/\i≠tb/\i≠a/\i≠mb/\∀κ,B κ≠some i:=by
   rintro i rfl;have y:∀j A G,h.ac j=.d A G->i≠j:=λj A G q e=>by grind
   refine⟨?_,?_,?_,?_,λκ q=>?_⟩;obtain⟨L,aD,q,_⟩:=x.l;grind;omega;obtain⟨A,G,w⟩:=x.c.mr 1 zm;exact y _ _ _ w;obtain⟨A,G,w⟩:=x.c.mr 2 zm;exact y _ _ _ w;obtain⟨r,t,w,_⟩:=((x.c.a κ).2 _ q).2
   grind
  have X:p≠it:=λq=>by have:=x.j;grind
  generalize N:h.bj it (.c (.a .a) tb aD (r.map S) (some (S e)))=H;have E:ah (·=it) h H:=by rw[<-N];exact ah.bj (M:=(·=it)) (ah.da _) _ (.inr rfl)
  have U:H.ac it=.c (.a .a) tb aD (r.map S) (some (S e)):=by rw[<-N];simp
  clear N;have R:H.ac tb=.d (di L) aD:=(E.f _ l1 zV).trans v;have z:DeB p aG tb a mb c0 c1 c2 c9 f n H s B D:=x.xv E hM ((E.f _ (Hp.lt x.j rfl) X).trans x.j);have en:=OC (h:=H) U R C6 hv;obtain⟨Fa,dX⟩:=(z.c.a (0,e)).2 Y fX;simp only[wm];refine aU C f0 en ?_;refine Vk HT (f:=f) z.j (dX.Vv Fa) (z.k (0,e)) λh2 f2 g2 P mC V=>?_;have pk:=z.pk;have x2:DeB p aG tb a mb c0 c1 c2 c9 f2 n h2 s B D:=z.xv g2 (λi q=>by grind) P;have mp:tb≠p:=λq=>zo;refine ag ?_;refine ih r f2 h2 (some (S e)) _ K ?_ x2 ((g2.f _ (Hp.lt R rfl) mp).trans R) ((g2.f _ (Hp.lt U rfl) (Ne.symm X)).trans U) (au6.1 Bw).2 (λq o=>c q (g.mem_iff.1 qaa)) zA zA ?_ λd h' u a0 a1 g' x' hn Q=>O d h' u a0 a1 ?_ x' (λhh=>(hn hh).trans (mC (hh e))) λJ=>⟨(V (Q J).1).1,λq o=>?_⟩;have:=g.length_eq;grind;simp_all[fN];exact((E.aw λ_ _ q=>.inr q).ab (g2.aw λ_ _ q=>.inl q)).ab g';rcases atZ.1 (g.mem_iff.2 o) with rfl|o;exact(V (Q J).1).2;exact(Q J).2 q o
theorem alv(HT:aA T){L:SL}{aD it:Nat}(hL:∀q,eV L q=(B (1,q)).map λb=>slv b (D (1,q))) (C6:(cD L).Nodup):∀(m:Nat)(todo:List (List UInt8))(f:cN)(h:Hp)(I:Option AV)(l:Fr)(K:aT->Prop),todo.length=m->
 DeB p aG tb a mb c0 c1 c2 c9 f n h s B D->h.ac a=.d (di L) aD->h.ac it=.c (.a .a) a aD (todo.map S) I->todo.Nodup->(∀q∈todo,(eV L q).isSome=true)->
 cg 0 l=.a p 0->cg 220 l=.a it 0->fN l B D->(∀d h' u,cg 0 d=.a p 0->fN d B D->ah (λi=>i=p\/i=it) h h'->DeB p aG tb a mb c0 c1 c2 c9 u n h' s B D->((∀q,((D (1,q)).map (·.a)).Nodup)->u=f)->(u.e=0->f.e=0/\∀q∈todo,((D (1,q)).map (·.a)).Nodup)->K (.a 11 d h' []))->W T (.d l58_1) l h [] K:=by
 intro m
 induction m with
 |zero=>
  intro todo f h I l K Z x v F dB c f0 C fi O;obtain rfl:=avW.1 Z;rw[aP];refine aB C ?_;refine C1 F v (λ_=>?_) (λe r g=>absurd g.length_eq zm);refine ag ?_;refine O _ h f zA ?_ (ah.da _) x (λ_=>rfl) λe=>⟨e,λq o=>absurd o awg⟩;simp_all[fN]
 |succ m ih=>
  intro todo f h I l K Z x v F dB c f0 C fi O;rw[aP];refine aB C ?_;refine C1 F v (λe=>by grind) (λe r g=>?_);have he:e∈todo:=g.mem_iff.1 zm;have Bw:(e::r).Nodup:=g.nodup_iff.2 dB;obtain⟨Y,fX⟩:∃b,B (1,e)=some b:=by
   have:=c e he;cases q:B (1,e) with
   |none=>grind
   |some b=>grind
  have hv:eV L e=some (slv Y (D (1,e))):=by grind
  have l1:=Hp.lt v rfl;have l2:=Hp.lt F rfl;have zV:a≠it:=by grind
  have hM:∀i,i=it->i≠aG/\i≠tb/\i≠a/\i≠mb/\∀κ,B κ≠some i:=by
   rintro i rfl;have y:∀j A G,h.ac j=.d A G->i≠j:=λj A G q e=>by grind
   refine⟨?_,?_,?_,?_,λκ q=>?_⟩;obtain⟨L,aD,q,_⟩:=x.l;grind;obtain⟨A,G,w⟩:=x.c.mr 0 zm;exact y _ _ _ w;omega;obtain⟨A,G,w⟩:=x.c.mr 2 zm;exact y _ _ _ w;obtain⟨r,t,w,_⟩:=((x.c.a κ).2 _ q).2
   grind
  have X:p≠it:=λq=>by have:=x.j;grind
  generalize N:h.bj it (.c (.a .a) a aD (r.map S) (some (S e)))=H;have E:ah (·=it) h H:=by rw[<-N];exact ah.bj (M:=(·=it)) (ah.da _) _ (.inr rfl)
  have U:H.ac it=.c (.a .a) a aD (r.map S) (some (S e)):=by rw[<-N];simp
  clear N;have R:H.ac a=.d (di L) aD:=(E.f _ l1 zV).trans v;have z:DeB p aG tb a mb c0 c1 c2 c9 f n H s B D:=x.xv E hM ((E.f _ (Hp.lt x.j rfl) X).trans x.j);have en:=OC (h:=H) U R C6 hv;obtain⟨Fa,dX⟩:=(z.c.a (1,e)).2 Y fX;simp only[wm];refine aU C f0 en ?_;refine Vk HT (f:=f) z.j (dX.Vv Fa) (z.k (1,e)) λh2 f2 g2 P mC V=>?_;have pk:=z.pk;have x2:DeB p aG tb a mb c0 c1 c2 c9 f2 n h2 s B D:=z.xv g2 (λi q=>by grind) P;have mp:a≠p:=λq=>zo;refine ag ?_;refine ih r f2 h2 (some (S e)) _ K ?_ x2 ((g2.f _ (Hp.lt R rfl) mp).trans R) ((g2.f _ (Hp.lt U rfl) (Ne.symm X)).trans U) (au6.1 Bw).2 (λq o=>c q (g.mem_iff.1 qaa)) zA zA ?_ λd h' u a0 a1 g' x' hn Q=>O d h' u a0 a1 ?_ x' (λhh=>(hn hh).trans (mC (hh e))) λJ=>⟨(V (Q J).1).1,λq o=>?_⟩;have:=g.length_eq;grind;simp_all[fN];exact((E.aw λ_ _ q=>.inr q).ab (g2.aw λ_ _ q=>.inl q)).ab g';rcases atZ.1 (g.mem_iff.2 o) with rfl|o;exact(V (Q J).1).2;exact(Q J).2 q o
end
def l9:jv:=⟨λ_=>[],[],[],λ_=>[]⟩
def ayH(aq:List (List UInt8))(bu:List UInt8->List aC)(d:aC):Prop:=∀a:Nat,d.c=a->uy (bu (aq.getD a [])) d.a=none
section
variable {k:aK->Prop}{aG g:Nat}{v:cN}{aq:List (List UInt8)}{s:jv}{B:Kk->Option Nat}{D:Kk->List aC}
def DeB.nO(x:DeB p aG tb g mb c0 c1 c2 c9 f n h s B D):Bu h tb s.a:=by
 obtain⟨L,m,q⟩:=x.c.d 0 zm;refine⟨L,m,λa=>?_⟩;rw[q,<-x.o a];cases hB:B (0,a) with
 |none=>exact .inl ⟨(x.c.a (0,a)).1 hB,rfl⟩
 |some b=>
  obtain⟨d,e⟩:=(x.c.a (0,a)).2 b hB;exact e.Vv d
theorem alw(HT:aA T)(pT:aq.length=n):∀(m i:Nat)(f:cN)(h:Hp)(w:Fr)(K:aT->Prop),m=s.c.length- i->i<=s.c.length->DeB p aG tb g mb c0 c1 c2 c9 f n h s B D->yb h c2 aq->
 cg 0 w=.a p 0->cg 228 w=kV (B (3,[])) (D (3,[]))->cg 229 w=.i s.c.length->cg 230 w=.i i->(∀v h' A,ah (·=p) h h'->DeB p aG tb g mb c0 c1 c2 c9 A n h' s B D->((∀j(E:j<s.c.length),i<=j->ayH aq s.a s.c[j])->A=f)->(A.e=0->f.e=0)->K (.a 13 v h' []))->W T (.d l58_0) w h [] K:=by
 intro m
 induction m with
 |zero=>
  intro i f h w K hm hi x hd f0 a c f230 hk;have e:¬i<s.c.length:=zo;rw[aP];exact aU c f230 e (hk _ h f (ah.da _) x (λ_=>rfl) id)
 |succ m ih=>
  intro i f h w K hm hi x hd f0 a c f230 hk;have L:i<s.c.length:=zo;have Lr:=x.t;have TY:=x.k (3,[]);obtain⟨b,hb⟩:∃b,B (3,[])=some b:=by
   cases q:B (3,[]) with
   |none=>
    have:=(x.c.a (3,[])).1 q
    grind
   |some b=>grind
  obtain⟨bg,r,t,GQ,hr,ht⟩:=(x.c.a (3,[])).2 b hb;rw[hb] at a;rw[Lr] at a hr TY;have H8:t i=s.c[i].ca:=by grind
  obtain⟨l,hjd,y⟩:=x.r s.c[i] (auy L);have hI:(∀j(E:j<s.c.length),i<=j->ayH aq s.a s.c[j])->ayH aq s.a s.c[i]:=λq=>q i L zl;generalize s.c[i]=d at H8 y hI;simp only[aC.ca,y] at H8;simp only[kV,slv] at a;have lb:=Hp.lt GQ rfl;have hp:=x.j;simp only[bS] at hp;have lp:=Hp.lt hp rfl;have OX:l<aq.length:=zo;have bC:=hd (Cq OX);have hd:=hd (Cq OX);obtain⟨M,Z,xw,dr,dt,rfl,kY,HW,vS⟩:=bC;have aEL:=vS l OX;have eY:(l:Int)<aq.length:=zo;have HX:=Hp.lt kY rfl;rw[aP];refine pU f0 a c f230 L GQ H8 hp kY aEL OX eY ?_;generalize hH:((h.am _).bj _ _:Hp)=H;have gH:ax h H:=by rw[<-hH];exact fZ
  have u1:H.ac h.a=.a 38 [.i d.b,S d.a,.i l,.i d.f,S d.g]:=by rw[<-hH];simp
  clear hH;have pk:=x.pk;have Y:DeB p aG tb g mb c0 c1 (.c M 0 1 aq.length Z xw) c9 f n H s B D:=x.xv gH (λ_ q=>q.elim) ((gH.f _ lp id).trans x.j);refine UI HT (p:=p) (tb:=tb) (bu:=s.a) Y.j Y.nO (by rw[<-x.o];exact x.k _) λC g2=>?_;have I:DeB p aG tb g mb c0 c1 (.c M 0 1 aq.length Z xw) c9 f n C s B D:=Y.xv g2 (λ_ q=>q.elim) ((g2.f _ (Hp.lt Y.j rfl) id).trans Y.j);have u2:=(g2.f _ (Hp.lt u1 rfl) id).trans u1;have lu2:=Hp.lt u2 rfl;have V:(∀j(E:j<s.c.length),i<=j->ayH aq s.a s.c[j])->uy (s.a aq[l]) d.a=none:=λq=>by
   have:=hI q l y
   grind
  generalize uy (s.a aq[l]) d.a=o at V⊢;have b8:∀(G:Fr)(U:Hp)(f3:cN),¬(∀j(E:j<s.c.length),i<=j->ayH aq s.a s.c[j])->(f3.e=0->f.e=0)->ah (·=p) h U->DeB p aG tb g mb c0 c1 (.c M 0 1 aq.length Z xw) c9 f3 n U s B D->cg 0 G=.a p 0->cg 228 G=kV (B (3,[])) (D (3,[]))->cg 229 G=.i s.c.length->cg 230 G=.i i->W T (.h (z q58 42)) G U [] (bF (W T (.d l58_0)) K):=by intro G U f3 nI z3 R J e0 O P Q;refine aS Q L ?_;exact ih (i+1) f3 U _ K zo zo J (λ_=>hd.aw R λq r t e m=>by grind) (au e0) (au O) (au P) aa λv h' A g' x' hh hz=>hk v h' A (R.ab g') x' (λe=>absurd e nI) λe=>z3 (hz e)
  have f228':cg 228 w=kV (B (3,[])) (D (3,[])):=by rw[hb,Lr];exact a
  generalize hN:CC.h (z q58 42)=N at b8⊢;cases o with
  |none=>
   simp[lA,Option.getD,Option.isSome,qG,aC.ca];refine aU u2 f230 L ?_;generalize X:((C.am _).bj _ _:Hp)=u;have F:ax C u:=by rw[<-X];exact fZ
   have J:=I.xv F (λ_ q=>q.elim) ((F.f _ (Hp.lt I.j rfl) id).trans I.j);have R:ah (·=p) h u:=ah.ka ((gH.ab g2).ab F);exact ih (i+1) f u _ K zo zo J (λ_=>hd.aw R λq r t e m=>by grind) zA zA zA aa λv h' A g' x' hh hz=>hk v h' A (R.ab g') x' (λe=>hh λj E DV=>e j E zo) hz
  |some e=>
   simp only[lA,Option.getD,Option.isSome,aC.ca];refine aS u2 f0 ?_;generalize X:(((C.am _).bj _ _).am _:Hp)=u;have F:ax C u:=by rw[<-X];exact fZ
   have HU:∃t,u.ac (C.a+1)=.b 38 5 2 0 t/\t 0=(⟨0,d.a,l,d.f,[]⟩:aC).ca/\t 1=(⟨0,d.a,e.c,e.f,[]⟩:aC).ca:=by refine⟨_,by rw[<-X];exact Hp.ba zm,?_,?_⟩<;>simp[aC.ca]
   obtain⟨t3,q1,q2,q3⟩:=HU;clear X;have J:DeB p aG tb g mb c0 c1 (.c M 0 1 aq.length Z xw) c9 f n u s B D:=I.xv F (λ_ q=>q.elim) ((F.f _ (Hp.lt I.j rfl) id).trans I.j);have alx:yG u (.c (C.a+1) 0 5 2 2 true) [⟨0,d.a,l,d.f,[]⟩,⟨0,d.a,e.c,e.f,[]⟩]:=by
    refine .inr ⟨by simp,_,t3,_,_,2,rfl,q1,by simp,λj E=>?_⟩;exact match j,E with
    |0,_=>q2
    |1,_=>q3
   refine Vk HT (f:=f) J.j alx zm λh4 f4 g4 m7 _ yj=>?_;have x4:DeB p aG tb g mb c0 c1 (.c M 0 1 aq.length Z xw) c9 f4 n h4 s B D:=J.xv g4 (λi q=>by subst q;exact pk) m7;refine ag ?_;exact b8 _ h4 f4 (λq=>by cases V q) (λe=>(yj e).1) ((ah.ka ((gH.ab g2).ab F)).ab g4) x4 zA zA zA zA
end
section
variable {k:aK->Prop}{aG:Nat}{m:cN}{aq:List (List UInt8)}{s:jv}{B:Kk->Option Nat}{D:Kk->List aC}
def DeB.g0(x:DeB p aG tb a mb c0 c1 c2 c9 f n h s B D)(g:ax h h'):DeB p aG tb a mb c0 c1 c2 c9 f n h' s B D:=
 x.xv g (λ_ q=>q.elim) ((g.f _ (Hp.lt x.j rfl) id).trans x.j)
def aly{o:Option Nat}{ds:List aC}{H:Hp}(c:o=none->ds=[]):tL 1 H (kV o ds)=.v (.i ds.length):=by
 cases o with
 |none=>rw[c rfl];rfl
 |some b=>rfl
def DF(p aG tb a:Nat)(h h':Hp):Prop:=gW (λi=>i=p\/i=aG\/i=tb\/i=a) h h'
theorem alz(u:aA T){fs:List Tree}(P:h.ac p=.a 67 (bS c0 c1 c2 f (.h aG) (.h tb) (.h a) c9))(dB:lX h aG [])(K3:iV h tb [])(OY:iV h a [])(bg:aG≠tb/\aG≠a/\tb≠a)
 (hd:yb h c2 aq) (Y:lC 0 h c1 fs) (pK:fs.length=aq.length) (nV:fs.length<4294967296) (mT:∀d∈aq,d.length<4294967296) (sm:pq fs) (BB:∀t∈fs,∀t'∈t.bv,yN t') (bz:(jG aq fs 0 l9).d.length<536870912)
 (hk:∀h' fl,DF p aG tb a h h'->h'.ac p=.a 67 (bS c0 c1 c2 fl (.h aG) (.h tb) (.h a) c9)->lX h' aG (jG aq fs 0 l9).d->Bu h' tb (jG aq fs 0 l9).a->(∀q,((jG aq fs 0 l9).a q).length<1073741824)->
  ((∀q,(((jG aq fs 0 l9).b (1,q)++(jG aq fs 0 l9).b (2,q)).map (·.a)).Nodup)->(∀d∈(jG aq fs 0 l9).c,ayH aq (jG aq fs 0 l9).a d)->(∀q,(((jG aq fs 0 l9).a q).map (·.a)).Nodup)->fl=f)->(fl.e=0->f.e=0/\∀q,(((jG aq fs 0 l9).a q).map (·.a)).Nodup)->k (.a (.p []) h')):aE T (W T) ⟨58⟩ [.a p 0] h k:=by
 rw[ic u.t58];have dj:=P;simp only[bS] at dj;have lp:=Hp.lt P rfl;have dW:=K3.lt;have lpb:=OY.lt;have OK:=dB.lt;generalize hL6:CC.d l58_6=L6;generalize Uj:CC.d l58_3=L3;generalize wQ:CC.d l58_2=L2;generalize jg:CC.d l58_1=L1;generalize pz:CC.d l58_0=L0;simp(disch:=omega) [dj,Y.px];have g1:ax h (h.am (.d [] 0)):=aZ;have x1:gj p aG tb a h.a c0 c1 c2 c9 f fs.length (h.am (.d [] 0)) l9 (λ_=>none) (λ_=>[]):=by
  refine⟨(g1.f _ lp id).trans P,dB.aw (g1.f _ OK id),⟨λc Y=>?_,λκ=>⟨λ_=>rfl,λb e=>by cases e⟩,λ_ _ _ e=>zm,⟨bg.2.2,by omega,by omega⟩⟩,λ_=>rfl,rfl,λ_=>⟨rfl,rfl⟩,λ_=>auz _,λd hd=>(by cases hd),⟨bg.1,bg.2.1,by omega⟩⟩
  match c,Y with
  |0,_=>exact⟨[],K3.aw (g1.f _ dW id),λ_=>rfl⟩
  |1,_=>exact⟨[],OY.aw (g1.f _ lpb id),λ_=>rfl⟩
  |2,_=>exact⟨[],iV.ph (Hp.ba rfl),λ_=>rfl⟩
 have iu:yb _ c2 aq:=λne=>(hd ne).aw (M:=λ_=>False) g1 λ_ _ _ _=>id;subst hL6;refine alp u (fs:=fs) pK rfl nV mT fs 0 l9 _ _ _ _ _ zo (λi hi=>by grind) x1 iu (Y.nf (mY g1)) sm BB bz aa aa aa aa aa qac λf2 X B2 D2 a0 a2 tv g2 x=>?_;have lN:yb X c2 aq:=λne=>x1.xr g2 (iu ne);obtain⟨L,⟨⟨aD,em⟩,C6⟩,hLq⟩:=x.a.d 2 zm;simp only[show(2:Nat)≠0 from by simp,show(2:Nat)≠1 from by simp,auM] at em;have lm:=Hp.lt em rfl;simp(disch:=omega) [a2,OD em];have G:ax X (X.am (.c (.a .a) h.a aD ((cD L).map S) none)):=aZ;have xP:=(x.b bz).g0 G;subst Uj;refine alq u (D0:=D2) (L:=L) (aD:=aD) (it:=X.a) (B2:=λq=>B2 (2,q)) (λκ=>auD (x.u κ) bz) hLq C6 _ (cD L) _ none B2 D2 _ _ rfl xP ((G.f _ lm id).trans em) (Hp.ba rfl) C6 (λq o=>?_) (λ_=>⟨rfl,rfl⟩) (λq=>?_) (au a0) aa (by simp_all[fN]) λf3 h3 B3 D3 b0 vP g3 x3 h13=>?_;cases hv:eV L q with
 |none=>grind [Br]
 |some v=>rfl
 by_cases o:q∈cD L
 grind
 have:B2 (2,q)=none:=by have:=Br.2 o;simp_all
 rw[atS o,(x.a.a (2,q)).1 this,av5];have kF:=x3.j;simp only[bS] at kF;have lp3:=Hp.lt kF rfl;obtain⟨LT,⟨⟨A,V⟩,K⟩,N⟩:=x3.c.d 0 zm;simp only[auo] at V;have lt3:=Hp.lt V rfl;simp(disch:=omega) [b0,kF,OD V];have H:ax h3 (h3.am (.c (.a .a) tb A ((cD LT).map S) none)):=aZ;have xQ:=x3.g0 H;have O:∀{L:SL},∀q∈cD L,(eV L q).isSome=true:=λ{L} q o=>by
  cases hv:eV L q with
  |none=>grind [Br]
  |some v=>rfl
 subst wQ;refine alu u (L:=LT) (aD:=A) (it:=h3.a) N K _ (cD LT) f _ none _ _ rfl xQ ((H.f _ lt3 id).trans V) (Hp.ba rfl) K O (au b0) aa (by simp_all[fN]) λf4 h4 fl4 F OM g4 y Ld yj=>?_;have m7:=y.j;simp only[bS] at m7;have lp4:=Hp.lt m7 rfl;obtain⟨LP,⟨⟨C,U⟩,J⟩,hPq⟩:=y.c.d 1 zm;simp only[show(1:Nat)≠0 from by simp,auM,auo] at U;have lt4:=Hp.lt U rfl;simp(disch:=omega) [F,m7,OD U];have I:ax h4 (h4.am (.c (.a .a) a C ((cD LP).map S) none)):=aZ;have xR:=y.g0 I;subst jg;refine alv u (L:=LP) (aD:=C) (it:=h4.a) hPq J _ (cD LP) fl4 _ none _ _ rfl xR ((I.f _ lt4 id).trans U) (Hp.ba rfl) J O (au F) aa (by simp_all[fN]) λf5 h5 fl5 d0' fi5 g5 x5 hf5 hz5=>?_;have E:=fi5;unfold fN at E;have hl5:tL 1 h5 (kV (B3 (3,[])) (D3 (3,[])))=.v (.i (jG aq fs 0 l9).c.length):=by rw[<-x5.t];exact aly (x5.c.a (3,[])).1
 refine aS E hl5 ?_;have pk:=x5.pk;have qF:DF p aG tb a h h5:=by
  refine⟨?_,λi hi Z g=>?_⟩;have:=g1.g;have:=g2.f;have:=G.g;have:=g3.f;have:=H.g;have:=g4.g;have:=I.g;have:=g5.g;omega
  have q1:=g1.g;have q2:=g2.f;have q3:=G.g;have q4:=g3.f;have q5:=H.g;have q6:=g4.g;have q7:=I.g
  simp only[aEi] at Z;have R:=g1.f i hi id;have e2:=(g2.d i zo (by rintro(r|r|r|r)<;>omega) (by rw[R];exact g)).trans R;have e3:=(G.f i zo id).trans e2;have e4:=(g3.d i zo (by rintro((r|r|r|r)|r)<;>omega) (by rw[e3];exact g)).trans e3;have e5:=(H.f i zo id).trans e4;have e6:=(g4.f i zo (by rintro(r|r)<;>omega)).trans e5;have e7:=(I.f i zo id).trans e6;exact(g5.f i zo (by rintro(r|r)<;>omega)).trans e7
 have Vw:yb h5 c2 aq:=λne=>by obtain⟨b,cap,ex,r,t,R,l,hw⟩:=hd ne;refine⟨b,cap,ex,r,t,R,?_,hw⟩;rw[qF.d b (Hp.lt l rfl) ?_ (by rw[l];rintro⟨_,_,q⟩;cases q)];exact l;rintro(rfl|rfl|rfl|rfl);rw[l] at P;cases P;obtain⟨L,aD,q,_⟩:=dB;rw[l] at q;cases q;obtain⟨⟨_,q⟩,_⟩:=K3;rw[l] at q;cases q;obtain⟨⟨_,q⟩,_⟩:=OY;rw[l] at q;cases q
 subst pz;refine alw u (aq:=aq) pK.symm _ 0 fl5 h5 _ _ rfl (auz _) x5 Vw (au d0') aa aa aa λf6 h6 fl6 g6 Q tA KC=>?_;refine ag ?_;refine hk h6 fl6 ⟨at1 qF.f g6.g,λi hi Z g=>?_⟩ Q.j Q.l Q.nO (λq=>by rw[<-Q.o];exact Q.k _) (λho HQ hn=>?_) λe=>?_;rw[g6.f i (aur hi qF.f) (λq=>Z (.inl q)),qF.d i hi Z g];rw[tA λj hj _=>HQ _ (auy hj),hf5 λq=>by rw[h13,(x.A q).1,(x.A q).2];exact ho q,Ld λq=>by rw[y.o];exact hn q];obtain⟨z,w⟩:=yj (hz5 (KC e)).1;refine⟨z,λq=>?_⟩;rw[<-y.o]
 by_cases o:q∈cD LT
 exact w q o;have h0:=Br.2 o;rw[N] at h0;rw[(y.c.a (0,q)).1 (by cases l:B3 (0,q) with|none=>rfl|some b=>rw[l] at h0;cases h0)];exact aEe
end
def Ls(fs:List Tree):List (List UInt8):=fs.flatMap λt=>t.bv.map (·.bc)
def H9(fs:List Tree)(Q:SL):Nat:=((Ls fs).filter λs=>decide (s∉cD Q)).length
structure oJ(h:Hp)(sb:Nat)(Q:SL):Prop where
 m:iV h sb Q
 v:∀s w,eV Q s=some w->w=.i 1
theorem alA{fs:List Tree}{Q b:SL}{x:List UInt8}(g:x∈Ls fs)(c:x∉cD Q)(d:x∈cD b)(e:∀s,s∈cD Q->s∈cD b):H9 fs b<H9 fs Q:=by
 unfold H9;have key:∀l:List (List UInt8),(l.filter λs=>decide (s∉cD b)).length<=(l.filter λs=>decide (s∉cD Q)).length/\(x∈l->(l.filter λs=>decide (s∉cD b)).length<(l.filter λs=>decide (s∉cD Q)).length):=by
  intro l
  induction l with
  |nil=>grind
  |cons a l h=>
   grind
 grind
section
variable {sb:Nat}{aq:List (List UInt8)}{to:List UInt8}
def ayM(fs:List Tree)(aq:List (List UInt8))(a to:List UInt8):Prop:=a=to\/∃i,∃(hi:i<fs.length),aq.getD i []=a/\∃t∈fs[i].bv,t.bi=2
def alB(T:aM->Option CF)(p sb:Nat)(c0 c1 c2 c6 c7 c8 c9:AV)(f:cN)(fs:List Tree)(aq:List (List UInt8))(to:List UInt8)(m:Nat):Prop:=
 ∀(Q:SL)(a:List UInt8)(h:Hp)(k:aK->Prop),H9 fs Q=m->a∈Ls fs->a∉cD Q->oJ h sb Q->h.ac p=.a 67 (bS c0 c1 c2 f c6 c7 c8 c9)->cY h c2 aq->lC 0 h c1 fs->
  (∀(b:Bool) h' c,ah (·=sb) h h'->oJ h' sb c->(∀s,s∈cD Q->s∈cD c)->(b=true->ayM fs aq a to)->k (.a (.d b) h'))->aE T (W T) ⟨57⟩ [.a p 0,S a,S to,.h sb] h k
def oJ.aw{h h':Hp}{sb:Nat}{Q:SL}(x:oJ h sb Q)(e:h'.ac sb=h.ac sb):oJ h' sb Q:=⟨x.m.aw e,x.v⟩
theorem oJ.ne{h:Hp}{Q:SL}(x:oJ h sb Q){i el l}(e:h.ac i=.a el l):i≠sb:=by
 rintro rfl;obtain⟨⟨_,q⟩,_⟩:=x.m
 grind
theorem oJ.nr{h:Hp}{Q:SL}(x:oJ h sb Q){i el rw r z t}(e:h.ac i=.b el rw r z t):i≠sb:=by
 rintro rfl;obtain⟨⟨_,q⟩,_⟩:=x.m
 grind
def oJ.nf{h h':Hp}{Q:SL}(x:oJ h sb Q)(g:ah (·=sb) h h'):NF 0 h h':=λi r ff _ e=>by rw[g.f i (Hp.lt e rfl) (x.nr e)];omega
def oJ.xr{h h':Hp}{Q:SL}{v ws}(x:oJ h sb Q)(g:ah (·=sb) h h')(y:cY h v ws):cY h' v ws:=y.aw g λi r t e m=>x.nr e m
theorem alC(HT:aA T)(pK:fs.length=aq.length)(nV:fs.length<4294967296)(CY:∀t∈fs,t.bv.length<4294967296):∀m,alB T p sb c0 c1 c2 c6 c7 c8 c9 f fs aq to m:=by
 intro m
 induction m using Nat.strongRecOn with
 |_ m ih=>
 intro Q x h k hm alD OZ sq hp hd hc hk;rw[ic HT.t57]
 by_cases e0:x=to
 exact aB e0 (hk true h Q (ah.da _) sq (λ_ h=>h) λ_=>.inl e0);have lsb:=sq.m.lt;have lp:=Hp.lt hp rfl;have alE:aEx (.a .a) h (.i 0) (.h sb) (S x) false=.v (.i 0):=by rw[sq.m.rg,Br.2 OZ];rfl
 obtain⟨o,eo,fo⟩:=sq.m.sf (s:=x) (v:=.i 1);have psb:=sq.ne hp;have g1:ah (·=sb) h (h.bj sb o):=ah.bj (M:=(·=sb)) (ah.da _) _ (.inr rfl);have sq1:oJ (h.bj sb o) sb (mA Q x (.i 1)):=⟨fo _ (Hp.dq rfl),λs w hw=>by
  rw[Bq] at hw;split at hw
  grind
  exact sq.v _ _ hw⟩
 have y:(h.bj sb o).ac p=_:=(g1.f _ lp psb).trans hp;have Y:=sq.xr g1 hd;have V:=hc.nf (sq.nf g1);have Vx:∀s,s∈cD Q->s∈cD (mA Q x (.i 1)):=λs B=>by simp_all[OA]
 have alF:x∈cD (mA Q x (.i 1)):=by simp_all[OA]
 have C7:=y;simp only[bS] at C7;generalize hL:CC.d l57_1=L;simp(disch:=omega) [e0,alE,eo,C7,V.px];subst hL;have U':∀(ts:List Tree)(j i n':Nat)(kv:AV)(c:SL)(a:Hp)(d:Fr)(K:aT->Prop),(I:j<aq.length)->i+ts.length=n'->n'<4294967296->(∀t∈ts,t.bc∈Ls fs/\(aq[j]=x->t.bi=2->ayM fs aq x to))->(ts≠[]->∃b cap ex r ff,kv=.c b 0 6 n' cap ex/\a.ac b=.b 72 6 r 0 ff/\n'<=r/\∀q,(hq:q<ts.length)->ay 0 a ts[q] (ff (i+q)))->
  oJ a sb c->(∀s,s∈cD Q->s∈cD c)->x∈cD c->a.ac p=.a 67 (bS c0 c1 c2 f c6 c7 c8 c9)->cY a c2 aq->lC 0 a c1 fs->
  cg 0 d=.a p 0->cg 1 d=S x->cg 2 d=S to->cg 3 d=.h sb->cg 9 d=.i j->cg 31 d=kv->cg 32 d=.i n'->cg 33 d=.i i->
  (∀l h' g,(∀q,q<=7\/20<=q/\q<=25->cg q l=cg q d)->ah (·=sb) a h'->oJ h' sb g->(∀s,s∈cD c->s∈cD g)->K (.a 2 l h' []))->(∀l h' g,ah (·=sb) a h'->oJ h' sb g->(∀s,s∈cD c->s∈cD g)->cg 8 l=.d true->ayM fs aq x to->K (.b l h' []))->W T (.d l57_0) d a [] K:=by
  intro ts
  induction ts with
  |nil=>
   intro j i n' kv c a d K I hi gE hU O C E Aw y Y V f0 f1 f2 f3 f9 f31 f32 f33 k1 k2;subst hi;rw[aP];refine aU f31 f32 f33 ?_;exact k1 _ _ c (λq hq=>by repeat rw[qA,atS zo]) (ah.da _) C λ_ h=>h
  |cons t ts Vy=>
   intro j i n' kv c a d K I hi gE hU O C E Aw y Y V f0 f1 f2 f3 f9 f31 f32 f33 k1 k2;obtain⟨b,cap,ex,r,ff,rfl,O,hr,iW⟩:=O zm;simp only[atX] at hi;have J:i<n':=zo;have aY:(i:Int)<n':=zo;have eJ:=iW 0 zm;simp only[aus,aud] at eJ;obtain⟨kv,jE,D⟩:=eJ.fx;have lb:=Hp.lt O rfl;have C7:=y;simp only[bS] at C7;have Vz:=Hp.lt y rfl;have alG:=Y;obtain⟨db,xu,xw,dr,dt,rfl,kY,HW,vS⟩:=alG;have aEL:=vS j I;have eY:(j:Int)<aq.length:=zo;have HX:=Hp.lt kY rfl;have nx:∀(bJ:Fr)(F:Hp)(P:SL),(∀q,q<=7\/q=9\/20<=q/\q<=25\/31<=q/\q<=33->cg q bJ=cg q d)->ah (·=sb) a F->oJ F sb P->(∀s,s∈cD c->s∈cD P)->W T (.h (z q57 12)) bJ F [] (bF (W T (.d l57_0)) K):=by
    intro bJ F P A g2 s2 G;have e33:=(A 33 zo).trans f33;have nf:=C.nf g2;refine aS e33 J ?_;refine Vy j (i+1) n' _ P F _ K I zo gE (λt ht=>hU t qaa) (λ_=>⟨b,cap,ex,r,ff,rfl,nf _ _ _ (auz _) O,hr,λq hq=>?_⟩) s2 (λs B=>G s (E s B)) (G _ Aw) ((g2.f _ Vz (C.ne y)).trans y) (C.xr g2 Y) (V.nf nf) (au ((A 0 zo).trans f0)) (au ((A 1 zo).trans f1)) (au ((A 2 zo).trans f2)) (au ((A 3 zo).trans f3)) (au ((A 9 zo).trans f9)) (au ((A 31 zo).trans f31)) (au ((A 32 zo).trans f32)) aa (λl h' g BD U X R=>k1 l h' g (λq hq=>?_) (g2.ab U) X λs B=>R s (G s B)) (λl h' g U X R e8 e9=>k2 l h' g (g2.ab U) X (λs B=>R s (G s B)) e8 e9);have:=iW (q+1) qaa;simp[auu,show i+(q+1)=i+1+q by omega] at this;exact this.nf nf zl
    ·rw[BD q hq]
     repeat rw[qA,atS zo]
     grind
   generalize hN:CC.h (z q57 12)=N at nx;have n:ax a ((a.am (.a 72 [.i 0,.i 0,.i 0,.i 0,S [],.o])).bj a.a (.a 72 [.i t.bi,.i t.gl,.i t.to,.i t.at,S t.bc,kv])):=fZ;have Z:=C.aw (n.f _ C.m.lt id);have GS:∀q,q<=7\/q=9\/20<=q/\q<=25\/31<=q/\q<=33->True:=λ_ _=>trivial;rw[aP];show W T azP d a [] _;unfold azP zt;rw[hN]
   by_cases c1:aq[j]=x
   ·by_cases c2:t.bi=2
    ·by_cases c3:t.bc∈cD c
     ·have fC:aEx (.a .a) ((a.am (.a 72 [.i 0,.i 0,.i 0,.i 0,S [],.o])).bj a.a (.a 72 [.i t.bi,.i t.gl,.i t.to,.i t.at,S t.bc,kv])) (.i 0) (.h sb) (S t.bc) false=.v (.i 1):=by
       rw[Z.m.rg];cases q:eV c t.bc with
       |none=>grind [Br]
       |some w=>rw[C.v _ _ q];rfl
      rw[c2] at fC;refine kC f0 f1 f2 f3 f9 f31 f32 f33 J aY O jE (atQ (atQ (atQ (atQ (atQ (atQ (atQ (atQ D.lh C7) kY) aEL) I) eY) c1) c2) fC) ?_;rw[c2] at n Z;exact nx _ _ c (λq hq=>by repeat rw[qA,atS zo]) (ah.ka n) Z λ_ h=>h
     ·have fC:aEx (.a .a) ((a.am (.a 72 [.i 0,.i 0,.i 0,.i 0,S [],.o])).bj a.a (.a 72 [.i t.bi,.i t.gl,.i t.to,.i t.at,S t.bc,kv])) (.i 0) (.h sb) (S t.bc) false=.v (.i 0):=by rw[Z.m.rg,Br.2 c3];rfl
      rw[c2] at fC;refine kC f0 f1 f2 f3 f9 f31 f32 f33 J aY O jE (atQ (atQ (atQ (atQ (atQ (atQ (atQ (atQ D.lh C7) kY) aEL) I) eY) c1) c2) fC) ?_;rw[c2] at n Z;have xU:=(hU t zm).1;refine ih (H9 fs c) (by rw[<-hm];exact alA alD OZ Aw E) c t.bc _ _ rfl xU c3 Z ((n.f _ Vz id).trans y) (Y.aw (M:=λ_=>False) n λ_ _ _ _=>id) (V.nf (mY n)) λbb F P g2 s2 G _=>?_;have u:ah (·=sb) a F:=(ah.ka n).ab g2;cases bb with
      |true=>
       refine ag ?_;exact k2 _ F P u s2 G aa ((hU t zm).2 c1 c2)
      |false=>
       refine ag ?_;exact nx _ F P (λq hq=>by repeat rw[qA,atS zo]) u s2 G
    ·refine kC f0 f1 f2 f3 f9 f31 f32 f33 J aY O jE (atQ (atQ (atQ (atQ (atQ (atQ (atQ D.lh C7) kY) aEL) I) eY) c1) c2) ?_;exact nx _ _ c (λq hq=>by repeat rw[qA,atS zo]) (ah.ka n) Z λ_ h=>h
   ·refine kC f0 f1 f2 f3 f9 f31 f32 f33 J aY O jE (atQ (atQ (atQ (atQ (atQ (atQ D.lh C7) kY) aEL) I) eY) c1) ?_;exact nx _ _ c (λq hq=>by repeat rw[qA,atS zo]) (ah.ka n) Z λ_ h=>h
 have Lc:∀(ts:List Tree)(j:Nat)(c:SL)(a:Hp)(d:Fr)(K:aT->Prop),j+ts.length=fs.length->(∀i(hi:i<ts.length),fs[j+i]? =some ts[i])->oJ a sb c->(∀s,s∈cD Q->s∈cD c)->x∈cD c->a.ac p=.a 67 (bS c0 c1 c2 f c6 c7 c8 c9)->cY a c2 aq->lC 0 a c1 fs->
  cg 0 d=.a p 0->cg 1 d=S x->cg 2 d=S to->cg 3 d=.h sb->cg 23 d=c1->cg 24 d=.i fs.length->cg 25 d=.i j->
  (∀l h' g,ah (·=sb) a h'->oJ h' sb g->(∀s,s∈cD c->s∈cD g)->K (.a 0 l h' []))->(∀l h' g,ah (·=sb) a h'->oJ h' sb g->(∀s,s∈cD c->s∈cD g)->cg 8 l=.d true->ayM fs aq x to->K (.b l h' []))->W T (.d l57_1) d a [] K:=by
  intro ts
  induction ts with
  |nil=>
   intro j c a d K I jh C E Aw y Y V f0 f1 f2 f3 f23 f24 f25 k1 k2;simp only[aup,aud] at I;subst I;rw[aP];refine aU f23 f24 f25 ?_;exact k1 _ _ c (ah.da _) C λ_ h=>h
  |cons t ts Vy=>
   intro j c a d K I jh C E Aw y Y V f0 f1 f2 f3 f23 f24 f25 k1 k2;simp only[atX] at I;have J:j<fs.length:=zo;have aY:(j:Int)<fs.length:=zo;have jd:j<aq.length:=zo;have et:fs[j]=t:=by have:=jh 0 zm;simp only[aud,atT J,aus] at this;exact auQ this
   have tm:t∈fs:=by rw[<-et];exact auy J
   obtain⟨b,cap,ex,r,ff,rfl,O,hr,iW⟩:=V.pj (by rintro rfl;simp at J);have eJ:=iW j J;simp only[aue,et] at eJ;obtain⟨kv,jE,D⟩:=eJ.fx;have lb:=Hp.lt O rfl;have jr:j<r:=zo;generalize hL:CC.d l57_0=L;rw[aP];simp(disch:=omega) [f23,f24,f25,aY,O,jE,D.px];generalize hH:((a.am _).bj _ _:Hp)=H;have n:ax a H:=by rw[<-hH];exact fZ
   clear hH;have Z:=C.aw (n.f _ C.m.lt id);have HZ:=D.nf (mY n);have hcH:=V.nf (mY n);subst hL;refine U' t.bv j 0 t.bv.length kv c H _ _ jd zo (CY t tm) (λt' jL=>⟨List.mem_flatMap.2 ⟨t,tm,auR.2 ⟨t',jL,rfl⟩⟩,λe k=>.inr ⟨j,J,e▸(by simp[List.getD,jd]),t',by rw[et];exact jL,k⟩⟩) HZ.pj Z E Aw ((n.f _ (Hp.lt y rfl) id).trans y) (Y.aw (M:=λ_=>False) n λ_ _ _ _=>id) hcH zA zA zA zA aa aa aa aa (λl F P A g2 s2 G=>?_) (λl F P g2 s2 G e8 e9=>?_);have e0:=A 0 zo;have e1:=A 1 zo;have e2:=A 2 zo;have e3:=A 3 zo;have e23:=A 23 zo;have e24:=A 24 zo;have e25:=A 25 zo
   simp(disch:=omega) [f0,f1,f2,f3,f23,f24,f25] at e0 e1 e2 e3 e23 e24 e25;have u:ah (·=sb) a F:=(ah.ka n).ab g2;refine aS e25 J ?_;refine Vy (j+1) P F _ K zo (λi hi=>?_) s2 (λs B=>G s (E s B)) (G _ Aw) ((u.f _ (Hp.lt y rfl) (C.ne y)).trans y) (C.xr u Y) (V.nf (C.nf u)) (au e0) (au e1) (au e2) (au e3) (au e23) (au e24) aa (λl h' g U X R=>k1 l h' g (u.ab U) X λs B=>R s (G s B)) (λl h' g U X R e8 e9=>k2 l h' g (u.ab U) X (λs B=>R s (G s B)) e8 e9);have:=jh (i+1) zn;simp only[auu] at this;rw[show j+1+i=j+(i+1) by omega];exact this;refine ag ?_;exact k2 _ F P ((ah.ka n).ab g2) s2 G e8 e9
 refine Lc fs 0 _ _ _ _ zo (λi hi=>by simp[hi]) sq1 Vx alF y Y V aa aa aa aa aa aa aa (λl h' g U X R=>?_) (λl h' g U X R e8 e9=>?_);refine ag ?_;exact hk false h' g (g1.ab U) X (λs B=>R s (Vx s B)) λe=>by cases e
 refine aB e8 ?_;exact hk true h' g (g1.ab U) X (λs B=>R s (Vx s B)) λ_=>e9
end
section
variable {aq:List (List UInt8)}
structure uF(h:Hp)(wb:Nat)(Q:SL):Prop where
 m:iV h wb Q
 v:∀s w,eV Q s=some w->∃c:Int,w=.i c
def uF.aw{h h':Hp}{wb:Nat}{Q:SL}(x:uF h wb Q)(e:h'.ac wb=h.ac wb):uF h' wb Q:=⟨x.m.aw e,x.v⟩
def uF.rg{h:Hp}{wb:Nat}{Q:SL}(x:uF h wb Q){s:List UInt8}:∃c:Int,aEx (.a .a) h (.i 0) (.h wb) (S s) false=.v (.i c)/\(eV Q s).getD (.i 0)=.i c:=by
 rw[x.m.rg];cases a:eV Q s with
 |none=>simp
 |some w=>obtain⟨c,rfl⟩:=x.v _ _ a;simp
theorem uF.kw{h:Hp}{wb:Nat}{Q:SL}(x:uF h wb Q){s:List UInt8}{c:Int}:∃o,wk (.a .a) h (.h wb) (S s) (.i c)=.b undef (h.bj wb o)/\∀h':Hp,h'.ac wb=o->uF h' wb (mA Q s (.i c)):=by
 obtain⟨o,d,f⟩:=x.m.sf (s:=s) (v:=.i c);refine⟨o,d,λh' e=>⟨f h' e,λa w b=>?_⟩⟩;rw[Bq] at b;split at b
 grind
 exact x.v _ _ b
structure oK(p:Nat)(c0 c1 c2 c6 c7 c8 c9:AV)(fs:List Tree)(aq:List (List UInt8))(f:cN)(h:Hp):Prop where
 a:h.ac p=.a 67 (bS c0 c1 c2 f c6 c7 c8 c9)
 b:yb h c2 aq
 c:lC 0 h c1 fs
def oK.aw{f d:cN}{h h':Hp}{M:Nat->Prop}(x:oK p c0 c1 c2 c6 c7 c8 c9 fs aq f h)(g:ah M h h')(j:∀i,M i->∀el rw r z t,h.ac i≠.b el rw r z t) (k:h'.ac p=.a 67 (bS c0 c1 c2 d c6 c7 c8 c9)):oK p c0 c1 c2 c6 c7 c8 c9 fs aq d h':=
 ⟨k,λne=>(x.b ne).aw g λi r t e m=>j i m _ _ _ _ _ e,x.c.nf (λi r ff _ e=>by rw[g.f i (Hp.lt e rfl) λm=>j i m _ _ _ _ _ e];omega)⟩
def oK.g0{f:cN}{h h':Hp}(x:oK p c0 c1 c2 c6 c7 c8 c9 fs aq f h)(g:ax h h'):oK p c0 c1 c2 c6 c7 c8 c9 fs aq f h':=x.aw g (λ_ m=>m.elim) ((g.f _ (Hp.lt x.a rfl) id).trans x.a)
def aym(fs:List Tree)(aq:List (List UInt8))(j:Nat):List Tree->Prop
 |[]=>True
 |t::ts=>if t.bi=2 then t.bc∈aq/\¬ayM fs aq t.bc (aq.getD j [])/\∀u∈ts,u.bi≠2 else aym fs aq j ts
theorem alH(X:aA T)(pK:fs.length=aq.length)(nV:fs.length<4294967296)(CY:∀t∈fs,t.bv.length<4294967296) {j n' wb:Nat} (U:j<aq.length) (gE:n'<4294967296):∀(ts:List Tree)(i:Nat)(kv:AV)(Q:SL)(f:cN)(h:Hp)(g:Fr)(K:aT->Prop),i+ts.length=n'->(∀t∈ts,t.bc∈Ls fs)->
 (ts≠[]->∃b cap ex r ff,kv=.c b 0 6 n' cap ex/\h.ac b=.b 72 6 r 0 ff/\n'<=r/\∀q,(k:q<ts.length)->ay 0 h ts[q] (ff (i+q)))->oK p c0 c1 c2 c6 c7 c8 c9 fs aq f h->uF h wb Q->
 cg 0 g=.a p 0->cg 2 g=.i j->cg 4 g=.h wb->cg 36 g=kv->cg 37 g=.i n'->cg 38 g=.i i->
 (∀f' h' fl,(∀q,q<=2\/7<=q/\q<=12->cg q f'=cg q g)->ah (λi=>i=p\/i=wb) h h'->oK p c0 c1 c2 c6 c7 c8 c9 fs aq fl h'->((∀t∈ts,t.bi≠2)\/Q=[]/\aym fs aq j ts->fl=f)->K (.a 2 f' h' []))->W T (.d l23_0) g h [] K:=by
 intro ts
 induction ts with
 |nil=>
  intro i kv Q f h g K hi hU L x w f0 I f4 f36 f37 f38 hk;subst hi;rw[aP];refine aU f36 f37 f38 ?_;exact hk _ _ f (λq k=>by repeat rw[qA,atS zo]) (ah.da _) x λ_=>rfl
 |cons t ts ih=>
  intro i kv Q f h g K hi hU L x w f0 I f4 f36 f37 f38 hk;obtain⟨b,cap,ex,r,ff,rfl,L,hr,iW⟩:=L zm;simp only[atX] at hi;have ao:i<n':=zo;have aY:(i:Int)<n':=zo;have eJ:=iW 0 zm;simp only[aus,aud] at eJ;obtain⟨kv,jE,hkv⟩:=eJ.fx;have lb:=Hp.lt L rfl;have VA:p≠wb:=by rintro rfl;obtain⟨⟨_,q⟩,_⟩:=w.m;rw[x.a] at q;grind
  have hMr:∀(R:Hp)(f1:cN)(Q1:SL),oK p c0 c1 c2 c6 c7 c8 c9 fs aq f1 R->uF R wb Q1->∀i,(i=p\/i=wb)->∀el rw r z t,R.ac i≠.b el rw r z t:=by
   rintro R f1 Q1 x1 w1 i (rfl|rfl) el rw r z t e;rw[x1.a] at e;grind;obtain⟨⟨_,q⟩,_⟩:=w1.m
   grind
  have nx:∀(C:Fr)(a:Hp)(l:SL)(v:cN),(∀q,q<=2\/q=4\/7<=q/\q<=12\/36<=q/\q<=38->cg q C=cg q g)->ah (λi=>i=p\/i=wb) h a->oK p c0 c1 c2 c6 c7 c8 c9 fs aq v a->uF a wb l->(t.bi≠2->v=f/\l=Q)/\(t.bi=2->Q=[]->aym fs aq j (t::ts)->v=f)->W T (.h (z q23 17)) C a [] (bF (W T (.d l23_0)) K):=by
   intro C a l v y g2 F w2 mC;have e38:=(y 38 zo).trans f38;have nf:NF 0 h a:=λi r ff _ e=>by rw[g2.f i (Hp.lt e rfl) λm=>hMr h f Q x w i m _ _ _ _ _ e];omega
   refine aS e38 ao ?_;refine ih (i+1) _ l v a _ K zo (λt ht=>hU t qaa) (λ_=>⟨b,cap,ex,r,ff,rfl,nf _ _ _ (auz _) L,hr,λq k=>?_⟩) F w2 (au ((y 0 zo).trans f0)) (au ((y 2 zo).trans I)) (au ((y 4 zo).trans f4)) (au ((y 36 zo).trans f36)) (au ((y 37 zo).trans f37)) aa λf' h' fl BD g' x' nV=>hk f' h' fl (λq k=>?_) (g2.ab g') x' λhh=>?_;have:=iW (q+1) qaa;simp[auu,show i+(q+1)=i+1+q by omega] at this;exact this.nf nf zl
   ·rw[BD q k]
    repeat rw[qA,atS zo]
    exact y q zo
   by_cases d:t.bi=2
   rcases hh with hh|⟨q,hh⟩;exact absurd d (hh t zm);have e:=mC.2 d q hh;unfold aym at hh;rw[atV d] at hh;exact(nV (.inl hh.2.2)).trans e;obtain⟨e1,P⟩:=mC.1 d;refine(nV ?_).trans e1;rcases hh with hh|⟨q,hh⟩;exact .inl λu hu=>hh u (by simp[hu]);unfold aym at hh;rw[atS d] at hh;exact .inr ⟨P.trans q,hh⟩
  generalize hN:CC.h (z q23 17)=N at nx;generalize OQ:aAW=R4;rw[aP];show W T azO g h [] _;unfold azO zt;rw[hN,OQ];have G:ax h ((h.am (.a 72 [.i 0,.i 0,.i 0,.i 0,S [],.o])).bj h.a (.a 72 [.i t.bi,.i t.gl,.i t.to,.i t.at,S t.bc,kv])):=fZ
  by_cases d:t.bi=2
  ·have hU0:=hU t zm;have xA:=x.g0 G;have wA:=w.aw (G.f _ w.m.lt id);have u1:((h.am (.a 72 [.i 0,.i 0,.i 0,.i 0,S [],.o])).bj h.a (.a 72 [.i t.bi,.i t.gl,.i t.to,.i t.at,S t.bc,kv])).ac h.a=.a 72 [.i t.bi,.i t.gl,.i t.to,.i t.at,S t.bc,kv]:=Hp.dq rfl;rw[d] at G xA wA u1;have CJ:∀(C:Fr)(a:Hp)(l:SL)(E:cN),(∀q,q<=2\/q=4\/7<=q/\q<=12\/36<=q/\q<=38->cg q C=cg q g)->cg 6 C=.a h.a 0->ah (λi=>i=p\/i=wb) h a->a.ac h.a=.a 72 [.i 2,.i t.gl,.i t.to,.i t.at,S t.bc,kv]->oK p c0 c1 c2 c6 c7 c8 c9 fs aq E a->uF a wb l->(Q=[]->E=f)->
    W T R4 C a [] (bY 3 (bF (W T N) (bF (W T (.d l23_0)) K))):=by
    intro C a l E y f6 g2 un F w2 aCM;have O:=(y 0 zo).trans f0;have P:=(y 2 zo).trans I;subst OQ;have A:=F.a;simp only[bS] at A;have yM:=Hp.lt A rfl;have lu:=Hp.lt un rfl;refine cC O P f6 A un ?_;refine Ek X (F.b (Cq U)) zo ?_;have ER:∀(uk:Fr),(∀q,q<=2\/q=4\/7<=q/\q<=12\/36<=q/\q<=38->cg q uk=cg q C)->(∀q,q<=2\/q=4\/7<=q/\q<=12\/36<=q/\q<=38->cg q uk=cg q g):=λuk R q k=>(R q k).trans (y q k);have Z:∀(e:Int)(B:Hp)(Q3:SL)(Ia:cN)(n:Hp),ah (λi=>i=p\/i=wb) h B->oK p c0 c1 c2 c6 c7 c8 c9 fs aq Ia B->uF B wb Q3->ah (·=p) B n->n.ac p=.a 67 (bS c0 c1 c2 (Bp Ia ⟨j,t.at,e⟩) c6 c7 c8 c9)->ah (λi=>i=p\/i=wb) h n/\oK p c0 c1 c2 c6 c7 c8 c9 fs aq (Bp Ia ⟨j,t.at,e⟩) n/\uF n wb Q3:=by intro e B Q3 Ia n g3 V w3 J m7;exact⟨g3.ab (J.aw λ_ _ q=>.inl q),V.aw J (λi q=>by subst q;exact λ_ _ _ _ _ e=>by rw[V.a] at e;cases e) m7,w3.aw (J.f _ w3.m.lt (Ne.symm VA))⟩
    by_cases c3:t.bc∈aq
    ·have lN:=F.b (Cq U);obtain⟨db,xu,xw,dr,dt,VB,kY,HW,vS⟩:=lN;have aEL:=vS j U;have eY:(j:Int)<aq.length:=zo;have HX:=Hp.lt kY rfl;rw[VB] at A;refine nA c3 O P f6 A un kY aEL U eY ?_;have gM:ax a (a.am (.d [] 0)):=aZ;have xM:=F.g0 gM;refine alC X (sb:=a.a) (fs:=fs) (aq:=aq) (f:=E) (c0:=c0) (c1:=c1) (c2:=c2) (c6:=c6) (c7:=c7) (c8:=c8) (c9:=c9) pK nV CY (H9 fs []) [] t.bc _ _ rfl hU0 (by simp[cD]) ⟨iV.ph (Hp.ba rfl),λs w hw=>by cases hw⟩ xM.a (xM.b (Cq U)) xM.c λbb B Q3 g3 s3 _ rT=>?_;have D:ax a B:=ah.na gM g3 λi hi=>by subst hi;exact at2 _
     have V:=F.g0 D;have w3:=w2.aw (D.f _ w2.m.lt id);have g03:ah (λi=>i=p\/i=wb) h B:=g2.ab (ah.ka D);have un3:=(D.f _ lu id).trans un;cases bb with
     |false=>
      refine ag ?_;exact nx _ B l E (ER _ λq k=>by repeat rw[qA,atS zo]) g03 V w3 ⟨λe=>absurd d e,λ_ q _=>aCM q⟩
     |true=>
      refine bK O P f6 un3 ?_;refine ES X (x:=⟨j,t.at,16⟩) (f:=E) V.a λn J m7=>?_;obtain⟨a1,a2,a3⟩:=Z 16 B l E n g03 V w3 J m7;refine ag ?_;exact nx _ n l _ (ER _ λq k=>by repeat rw[qA,atS zo]) a1 a2 a3 ⟨λe=>absurd d e,λ_ _ b=>by unfold aym at b;rw[atV d,show aq.getD j []=aq[j] by simp[List.getD,U]] at b;exact absurd (rT rfl) b.2.1⟩
    ·refine cC c3 O P f6 un ?_;refine ES X (x:=⟨j,t.at,12⟩) (f:=E) F.a λn J m7=>?_;obtain⟨a1,a2,a3⟩:=Z 12 a l E n g2 F w2 J m7;refine ag ?_;exact nx _ n l _ (ER _ λq k=>by repeat rw[qA,atS zo]) a1 a2 a3 ⟨λe=>absurd d e,λ_ _ b=>by unfold aym at b;rw[atV d] at b;exact absurd b.1 c3⟩
   generalize hH:((h.am (.a 72 [.i 0,.i 0,.i 0,.i 0,S [],.o])).bj h.a (.a 72 [.i 2,.i t.gl,.i t.to,.i t.at,S t.bc,kv]):Hp)=H at G xA wA u1;obtain⟨c,hc,hcv⟩:=wA.rg (s:=t.bc);obtain⟨o,eo,fo⟩:=wA.kw (s:=t.bc) (c:=w64 (c+1));have w5:=fo (H.bj wb o) (Hp.dq rfl);obtain⟨c5,VD,Y⟩:=w5.rg (s:=t.bc);rw[Bq,atV rfl] at Y;have h15:Q=[]->¬1<c5:=λq=>by
    subst q;have O:c=0:=by cases hcv;rfl
    subst O;cases Y;decide
   have g5:ah (λi=>i=p\/i=wb) h (H.bj wb o):=ah.bj (ah.ka G) _ (.inr (.inr rfl));have u5:(H.bj wb o).ac h.a=.a 72 [.i 2,.i t.gl,.i t.to,.i t.at,S t.bc,kv]:=by rw[Hp.du (by have:=w.m.lt;omega)];exact u1
   have x5:oK p c0 c1 c2 c6 c7 c8 c9 fs aq f (H.bj wb o):=xA.aw (M:=(·=wb)) (ah.bj (M:=(·=wb)) (ah.da _) _ (.inr rfl)) (λi q=>hMr H f Q xA wA i (.inr q)) (by rw[Hp.du VA];exact xA.a);have lu1:=Hp.lt u1 rfl;have lu5:=Hp.lt u5 rfl;refine kC f0 I f4 f36 f37 f38 ao aY L jE hkv.lh d (atQ (atQ (atQ (atQ hH hc) eo) VD) u1) ?_
   by_cases c6:1<c5
   ·refine cC c6 f0 I u5 VD ?_;refine ES X (x:=⟨j,t.at,13⟩) (f:=f) x5.a λh6 g6 hp6=>?_;refine ag ?_;exact CJ _ h6 _ _ (λq k=>by repeat rw[qA,atS zo]) aa (g5.ab (g6.aw λ_ _ q=>.inl q)) ((g6.f _ lu5 (by have:=Hp.lt x.a rfl;omega)).trans u5) (x5.aw g6 (λi q=>by subst q;exact λ_ _ _ _ _ e=>by rw[x5.a] at e;cases e) hp6) (w5.aw (g6.f _ w5.m.lt (Ne.symm VA))) λq=>absurd c6 (h15 q)
   ·refine cC c6 f0 I u5 VD ?_;exact CJ _ (H.bj wb o) _ f (λq k=>by repeat rw[qA,atS zo]) aa g5 u5 x5 w5 λ_=>rfl
  ·refine pU f0 I f4 f36 f37 f38 ao aY L jE hkv.lh d ?_;exact nx _ _ Q f (λq k=>by repeat rw[qA,atS zo]) (ah.ka G) (x.g0 G) (w.aw (G.f _ w.m.lt id)) ⟨λ_=>⟨rfl,rfl⟩,λe=>absurd e d⟩
end
section
variable {k:aK->Prop}{aq:List (List UInt8)}
theorem alI(Z:aA T)(pK:fs.length=aq.length)(Q:fs.length<4294967296)(CY:∀t∈fs,t.bv.length<4294967296) (x:oK p c0 c1 c2 c6 c7 c8 c9 fs aq f h)
 (N:∀h' g,ah (·=p) h h'->oK p c0 c1 c2 c6 c7 c8 c9 fs aq g h'->((∀j(M:j<fs.length),fs[j].bc=aq.getD j [])->(∀j(M:j<fs.length),aym fs aq j fs[j].bv)->g=f)->k (.a (.p []) h')):aE T (W T) ⟨23⟩ [.a p 0] h k:=by
 rw[ic Z.t23];have dj:=x.a;simp only[bS] at dj;have lp:=Hp.lt dj rfl;have key:∀(ts:List Tree)(j:Nat)(f:cN)(a:Hp)(m:Fr)(K:aT->Prop),j+ts.length=fs.length->(∀i(hi:i<ts.length),fs[j+i]? =some ts[i])->oK p c0 c1 c2 c6 c7 c8 c9 fs aq f a->cg 0 m=.a p 0->cg 10 m=c1->cg 11 m=.i fs.length->cg 12 m=.i j->
  (∀E h' g,ah (·=p) a h'->oK p c0 c1 c2 c6 c7 c8 c9 fs aq g h'->((∀i(hi:i<ts.length),ts[i].bc=aq.getD (j+i) [])->(∀i(hi:i<ts.length),aym fs aq (j+i) ts[i].bv)->g=f)->K (.a 0 E h' []))->W T (.d l23_1) m a [] K:=by
  intro ts
  induction ts with
  |nil=>
   intro j f a m K M jh o f0 f10 f11 f12 N;subst M;rw[aP];exact aU f10 f11 f12 (N _ _ f (ah.da _) o λ_ _=>rfl)
  |cons t ts ih=>
   intro j f a m K M jh o f0 f10 f11 f12 N;simp only[atX] at M;have R:j<fs.length:=zo;have aY:(j:Int)<fs.length:=zo;have P:j<aq.length:=zo;have C:(j:Int)<aq.length:=zo;have et:fs[j]=t:=by
    have:=jh 0 zm
    grind
   have tm:t∈fs:=by grind
   obtain⟨b,cap,ex,r,ff,rfl,hb,hr,iW⟩:=o.c.pj qaa;have eJ:=iW j R;simp only[aue,et] at eJ;obtain⟨kv,jE,n⟩:=eJ.fx;have lb:=Hp.lt hb rfl;have jr:j<r:=zo;have F:=o.a;simp only[bS] at F;have Vz:=Hp.lt F rfl;have iu:=o.b (Cq P);obtain⟨db,xu,xw,dr,dt,VB,kY,HW,vS⟩:=iu;have B:=vS j P;have HX:=Hp.lt kY rfl;rw[VB] at F;have ed:aq.getD j []=aq[j]:=by grind
   generalize hL:CC.d l23_0=L;generalize J:azd=R5;have I:∀(l:Fr)(d:Hp)(Y:cN),ah (·=p) a d->oK p c0 (.c b 0 6 fs.length cap ex) c2 c6 c7 c8 c9 fs aq Y d->d.ac a.a=.a 72 [.i t.bi,.i t.gl,.i t.to,.i t.at,S t.bc,kv]->lC 0 d kv t.bv->cg 0 l=.a p 0->cg 2 l=.i j->cg 3 l=.a a.a 0->cg 10 l=.c b 0 6 fs.length cap ex->cg 11 l=.i fs.length->cg 12 l=.i j->(t.bc=aq[j]->Y=f)->
    W T R5 l d [] (bY 1 (bF (W T (.h (z q23 18))) (bF (W T (.d l23_1)) K))):=by
    intro l d Y g2 x2 un wW e0 e2 e3 e10 e11 e12 mC;subst J;unfold azd zt;have lu:=Hp.lt un rfl;have H:ax d (d.am (.d [] 0)):=aZ;have xM:=x2.g0 H;have O:=wW.nf (mY H);simp(maxSteps:=400000) (disch:=first|exact bh|fail) [e3,un,O.px];subst hL;refine alH Z pK Q CY (j:=j) (n':=t.bv.length) (wb:=d.a) P (CY t tm) t.bv 0 kv [] Y _ _ _ zo (λt' jL=>List.mem_flatMap.2 ⟨t,tm,auR.2 ⟨t',jL,rfl⟩⟩) O.pj xM ⟨iV.ph (Hp.ba rfl),λs w hw=>by cases hw⟩ (au e0) (au e2) aa aa aa aa λE h3 Ia V g3 x3 alJ=>?_;have a0:=V 0 zo;have v:=V 10 zo;have y:=V 11 zo;have A:=V 12 zo
    simp(maxSteps:=400000) (disch:=first|exact bh|fail) [e0,e10,e11,e12] at a0 v y A;have g13:ah (·=p) a h3:=⟨at1 g2.g (at1 H.g g3.g),λi hi hm=>by have hm:=hm;rw[g3.f i (by have:=H.g;omega) zo,H.f i zo id,g2.f i hi hm]⟩
    refine aS A R ?_;refine ih (j+1) Ia h3 _ K zo (λi hi=>?_) x3 (au a0) (au v) (au y) aa λE h' g g' x' Q=>N E h' g (g13.ab g') x' λhn hi=>?_;have:=jh (i+1) qaa
    grind
    have n0:=hn 0 zm;simp only[aus,aud,ed] at n0;rw[Q (λi dD=>by have:=hn (i+1) qaa;grind) λi dD=>(by have:=hi (i+1) qaa;grind),alJ (.inr ⟨rfl,hi 0 zm⟩),mC n0]
   rw[aP];show W T ((CC.h (z q23 1)).g ((CC.i (CX.t 13) CC.k (CC.n 0)).g ((CC.j 1 ((CC.h (z q23 2)).g (((CC.f r23_3).g (CC.i (CX.t 26) (CC.f r23_4) CC.k)).g (CC.g (.h (z q23 5)) (.g (.h (z q23 6)) (.j 2 (.d l23_0))))))).g (CC.h (z q23 18))))) m a [] _;have D:=J;unfold azd zt at D;rw[D];have G:ax a ((a.am (.a 72 [.i 0,.i 0,.i 0,.i 0,S [],.o])).bj a.a (.a 72 [.i t.bi,.i t.gl,.i t.to,.i t.at,S t.bc,kv])):=fZ;have u:=o.g0 G;have X:((a.am (.a 72 [.i 0,.i 0,.i 0,.i 0,S [],.o])).bj a.a (.a 72 [.i t.bi,.i t.gl,.i t.to,.i t.at,S t.bc,kv])).ac a.a=.a 72 [.i t.bi,.i t.gl,.i t.to,.i t.at,S t.bc,kv]:=Hp.dq rfl;have HZ:=n.nf (mY G)
   by_cases c:t.bc=aq[j]
   refine kC f0 f10 f11 f12 R aY hb jE n.lh F kY B (atQ (atQ P C) c) ?_;rw[c] at G u X;exact I _ _ f (ah.ka G) u (by rw[c];exact X) (HZ.nf (by rw[c];exact NF.da _)) zA aa aa zA zA zA λ_=>rfl;refine kC f0 f10 f11 f12 R aY hb jE n.lh F kY B (atQ (atQ P C) c) ?_;refine ES Z (x:=⟨j,t.at,9⟩) (f:=f) u.a λh6 U hp6=>?_;have x6:=u.aw U (λi q=>by subst q;exact λ_ _ _ _ _ e=>by rw[u.a] at e;cases e) hp6;refine ag ?_;exact I _ h6 _ ((ah.ka G).ab U) x6 ((U.f _ (Hp.lt X rfl) zo).trans X) (HZ.nf (λi r ff _ e=>by rw[U.f i (Hp.lt e rfl) λq=>by rw[q,u.a] at e;cases e];exact e)) zA aa aa zA zA zA λe=>absurd e c
 generalize hL:CC.d l23_1=L;simp(disch:=omega) [dj,x.c.px];subst hL;refine key fs 0 f h _ _ zo (λi hi=>by simp[hi]) x aa aa aa aa λE h' g g' x' Q=>?_;refine ag ?_;exact N h' g g' x' λa d=>Q (λi hi=>by simpa using a i hi) λi hi=>by simpa using d i hi
end
structure Doc where
 b:List UInt8
 a:List UInt8
 c:Int
def Doc.ca(d:Doc):List AV:=[S d.b,S d.a,.i d.c]
def tC(o:AO)(r:Nat)(t:N3 (List AV)):Prop:=(∃fz,o=.b 51 3 r fz t)\/o=.g 3 r t
def vV(h:Hp)(v:AV)(ds:List Doc):Prop:=
 ds=[]/\v=.o\/∃b cap ex r t,v=.c b 0 3 ds.length cap ex/\tC (h.ac b) r t/\ds.length<=r/\∀j,(a:j<ds.length)->t j=ds[j].ca
def Ax(T:aM->Option CF)(h:Hp):Prop:=22<=h.a/\∀h':Hp,h.a<=h'.a->(∀i,i<22->h'.ac i=h.ac i)->Cz T h'/\CA T h'/\KG T h'/\KP T h'/\lO (h'.ac 1)
section
variable {k:aK->Prop}{ds:List Doc}
theorem Ax.aw{M:Nat->Prop}(x:Ax T h)(g:ah M h h')(b:∀i,M i->22<=i):Ax T h':=by refine⟨at1 x.1 g.g,λa l e=>x.2 a (at1 g.g l) λi hi=>?_⟩;rw[e i hi,g.f i (by have:=x.1;omega) λm=>by grind]
def Ax.Ib(x:Ax T h):Cz T h/\CA T h/\KG T h/\KP T h/\lO (h.ac 1):=x.2 h zl λ_ _=>rfl
def tC.lt{r:Nat}{t:N3 (List AV)}{b:Nat}(x:tC (h.ac b) r t):b<h.a:=by rcases x with⟨fz,e⟩|e<;>exact Hp.lt e rfl
def tC.ld{r:Nat}{t:N3 (List AV)}{b j:Nat}{d:Doc}(x:tC (h.ac b) r t)(c:j<r)(f:t j=d.ca):cellsOf (h.ac b) (j*3) 3=some d.ca:=by have a:j+1<=r:=c;rcases x with⟨fz,e⟩|e<;>rw[e]<;>simp[cellsOf,dY,a,f,Doc.ca,gK,aEC,cond]
def tC.ld0{r:Nat}{t:N3 (List AV)}{b j:Nat}{d:Doc}(x:tC (h.ac b) r t)(c:j<r)(f:t j=d.ca):cellsOf (h.ac b) (j*3) 1=some [S d.b]:=by have a:j+1<=r:=c;rcases x with⟨fz,e⟩|e<;>rw[e]<;>simp[cellsOf,dY,a,f,Doc.ca,gK,aEC,cond]
def tC.yV{r:Nat}{t:N3 (List AV)}{b j:Nat}{d:Doc}(x:tC (h.ac b) r t)(g:j<r)(i:t j=d.ca):cellsOf (h.ac b) (j*3+1) 1=some [S d.a]:=by have a:j+1<=r:=g;have c:(j*3+1)% 3=1:=zo;have f:(j*3+1)/3=j:=zo;rcases x with⟨fz,e⟩|e<;>rw[e]<;>simp[cellsOf,dY,c,f,a,i,Doc.ca,gK,aEC,cond]
def vV.aw{M:Nat->Prop}(x:vV h v ds)(g:ah M h h')(f:∀i,M i->∃el l,h.ac i=.a el l):vV h' v ds:=by rcases x with x|⟨b,cap,ex,r,t,c,a,d⟩;exact .inl x;refine .inr ⟨b,cap,ex,r,t,c,?_,d⟩;rw[g.f b a.lt λm=>?_];omega;obtain⟨el,l,e⟩:=f _ m;rw[e] at a;rcases a with⟨_,a⟩|a<;>cases a
def vV.px(x:vV h v ds){H:Hp}:tL 1 H v=.v (.i ds.length):=by rcases x with⟨rfl,rfl⟩|⟨b,cap,ex,r,t,rfl,_⟩<;>rfl
theorem acC{el rw r n fz:Nat}{f:N3 (List AV)}(b:0<rw)(a:n<=r):kZ (.b el rw r fz f) 0 rw n=some (aEt f n 0):=by simp only[kZ,tZ,Ef,Ee,vp,axN,axO,aue,ny,a,auS,avl,cond]
def alK{b cap ex r n:Nat}{Lt:Bool}{t:N3 (List AV)}(a:tC (h.ac b) r t)(c:n<=r):rL h 3 (.c b 0 3 n cap Lt)=some (aEt t n 0):=by rcases a with⟨fz,a⟩|a<;>simp only[rL,a,wo]<;>exact acC zm c
theorem acD{el rw b cap ex r fz n:Nat}{Lt:Bool}{f:N3 (List AV)}(a:0<rw)(c:h.ac b=.b el rw r fz f)(d:n<=r):rL h rw (.c b 0 rw n cap Lt)=some (aEt f n 0):=by grind [rL,wo,acC]
theorem alL(p:aA T)(hd:vV h v ds)(A:ds.length<1073741824)(f:∀h' c,ax h h'->vV h' c ds->bQ c=some [c]->k (.a c h')):aE T (W T) ⟨18⟩ [v] h k:=by
 rw[ic p.t18];rcases hd with⟨rfl,rfl⟩|⟨q,cap,ex,r,t,rfl,w,x,B⟩;simp(disch:=omega) [cJ];exact f _ _ aZ (.inl ⟨rfl,rfl⟩) rfl;have z:=w.lt;simp(disch:=omega) [cJ];generalize l:(h.am _:Hp)=H;have a:∃t,H.ac h.a=.b 51 3 0 0 t:=⟨_,by rw[<-l];exact Hp.ba rfl⟩;have e:ax h H:=by rw[<-l];exact aZ
 obtain⟨t1,a⟩:=a;have o:tC (H.ac q) r t:=by rw[e.f _ z id];omega
 have g:=alK (h:=H) (b:=q) (cap:=cap) (ex:=0) (Lt:=ex) (n:=ds.length) o x
 by_cases h0:ds.length=0
 rw[h0] at g;have d:=NK (h:=H) (el:=51) (rw:=3) (bytes:=40) (len:=0) (b:=h.a) (cap:=0) (ex:=true) (y:=.c q 0 3 0 cap ex) g rfl;rw[h0,d];refine ag ?_;exact f _ _ e (.inr ⟨h.a,0,true,0,t1,by grind,.inl ⟨0,a⟩,by omega,λj m=>by omega⟩) rfl;obtain⟨n,u⟩:∃n,ds.length=n+1:=⟨ds.length- 1,by omega⟩;have d:=G2 (h:=H) (el:=51) (rw:=3) (bytes:=40) (n:=n) (i:=h.a) (len:=0) (vh:=0) (t:=t1) zm a zl g (by simp[lenOf,u]) (rV zo zo);rw[d];refine ag ?_;refine f _ _ (e.am _) (.inr ⟨H.a,n+1,false,n+1,jy fG 0 ([]++aEt t ds.length 0),by grind,?_,by omega,λj m=>?_⟩) rfl;rw[Hp.ba rfl,jJ];exact .inl ⟨0,rfl⟩;have s:j<(aEt t ds.length 0).length:=by grind [oZ]
 rw[au5,wO s];have:=vw t ds.length 0 j m
 grind
def uG(lo:Nat)(h:Hp)(v:AV)(ws:List (List UInt8)):Prop:=
 ws=[]/\v=.o\/ws≠[]/\∃q r t,lo<=q/\v=.c q 0 1 ws.length ws.length false/\h.ac q=.b 9 1 r 0 t/\ws.length<=r/\∀j,(a:j<ws.length)->t j=[S ws[j]]
def uG.xn{lo:Nat}{M:Nat->Prop}{ws}(x:uG lo h v ws)(g:ah M h h')(d:∀i,M i->∀r t,h.ac i≠.b 9 1 r 0 t):uG lo h' v ws:=by rcases x with x|⟨x,q,r,t,e,b,a,c⟩;exact .inl x;exact .inr ⟨x,q,r,t,e,b,by rw[g.f q (Hp.lt a rfl) λm=>d _ m _ _ a];omega,c⟩
def uG.fx{lo:Nat}{ws}(x:uG lo h v ws):bQ v=some [v]:=by rcases x with⟨_,rfl⟩|⟨_,q,r,t,_,rfl,_⟩<;>rfl
theorem uG.va{lo:Nat}{ws:List (List UInt8)}{w:List UInt8}{M:Nat->Prop}{hB:Hp}(x:uG lo h v ws)(G:ws.length<1073741824)(g:ah M hB h)(F:hB.a<=lo)(D:lo<=h.a){t1:N3 (List AV)}(p:t1 0=[S w]){a:Hp}(u:a=h.am (.b 9 1 1 0 t1)):
 ∃o b,kJ a 9 1 16 v (.c h.a 0 1 1 1 true)=.b o b/\uG lo b o (ws++[w])/\ah M hB b/\h.a<b.a/\∀i,i<h.a->(∀r t,h.ac i≠.b 9 1 r 0 t)->b.ac i=h.ac i:=by
 have C:a.ac h.a=.b 9 1 1 0 t1:=by simp_all
 have J:a.a=h.a+1:=by simp_all
 have g1:ax h a:=by rw[u];exact aZ
 have f:=wN (h:=a) (rw:=1) (cap:=1) (ex:=true) C zl;rw[p] at f;rcases x with⟨rfl,rfl⟩|⟨E,q,r,t,I,rfl,m,z,A⟩;have d:=A7 (h:=a) (el:=9) (rw:=1) (bytes:=16) (n:=0) (y:=.c h.a 0 1 1 1 true) f rfl qac;refine⟨_,_,d,.inr ⟨by simp,a.a,1,cx fG 0 [S w],by omega,rfl,by simp,by simp,λj l=>?_⟩,(g.ab (ah.ka g1)).am _,by simp;omega,λi hi _=>?_⟩;obtain rfl:j=0:=by grind
 simp
 grind [Hp.io]
 have s:=Hp.lt m rfl;have B:=(g1.f _ s id).trans m;have d:=A8 (h:=a) (el:=9) (rw:=1) (bytes:=16) (n:=0) (i:=q) (len:=ws.length) (vh:=r) (t:=t) (y:=.c h.a 0 1 1 1 true) B z f rfl (rV zo zo);refine⟨_,_,d,.inr ⟨by simp,a.a,ws.length+1,cx t ws.length [S w],by omega,by simp,?_,by simp,λj l=>?_⟩,?_,?_,λi hi H=>?_⟩;have e:(a.bj q .f).a=a.a:=Hp.jp zo;simp_all;simp at l
 by_cases c:j=ws.length
 simp_all;rw[ava zo,dZ,atS c,A j zo];exact((g.ab (ah.ka g1)).bj _ (.inl zo)).am _
 grind [Hp.dC,Hp.jp]
 grind [Hp.jp,Hp.io,Hp.du]
end
section
variable {g:List Doc}
theorem uG.xr{lo:Nat}{h:Hp}{v:AV}{ws:List (List UInt8)}(x:uG lo h v ws)(d:ws≠[]):∃q r t,lo<=q/\v=.c q 0 1 ws.length ws.length false/\h.ac q=.b 9 1 r 0 t:=by
 rcases x with⟨rfl,_⟩|⟨_,q,r,t,a,b,c,_⟩
 grind
 grind
def ayN(s p:List UInt8):Int:=match qo .c [S s,S p] with|.v (.i r)=>r|_=>0
def aCN(a:aA T){h:Hp}{k:aK->Prop}{s p:List UInt8}(b:k (.a (.i (ayN s p)) h)):aE T (W T) ⟨20⟩ [S s,S p] h k:=by rw[ic a.t20];refine ag ?_;rw[ic a.t50];have e:qo .c [S s,S p]=.v (.i (ayN s p)):=rfl;simp_all
def azr(g:List Doc):Prop:=∃m,∃(a:m+1<g.length),0<=ayN (g[m]'(Nat.lt_of_succ_lt a)).b g[m+1].b
theorem alM(HT:aA T)(hd:vV hB v g)(hl:g.length<1073741824)(hu:∀d∈g,d.b.length<1073741824) (hg:Ax T hB) (E:hB.ac fb=.a 28 [.i 0,.i 0,.i 0]) (p19:22<=p) (hfp:fb≠p) (O0:∃el l,hB.ac p=.a el l):∀(n j:Nat)(ws:List (List UInt8))(c2:AV)(k:Hp)(o:Fr)(K:aT->Prop),j+n=g.length->ws.length=j->
 (∀i(hi:i<j)(dD:i<g.length),rZ g[i].b=some (ws.getD i []))->ah (·=p) hB k->uG hB.a k c2 ws->k.ac p=.a 67 (bS c0 c1 c2 f c6 c7 c8 c9)->cg 0 o=v->cg 3 o=.a fb 0->cg 4 o=.a p 0->cg 23 o=v->cg 24 o=.i g.length->cg 25 o=.i j->
 (∀s h',cg 2 s=.w->cg 3 s=.a fb 0->h'.ac fb=.a 28 [.i 0,.i 0,.i 2]->ah (λi=>i=p\/i=fb) hB h'->(azr g\/∃d∈g,rZ d.b=none)->K (.b s h' []))->
 (∀s h' D P,cg 0 s=v->cg 3 s=.a fb 0->cg 4 s=.a p 0->ah (·=p) hB h'->uG hB.a h' D P->P.length=g.length->(∀i(hi:i<g.length),rZ g[i].b=some (P.getD i []))->h'.ac p=.a 67 (bS c0 c1 D f c6 c7 c8 c9)->K (.a 0 s h' []))->
 W T (.d l6_2) o k [] K:=by
 intro n
 induction n with
 |zero=>
  intro j ws c2 k o K hj hw og g1 hs M f0 f3 f4 f23 f24 f25 O hk;subst hj;rw[aP];refine aU f23 f24 f25 ?_;exact hk _ _ c2 ws zA zA zA g1 hs hw (λi hi=>og i hi hi) M
 |succ n ih=>
  intro j ws c2 k o K hj hw og g1 hs M f0 f3 f4 f23 f24 f25 O hk;have C:j<g.length:=zo;have aY:(j:Int)<g.length:=zo;have wI:=g1.g;have J7:=hg.aw g1 (λi m=>by omega);have lp:=Hp.lt M rfl;have lfb:=Hp.lt E rfl;have Q:=(g1.f _ lfb hfp).trans E;have dj:=M;simp only[bS] at dj;have iu:=hd.aw g1 (λi m=>by grind);obtain⟨b,cap,ex,r,t,rfl,hb,hr,ht⟩:∃b cap ex r t,v=.c b 0 3 g.length cap ex/\tC (k.ac b) r t/\g.length<=r/\∀j,(hj:j<g.length)->t j=g[j].ca:=by
   rcases iu with⟨rfl,_⟩|x
   grind
   omega
  have lb:=hb.lt;have jr:j<r:=zo;have jH:=ht j C;have Ic:=hb.ld jr jH;rw[aP];generalize hL:CC.d l6_2=L;generalize hD6:Qz=D6;refine nA f0 f3 f4 f23 f24 f25 C aY Ic Doc.ca.eq_1 ?_;have l1:(g[j]).b.length<1073741824:=hu _ (auy C);generalize J:(((k.am _).bj _ _):Hp)=H;have u1:H.ac k.a=.a 51 [S g[j].b,S g[j].a,.i g[j].c]:=by rw[<-J];simp
  have gH:ax k H:=by rw[<-J];exact aZ
  have nH:H.a=k.a+1:=by rw[<-J];simp
  clear J;refine ajN HT l1 (J7.aw gH (λ_ m=>m.elim)).Ib.2.2.2.2 λG g2=>?_;have h:=gH.ab g2;have n2:=g2.g;have u2:=(g2.f _ zo id).trans u1;have A:=(h.f _ lp id).trans dj;have fX:tC (G.ac b) r t:=by rw[h.f _ lb id];omega
  have mC:=(h.f _ zo id).trans Q;have w:∀(a:Fr)(I:Hp),ah (·=p) hB I->I.ac fb=.a 28 [.i 0,.i 0,.i 0]->cg 3 a=.a fb 0->(azr g\/∃d∈g,rZ d.b=none)->cg 53 a=.d true->W T (CC.i (CX.t 53) ((CC.h (z q6 7)).g CC.m) CC.k) a I [] (bF (W T (CC.h (z q6 8))) (bY 1 (bF (W T (CC.h (z q6 9))) (bF (W T L) K)))):=by intro a I S8 u F Ie y;refine aU y F u ?_;exact O _ _ aa (au F) aa ((S8.aw λ_ _ q=>.inl q).bj _ (.inr (.inr rfl))) Ie
  have eT:∀(d:List UInt8)(a:Fr),rZ g[j].b=some d->cg 0 a=.c b 0 3 g.length cap ex->cg 3 a=.a fb 0->cg 4 a=.a p 0->cg 7 a=S d->cg 23 a=.c b 0 3 g.length cap ex->cg 24 a=.i g.length->cg 25 a=.i j->cg 53 a=.d false->W T (CC.i (CX.t 53) ((CC.h (z q6 7)).g CC.m) CC.k) a G [] (bF (W T (CC.h (z q6 8))) (bY 1 (bF (W T (CC.h (z q6 9))) (bF (W T L) K)))):=by
   intro d a B e0 F e4 e7 V X Y y;have yM:=Hp.lt A rfl;have mX:=hs.xn h (λ_ m=>m.elim);have Ig:=g1.ab (ah.ka h);refine bK y e4 A e7 ?_;generalize Ae:(G.am _:Hp)=H1;obtain⟨t1,E4,VH⟩:∃t1:N3 (List AV),t1 0=[S d]/\H1=G.am (.b 9 1 1 0 t1):=⟨_,by simp,Ae.symm⟩;obtain⟨v',H',ea,fW,g',lt',R⟩:=mX.va zo Ig zl Ig.g E4 VH;have lB:=(R _ yM (λ_ _ q=>by grind)).trans A;have lpH:=Hp.lt lB rfl;rw[ea];refine bK lB fW.fx Y C ?_;subst hL;generalize oF:(H'.bj p _:Hp)=N;have u3:N.ac p=.a 67 [c0,c1,v',.i f.b,.i f.a,.i f.e,c6,c7,c8,c9]:=by rw[<-oF];simp
   have g3:ah (·=p) H' N:=by rw[<-oF];exact ah.bj (ah.da _) _ (.inr rfl)
   clear oF;have hs3:=fW.xn g3 (λi m r t q=>by grind);refine ih (j+1) (ws++[d]) v' N _ K zo qaa (λi hi dD=>?_) (g'.ab g3) hs3 u3 (au e0) (au F) (au e4) (au V) (au X) aa O hk
   by_cases c:i=j
   grind
   rw[og i zo dD];simp[List.getD,List.getElem?_append,show i<ws.length by omega]
  unfold Qz zt;generalize Z:CC.i (CX.t 53) ((CC.h (z q6 7)).g CC.m) CC.k=Cb;rw[Z] at w eT;generalize ju:CC.f r6_6=Dr;cases B:rZ g[j].b with
  |none=>
   refine aB B ?_;subst ju;rw[lI,mu];simp only[ku,GX];simp;exact w _ _ (g1.ab (ah.ka h)) mC zA (.inr ⟨_,auy C,B⟩) aa
  |some d=>
   refine aB B ?_;subst ju;rw[lI,mu];simp only[ku,GX]
   by_cases j0:j=0
   subst j0;simp;exact eT d _ B zA zA zA aa zA zA zA aa;obtain⟨m,hm⟩:∃m,j=m+1:=⟨j- 1,by omega⟩;have j1:0<j:=zo;have ej:(j:Int)- 1=m:=zo;have nW:m<g.length:=zo;have Hg:(m:Int)<g.length:=zo;have yl:m<r:=zo;have htm:=ht m nW;have U:=fX.ld0 yl htm;refine iR j1 ej f0 Hg U u2 Doc.ca.eq_1 ?_;refine aCN HT ?_;have eo:0<=ayN g[m].b g[j].b->azr g:=λq=>⟨m,by omega,by
    have e:g[m+1]'zo=g[j]:=by simp[hm]
    rw[e];exact q⟩
   generalize ayN g[m].b g[j].b=c at eo⊢;refine ag ?_
   by_cases c0:0<=c
   exact w _ _ (g1.ab (ah.ka h)) mC zA (.inl (eo c0)) (au c0);exact eT d _ B zA zA zA aa zA zA zA (au c0)
end
def uI(lo p:Nat)(h:Hp)(v:AV)(ts:List Tree):Prop:=
 ts=[]/\v=.o\/ts≠[]/\∃q r t,lo<=q/\v=.c q 0 6 ts.length ts.length false/\h.ac q=.b 72 6 r 0 t/\ts.length<=r/\∀j,(b:j<ts.length)->∃a,a.a<=q/\ah (·=p) a h/\ay 0 a ts[j] (t j)/\∀r t,a.ac p≠.b 72 6 r 0 t
section
variable {lo:Nat}{ts:List Tree}{t:Tree}
theorem uI.xn(x:uI lo p h v ts)(g:ah (·=p) h h')(u:∀r t,h.ac p≠.b 72 6 r 0 t):uI lo p h' v ts:=by rcases x with x|⟨x,q,r,f,s,e,i,k,l⟩;exact .inl x;refine .inr ⟨x,q,r,f,s,e,?_,k,λj o=>?_⟩;rw[g.f q (Hp.lt i rfl) λm=>by grind];omega;obtain⟨n,a,b,c,d⟩:=l j o;exact⟨n,a,b.ab g,c,d⟩
def uI.fx(x:uI lo p h v ts):bQ v=some [v]:=by rcases x with⟨_,rfl⟩|⟨_,q,r,t,_,rfl,_⟩<;>rfl
def uI.px(x:uI lo p h v ts){H:Hp}:tL 1 H v=.v (.i ts.length):=by rcases x with⟨rfl,rfl⟩|⟨_,q,r,t,_,rfl,_⟩<;>rfl
theorem nfp(g:ah (·=p) h h')(a:∀r t,h.ac p≠.b 72 6 r 0 t):NF 0 h h':=λi r f _ e=>by rw[g.f i (Hp.lt e rfl) λm=>by grind];omega
def uI.bv(x:uI lo p h v ts):lC 0 h v ts:=by rcases x with x|⟨x,q,r,f,n,e,g,i,k⟩;exact .inl x;refine .inr ⟨x,q,_,_,r,f,e,g,i,λj l=>?_⟩;obtain⟨m,a,b,c,d⟩:=k j l;exact c.nf (nfp b d) zl
theorem uI.va{z:Hp}{D:Nat}{row:List AV}(x:uI lo p z v ts)(w:ah (·=p) z h)(K:∀r t,z.ac p≠.b 72 6 r 0 t) (l2:z.a<=D) (nd:ay D h t row) (Y:ts.length<1073741824) (W:lo<=h.a) (lp:p<h.a) (P:∀r t,h.ac p≠.b 72 6 r 0 t) {t1:N3 (List AV)} {d:Hp} (N:d=h.am (.b 72 6 1 0 t1)):
 ∃q r f l,kJ d 72 6 72 v (.c h.a 0 6 1 1 true)=.b (.c q 0 6 (ts.length+1) (ts.length+1) false) l/\q=d.a/\l.a=q+1/\l.ac q=.b 72 6 r 0 f/\ts.length<r/\f ts.length=t1 0/\(∀i,i<h.a->(∀r t,h.ac i≠.b 72 6 r 0 t)->l.ac i=h.ac i)/\
  (∀hB:Hp,hB.a<=lo->ah (·=p) hB h->ah (·=p) hB l)/\
  ∀o:Hp,o.ac q=.b 72 6 r 0 (cx f ts.length row)->ah (λi=>i=p\/i=q) l o->uI lo p o (.c q 0 6 (ts.length+1) (ts.length+1) false) (ts++[t]):=by
 have V:d.ac h.a=.b 72 6 1 0 t1:=by simp_all
 have xp:d.a=h.a+1:=by simp_all
 have g1:ax h d:=by rw[N];exact aZ
 have nP:=w.g;have I:=wN (h:=d) (rw:=6) (cap:=1) (ex:=true) V zl;have x':=x.xn w K;rcases x with⟨rfl,rfl⟩|⟨X,q,r,f,lq,rfl,H,Q,R⟩;have B:=A7 (h:=d) (el:=72) (rw:=6) (bytes:=72) (n:=0) (y:=.c h.a 0 6 1 1 true) I rfl qac;refine⟨_,1,cx fG 0 (t1 0),_,B,rfl,rfl,by simp,by simp,by simp,λi hi _=>?_,λhB L g=>(g.ab (ah.ka g1)).am _,λo A u=>?_⟩
 grind [Hp.io]
 refine .inr ⟨by simp,d.a,1,_,by omega,rfl,A,by simp,λj F=>?_⟩;obtain rfl:j=0:=by grind
 refine⟨d,by omega,?_,by simpa using nd.nf (mY g1|>.aw (auz _)) (auz _),λr t=>by simp_all⟩;have s:ah (·=p) d (d.am (jJ 72 6 (0+1) [t1 0])):=(ah.da _).am _;exact⟨at1 s.g u.g,λi hi G=>by rw[u.f i (by have:=s.g;omega) zo];simp_all⟩;have E:=Hp.lt H rfl;have S:=(w.f _ E λm=>by grind).trans H;have U:=(g1.f _ zo id).trans S;have B:=A8 (h:=d) (el:=72) (rw:=6) (bytes:=72) (n:=0) (i:=q) (len:=ts.length) (vh:=r) (t:=f) (y:=.c h.a 0 6 1 1 true) U Q I rfl (rV zo zo);have e:(d.bj q .f).a=d.a:=Hp.jp zo;refine⟨_,ts.length+1,cx f ts.length (t1 0),_,B,rfl,by simp[e],?_,by simp,by simp,λi hi Z=>?_,λhB L g=>((g.ab (ah.ka g1)).bj _ (.inl zo)).am _,λo A u=>?_⟩;simp_all
 grind [Hp.io,Hp.du]
 refine .inr ⟨by simp,d.a,ts.length+1,_,by omega,by simp,A,by simp,λj F=>?_⟩;have J:∀{k:Hp},k.a<=d.a->ah (·=p) k (d.bj q .f)->ah (·=p) k o:=λ{k} lM C=>by have s:ah (·=p) k ((d.bj q .f).am (.b 72 6 (ts.length+(0+1)) 0 (jy f ts.length [t1 0]))):=C.am _;exact⟨at1 s.g u.g,λi hi G=>by rw[u.f i (by have:=s.g;omega) zo];exact s.f i hi G⟩
 simp at F
 by_cases c:j=ts.length
 subst c;refine⟨d.bj q .f,by omega,J zo (ah.da _),?_,λr t e=>by
  by_cases c:p=q
  grind
  simp_all⟩
 have nf:NF D h (d.bj q .f):=λi r f li O=>by rw[Hp.du zo,g1.f i (Hp.lt O rfl) id];omega
 simpa using nd.nf nf (auz _);obtain⟨k,a,b,c',M⟩:=R j zo;have C:=((b.ab w).ab (ah.ka g1)).bj (i:=q) .f (.inl a);refine⟨k,by omega,J zo C,?_,M⟩;rw[ava zo,dZ,atS c,dZ,atS c];omega
end
structure O3(s:List UInt8):Prop where
 c:s.length<16777216
 g:∀b o l n,tf b o s=.c l n->fc (l++[fD s])/\(∀n,n<(l++[fD s]).length->(tk (l++[fD s]) n).b.length<1073741824)/\l.length<1073741824
 f:∀b o p e,tf b o s=.i p e->e≠0
 h:∀b o l n oi t m,tf b o s=.c l n->sj (l++[fD s]) s.length oi=.c t m->rY t
 d:∀b o oi,Al b o oi s≠.d
 a:∀b o oi p e,Al b o oi s=.i p e->e≠0
def O4(s:List UInt8)(r:PR Tree):Prop:=∃b o oi,((∀c∈s,c.toNat<128)->b<0)/\r=Al b o oi s
def pB:PR Tree->Tree
 |.c t _=>t
 |_=>zT
def acE(i:Nat)(f:cN):PR Tree->cN
 |.i p e=>Bp f ⟨i,p,e⟩
 |_=>f
def yP:List (PR Tree)->Nat->cN->cN
 |[],_,f=>f
 |r::rs,i,f=>yP rs (i+1) (acE i f r)
section
variable {k:List Doc}
theorem alQ(HT:aA T)(hd:vV hB v k)(hl:k.length<1073741824)(ok:∀d∈k,O3 d.a) (hg:Ax T hB) (p19:22<=p) (O0:∃el l,hB.ac p=.a el l):∀(ds:List Doc)(j:Nat)(ts:List Tree)(f:cN)(c1:AV)(h:Hp)(s:Fr)(K:aT->Prop),j+ds.length=k.length->(∀i(hi:i<ds.length),k[j+i]? =some ds[i])->ts.length=j->
 ah (·=p) hB h->uI hB.a p h c1 ts->h.ac p=.a 67 (bS c0 c1 c2 f c6 c7 c8 c9)->cg 3 s=.a fb 0->cg 4 s=.a p 0->cg 66 s=v->cg 67 s=.i k.length->cg 68 s=.i j->
 (∀J h' n rs,cg 3 J=.a fb 0->cg 4 J=.a p 0->ah (·=p) hB h'->rs.length=ds.length->(∀i(hi:i<rs.length)(dD:i<ds.length),O4 ds[i].a rs[i])->uI hB.a p h' n (ts++rs.map pB)->h'.ac p=.a 67 (bS c0 n c2 (yP rs j f) c6 c7 c8 c9)->K (.a 2 J h' []))->
 W T (.d l6_1) s h [] K:=by
 intro ds
 induction ds with
 |nil=>
  intro j ts f c1 h s K X og Q g1 hF G f3 f4 f66 f67 f68 hk;subst X;rw[aP];refine aU f66 f67 f68 ?_;exact hk _ _ c1 [] zA zA g1 rfl (λi hi=>by grind) qaa G
 |cons d ds ih=>
  intro j ts f c1 h s K X og Q g1 hF G f3 f4 f66 f67 f68 hk;simp only[atX] at X;have ao:j<k.length:=zo;have aY:(j:Int)<k.length:=zo;have ed:k[j]=d:=by
   have:=og 0 zm
   grind
  have dm:d∈k:=by grind
  have tok:=ok d dm;have wI:=g1.g;have J7:=hg.aw g1 (λi m=>by omega);have lp:=Hp.lt G rfl;have dj:=G;simp only[bS] at dj;have iu:=hd.aw g1 (λi m=>by grind);obtain⟨b,cap,ex,r,t,rfl,hb,hr,ht⟩:∃b cap ex r t,v=.c b 0 3 k.length cap ex/\tC (h.ac b) r t/\k.length<=r/\∀j,(X:j<k.length)->t j=k[j].ca:=by
   rcases iu with⟨rfl,_⟩|x
   grind
   omega
  have lb:=hb.lt;have jr:j<r:=zo;have jH:=ht j ao;rw[ed] at jH;have Ic:=hb.ld jr jH;rw[aP];show W T QA s h [] _;unfold QA zt;generalize hL:CC.d l6_1=L;generalize ju:CC.f r6_16=Dr;refine mz f3 f4 f66 f67 f68 ao aY Ic Doc.ca.eq_1 ?_;generalize V:(((h.am _).bj _ _):Hp)=H;have u1:H.ac h.a=.a 51 [S d.b,S d.a,.i d.c]:=by rw[<-V];simp
  have F:ax h H:=by rw[<-V];exact aZ
  have nH:H.a=h.a+1:=by rw[<-V];simp
  clear V;have I:=J7.aw F (λ_ m=>m.elim);refine ajY HT (λh' g=>(I.aw g λ_ m=>m.elim).Ib.1) (λh' g=>(I.aw g λ_ m=>m.elim).Ib.2.1) (λh' g=>(I.aw g λ_ m=>m.elim).Ib.2.2.1) (λh' g=>(I.aw g λ_ m=>m.elim).Ib.2.2.2.1) tok.c I.Ib.2.2.2.2 tok.g tok.f tok.h λbb o oi VI=>?_;have pr:O4 d.a (Al bb o oi d.a):=⟨bb,o,oi,VI,rfl⟩;have jK:=tok.d bb o oi;have jC:=tok.a bb o oi;revert pr jK jC;generalize Al bb o oi d.a=R;intro pr jK jC;have rest:∀(u:Fr)(a:Hp)(nb:Nat)(tr:Tree)(row:List AV)(M:cN),ah (·=p) H a->a.ac p=.a 67 (bS c0 c1 c2 M c6 c7 c8 c9)->a.ac nb=.a 72 row->ay H.a a tr row->pB R=tr->acE j f R=M->cg 3 u=.a fb 0->cg 4 u=.a p 0->cg 11 u=.a nb 0->cg 66 u=.c b 0 3 k.length cap ex->cg 67 u=.i k.length->cg 68 u=.i j->
   W T Dr u a [] (bY 3 (bF (W T (CC.h (z q6 17))) (bF (W T L) K))):=by
   intro u a nb tr row M g2 P C nd hR nV e3 e4 e11 e66 e67 e68;have n2:=g2.g;have yM:=Hp.lt P rfl;have lnb:=Hp.lt C rfl;obtain⟨kv,rfl,O⟩:=nd.fx;have w:=P;simp only[bS] at w;have Z:ah (·=p) hB a:=(g1.ab (ah.ka F)).ab g2;have O2:∀r t,h.ac p≠.b 72 6 r 0 t:=λr t q=>by grind
   subst ju;rw[lI,mu];simp only[ku,GX,GY];generalize Y:a.am (.b 72 6 1 0 (cx (cx fG 0 [.i 0,.i 0,.i 0,.i 0,S [],.o]) 0 [.i 0,.i 0,.i 0,.i 0,S [],.o]))=H1;obtain⟨q,r',ff,H',ea,eq,nH',hq,qY,VJ,C5,N,b8⟩:=hF.va ((ah.ka F).ab g2) O2 zo nd zo zo yM (λr t q=>by grind) Y.symm;simp(disch:=omega) [e4,e11,w,C,hF.px,Q];have VK:ts.length<r':=qY;have eqp:q≠p:=by grind
   have lB:=(C5 p yM (λr t q=>by grind)).trans w;have lq:=Hp.lt hq rfl;have lpH:=Hp.lt lB rfl;have jr2:j<r':=zo;have jj:j<ts.length+1:=zo;have jj':(j:Int)<(ts.length:Int)+1:=zo;rw[Q] at VJ;simp at VJ;rw[Y,ea];simp(disch:=first|exact bh|fail) [eqp,hq,lB,e68,VJ,BQ];generalize U:((H'.bj q _).bj p _:Hp)=E;have u5:E.ac p=.a 67 (bS c0 (.c q 0 6 (ts.length+1) (ts.length+1) false) c2 M c6 c7 c8 c9):=by rw[<-U];simp(maxSteps:=400000) (disch:=first|exact bh|fail) [bS]
   have uq:E.ac q=.b 72 6 r' 0 (cx ff ts.length [.i tr.bi,.i tr.gl,.i tr.to,.i tr.at,S tr.bc,kv]):=by rw[<-U,Q];simp(maxSteps:=400000) (disch:=first|exact bh|fail)
   have g5:ah (λi=>i=p\/i=q) H' E:=by rw[<-U];exact((ah.da _).bj _ (.inr (.inr rfl))).bj _ (.inr (.inl rfl))
   clear U;have gB5:ah (·=p) hB E:=⟨at1 (N hB zl Z).g g5.g,λi hi hm=>by
    have Ci:i≠q:=by have:=Z.g;have:H1.a=a.a+1:=by rw[<-Y];rfl
                    omega
    have gx:=N hB zl Z;rw[g5.f i (by have:=gx.g;omega) (by rintro(c|c);exact hm c;exact Ci c),gx.f i hi hm]⟩
   subst hL;refine ih (j+1) (ts++[tr]) M _ E _ K zo (λi hi=>?_) (by simp[Q]) gB5 (b8 E uq g5) u5 (by simp(maxSteps:=400000) (disch:=first|exact bh|fail) [e3]) (by simp(maxSteps:=400000) (disch:=first|exact bh|fail) [e4]) (by simp(maxSteps:=400000) (disch:=first|exact bh|fail) [e66]) (by simp(maxSteps:=400000) (disch:=first|exact bh|fail) [e67]) (by simp(maxSteps:=400000) (disch:=first|exact bh|fail)) λJ h' n rs a3 a4 ga gO hpr hFi hpp=>hk J h' n (R::rs) a3 a4 ga (by simp[gO]) (λi hi dD=>?_) (by simpa[hR] using hFi) (by rw[yP,nV];exact hpp);have:=og (i+1) zn;simp only[auu] at this;rw[show j+1+i=j+(i+1) by omega];exact this;cases i with
   |zero=>exact pr
   |succ i=>exact hpr i (by simpa using hi) (by simpa using dD)
  cases R with
  |d=>exact(jK rfl).elim
  |i q e=>
   have e0:=jC q e rfl;intro a g2;have n2:=g2.g;refine aU e0 f3 f4 ?_;generalize B:(((a.am _).bj _ _):Hp)=D;have C:D.ac a.a=.a 72 aEs:=by rw[<-B];simp(disch:=omega)
   have A:ax a D:=by rw[<-B];exact aZ
   clear B;have y:=(F.ab g2).ab A;have kF:=(y.f _ lp id).trans G;refine ES HT (x:=⟨j,q,e⟩) kF λh4 g4 m7=>?_;have n3:=A.g;have w4:=(g4.f _ (Hp.lt C rfl) (by have:=F.g;omega)).trans C;have hz:ay H.a h4 zT aEs:=⟨_,rfl,rfl⟩;refine ag ?_;exact rest _ h4 a.a zT _ _ ((ah.ka (g2.ab A)).ab g4) m7 w4 hz rfl rfl zA zA aa zA zA zA
  |c tr m=>
   intro a row g2 nd;have n2:=g2.g;obtain⟨kv,rfl,O⟩:=nd.fx;refine aU f3 f4 O.lh ?_;generalize B:(((a.am _).bj _ _):Hp)=D;have C:D.ac a.a=.a 72 [.i tr.bi,.i tr.gl,.i tr.to,.i tr.at,S tr.bc,kv]:=by rw[<-B];simp(disch:=omega)
   have A:ax a D:=by rw[<-B];exact aZ
   clear B;have y:=(F.ab g2).ab A;have kF:=(y.f _ lp id).trans G;exact rest _ D a.a tr _ f (ah.ka (g2.ab A)) kF C (nd.nf (mY A|>.aw (auz _)) zl) rfl rfl zA zA aa zA zA zA
end
structure Fm(h h':Hp):Prop where
 f:h.a<=h'.a
 d:∀i,i<h.a->¬rF (h.ac i)->¬uw (h.ac i)->h'.ac i=h.ac i
theorem Fm.ab{a b c:Hp}(x:Fm a b)(y:Fm b c):Fm a c:=⟨at1 x.f y.f,λi hi g h=>by have e:=x.d i hi g h;rw[y.d i (aur hi x.f) qaa qaa,e]⟩
def Fm.of{a b:Hp}(x:ax a b):Fm a b:=⟨x.g,λi hi _ _=>x.f i hi id⟩
def Ih(fs:List Tree)(aq:List (List UInt8)):Prop:=(∀j(a:j<fs.length),fs[j].bc=aq.getD j [])/\∀j(a:j<fs.length),aym fs aq j fs[j].bv
def Lv(fs:List Tree)(aq:List (List UInt8)):Prop:=(∀q,(((jG aq fs 0 l9).b (1,q)++(jG aq fs 0 l9).b (2,q)).map (·.a)).Nodup)/\(∀d∈(jG aq fs 0 l9).c,ayH aq (jG aq fs 0 l9).a d)/\∀q,(((jG aq fs 0 l9).a q).map (·.a)).Nodup
def BF:PR Tree->Prop
 |.c _ _=>True
 |_=>False
structure O5(fs:List Tree)(aq:List (List UInt8)):Prop where
 w:∀t∈fs,fh false t/\rY t
 d:∀t∈fs,∀t'∈t.bv,yN t'
 b:(jG aq fs 0 l9).d.length<536870912
 a:∀fl,(uB fs aq (jG aq fs 0 l9).a fs 0 ⟨fl,(jG aq fs 0 l9).d,[]⟩).b.length<1073741824
def vW:cN:=⟨0,0,0⟩
def Lw(fs:List Tree)(aq:List (List UInt8))(f:cN):Sc:=uB fs aq (jG aq fs 0 l9).a fs 0 ⟨f,(jG aq fs 0 l9).d,[]⟩
def aFe(rs:List (PR Tree))(aq:List (List UInt8))(f:cN):Prop:=
 f=yP rs 0 vW\/(∀r∈rs,BF r)/\∃a,(Ih (rs.map pB) aq->a=vW)/\(f=a\/a.e=0/\∃f3,(Lv (rs.map pB) aq->f3=a)/\f=(Lw (rs.map pB) aq f3).a)
def acF(rs:List (PR Tree))(aq:List (List UInt8))(s:Sc):Prop:=
 (∀r∈rs,BF r)/\∃a,(Ih (rs.map pB) aq->a=vW)/\a.e=0/\∃f3,(Lv (rs.map pB) aq->f3=a)/\s=Lw (rs.map pB) aq f3
structure Ay(docs:List Doc)(rs:List (PR Tree))(aq:List (List UInt8)):Prop where
 a:rs.length=docs.length
 b:aq.length=docs.length
 r:∀i(hi:i<rs.length)(dD:i<docs.length),O4 docs[i].a rs[i]
 d:∀i(hi:i<docs.length),rZ docs[i].b=some (aq.getD i [])
theorem acH:∀(rs:List (PR Tree))(i:Nat)(f:cN),(∀r∈rs,∀p e,r=.i p e->e≠0)->f.e≠0->(yP rs i f).e≠0
 |[],_,_,_,h=>h
 |r::rs,i,f,a,h=>by
  refine acH rs (i+1) _ (λr b=>a r qaa) ?_;cases r with
  |i p e=>exact acG (a _ zm p e rfl)
  |_=>exact h
theorem acI:∀(rs:List (PR Tree))(i:Nat)(f:cN),(∀r∈rs,r≠.d)->(∀r∈rs,∀p e,r=.i p e->e≠0)->(yP rs i f).e=0->(∀r∈rs,BF r)/\yP rs i f=f
 |[],_,_,_,_,_=>⟨λ_ h=>qaa,rfl⟩
 |r::rs,i,f,k,j,h=>by
  cases r with
  |d=>grind
  |i p e=>exact absurd h (acH rs (i+1) _ (λr g=>j r qaa) (acG (j _ zm p e rfl)))
  |c t n=>
   obtain⟨a,b⟩:=acI rs (i+1) f (λr g=>k r qaa) (λr g=>j r qaa) h;exact⟨λr g=>(atZ.1 g).elim (λe=>by subst e;exact trivial) (a r),b⟩
theorem alR{u d:List UInt8}(h:rZ u=some d):d.length<=u.length:=by grind [rZ,abw]
theorem uG.z{lo:Nat}{h:Hp}{v:AV}{ws:List (List UInt8)}(x:uG lo h v ws):yb h v ws:=λne=>by
 rcases x with⟨q,_⟩|⟨_,q,r,t,_,e,a,b,c⟩
 grind
 exact⟨q,_,_,r,t,e,a,b,c⟩
theorem alS{ts:List Tree}(h:∀t∈ts,rY t):pq ts:=by
 induction ts with
 |nil=>trivial
 |cons t ts a=>exact⟨h t zm,a λt b=>h t qaa⟩
theorem lX.ph{h:Hp}{i aD:Nat}(e:h.ac i=.d [] aD):lX h i []:=⟨[],aD,e,by simp[vO],λd v hd=>(by simp[Ak] at hd),λd hd=>qaa⟩
section
variable {k:aK->Prop}{j:List Doc}
def vV.rx{h h':Hp}{v:AV}{ds:List Doc}(x:vV h v ds)(e:∀b r t,b<h.a->tC (h.ac b) r t->h'.ac b=h.ac b):vV h' v ds:=by rcases x with x|⟨b,cap,ex,r,t,c,a,d⟩;exact .inl x;exact .inr ⟨b,cap,ex,r,t,c,by rw[e b r t a.lt a];omega,d⟩
structure TyP(j:List Doc)(rs:List (PR Tree))(aq:List (List UInt8))(p aG tb:Nat)(c0 c1 c2 c8:AV)(h:Hp):Prop where
 a:HP p aG tb c0 c1 c2 c8 (rs.map pB) aq (jG aq (rs.map pB) 0 l9).a h
 c:∀q,(((jG aq (rs.map pB) 0 l9).a q).map (·.a)).Nodup
 b:vV h c0 j
theorem acJ(G:aA T)(hd:vV h v j)(hl:j.length<1073741824)(hu:∀d∈j,d.b.length<1073741824) (ok:∀d∈j,O3 d.a) (hg:Ax T h)
 (pr:∀rs aq,Ay j rs aq->(∀r∈rs,BF r)->O5 (rs.map pB) aq)
 (hA:∀h',Fm h h'->(azr j\/∃d∈j,rZ d.b=none)->k (.a (.p [.w,.j [.i 0,.i 0,.i 2]]) h'))
 (hB:∀rs aq f h',Ay j rs aq->aFe rs aq f->f.e≠0->Fm h h'->k (.a (.p [.w,.j f.ca]) h'))
 (hC:∀rs aq s h' p aG tb c0 c1 c2 c8,Ay j rs aq->acF rs aq s->s.a.e=0->Fm h h'->uC p aG tb c0 c1 c2 c8 h' s->TyP j rs aq p aG tb c0 c1 c2 c8 h'->k (.a (.p [.a p 0,.j [.i 0,.i 0,.i 0]]) h')):aE T (W T) ⟨6⟩ [v] h k:=by
 rw[ic G.t6];generalize pY:QE=T2;refine ag ?_;have gA:ax h (h.am (.a 28 [.i 0,.i 0,.i 0])):=aZ;have nH:=hg.1;refine alL G (hd.aw gA (λ_ m=>m.elim)) hl λl v2 g2 lN ev2=>?_;have n2:=g2.g;simp only[Hp.dC] at n2;have ufb:l.ac h.a=.a 28 [.i 0,.i 0,.i 0]:=(g2.f _ zm id).trans (Hp.ba rfl);have g02:=gA.ab g2;refine aB ev2 ?_;generalize I:((((l.am _).am _).am _).am _:Hp)=A;have VM:ax l A:=by rw[<-I];exact aZ
 have nHB:A.a=l.a+1+1+1+1:=by rw[<-I];rfl
 have um1:A.ac l.a=.d [] 0:=by rw[<-I];simp(disch:=first|exact bh|fail)
 have um2:A.ac (l.a+1)=.d [] 0:=by rw[<-I];simp
 have um3:A.ac (l.a+1+1)=.d [] 0:=by rw[<-I];simp
 have up:A.ac (l.a+1+1+1)=.a 67 (bS v2 .o .o vW (.h l.a) (.h (l.a+1)) (.h (l.a+1+1)) .o):=by rw[<-I];simp(disch:=first|exact bh|fail) [bS,vW]
 clear I;have S:=g02.ab VM;have hgB:=hg.aw S (λ_ m=>m.elim);have Q:A.ac h.a=.a 28 [.i 0,.i 0,.i 0]:=(VM.f _ zo id).trans ufb;have hdB:=lN.aw VM (λ_ m=>m.elim);generalize hp:l.a+1+1+1=p at*;generalize sk:l.a=aG at*;generalize K3:aG+1=tb at*;generalize OY:tb+1=pb at*;have O0:∀el rw r fz t,A.ac p≠.b el rw r fz t:=λ_ _ _ _ _ e=>by grind
 have O6:h.a≠p:=zo;have b8:∀(y:Fr)(h':Hp)(c0 c1 c2 c6 c7 c8 c9:AV)(f:cN)(x0 x1 x2:AV),h'.ac p=.a 67 (bS c0 c1 c2 f c6 c7 c8 c9)->h'.ac h.a=.a 28 [x0,x1,x2]->cg 3 y=.a h.a 0->cg 4 y=.a p 0->
  (f.e≠0->∀l,ah (·=h.a) h' l->k (.a (.p [.w,.j f.ca]) l))->(f.e=0->∀l,ah (·=h.a) h' l->k (.a (.p [.a p 0,.j [.i 0,.i 0,.i 0]]) l))->W T QB y h' [] (finish T (W T) [CR.a 2,CR.b 3 true 3] k):=by
  intro y h' c0 c1 c2 c6 c7 c8 c9 f x0 x1 x2 B BD C E k1 k2;simp[bS] at B
  by_cases e0:f.e=0
  exact cC C E B e0 BD (k2 e0 _ (ah.bj (M:=(·=h.a)) (ah.da _) _ (.inr rfl)));exact cC C E B e0 BD (k1 e0 _ (ah.bj (M:=(·=h.a)) (ah.da _) _ (.inr rfl)))
 have VN:∀{M:Nat->Prop}(h':Hp),ah M A h'->(∀i,M i->h.a<=i)->Fm h h':=λ{M} h' g hM=>⟨at1 S.g g.g,λi hi _ _=>by have:=S.g;rw[g.f i zo λm=>by grind,S.f i hi id]⟩
 have qw:=hd.aw S (λ_ m=>m.elim);subst pY;unfold QE zt;generalize rq:QD=T3;simp(disch:=omega) [qw.px];refine alM G (p:=p) (fb:=h.a) qw hl hu hgB Q zo O6 ⟨_,_,up⟩ j.length 0 [] .o A _ _ zo rfl (λi hi=>by omega) (ah.da _) (.inl ⟨rfl,rfl⟩) up aa aa aa aa aa aa (λf' h' e2 C ef gb Ie=>?_) λf3 h3 c2 aq a0 a3 a4 g3 sg mT vg kF=>?_;refine aU e2 C ef ?_
 grind
 subst rq;unfold QD zt;generalize qE:QC=T4;simp(disch:=omega) [a0,qw.px];have alT:∀el rw r fz t,h3.ac p≠.b el rw r fz t:=λ_ _ _ _ _ e=>by grind
 refine alQ G (p:=p) (fb:=h.a) (qw.aw g3 λi m=>by grind) hl ok (hgB.aw g3 λi m=>by omega) zo ⟨_,_,kF⟩ j 0 [] vW .o h3 _ _ zo (λi hi=>by grind) rfl (ah.da _) (.inl ⟨rfl,rfl⟩) kF (au a3) (au a4) aa aa aa λf4 Z c1 rs b3 b4 g34 Cl Bg hF m7=>?_;refine ag ?_;have g4:=g3.ab g34;have sz4:yb Z c2 aq:=λne=>(sg.z ne).aw g34 λi r t e m=>by grind
 have D:Ay j rs aq:=⟨Cl,mT,Bg,vg⟩;rw[au5] at hF;have uf4:Z.ac h.a=.a 28 [.i 0,.i 0,.i 0]:=(g4.f _ zo O6).trans Q;generalize Aw:yP rs 0 vW=J at m7;have lp4:=Hp.lt m7 rfl;have lf4:=Hp.lt uf4 rfl;have alU:=m7;simp only[bS] at alU;subst qE;unfold QC zt;generalize F:CC.d l6_0=L;generalize hT5:QB=T5 at b8⊢;refine aB b4 ?_;generalize Ap:(Z.am _:Hp)=R;have X:ax Z R:=by rw[<-Ap];exact aZ
 obtain⟨ft,u5,O7,O8⟩:∃ft,R.ac Z.a=.b 1 1 2 0 ft/\ft 0=[.q ⟨23⟩ [.a p 0] []]/\ft 1=[.q ⟨24⟩ [.a p 0] []]:=⟨_,by rw[<-Ap];exact Hp.ba rfl,by simp,by simp⟩;clear Ap;have up5:=(X.f _ lp4 id).trans m7;have uf5:=(X.f _ lf4 id).trans uf4;have VO:=up5;simp only[bS] at VO;have lH5:=Hp.lt u5 rfl;have V:∀(y:Fr)(h':Hp)(d0 d1 d2 d6 d7 d8 d9:AV)(n:cN),h'.ac p=.a 67 (bS d0 d1 d2 n d6 d7 d8 d9)->h'.ac h.a=.a 28 [.i 0,.i 0,.i 0]->cg 3 y=.a h.a 0->cg 4 y=.a p 0->cg 106 y=.i 2->cg 107 y=.i 2->
  (n.e≠0->∀l,ah (·=h.a) h' l->k (.a (.p [.w,.j n.ca]) l))->(n.e=0->∀l,ah (·=h.a) h' l->k (.a (.p [.a p 0,.j [.i 0,.i 0,.i 0]]) l))->W T L y h' [] (bY 4 (bF (W T T5) (finish T (W T) [CR.a 2,CR.b 3 true 3] k))):=by
  intro y h' d0 d1 d2 d6 d7 d8 d9 n B BD C E x z k1 k2;subst F;rw[aP];refine aS x z ?_;exact b8 _ h' d0 d1 d2 d6 d7 d8 d9 n _ _ _ B BD (au C) (au E) k1 k2
 have fm2:∀h' l,ah (·=p) R h'->ah (·=h.a) h' l->Fm h l:=λh' l K g2=>VN (M:=λi=>i=p\/i=h.a) _ ((((g4.ab (ah.ka X)).ab K).aw λ_ _ q=>.inl q).ab (g2.aw λ_ _ q=>.inr q)) λi m=>zo;have nof:∀r∈rs,r≠.d/\∀q e,r=.i q e->e≠0:=λr hr=>by obtain⟨i,hi,rfl⟩:=avC hr;have dD:i<j.length:=zo;obtain⟨b,o,oi,_,e⟩:=Bg i hi dD;have tok:=ok _ (auy dD);rw[e];exact⟨tok.d b o oi,tok.a b o oi⟩
 have alV:J.e=0->(∀r∈rs,BF r)/\J=vW:=λe=>by grind [acI]
 have VP:(rs.map pB).length=aq.length:=by grind
 have wX:∀(y:Fr)(h':Hp)(n:cN),ah (·=p) R h'->oK p v2 c1 c2 (.h aG) (.h tb) (.h pb) .o (rs.map pB) aq n h'->cg 3 y=.a h.a 0->cg 4 y=.a p 0->cg 105 y=.c Z.a 0 1 2 2 true->cg 106 y=.i 2->cg 107 y=.i 1->(n.e=0->J.e=0)->(n.e≠0->aFe rs aq n)->(n.e=0->Ih (rs.map pB) aq->n=vW)->(J.e=0->(∀r∈rs,BF r))->W T L y h' [] (bY 4 (bF (W T T5) (finish T (W T) [CR.a 2,CR.b 3 true 3] k))):=by
  intro y h' n K x' C E H x z q1 q2 q3 q4;have B:=x'.a;have VQ:=B;simp only[bS] at VQ;have lp':=Hp.lt B rfl;have yw:=K.g;have uf':=(K.f _ zo O6).trans uf5;have u5':=(K.f _ lH5 zo).trans u5
  by_cases u:n.e=0
  have k1:=q4 (q1 u);have O:=pr rs aq D k1;subst F;rw[aP];show W T Gk _ _ [] _;generalize F:CC.d l6_0=L at V⊢;refine nA u5' O7 O8 VQ C E H x z u ?_;rw[ic G.t24];refine ag ?_;have U:ah (·=p) A h':=(g4.ab (ah.ka X)).ab K;have m1:h'.ac aG=.d [] 0:=(U.f _ zo zo).trans um1;have m2:h'.ac tb=.d [] 0:=(U.f _ zo zo).trans um2;have m3:h'.ac pb=.d [] 0:=(U.f _ zo zo).trans um3;refine alz G B (lX.ph m1) (iV.ph m2) (iV.ph m3) zo x'.b x'.c VP zo (λd hd=>?_) (alS λt ht=>(O.w t ht).2) O.d O.b λh7 f3 g7 hp7 N alW tl7 so Oc=>?_;obtain⟨i,hi,rfl⟩:=avC hd;have:=vg i zo;rw[show aq.getD i []=aq[i] by grind] at this;have:=alR this;have:=hu j[i] (auy zo);omega;refine ag ?_;have k7:∀i o,h'.ac i=o->i≠p->jN o=false->(∀m v,o≠.d m v)->¬rF o->h7.ac i=o:=λi o e ne hn hm h3=>by rw[g7.d i (Hp.lt e hn) (by rintro(c|c|c|c)<;>subst c;exact ne rfl;exact hm _ _ (e.symm.trans m1);exact hm _ _ (e.symm.trans m2);exact hm _ _ (e.symm.trans m3)) (by rw[e];exact h3)];exact e
  have kf7:lC 0 h7 c1 (rs.map pB):=x'.c.nf λi r f _ e=>k7 i _ e (by rintro rfl;rw[B] at e;cases e) rfl (λ_ _ q=>by cases q) (λ⟨_,_,q⟩=>by cases q);have ds7:yb h7 c2 aq:=λne=>by obtain⟨b,cap,ex,r,t,e,hb,hw⟩:=x'.b ne;exact⟨b,cap,ex,r,t,e,k7 b _ hb (by rintro rfl;rw[B] at hb;cases hb) rfl (λ_ _ q=>by cases q) (λ⟨_,_,q⟩=>by cases q),hw⟩
  have pr7:HP p aG tb v2 c1 c2 (.h pb) (rs.map pB) aq (jG aq (rs.map pB) 0 l9).a h7:=⟨alW,tl7,kf7,ds7,VP,by simp;omega⟩;refine aki G (s:=⟨f3,(jG aq (rs.map pB) 0 l9).d,[]⟩) pr7 ⟨⟨_,hp7,.inl ⟨rfl,rfl⟩⟩,N,by omega⟩ O.w (O.a f3) λh8 Y Ly=>?_;obtain⟨vn,Pa,_⟩:=Ly.a;have VR:h7.ac h.a=.a 28 [.i 0,.i 0,.i 0]:=k7 _ _ uf' O6 rfl (λ_ _ q=>by cases q) (λ⟨_,_,q⟩=>by cases q);have P:h8.ac h.a=.a 28 [.i 0,.i 0,.i 0]:=(Y.d _ (Hp.lt VR rfl) zo (by rw[VR];rintro⟨_,_,q⟩;cases q)).trans VR;have fm8:∀l,ah (·=h.a) h8 l->Fm h l:=λl g2=>by have a:=VN h' U λi m=>zo;have n0:=a.f;have n7:=g7.f;have n8:=Y.f;have n0B:=S.g;refine⟨by have:=g2.g;omega,λi hi h34 h36=>?_⟩;have x1:=a.d i hi h34 h36;have x2:=(g7.d i zo (by rintro(c|c|c|c)<;>omega) (by rw[x1];exact h34)).trans x1;have x3:=(Y.d i zo zo (by rw[x2];exact h36)).trans x2;exact(g2.f i zo zo).trans x3
  refine aB z ?_;refine V _ h8 _ _ _ _ _ _ _ _ Pa P (au C) (au E) (au x) aa (λen l g2=>?_) λez l g2=>?_;exact hB rs aq _ l D (.inr ⟨k1,n,q3 u,.inr ⟨u,f3,λc=>so c.1 c.2.1 c.2.2,rfl⟩⟩) en (fm8 l g2);have lp8:=Hp.lt Pa rfl;refine hC rs aq _ l p aG tb _ _ _ _ D ⟨k1,n,q3 u,u,f3,λc=>so c.1 c.2.1 c.2.2,rfl⟩ ez (fm8 l g2) ⟨⟨vn,(g2.f _ lp8 zo).trans Pa,?_⟩,Ly.b.aw (g2.f _ Ly.b.lt zo),Ly.c⟩ ⟨(pr7.aw Y λi m=>?_).aw (M:=(·=h.a)) ⟨g2.g,λi hi m _=>g2.f i hi m⟩ λi m=>?_,(Oc (aBI _ _ _ ez)).2,hdB.rx λb r t lb e=>?_⟩;obtain⟨v9,VS,nm9⟩:=Ly.a;have ev:v9=vn:=by rw[Pa] at VS;simp[bS] at VS;exact VS.symm
  subst ev;exact nm9.aw λq hq hh=>g2.f q hq (by rintro rfl;obtain⟨_,_,q⟩:=hh;rw[P] at q;cases q);rcases m with rfl|rfl;exact⟨by omega,λ_ _ _ _ q=>by rw[hp7] at q;cases q⟩;obtain⟨L,aD,q,_⟩:=N;exact⟨by omega,λ_ _ _ _ q'=>by rw[q] at q';cases q'⟩;subst m;exact⟨by omega,λ_ _ _ _ q=>by rw[P] at q;cases q⟩;have l1:=U.g;have l7:=g7.f;have l8:=Y.f;have n1:b≠p:=by rintro rfl;rw[up] at e;rcases e with⟨_,e⟩|e<;>cases e
  have n2:b≠h.a:=by rintro rfl;rw[Q] at e;rcases e with⟨_,e⟩|e<;>cases e
  have nm:∀m v,A.ac b≠.d m v:=λm v q=>by rw[q] at e;rcases e with⟨_,e⟩|e<;>cases e
  have u:=U.f b lb n1;have e7:=k7 b _ u n1 (by rcases e with⟨_,e⟩|e<;>rw[e]<;>rfl) nm (λ⟨_,_,q⟩=>by rw[q] at e;rcases e with⟨_,e⟩|e<;>cases e);have e8:=Y.d b zo (by rintro(q|q);exact n1 q;subst q;obtain⟨L,aD,w,_⟩:=N;rw[e7] at w;exact nm _ _ w) (by rw[e7];rintro⟨_,_,q⟩;rw[q] at e;rcases e with⟨_,e⟩|e<;>cases e);exact(g2.f b zo n2).trans (e8.trans e7);subst F;rw[aP];show W T Gk _ _ [] _;generalize F:CC.d l6_0=L at V⊢;refine nA u5' O7 O8 VQ C E H x z u ?_;refine V _ h' _ _ _ _ _ _ _ n B uf' (au C) (au E) (au x) aa (λ_ l g2=>hB rs aq n l D (q2 u) u (fm2 h' l K g2)) λe=>absurd e u
 have imA:oK p v2 c1 c2 (.h aG) (.h tb) (.h pb) .o (rs.map pB) aq J R:=⟨up5,λne=>(sz4 ne).aw X λ_ _ _ _ m=>m,hF.bv.nf (mY X)⟩
 by_cases u:J.e=0
 obtain⟨k1,k2⟩:=alV u;have O:=pr rs aq D k1;subst F;rw[aP];show W T Gk _ _ [] _;generalize F:CC.d l6_0=L at V wX⊢;refine iR u5 O7 O8 VO b3 b4 u ?_;refine alI G VP zn (λt ht=>(Aq (O.w t ht).2).1) imA λh6 n g6 im6 nV=>?_;refine ag ?_;refine wX _ h6 n g6 im6 (au b3) (au b4) aa aa aa (λ_=>u) (λ_=>.inr ⟨k1,n,λc=>by rw[<-k2];exact nV c.1 c.2,.inl rfl⟩) (λ_ c=>by rw[<-k2];exact nV c.1 c.2) (λ_=>k1);subst F;rw[aP];show W T Gk _ _ [] _;generalize F:CC.d l6_0=L at V wX⊢;refine iR u5 O7 O8 VO b3 b4 u ?_;refine wX _ R J (ah.da _) imA (au b3) (au b4) aa aa aa (λe=>absurd e u) (λ_=>.inl Aw.symm) (λe=>absurd e u) (λe=>absurd e u)
end
section
variable {k:aK->Prop}{u:dx}
theorem alX(p:aA T)(x:pA h v us)(B:us.length<1073741824)(f:∀h' m,ax h h'->pA h' m us->k (.a m h')):aE T (W T) ⟨189⟩ [v] h k:=by
 rw[ic p.t189];rcases x with⟨rfl,rfl⟩|⟨r,q,t,rfl,l,C⟩;simp(disch:=omega) [cJ];exact f _ _ (ah.da _) (.inl ⟨rfl,rfl⟩);have z:=Hp.lt l rfl;obtain⟨n,g⟩:∃n,us.length=n+1:=⟨us.length- 1,by grind [List.length_pos_iff]⟩;simp(disch:=omega) [cJ];generalize e:(h.am _:Hp)=H;have a:∃t,H.ac h.a=.b 193 9 0 0 t:=⟨_,by rw[<-e];exact Hp.ba rfl⟩;have c:ax h H:=by rw[<-e];exact aZ
 obtain⟨t1,a⟩:=a;have o:=(c.f _ z id).trans l;have A:=acD (h:=H) (el:=193) (rw:=9) (b:=q) (cap:=us.length) (ex:=0) (Lt:=false) (n:=us.length) zm o zl;have w:=G2 (h:=H) (el:=193) (rw:=9) (bytes:=96) (n:=n) (i:=h.a) (len:=0) (vh:=0) (t:=t1) zm a zl A (by simp[lenOf,g]) (rV zo zo);rw[w];refine ag ?_;refine f _ _ (c.am _) (.inr ⟨r,H.a,jy fG 0 ([]++aEt t us.length 0),by grind,?_,λj y=>?_⟩);rw[Hp.ba rfl,jJ,g];rfl;have s:j<(aEt t us.length 0).length:=by grind [oZ]
 rw[au5,wO s];have:=vw t us.length 0 j y
 grind
def pC(ds:List Doc):Nat:=(ds.map λd=>d.a.length+d.b.length).sum
theorem al0{ds:List Doc}{i:Nat}(hi:i<ds.length):pC (ds.drop i)=ds[i].a.length+ds[i].b.length+pC (ds.drop (i+1)):=by grind [List.drop_eq_getElem_cons,pC]
end
structure iE(a:List Doc)(fs:List Tree)(aq:List (List UInt8))(bu:List UInt8->List aC)(us:List dx)(p:Nat)(h:Hp):Prop where
 d:∃c0 c1 c2 f nm tb c8 v,h.ac p=.a 67 (bS c0 c1 c2 f nm (.h tb) c8 v)/\vV h c0 a/\lC 0 h c1 fs/\yb h c2 aq/\Bu h tb bu/\pA h v us
 k:a.length<1073741824
 j:fs.length=a.length
 y:aq.length=a.length
 n:∀s,(bu s).length<1073741824
 u:us.length<1073741824
section
variable {k:aK->Prop}{a:List Doc}{aq:List (List UInt8)}{bu:List UInt8->List aC}
def iE.g0(x:iE a fs aq bu us p h)(g:ax h h'):iE a fs aq bu us p h':=by obtain⟨⟨c0,c1,c2,f,nm,tb,c8,v,b,hd,l,r,s,o⟩,dl,i,t,w,ul⟩:=x;refine⟨⟨c0,c1,c2,f,nm,tb,c8,v,(g.f _ (Hp.lt b rfl) id).trans b,hd.aw g (λ_ m=>m.elim),l.nf (mY g),λne=>(r ne).aw g λ_ _ _ _ m=>m,s.aw λq c e=>g.f q ?_ id,o.aw λq c _=>g.f q c id⟩,dl,i,t,w,ul⟩;omega
def aCO(c:aA T)(x:iE a fs aq bu us p h)(e:k (.a (.i a.length) h)):aE T (W T) ⟨25⟩ [.a p 0] h k:=by rw[ic c.t25];obtain⟨c0,c1,c2,f,nm,tb,c8,v,b,hd,d,i,j,g⟩:=x.d;simp[bS] at b;refine aS b (hd.px (H:=h)) ?_;omega
def aBK(c:aA T)(x:iE a fs aq bu us p h){j:Nat}(g:j<a.length)(i:k (.a (.d true) h)):aE T (W T) ⟨35⟩ [.a p 0,.i j] h k:=by rw[ic c.t35];obtain⟨c0,c1,c2,f,nm,tb,c8,v,b,hd,e,m,n,l⟩:=x.d;have d:(j:Int)<a.length:=zo;simp[bS] at b;refine aU b (hd.px (H:=h)) d ?_;omega
theorem aAC(d:aA T)(x:iE a fs aq bu us p h){j:Nat}(n:j<a.length)(s:k (.a (S (aq.getD j [])) h)):aE T (W T) ⟨9⟩ [.a p 0,.i j] h k:=by
 rw[ic d.t9];refine ag ?_;refine aBK d x n ?_;obtain⟨c0,c1,c2,f,nm,tb,c8,v,e,hd,q,g,i,u⟩:=x.d;have c:j<aq.length:=by have:=x.y;omega
 have l:(j:Int)<aq.length:=zo;simp[bS] at e;obtain⟨b,cap,ex,r,t,rfl,m,g,i⟩:=g (Cq c);have o:=i j c;refine cC e m o l c ?_
 grind
theorem aCP(i:aA T)(x:iE a fs aq bu us p h){j:Nat}(d:j<fs.length)(z:∀h' row,ax h h'->ay 0 h' fs[j] row->k (.a (.j row) h')):aE T (W T) ⟨26⟩ [.a p 0,.i j] h k:=by
 rw[ic i.t26];have g0:ax h (h.am (.a 72 [.i 0,.i 0,.i 0,.i 0,S [],.o])):=aZ;have y:=x.j;refine ag ?_;refine aBK i (x.g0 g0) zo ?_;obtain⟨c0,c1,c2,f,nm,tb,c8,v,g,hd,s,u,A,m⟩:=x.d;have B:=Hp.lt g rfl;have n:(j:Int)<fs.length:=zo;simp[bS] at g;obtain⟨b,cap,ex,r,ff,rfl,l,u,m⟩:=s.pj (Cq d);have lb:=Hp.lt l rfl;have c:=m j d;rw[aue] at c;obtain⟨kv,e,t,C⟩:=c.dT;refine cC g l e n d ?_;generalize q:((h.am _).bj _ _:Hp)=H;have o:ax h H:=by rw[<-q];exact fZ
 have w:=c.nf (mY o) zl
 grind
end
def azs:dx:=⟨0,0,[],false,qG⟩
def ayu(dc a:Int)(u:dx):Bool:=decide (u.a=dc)&&decide (u.b=a)
def ayO(us:List dx)(dc a:Int):Option dx:=us.find? (ayu dc a)
theorem aCQ{P:dx->Bool}{us:List dx}{j:Nat}(a:j<us.length)(h0:(us.take j).find? P=none)(c:P us[j]=true):us.find? P=some us[j]:=by
 have e:us=us.take j++us[j]::us.drop (j+1):=by simp
 grind
theorem aBL{P:dx->Bool}{us:List dx}{j:Nat}(a:j<us.length)(h0:(us.take j).find? P=none)(c:P us[j]=false):(us.take (j+1)).find? P=none:=by grind [List.take_succ_eq_append_getElem]
section
variable {k:aK->Prop}{b:List Doc}{aq:List (List UInt8)}{bu:List UInt8->List aC}
def aCR(c:aA T)(x:iE b fs aq bu us p h)(j:∀h' a,ax h h'->pA h' a us->k (.a a h')):aE T (W T) ⟨158⟩ [.a p 0] h k:=by rw[ic c.t158];obtain⟨c0,c1,c2,f,nm,tb,c8,v,e,hd,i,l,m,d⟩:=x.d;simp(disch:=omega) [e,cJ];refine alX c d x.u λh' a g n=>?_;simp_all
def pA.tL{H:Hp}(x:pA h v us):Yv.tL 1 H v=.v (.i us.length):=by rcases x with⟨rfl,rfl⟩|⟨_,q,t,rfl,_⟩<;>rfl
theorem aCS(M:aA T){l:Nat}{dc a:Int}{x0:List AV}(D:hB.ac l=.a 193 x0)(w:x0=azs.ca)(G:pA hB v us)(N:us.length<1073741824){K:aT->Prop}
 (O:us.find? (ayu dc a)=none->∀i h',cg 6 i=.a l 0->ax hB h'->K (.a 0 i h' []))
 (F:∀u,us.find? (ayu dc a)=some u->∀i h',cg 6 i=.a l 0->cg 7 i=.d true->ah (·=l) hB h'->h'.ac l=.a 193 u.ca->K (.b i h' [])):
 ∀(n j:Nat)(h:Hp)(d:Fr),j+n=us.length->ax hB h->(us.take j).find? (ayu dc a)=none->cg 6 d=.a l 0->cg 11 d=v->cg 12 d=.i us.length->cg 13 d=.i j->cg 1 d=.i dc->cg 2 d=.i a->W T (.d l131_0) d h [] K:=by
 intro n
 induction n with
 |zero=>
  intro j h d B g r f6 f11 f12 f13 m o;simp_all[aP]
 |succ n E=>
  intro j h d B g r f6 f11 f12 f13 m o;have e:j<us.length:=zo;have s:(j:Int)<us.length:=zo;obtain⟨q,t,rfl,C,H⟩:∃q t,v=.c q 0 9 us.length us.length false/\hB.ac q=.b 193 9 us.length 0 t/\∀j,(B:j<us.length)->t j=us[j].ca:=by
   rcases G with⟨rfl,_⟩|⟨_,x⟩
   grind
   omega
  have I:=Hp.lt C rfl;have J:=Hp.lt D rfl;have ng:=g.g;have z:=(g.f _ I id).trans C;have f:=(g.f _ J id).trans D;have y:=H j e;rw[aP];generalize A:CC.d l131_0=L
  by_cases c1:us[j].a=dc
  by_cases c2:us[j].b=a
  have c:ayu dc a us[j]=true:=by simp[ayu,c1,c2]
  refine kC f6 f11 f12 f13 e s z y m o dx.ca.eq_1 c1 c2 ?_;rw[w] at f;simp[dx.ca,azs,qG] at f;refine aB f ?_;refine F _ (aCQ e r c) _ _ zA aa ?_ ?_;exact ah.bj (((ah.ka g).am _).bj _ (.inl zo)) _ (.inr rfl);simp_all[dx.ca.eq_1];have c:ayu dc a us[j]=false:=by simp[ayu,c1,c2]
  refine kC f6 f11 f12 f13 e s z y m o dx.ca.eq_1 c1 c2 ?_;subst A;exact E (j+1) _ _ zo ((g.am _).bj _ (.inl zo)) (aBL e r c) zA zA zA aa zA zA;have c:ayu dc a us[j]=false:=by simp[ayu,c1]
  refine pU f6 f11 f12 f13 e s z y m o dx.ca.eq_1 c1 ?_;subst A;exact E (j+1) _ _ zo ((g.am _).bj _ (.inl zo)) (aBL e r c) zA zA zA aa zA zA
def aCT(d:aA T)(x:iE b fs aq bu us p h){dc a:Int}(q:∀h',ax h h'->k (.a (.p [.j ((ayO us dc a).getD azs).ca,.d (ayO us dc a).isSome]) h')):aE T (W T) ⟨131⟩ [.a p 0,.i dc,.i a] h k:=by rw[ic d.t131];generalize w:CC.d l131_0=L;have g0:ax h (h.am (.a 193 [.i 0,.i 0,S [],.d false,.i 0,S [],.i 0,.i 0,S []])):=aZ;refine ag ?_;refine aCR d (x.g0 g0) λo A g1 r=>?_;have m:=(g1.f _ zm id).trans (Hp.ba rfl);have c:=g0.ab g1;have l:=c.g;have z:=Hp.lt m rfl;have e:tL 1 o A=.v (.i us.length):=r.tL;refine aB e ?_;subst w;refine aCS d (dc:=dc) (a:=a) m rfl r x.u (λj t h' f g=>?_) (λu j t h' f s g y=>?_) us.length 0 o _ zo (ah.da _) rfl aa aa aa aa aa aa;have n:=(g.f _ z id).trans m;refine aS f n ?_;have:=q (h'.bj h.a (.a 193 [.i 0,.i 0,S [],.d false,.i 0,S [],.i 0,.i 0,S []])) (ah.bj (c.ab g) _ (.inl zl));rw[ayO,j] at this;exact this;refine aU f s y ?_;have:=q h' ⟨at1 l g.g,λi hi _=>(g.f i zo zo).trans (c.f i hi id)⟩;rw[ayO,j] at this;exact this
end
end Yv
