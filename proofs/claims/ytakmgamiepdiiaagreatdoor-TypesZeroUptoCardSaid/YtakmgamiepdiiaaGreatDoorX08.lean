/- A part of the proof of 'TypesZeroUptoCardSaid'. No condition. -/
import Derived.Test.YtakmgamiepdiiaaGreatDoorX07
set_option maxHeartbeats 64000000
set_option maxRecDepth 100000
set_option linter.all false
namespace Yv
variable {B:Ty->Option Nat}{E F fb i ib it j kb m n p sb wb:Nat}{K hi op:Int}{O P fv v:AV}{U:List Ty}{X x:Ty}{h h' h0 hB:Hp}{l:List Tk}{nd:List aC}{nm:List UInt8}{row:List AV}{us:List dx}
variable {T:aM->Option CF}
def ayf(nm:List UInt8):Int:=if nm∈K5 then(K5.idxOf nm:Int)+1 else 0
def azS:List UInt8:=[65,66,67,68,69,70,71,72,73,74,75,76,77,78,79,80,81,82,83,84,85,86,87,88,89,90]
def azt(nm:List UInt8):Bool:=El nm&&decide (nm.headD 0∈azS)
def ayn(us:List dx)(j:Nat)(a:Int):dx:=(ayO us j a).getD azs
def ayv(us:List dx)(j:Nat)(kind a:Int)(nm:List UInt8):Ty×cN:=
 if(ayn us j a).c=false then(dP,⟨j,a,12⟩)
 else if(ayn us j a).d.b≠2 then(dP,⟨j,a,14⟩)
 else if kind=9/\azt nm=false then(dP,⟨j,a,17⟩)
 else(⟨5,(ayn us j a).d.g,(ayn us j a).d.a⟩,vW)
def nu(us:List dx)(j:Nat)(t:Tree):Ty×cN:=
 if t.bi=0 then(dP,vW)
 else if t.bi=8 then(if ayf t.bc≠0 then(⟨ayf t.bc,[],[]⟩,vW) else ayv us j t.bi t.at t.bc)
 else if t.bi=9 then
  match t.bv with
  |[]=>(dP,⟨j,t.at,14⟩)
  |a::_=>
   if(ayn us j a.at).c=false then(dP,⟨j,a.at,12⟩)
   else if(ayn us j a.at).d.b≠1 then(dP,⟨j,a.at,14⟩)
   else ayv us j t.bi t.at t.bc
 else(dP,⟨j,t.at,14⟩)
section
variable {k:aK->Prop}{d:List Doc}{fs:List Tree}{aq:List (List UInt8)}{bu:List UInt8->List aC}
def ayy(c:aA T){a b e:Int}(f:∀h',ax h h'->k (.a (.j [.i a,.i b,.i e]) h')):aE T (W T) ⟨63⟩ [.i a,.i b,.i e] h k:=by rw[ic c.t63];refine ag ?_;exact f _ fZ
theorem aCU{r:Int}(a:0<=r <-> nm∈K5)(b:∀i:Nat,r=i->K5[i]? =some nm) (f:nm∉K5->r=-1):1+r=ayf nm:=by
 unfold ayf
 by_cases c:nm∈K5
 obtain⟨i,rfl⟩:=at6 (a.2 c);have e:=b i rfl;have hi:i<4:=by grind [K5]
 match i,hi with
 |0,_=>grind [K5]
 |1,_=>simp[K5] at e;subst e;rfl
 |2,_=>simp[K5] at e;subst e;rfl
 |3,_=>simp[K5] at e;subst e;rfl
 grind
theorem aCV(b:aA T)(s:∀h',ax h h'->k (.a (.j [.i (ayf nm),S [],S []]) h')):aE T (W T) ⟨130⟩ [S nm] h k:=by
 rw[ic b.t130];refine ag ?_;generalize a:((h.am _).am _:Hp)=H;have q:ax h H:=by rw[<-a];exact aZ
 have l:cY H (.c (h.a+1) 0 1 4 4 true) K5:=by
  refine⟨h.a+1,4,true,4,_,rfl,by rw[<-a];exact Hp.ba rfl,by decide,λj m=>?_⟩;exact match j,m with
  |0,_=>rfl
  |1,_=>rfl
  |2,_=>rfl
  |3,_=>rfl
 have t:H.ac h.a=.a 40 [.i 0,S [],S []]:=by rw[<-a];simp
 refine ahc b l zd λr f g i=>?_;have e:=aCU f g i;have o:-10<ayf nm/\ayf nm<10:=by
  unfold ayf
  by_cases c:nm∈K5
  grind [K5]
  grind
 have n:lG (.i 1) (.i r)=.v (.i (ayf nm)):=by grind [zR,gf]
 simp_all[ah.bj]
def aCW(a:aA T)(g:nm.length<4611686018427387904)(f:∀h',ax h h'->k (.a (.d (azt nm)) h')):aE T (W T) ⟨132⟩ [S nm] h k:=by
 rw[ic a.t132];refine ag ?_;refine aag a g λb g1=>?_;have q:=f b g1;unfold azt at q;cases e:El nm with
 |false=>
  simp_all
 |true=>
  cases nm with
  |nil=>simp[El] at e
  |cons c l=>
   refine ag ?_;refine Tf a ?_;have i:decide (0<=rf [65,66,67,68,69,70,71,72,73,74,75,76,77,78,79,80,81,82,83,84,85,86,87,88,89,90] c)=decide (c∈azS):=aEf.2 G0;simp_all
def aBM(c:aA T)(x:iE d fs aq bu us p h){j:Nat}{a:Int}(e:∀h' b,ax h h'->k (.a (.p [.j (ayn us j a).ca,.d b]) h')):aE T (W T) ⟨131⟩ [.a p 0,.i j,.i a] h k:=aCT c x λh' g=>e h' _ g
def aCX(w:aA T)(x:iE d fs aq bu us p h){t j:Nat}{a1 a2 a3 a4 a5:AV}(R:h.ac t=.a 83 [.a p 0,a1,a2,a3,a4,a5]){n:Tree}{row:List AV}(hn:ay 0 h n row)(hl:n.bc.length<4294967296)(f:∀h',ax h h'->k (.a (.p [.j (nu us j n).1.ca,.j (nu us j n).2.ca]) h')):aE T (W T) ⟨96⟩ [.a t 0,.i j,.j row] h k:=by
 rw[ic w.t96];generalize pY:aA1=T2;obtain⟨kv,rfl,K⟩:=hn.fx;have lt:=Hp.lt R rfl;have tl:∀(D:Fr)(c:Hp),ax h c->c.ac h.a=.a 72 [.i n.bi,.i n.gl,.i n.to,.i n.at,S n.bc,kv]->c.ac (h.a+1)=.a 40 [.i 0,S [],S []]->c.ac (h.a+1+1)=.a 28 [.i 0,.i 0,.i 0]->cg 0 D=.a t 0->cg 1 D=.i j->cg 5 D=.a h.a 0->cg 6 D=.a (h.a+1) 0->cg 7 D=.a (h.a+1+1) 0->nu us j n=ayv us j n.bi n.at n.bc->W T T2 D c [] (finish T (W T) [CR.b 3 true 6,CR.b 3 true 7] k):=by
  intro D c g1 u5 u6 u7 f0 C f5 f6 f7 eo;rw[eo] at f;subst pY;have Z:=(g1.f _ lt id).trans R;have lt1:=Hp.lt Z rfl;have l7:=Hp.lt u7 rfl;refine cC f0 C f5 Z u5 ?_;refine aBM w (x.g0 g1) λh2 b g2=>?_;unfold ayv at f;generalize ayn us j n.at=u at f⊢;have L:=(g2.f _ zo id).trans u5;have N:=(g2.f _ zo id).trans u6;have O:=(g2.f _ l7 id).trans u7;have A:=g1.ab g2;have n2:=g2.g;have l2:h.a+1+1<h2.a:=zo;cases s:u.c with
  |false=>
   simp[s,auo] at f;refine iR dx.ca.eq_1 s C f5 f6 f7 L ?_;refine ayy w λi g=>?_;have o:i.ac (h.a+1)=.a 40 [.i 0,S [],S []]:=(g.f _ bh id).trans (au N);have m:i.ac (h.a+1+1)=.a 28 [.i 0,.i 0,.i 0]:=(g.f _ bh id).trans (au O);refine bK f6 f7 o m ?_;exact f _ (ah.bj (ah.bj ((ah.bj (A.am _) _ (.inl zo)).ab g) _ (.inl zo)) _ (.inl zo))
  |true=>
   simp[s,axD,auM] at f
   by_cases c1:u.d.b=2
   simp[c1,ne_eq,not_true,auM] at f
   by_cases c2:n.bi=9
   simp[c2,true_and] at f;refine mz dx.ca.eq_1 s c1 c2 C f5 f6 f7 L ?_;refine aCW w zo λi g=>?_;have G:i.ac h.a=.a 72 [.i n.bi,.i n.gl,.i n.to,.i n.at,S n.bc,kv]:=(g.f _ bh id).trans (au L);have o:i.ac (h.a+1)=.a 40 [.i 0,S [],S []]:=(g.f _ bh id).trans (au N);have m:i.ac (h.a+1+1)=.a 28 [.i 0,.i 0,.i 0]:=(g.f _ bh id).trans (au O);have E:i.ac h2.a=.a 193 u.ca:=(g.f _ bh id).trans (cX dx.ca.eq_1 s c1);have l3:=Hp.lt E rfl;have J:=(ah.bj (A.am _) _ (.inl zo)).ab g;simp[dx.ca] at E;cases ce:azt n.bc with
   |false=>
    simp[ce,auo] at f;refine cC C f5 f6 f7 G ?_;refine ayy w λh4 P=>?_;have M:=(P.f _ zo id).trans o;have F:=(P.f _ zo id).trans m;refine bK f6 f7 M F ?_;exact f _ (ah.bj (ah.bj (J.ab P) _ (.inl zo)) _ (.inl zo))
   |true=>
    simp[ce,axD,auM] at f;refine fY C f5 f6 f7 G o m E ?_;exact f _ (ah.bj (ah.bj J _ (.inl zo)) _ (.inl zo))
   simp[c2,false_and,auM] at f;refine wM dx.ca.eq_1 s c1 c2 C f5 f6 f7 L N O ?_;exact f _ (ah.bj (ah.bj (ah.bj (A.am _) _ (.inl zo)) _ (.inl zo)) _ (.inl zo));simp[c1,ne_eq,avR,auo] at f;refine fY dx.ca.eq_1 s c1 C f5 f6 f7 L ?_;refine ayy w λi g=>?_;have o:i.ac (h.a+1)=.a 40 [.i 0,S [],S []]:=(g.f _ bh id).trans (au N);have m:i.ac (h.a+1+1)=.a 28 [.i 0,.i 0,.i 0]:=(g.f _ bh id).trans (au O);refine bK f6 f7 o m ?_;exact f _ (ah.bj (ah.bj ((ah.bj (A.am _) _ (.inl zo)).ab g) _ (.inl zo)) _ (.inl zo))
 by_cases c0:n.bi=0
 have e:nu us j n=(dP,vW):=by unfold nu;rw[atV c0]
 rw[e] at f;refine aB c0 ?_;exact f _ fZ
 by_cases c8:n.bi=8
 have e:nu us j n=if ayf n.bc≠0 then(⟨ayf n.bc,[],[]⟩,vW) else ayv us j n.bi n.at n.bc:=by unfold nu;rw[atS c0,atV c8]
 refine aB c8 ?_;refine aCV w λc g1=>?_;have G:c.ac h.a=.a 72 [.i 8,.i n.gl,.i n.to,.i n.at,S n.bc,kv]:=(g1.f _ bh id).trans aa;have o:c.ac (h.a+1)=.a 40 [.i 0,S [],S []]:=(g1.f _ bh id).trans aa;have m:c.ac (h.a+1+1)=.a 28 [.i 0,.i 0,.i 0]:=(g1.f _ bh id).trans aa;have V:=Hp.lt m rfl;have y:ax h c:=(show ax h _ from aZ).ab g1
 by_cases cb:ayf n.bc=0
 rw[atS (by rw[cb];simp)] at e;refine aB cb ?_;exact tl _ _ (ah.bj (y.am _) _ (.inl zo)) (bV G c8) (au o) (au m) aa aa aa aa aa e;rw[atV cb] at e;rw[e] at f;refine aU cb o m ?_;exact f _ (ah.bj (ah.bj (ah.bj (y.am _) _ (.inl zo)) _ (.inl zo)) _ (.inl zo))
 by_cases c9:n.bi=9
 have N7:n.bv=[]\/∃q U,n.bv=q::U:=by cases n.bv with|nil=>exact .inl rfl|cons a l=>exact .inr ⟨a,l,rfl⟩
 rcases N7 with B|⟨q,U,B⟩;have e:nu us j n=(dP,⟨j,n.at,14⟩):=by unfold nu;rw[atS c0,atS c8,atV c9,B]
 rw[e] at f;have X:=K.px (H:=((h.am (.a 72 [.i 9,.i n.gl,.i n.to,.i n.at,S n.bc,kv])).am (.a 40 [.i 0,S [],S []])).am (.a 28 [.i 0,.i 0,.i 0]));rw[B] at X;simp only[aup] at X;refine aS c9 X ?_;refine ayy w λc g1=>?_;have o:c.ac (h.a+1)=.a 40 [.i 0,S [],S []]:=(g1.f _ bh id).trans aa;have m:c.ac (h.a+1+1)=.a 28 [.i 0,.i 0,.i 0]:=(g1.f _ bh id).trans aa;have V:=Hp.lt m rfl;refine aS o m ?_;exact f _ (ah.bj (ah.bj ((show ax h _ from aZ).ab g1) _ (.inl zo)) _ (.inl zo));have e:nu us j n=if(ayn us j q.at).c=false then(dP,⟨j,q.at,12⟩) else if(ayn us j q.at).d.b≠1 then(dP,⟨j,q.at,14⟩) else ayv us j n.bi n.at n.bc:=by unfold nu;rw[atS c0,atS c8,atV c9,B]
 obtain⟨b,cap,ex,r,ff,rfl,hb,hr,iW⟩:=K.pj (by rw[B];simp);have bz:n.bv.length=U.length+1:=by rw[B];rfl
 have h0:=iW 0 zo;have ek:n.bv[0]'zo=q:=by simp[B]
 rw[ek,aue] at h0;obtain⟨OE,er,_⟩:=h0.fx;have lb:=Hp.lt hb rfl;have h00:0<r:=zo;have h01:0<n.bv.length:=zo;have Q:¬n.bv.length=0:=zo;refine cC c9 Q hb er R ?_;refine aBM w (x.g0 ?_) λc bb g1=>?_;exact fZ;generalize ayn us j q.at=u at e⊢;have G:c.ac h.a=.a 72 [.i 9,.i n.gl,.i n.to,.i n.at,S n.bc,.c b 0 6 n.bv.length cap ex]:=(g1.f _ bh id).trans aa;have o:c.ac (h.a+1)=.a 40 [.i 0,S [],S []]:=(g1.f _ bh id).trans aa;have m:c.ac (h.a+1+1)=.a 28 [.i 0,.i 0,.i 0]:=(g1.f _ bh id).trans aa;have Y:c.ac (h.a+1+1+1)=.a 72 [.i q.bi,.i q.gl,.i q.to,.i q.at,S q.bc,OE]:=(g1.f _ bh id).trans aa;have V:=Hp.lt Y rfl;have y:ax h c:=(show ax h _ from fZ).ab g1;have I:∀(z:Int)(i:Hp),nu us j n=(dP,⟨j,q.at,z⟩)->ax c i->k (.a (.p [.j [.i 0,S [],S []],.j [.i j,.i q.at,.i z]]) ((i.bj (h.a+1) (.a 40 [.i 0,S [],S []])).bj (h.a+1+1) (.a 28 [.i j,.i q.at,.i z]))):=λz i e g=>by rw[e] at f;have:=g.g;exact f _ (ah.bj (ah.bj (y.ab g) _ (.inl zo)) _ (.inl zo))
 cases s:u.c with
 |false=>
  rw[s,atV rfl] at e;refine aU dx.ca.eq_1 s Y ?_;refine ayy w λi g=>?_;have M:i.ac (h.a+1)=.a 40 [.i 0,S [],S []]:=(g.f _ bh id).trans (au o);have F:i.ac (h.a+1+1)=.a 28 [.i 0,.i 0,.i 0]:=(g.f _ bh id).trans (au m);have l3:=Hp.lt F rfl;refine aS M F ?_;exact I _ _ e ((show ax c _ from fZ).ab g)
 |true=>
  rw[s,atS zd] at e
  by_cases c1:u.d.b=1
  rw[atS (by simp[c1])] at e;refine aU dx.ca.eq_1 s c1 ?_;exact tl _ _ (ah.bj (y.am _) _ (.inl zo)) (bV G c9) (au o) (au m) aa aa aa aa aa e;rw[atV c1] at e;refine bK dx.ca.eq_1 s c1 Y ?_;refine ayy w λi g=>?_;have M:i.ac (h.a+1)=.a 40 [.i 0,S [],S []]:=(g.f _ bh id).trans (au o);have F:i.ac (h.a+1+1)=.a 28 [.i 0,.i 0,.i 0]:=(g.f _ bh id).trans (au m);have l3:=Hp.lt F rfl;refine aS M F ?_;exact I _ _ e ((show ax c _ from fZ).ab g)
 have e:nu us j n=(dP,⟨j,n.at,14⟩):=by unfold nu;rw[atS c0,atS c8,atS c9]
 rw[e] at f;refine aU c0 c8 c9 ?_;refine ayy w λc g1=>?_;have o:c.ac (h.a+1)=.a 40 [.i 0,S [],S []]:=(g1.f _ bh id).trans aa;have m:c.ac (h.a+1+1)=.a 28 [.i 0,.i 0,.i 0]:=(g1.f _ bh id).trans aa;have V:=Hp.lt m rfl;refine aS o m ?_;exact f _ (ah.bj (ah.bj ((show ax h _ from aZ).ab g1) _ (.inl zo)) _ (.inl zo))
end
def ax5(f:cN)(l:List cN):List cN:=if f.e=0 then l else l++[f]
def ax1(o:AO):Prop:=kI 48 8 o\/kI 28 3 o
def pA.all{h h':Hp}{v:AV}{us:List dx}(x:pA h v us)(e:∀q,q<h.a->uw (h.ac q)->h'.ac q=h.ac q):pA h' v us:=x.aw e
section
variable {k:aK->Prop}{z:List Doc}{fs:List Tree}{aq:List (List UInt8)}{bu:List UInt8->List aC}{t K:Nat}{D E B C:AV}{A:List cN}{n:Tree}
theorem iE.rx(x:iE z fs aq bu us p h)(H:h.a<=h'.a)(e:∀i,i<h.a->¬ax1 (h.ac i)->(∀l,h.ac i≠.a 83 l)->h'.ac i=h.ac i):iE z fs aq bu us p h':=by
 obtain⟨⟨c0,c1,c2,f,nm,tb,c8,v,I,hd,G,M,N,O⟩,dl,F,P,R,ul⟩:=x;have nR:∀{el w r fz:Nat}{q:N3 (List AV)},¬(el=48\/el=28)->¬ax1 (.b el w r fz q):=λc q=>by rcases q with⟨_,_,q⟩|⟨_,_,q⟩<;>cases q<;>simp at c
 have key:∀i o,h.ac i=o->jN o=false->¬ax1 o->(∀l,o≠.a 83 l)->h'.ac i=o:=λi o q a b c=>by subst q;exact e i (Hp.lt rfl a) b c
 have g:ah (λi=>h'.ac i≠h.ac i) h h':=⟨H,λi _ m=>avt λq=>m q⟩;obtain⟨L,⟨⟨aD,em⟩,mn⟩,Q⟩:=N;refine⟨⟨c0,c1,c2,f,nm,tb,c8,v,key p _ I rfl (λq=>by rcases q with⟨_,_,q⟩|⟨_,_,q⟩<;>cases q) (λl q=>by grind),hd.rx λb r t lb q=>?_,G.nf λi r ff _ q=>key i _ q rfl (nR zm) (λl q=>by grind),λne=>(M ne).aw g λi r t q m=>m ((key i _ q rfl (nR zm) (λl q=>by grind)).trans q.symm),⟨L,⟨⟨aD,key _ _ em rfl (λq=>by rcases q with⟨_,_,q⟩|⟨_,_,q⟩<;>cases q) (λl q=>by grind)⟩,mn⟩,λs=>(Q s).aw λq J ⟨r,f,q2⟩=>(key q _ q2 rfl (nR zm) (λl q=>by grind)).trans q2.symm⟩,O.aw λq J ⟨r,f,q2⟩=>(key q _ q2 rfl (nR zm) (λl q=>by grind)).trans q2.symm⟩,dl,F,P,R,ul⟩;refine e b lb (λm=>?_) λl q2=>?_;rcases q with⟨_,q⟩|q<;>rw[q] at m<;>rcases m with⟨_,_,m⟩|⟨_,_,m⟩<;>cases m;rw[q2] at q;rcases q with⟨_,q⟩|q<;>cases q
theorem iE.dw{I:AO->Prop}{M:Nat->Prop}(x:iE z fs aq bu us p h)(g:DW I M h h')(c:∀o,I o->ax1 o) (e:∀i,i<h.a->M i->∃l,h.ac i=.a 83 l):iE z fs aq bu us p h':=
 x.rx g.j λi hi a b=>g.d i hi (λm=>by grind) λq=>a (c _ q)
theorem aAD(Q:aA T)(x:iE z fs aq bu us p h)(m:h.ac t=.a 83 [.a p 0,D,E,B,C,fv])(J:VL 28 3 h fv (A.map cN.ca))(hl:A.length<536870912)(V:ay 0 h n row)(L:n.bc.length<4294967296)
 (d:∀h' X,DW (kI 28 3) (·=t) h h'->h'.ac t=.a 83 [.a p 0,D,E,B,C,X]->VL 28 3 h' X ((ax5 (nu us j n).2 A).map cN.ca)->k (.a (.p [.j (nu us j n).1.ca,.d (decide ((nu us j n).2.e=0))]) h')):aE T (W T) ⟨61⟩ [.a t 0,.i j,.j row] h k:=by
 rw[ic Q.t61];obtain⟨kv,rfl,hkv⟩:=V.fx;have lt:=Hp.lt m rfl;refine ag ?_;generalize G:((h.am _).am _:Hp)=H;have w:ax h H:=by rw[<-G];exact aZ
 have u6:H.ac (h.a+1)=.a 40 [.i 0,S [],S []]:=by rw[<-G];simp
 have nH:H.a=h.a+1+1:=by rw[<-G];rfl
 clear G;refine aCX Q (x.g0 w) ((w.f _ lt id).trans m) (V.nf (mY w) zl) L λF g1=>?_;generalize nu us j n=o at d⊢;obtain⟨y,f⟩:=o;simp only at d;have e:=w.ab g1;have n1:=g1.g;have n01:=e.g;have P:=(e.f _ lt id).trans m;have lt1:=Hp.lt P rfl;have N:=(g1.f _ zo id).trans u6;have l6:=Hp.lt N rfl;have nt6:t≠h.a+1:=zo
 by_cases c:f.e=0
 rw[show ax5 f A=A from atV c] at d;have U:∀H,ax h H->k (.a (.p [.j y.ca,.d (decide (f.e=0))]) H):=λH g=>d H fv (DW.of (ah.ka g)) ((g.f _ lt id).trans m) (J.aw λi r t li _=>g.f i li id);simp[c,auS] at U;refine bK Ty.ca.eq_1 cN.ca.eq_1 c N ?_;exact U _ fZ;rw[show ax5 f A=A++[f] from atS c] at d;refine bK Ty.ca.eq_1 cN.ca.eq_1 c P ?_;generalize b:(Hp.am _ _:Hp)=a;have g2:ax h a:=by rw[<-b];exact fZ
 obtain⟨t1,ub,hr⟩:∃t1,a.ac (F.a+1+1)=.b 28 3 1 0 t1/\t1 0=f.ca:=⟨_,by rw[<-b];exact Hp.ba aa,by rfl⟩;have w6:a.ac (h.a+1)=.a 40 [.i 0,S [],S []]:=by rw[<-b];exact au N
 have w8:a.ac F.a=.a 40 y.ca:=by rw[<-b];exact au Ty.ca.eq_1
 have w9:a.ac (F.a+1)=.a 28 f.ca:=by rw[<-b];exact au cN.ca.eq_1
 have n2:a.a=F.a+1+1+1:=by rw[<-b];exact aa
 have M:=(g2.f _ lt id).trans m;clear b;have Y:=J.aw λi r t li _=>g2.f i li id;obtain⟨s,ea,nN,nx',O⟩:=Y.va (AM:=24) (cap:=1) (ex:=true) zm qaa zm ub zl hr;have k1:∀{i R l},a.ac i=.a R l->s.ac i=.a R l:=λq=>(O _ (Hp.lt q rfl) (Y.nb q)).trans q;have x6:=k1 w6;have x8:=k1 w8;have x9:=k1 w9;have xt:=k1 M;simp[Ty.ca] at x8;simp[cN.ca] at x9;rw[ea];refine cq iN.eq_1 xt x6 x8 x9 c ?_;simp[c,aw'] at d;generalize Z:(Hp.bj (Hp.bj _ _ _) _ _:Hp)=u;have g4:∀i,i<s.a->i≠t->i≠h.a+1->u.ac i=s.ac i:=λi hi q1 q2=>by grind [Hp.du]
 have n4:s.a<=u.a:=by rw[<-Z];exact aa
 have e4:u.ac t=.a 83 [.a p 0,D,E,B,C,iN 3 a.a (A.map cN.ca++[f.ca])]:=by rw[<-Z];exact au iN.eq_1
 refine d u _ ⟨by omega,λi hi hm I=>?_⟩ e4 (Rw.vl (nN.aw ?_) zm);have:=g2.g;rw[g4 i zo hm zo,O i zo (λq=>I (J.is q).1),g2.f i hi id]
 grind
end
def axY{c d:Type}[DecidableEq c](f:c->d)(a:c)(b:d):c->d:=λx=>if x=a then b else f x
structure Q5 where
 a:Ty->List Mem
 f:Ty->Nat
 c:Ty->Option aC
 d:Ky->Option oS
 b:List cN
 n:Nat
def ax'(us:List dx)(aq:List (List UInt8))(j:Nat)(K:Int)(t:Tree):Mem:=⟨⟨K,t.bc,j,t.at,aq.getD j []⟩,(nu us j (t.bv.headD zT)).1⟩
abbrev ax6(h:Hp)(i:Nat)(M:Ty->Nat):Prop:=∃L,ax0 dM h i L/\∀x,gF L x=if M x=0 then none else some (.i (M x))
section
variable {M:Ty->Nat}
theorem ax6.rg(x:ax6 h i M):aEx (.b [.b .i64,.a,.a]) h (.i 0) (.h i) (.j X.ca) false=.v (.i (M X)):=by
 obtain⟨b,d,q4⟩:=x;have c:(gF b X).getD (.i 0)=.i (M X):=by grind
 have a:=d.rg (s:=X) (z:=.i 0) (ok:=false);rw[c] at a;exact a
def ax6.lt(x:ax6 h i M):i<h.a:=by obtain⟨L,m,_⟩:=x;exact m.lt
def ax6.aw(x:ax6 h i M)(e:h'.ac i=h.ac i):ax6 h' i M:=by obtain⟨L,m,q⟩:=x;exact⟨L,m.aw e,q⟩
def ax6.yr(x:ax6 h i M):∃a aD,h.ac i=.d a aD:=by obtain⟨L,m,q⟩:=x;exact⟨_,_,m.1⟩
theorem ax6.inc(x:ax6 h i M):∃z j a o,aEx (.b [.b .i64,.a,.a]) h (.i 0) (.h i) (.j X.ca) false=.v (.i (M X))/\ays (.b [.b .i64,.a,.a]) h (.i 0) (.h i) (.j X.ca)=.b (.p [z,.i j]) a/\aEx (.b [.b .i64,.a,.a]) a (.i 0) (.h i) (.j X.ca) false=.v (.i (M X))/\ayt a (.h i) (.i j) (.i ((M X:Int)+1))=.b undef (a.bj i o)/\
 a.a=h.a/\ah (·=i) h a/\ah (·=i) h (a.bj i o)/\ax6 (a.bj i o) i (axY M X (M X+1)):=by
 have c:=x.rg (X:=X);obtain⟨b,l,q4⟩:=x;obtain⟨a,j,em,g1,n,el,e⟩:=l.ayF (s:=X) (z:=.i 0);have f:(gF b X).getD (.i 0)=.i (M X):=by grind
 rw[f] at el em;obtain⟨o,d,g⟩:=e a (.i ((M X:Int)+1)) rfl;refine⟨_,j,a,o,c,em,el,d,n,g1,g1.bj _ (.inr rfl),_,g _ (Hp.dq rfl),λy=>?_⟩
 grind [ayl,axY]
end
def TM(t fb E wb sb i:Nat):Prop:=i=t\/i=fb\/i=E\/i=wb\/i=sb
structure iw(lo p t fb E wb sb:Nat)(h:Hp)(s:Q5)(B:Ty->Option Nat):Prop where
 A:∃fv,h.ac t=.a 83 [.a p 0,.h fb,.h E,.h wb,.h sb,fv]/\VL 28 3 h fv (s.b.map cN.ca)
 G:∃L,ax0 dM h fb L/\∀x,gF L x=(B x).map λb=>iN 8 b ((s.a x).map Mem.ca)
 u:∀x,(B x=none->s.a x=[])/\∀b,B x=some b->s.a x≠[]/\Rw 48 8 h b ((s.a x).map Mem.ca)
 inj:∀x y b,B x=some b->B y=some b->x=y
 D:∃L,ax0 dM h E L/\(∀x,gF L x=(s.c x).map λd=>.j d.ca)/\L.length<=s.n
 F:ax6 h wb s.f
 I:∃L,ax0 kKy h sb L/\∀q,match s.d q with|none=>gF L q=none|some g=>∃v,gF L q=some (.j (g.ca v))/\VL 48 8 h v (g.b.map Mem.ca)/\∀x b,B x=some b->aL v≠some b
 C:[t,fb,E,wb,sb].Nodup
 J:∀i,TM t fb E wb sb i->lo<=i
 k:s.b.length<=s.n/\∀x,(s.a x).length<=s.n/\s.f x<=s.n
section
variable {k:aK->Prop}{N:List Doc}{fs:List Tree}{aq:List (List UInt8)}{bu:List UInt8->List aC}{lo t:Nat}{s:Q5}{m:Mem}
theorem iw.rx(x:iw lo p t fb E wb sb h s B)(e:∀i,i<h.a->TM t fb E wb sb i\/ax1 (h.ac i)->h'.ac i=h.ac i):iw lo p t fb E wb sb h' s B:=by
 obtain⟨fv,f,Q⟩:=x.A;obtain⟨K,n,q2⟩:=x.G;obtain⟨L,o,q3⟩:=x.D;obtain⟨O,z,q4⟩:=x.F;obtain⟨P,H,q5⟩:=x.I;have d:∀i r t,i<h.a->h.ac i=.b 48 8 r 0 t->h'.ac i=h.ac i:=λi r t li q=>e i li (.inr (.inl ⟨r,t,q⟩));refine⟨⟨fv,(e _ (Hp.lt f rfl) (.inl (.inl rfl))).trans f,Q.aw λi r t li q=>e i li (.inr (.inr ⟨r,t,q⟩))⟩,⟨K,n.aw (e _ n.lt (.inl (.inr (.inl rfl)))),q2⟩,λy=>⟨(x.u y).1,λb l=>⟨((x.u y).2 b l).1,?_⟩⟩,x.inj,⟨L,o.aw (e _ o.lt (.inl (.inr (.inr (.inl rfl))))),q3⟩,⟨O,z.aw (e _ z.lt (.inl (.inr (.inr (.inr (.inl rfl)))))),q4⟩,⟨P,H.aw (e _ H.lt (.inl (.inr (.inr (.inr (.inr rfl)))))),λq=>?_⟩,x.C,x.J,x.k⟩;have y:=((x.u y).2 b l).2;obtain⟨r,t,q,w⟩:=y;exact⟨r,t,(d _ _ _ (Hp.lt q rfl) q).trans q,w⟩;have:=q5 q;revert this;cases s.d q with
 |none=>grind
 |some g=>exact λ⟨v,a,b,c⟩=>⟨v,a,b.aw d,c⟩
def iw.g0(x:iw lo p t fb E wb sb h s B)(g:ax h h'):iw lo p t fb E wb sb h' s B:=x.rx λi hi _=>g.f i hi id
def iw.lt(x:iw lo p t fb E wb sb h s B){i:Nat}(hi:TM t fb E wb sb i):i<h.a:=by obtain⟨fv,a,o⟩:=x.A;obtain⟨f,b,q2⟩:=x.G;obtain⟨g,c,q3⟩:=x.D;obtain⟨l,d,q4⟩:=x.F;obtain⟨n,e,q5⟩:=x.I;rcases hi with rfl|rfl|rfl|rfl|rfl;exact Hp.lt a rfl;exact b.lt;exact c.lt;exact d.lt;exact e.lt
theorem iw.Or(x:iw lo p t fb E wb sb h s B){i:Nat}(hi:TM t fb E wb sb i):(∃l,h.ac i=.a 83 l)\/∃a aD,h.ac i=.d a aD:=by
 obtain⟨fv,q,r⟩:=x.A;obtain⟨f,b,q2⟩:=x.G;obtain⟨g,c,q3⟩:=x.D;obtain⟨n,d,q4⟩:=x.F;obtain⟨o,e,q5⟩:=x.I;rcases hi with rfl|rfl|rfl|rfl|rfl
 grind
 exact .inr ⟨_,_,b.1⟩;exact .inr ⟨_,_,c.1⟩;exact .inr ⟨_,_,d.1⟩;exact .inr ⟨_,_,e.1⟩
theorem aAE{a:Nat}{l:List AV}:¬ax1 (.a a l):=λq=>by rcases q with⟨_,_,q⟩|⟨_,_,q⟩<;>cases q
theorem aCY{a aD}:¬ax1 (.d a aD):=λq=>by rcases q with⟨_,_,q⟩|⟨_,_,q⟩<;>cases q
theorem iw.wl{f:List cN}{fv:AV}(x:iw lo p t fb E wb sb h s B)(g:DW (kI 28 3) (·=t) h h')(e:h'.ac t=.a 83 [.a p 0,.h fb,.h E,.h wb,.h sb,fv])(v:VL 28 3 h' fv (f.map cN.ca))(S:f.length<=s.n+1):iw lo p t fb E wb sb h' {s with b:=f,n:=s.n+1} B:=by
 obtain⟨L,o,q2⟩:=x.G;obtain⟨O,z,q3⟩:=x.D;obtain⟨P,H,q4⟩:=x.F;obtain⟨Q,K,q5⟩:=x.I;have n:t≠fb/\t≠E/\t≠wb/\t≠sb:=by have:=x.C;grind
 have mp:∀{i R aD},t≠i->h.ac i=.d R aD->h'.ac i=h.ac i:=λa q=>g.d _ (Hp.lt q rfl) (Ne.symm a) λ⟨_,_,U⟩=>by grind
 have d:∀i r t,i<h.a->h.ac i=.b 48 8 r 0 t->h'.ac i=h.ac i:=λi r _ li q=>g.d i li (by rintro rfl;obtain⟨_,V,_⟩:=x.A;grind) λ⟨_,_,U⟩=>by grind
 refine⟨⟨fv,e,v⟩,⟨L,o.aw (mp n.1 o.1),q2⟩,λy=>⟨(x.u y).1,λb l=>⟨((x.u y).2 b l).1,?_⟩⟩,x.inj,⟨O,z.aw (mp n.2.1 z.1),q3.1,awv q3.2⟩,⟨P,H.aw (mp n.2.2.1 H.1),q4⟩,⟨Q,K.aw (mp n.2.2.2 K.1),λq=>?_⟩,x.C,x.J,S,λy=>⟨awv (x.k.2 y).1,awv (x.k.2 y).2⟩⟩;obtain⟨r,t,q,w⟩:=((x.u y).2 b l).2;exact⟨r,t,(d _ _ _ (Hp.lt q rfl) q).trans q,w⟩;have:=q5 q;revert this;cases s.d q with
 |none=>grind
 |some g=>exact λ⟨v,a,b,c⟩=>⟨v,a,b.aw d,c⟩
def iw.lkG(x:iw lo p t fb E wb sb h s B){ok:Bool}:∃v,(∀H:Hp,H.ac fb=h.ac fb->aEx (.b [.b .i64,.a,.a]) H .o (.h fb) (.j X.ca) ok=y7 ok v (B X).isSome)/\VL 48 8 h v ((s.a X).map Mem.ca):=by
 obtain⟨c,a,q2⟩:=x.G;have e:=λ(H:Hp)(q:H.ac fb=h.ac fb)=>(a.aw q).rg (s:=X) (z:=.o) (ok:=ok);rw[q2] at e;cases hB:B X with
 |none=>
  rw[hB] at e;exact⟨.o,e,.inl ⟨by rw[(x.u X).1 hB];rfl,rfl⟩⟩
 |some b=>
  rw[hB] at e;exact⟨_,e,((x.u X).2 b hB).2.vl (by simp[((x.u X).2 b hB).1])⟩
theorem iw.lkF(x:iw lo p t fb E wb sb h s B){ok:Bool}:∃v,aEx (.b [.b .i64,.a,.a]) h .o (.h fb) (.j X.ca) ok=y7 ok v (B X).isSome/\VL 48 8 h v ((s.a X).map Mem.ca):=by
 obtain⟨v,e,w⟩:=x.lkG (X:=X) (ok:=ok)
 grind
theorem iw.ID(x:iw lo p t fb E wb sb h s B)(hn:s.n<536870912){nb:Nat}{t1:N3 (List AV)}(xY:h.ac nb=.b 48 8 1 0 t1)(E4:t1 0=m.ca)(nV:(s.a X).length+1<=s.n):
 ∃V j L f w o,ays (.b [.b .i64,.a,.a]) h .o (.h fb) (.j X.ca)=.b (.p [V,.i j]) L/\kJ L 48 8 96 V (.c nb 0 8 1 1 true)=.b w f/\ayt f (.h fb) (.i j) w=.b undef (f.bj fb o)/\L.a=h.a/\f.a=h.a+1/\
  (∀i n l,h.ac i=.a n l->L.ac i=.a n l/\f.ac i=.a n l)/\DW ax1 (TM t fb E wb sb) h (f.bj fb o)/\iw lo p t fb E wb sb (f.bj fb o) {s with a:=axY s.a X (s.a X++[m])} (axY B X (some h.a)):=by
 obtain⟨L2,U,q2⟩:=x.G;obtain⟨L,j,em,g1,n1,_,es⟩:=U.ayF (s:=X) (z:=.o);rw[q2] at em;have lfb:=U.lt;have R:∀{i n l},h.ac i=.a n l->i≠fb:=λq c=>by rw[c,U.1] at q;grind
 have K:∀{i el w r t},h.ac i=.b el w r 0 t->i≠fb:=λq c=>by rw[c,U.1] at q;grind
 have V:VL 48 8 L (((B X).map λb=>iN 8 b ((s.a X).map Mem.ca)).getD .o) ((s.a X).map Mem.ca):=by
  cases hB:B X with
  |none=>exact .inl ⟨by rw[(x.u X).1 hB];rfl,rfl⟩
  |some b=>
   obtain⟨r,t,q,w⟩:=((x.u X).2 b hB).2;exact Rw.vl ⟨r,t,(g1.f _ (Hp.lt q rfl) (K q)).trans q,w⟩ (by simp[((x.u X).2 b hB).1])
 have bX:∀i,aL (((B X).map λb=>iN 8 b ((s.a X).map Mem.ca)).getD .o)=some i->B X=some i:=λi e=>by
  cases hB:B X with
  |none=>rw[hB] at e;cases e
  |some b=>rw[hB] at e;exact e
 obtain⟨f,ea,rw2,n2,kp⟩:=V.va (AM:=96) (cap:=1) (ex:=true) (row:=m.ca) (q0:=nb) zm qaa zm ((g1.f _ (Hp.lt xY rfl) (K xY)).trans xY) zl E4;have xS:∀i,i<h.a->i≠fb->B X≠some i->f.ac i=h.ac i:=λi hi a b=>(kp i zo λq=>b (bX i q)).trans (g1.f i hi a);have W:f.ac fb=L.ac fb:=kp fb zo λq=>by
  obtain⟨r,t,O,_⟩:=((x.u X).2 _ (bX _ q)).2
  grind
 obtain⟨o,eo,fo⟩:=es f (iN 8 L.a ((s.a X).map Mem.ca++[m.ca])) W;have hM:=fo (f.bj fb o) (Hp.dq rfl);have er:((s.a X++[m]).map Mem.ca)=(s.a X).map Mem.ca++[m.ca]:=by simp
 have Z:∀y b,B y=some b->b<h.a/\b≠fb:=λy b q=>by obtain⟨r,t,O,_⟩:=((x.u y).2 b q).2;exact⟨Hp.lt O rfl,K O⟩
 have kk:∀i,i<h.a->i≠fb->B X≠some i->(f.bj fb o).ac i=h.ac i:=λi hi a b=>(Hp.du a).trans (xS i hi a b);have k1:∀{i n l},h.ac i=.a n l->B X≠some i:=λq c=>by
  obtain⟨r,t,O,_⟩:=((x.u X).2 _ c).2
  grind
 have P:∀{i es aD},h.ac i=.d es aD->B X≠some i:=λq c=>by
  obtain⟨r,t,O,_⟩:=((x.u X).2 _ c).2
  grind
 have ne:=x.C;simp at ne;obtain⟨⟨a1,a2,a3,a4⟩,⟨Y,b2,b3⟩,⟨c1,c2⟩,d1⟩:=ne;have nxx:(f.bj fb o).a=f.a:=Hp.jp zo;obtain⟨fv,n,v1⟩:=x.A;obtain⟨L3,m3,q3⟩:=x.D;obtain⟨L4,m4,q4⟩:=x.F;obtain⟨L5,m5,q5⟩:=x.I;refine⟨_,j,L,f,_,o,em,ea,eo,n1,by omega,λi n l q=>⟨(g1.f _ (Hp.lt q rfl) (R q)).trans q,(xS i (Hp.lt q rfl) (R q) (k1 q)).trans q⟩,⟨by omega,λi hi hm hI=>kk i hi (λc=>hm (.inr (.inl c))) λc=>hI (.inl ?_)⟩,?_⟩;obtain⟨r,t,O,_⟩:=((x.u X).2 _ c).2;exact⟨r,t,O⟩;refine⟨⟨fv,(kk _ (Hp.lt n rfl) (R n) (k1 n)).trans n,v1.aw λi r t li q=>kk i li (K q) λc=>?_⟩,⟨_,hM,λy=>?_⟩,λy=>?_,λy z b H Q=>?_,⟨L3,m3.aw (kk _ m3.lt (Ne.symm Y) (P m3.1)),q3⟩,⟨L4,m4.aw (kk _ m4.lt (Ne.symm b2) (P m4.1)),q4⟩,⟨L5,m5.aw (kk _ m5.lt (Ne.symm b3) (P m5.1)),λq=>?_⟩,x.C,x.J,x.k.1,λy=>⟨?_,(x.k.2 y).2⟩⟩;obtain⟨r2,t2,O,_⟩:=((x.u X).2 _ c).2
 grind
 grind [ayl,axY]
 unfold axY
 by_cases c:y=X
 simp only[c,auo];exact⟨λq=>qaa,λb q=>by cases q;refine⟨by simp,?_⟩;rw[er,<-n1];exact rw2.aw (Hp.du zo)⟩
 simp only[c,auM];refine⟨(x.u y).1,λb S=>⟨((x.u y).2 b S).1,((x.u y).2 b S).2.aw (kk b (Z y b S).1 (Z y b S).2 λq=>c (x.inj _ _ _ S q))⟩⟩;unfold axY at H Q;have key:∀y,B y≠some h.a:=λy q=>by have:=(Z y _ q).1;omega
 by_cases c:y=X
 by_cases d:z=X
 rw[c,d];rw[atV c] at H;rw[atS d] at Q;cases H;exact absurd Q (key z)
 by_cases d:z=X
 rw[atV d] at Q;rw[atS c] at H;cases Q;exact absurd H (key y);rw[atS c] at H;rw[atS d] at Q;exact x.inj _ _ _ H Q;have:=q5 q;revert this;show(match s.d q with|none=>_|some g=>_)->(match s.d q with|none=>_|some g=>_);cases s.d q with
 |none=>exact id
 |some g=>
  refine λ⟨v,a,b,c⟩=>⟨v,a,?_,λy bb H q=>?_⟩;rcases b with b|⟨b0,Y,rfl,r,t,q,w⟩;exact .inl b;exact .inr ⟨b0,Y,rfl,r,t,(kk _ (Hp.lt q rfl) (K q) λz=>c _ _ z rfl).trans q,w⟩;unfold axY at H
  by_cases d:y=X
  rw[atV d] at H;cases H;have:=(b.is q).2;omega;rw[atS d] at H;exact c y bb H q
 show(axY s.a X (s.a X++[m]) y).length<=s.n;unfold axY
 by_cases c:y=X
 simp only[c,auo,auk,ave];exact nV;simp only[c,auM];exact(x.k.2 y).1
theorem iw.wrg(x:iw lo p t fb E wb sb h s B)(hw:s.f X+1<=s.n):
 ∃z j d o,aEx (.b [.b .i64,.a,.a]) h (.i 0) (.h wb) (.j X.ca) false=.v (.i (s.f X))/\ays (.b [.b .i64,.a,.a]) h (.i 0) (.h wb) (.j X.ca)=.b (.p [z,.i j]) d/\aEx (.b [.b .i64,.a,.a]) d (.i 0) (.h wb) (.j X.ca) false=.v (.i (s.f X))/\ayt d (.h wb) (.i j) (.i ((s.f X:Int)+1))=.b undef (d.bj wb o)/\
  d.a=h.a/\ah (·=wb) h d/\ah (·=wb) h (d.bj wb o)/\iw lo p t fb E wb sb (d.bj wb o) {s with f:=axY s.f X (s.f X+1)} B:=by
 obtain⟨z,j,d,o,U,em,el,V,W,g1,g2,Z⟩:=x.F.inc (X:=X);obtain⟨es,ve,m4⟩:=x.F.yr;have ne:=x.C;simp at ne;obtain⟨⟨a1,a2,Q,a4⟩,⟨b1,R,b3⟩,⟨c1,c2⟩,S⟩:=ne;refine⟨z,j,d,o,U,em,el,V,W,g1,g2,?_⟩;obtain⟨fv,e,Y⟩:=x.A;obtain⟨L,n,q2⟩:=x.G;obtain⟨O,H,q3⟩:=x.D;obtain⟨P,K,q5⟩:=x.I;have nr:∀{i el w r t},h.ac i=.b el w r 0 t->i≠wb:=λq c=>by grind
 refine⟨⟨fv,(g2.f _ (Hp.lt e rfl) Q).trans e,Y.aw λi r t li q=>g2.f i li (nr q)⟩,⟨L,n.aw (g2.f _ n.lt R),q2⟩,λy=>⟨(x.u y).1,λb l=>⟨((x.u y).2 b l).1,?_⟩⟩,x.inj,⟨O,H.aw (g2.f _ H.lt c1),q3⟩,Z,⟨P,K.aw (g2.f _ K.lt (Ne.symm S)),λq=>?_⟩,x.C,x.J,x.k.1,λy=>⟨(x.k.2 y).1,?_⟩⟩;obtain⟨r,t,q,w⟩:=((x.u y).2 b l).2;exact⟨r,t,(g2.f _ (Hp.lt q rfl) (nr q)).trans q,w⟩;have:=q5 q;revert this;cases s.d q with
 |none=>grind
 |some g=>exact λ⟨v,a,b,c⟩=>⟨v,a,b.aw λi r t li q=>g2.f i li (nr q),c⟩
 unfold axY
 by_cases c:y=X
 grind
 simp[c,auM];exact(x.k.2 y).2
theorem iw.plc(x:iw lo p t fb E wb sb h s B){d:aC}:
 ∃o,wk (.b [.b .i64,.a,.a]) h (.h E) (.j X.ca) (.j d.ca)=.b undef (h.bj E o)/\iw lo p t fb E wb sb (h.bj E o) {s with c:=axY s.c X (some d),n:=s.n+1} B:=by
 obtain⟨W,z,q3⟩:=x.D;obtain⟨o,S,U⟩:=z.sf (s:=X) (v:=.j d.ca);have g2:ah (·=E) h (h.bj E o):=(ah.da _).bj _ (.inr rfl);have ne:=x.C;simp at ne;obtain⟨⟨Y,Q,Z,a4⟩,⟨R,b2,b3⟩,⟨c1,c2⟩,d1⟩:=ne;refine⟨o,S,?_⟩;obtain⟨fv,e,V⟩:=x.A;obtain⟨L,l,q2⟩:=x.G;obtain⟨O,H,q4⟩:=x.F;obtain⟨P,K,q5⟩:=x.I;have nr:∀{i el w r t},h.ac i=.b el w r 0 t->i≠E:=λq c=>by rw[c,z.1] at q;grind
 refine⟨⟨fv,(g2.f _ (Hp.lt e rfl) Q).trans e,V.aw λi r t li q=>g2.f i li (nr q)⟩,⟨L,l.aw (g2.f _ l.lt R),q2⟩,λy=>⟨(x.u y).1,λb f=>⟨((x.u y).2 b f).1,?_⟩⟩,x.inj,⟨_,U _ (Hp.dq rfl),λy=>?_,?_⟩,⟨O,H.aw (g2.f _ H.lt (Ne.symm c1)),q4⟩,⟨P,K.aw (g2.f _ K.lt (Ne.symm c2)),λq=>?_⟩,x.C,x.J,awv x.k.1,λy=>⟨awv (x.k.2 y).1,awv (x.k.2 y).2⟩⟩;obtain⟨r,t,q,w⟩:=((x.u y).2 b f).2;exact⟨r,t,(g2.f _ (Hp.lt q rfl) (nr q)).trans q,w⟩
 grind [ayl,axY]
 grind [azp]
 have:=q5 q;revert this;cases s.d q with
 |none=>grind
 |some g=>exact λ⟨v,a,b,c⟩=>⟨v,a,b.aw λi r t li q=>g2.f i li (nr q),c⟩
theorem iw.sig(x:iw lo p t fb E wb sb h s B){q:Ky}{g:oS}{v:AV}(V:VL 48 8 h v (g.b.map Mem.ca))(e:∀y b,B y=some b->aL v≠some b):
 ∃o,wk (.b [.b .i64,.a,.a,.a,.a]) h (.h sb) (.j q.ca) (.j (g.ca v))=.b undef (h.bj sb o)/\iw lo p t fb E wb sb (h.bj sb o) {s with d:=axY s.d q (some g)} B:=by
 obtain⟨Y,H,q5⟩:=x.I;obtain⟨o,S,U⟩:=H.sf (s:=q) (v:=.j (g.ca v));have g2:ah (·=sb) h (h.bj sb o):=(ah.da _).bj _ (.inr rfl);have ne:=x.C;simp at ne;obtain⟨⟨Z,a2,a3,P⟩,⟨b1,b2,Q⟩,⟨c1,c2⟩,R⟩:=ne;refine⟨o,S,?_⟩;obtain⟨fv,f,W⟩:=x.A;obtain⟨K,l,q2⟩:=x.G;obtain⟨L,n,q3⟩:=x.D;obtain⟨O,z,q4⟩:=x.F;have nr:∀{i el w r t},h.ac i=.b el w r 0 t->i≠sb:=λq c=>by rw[c,H.1] at q;grind
 refine⟨⟨fv,(g2.f _ (Hp.lt f rfl) P).trans f,W.aw λi r t li q=>g2.f i li (nr q)⟩,⟨K,l.aw (g2.f _ l.lt Q),q2⟩,λy=>⟨(x.u y).1,λb e=>⟨((x.u y).2 b e).1,?_⟩⟩,x.inj,⟨L,n.aw (g2.f _ n.lt c2),q3⟩,⟨O,z.aw (g2.f _ z.lt R),q4⟩,⟨_,U _ (Hp.dq rfl),λy=>?_⟩,x.C,x.J,x.k⟩;obtain⟨r,t,q,w⟩:=((x.u y).2 b e).2;exact⟨r,t,(g2.f _ (Hp.lt q rfl) (nr q)).trans q,w⟩;unfold axY;have:=q5 y
 by_cases c:y=q
 simp[c,auo];exact⟨v,by rw[ayl,atV rfl],V.aw λi r t li q=>g2.f i li (nr q),e⟩;simp[c,auM];revert this;cases s.d y with
 |none=>grind [ayl]
 |some g=>exact λ⟨v,a,b,d⟩=>⟨v,by simp_all[ayl],b.aw λi r t li q=>g2.f i li (nr q),d⟩
end
def aEI(lo:Int):List Tk->Int->Prop
 |[],hi=>lo<=hi
 |t::l,hi=>lo<=t.a/\aEI (t.a+if t.c=7 then 0 else 1) l hi
def aEI.va{l m:List Tk}{lo md hi:Int}(x:aEI lo l md)(y:aEI md m hi):aEI lo (l++m) hi:=by
 induction l generalizing lo with
 |nil=>
  cases m with
  |nil=>exact avU x y
  |cons t m=>exact⟨avU x y.1,y.2⟩
 |cons t l a=>exact⟨x.1,a x.2⟩
def aEI.le{l:List Tk}{lo hi:Int}(x:aEI lo l hi):lo<=hi:=by
 induction l generalizing lo with
 |nil=>exact x
 |cons t l a=>have:=a x.2;have:=x.1;omega
theorem aEI.up{l:List Tk}{lo hi a:Int}(x:aEI lo l hi)(h:hi<=a):aEI lo l a:=by
 have:=x.va (m:=[]) (hi:=a) h
 grind
def C8(s:List UInt8):PR (List Tk)->Prop
 |.c l _=>aEI 0 l s.length/\(∀t∈l,t.c≠0/\t.b.length<=s.length)/\l.length<=s.length+1
 |.i _ e=>e≠0
 |.d=>False
theorem acP{s p:List UInt8}(h:aEv s p=true):p.length<=s.length:=by grind [aEv]
def acQ{s:List UInt8}{n ws}(h:wR s n ws=true):n<=s.length:=by simp[wR,awE,atW,auU] at h;obtain⟨m,_,rfl,a⟩:=h;exact acP a
theorem al9{s:List UInt8}:aEH s<=s.length:=by unfold aEH;split;exact acQ zo;split;exact acQ zo;omega
theorem al'{s:List UInt8}:gu s<=s.length:=by
 unfold gu
 grind
theorem ama{o:Nat×Int}{s:List UInt8}(a:s≠[])(h:(fA o s).2.2 =0):0<(fA o s).2.1 /\(fA o s).2.1 <=s.length/\(fA o s).1 ≠0:=by grind [List.length_pos_iff,al',al9,dU,fA]
theorem amb{s:List UInt8}{c:UInt8}(h:aEv s [47,47]=true)(b:c≠47):0<(iz s c).1.length/\(iz s c).1.length<=s.length:=by
 have e:s.take 2=[47,47]:=by simpa[aEv] using h
 unfold iz;split
 match s,e with
 |a::s,e=>
  grind
 grind
structure VW(s:List UInt8)(a:Nat)(cM:Tk)(bf:List Tk):Prop where
 f:aEI 0 bf a
 g:Hz cM=true->aEI 0 bf cM.d/\cM.d<=a
 i:∀t∈bf,t.c≠0/\t.b.length<=s.length
 d:bf.length<=a
theorem VW.acR{s:List UInt8}{a:Nat}{e:Tk}{j:List Tk}(x:VW s a e j){b:Nat}(l:a<=b):aEI 0 (j++vI e) b/\(∀t∈j++vI e,t.c≠0/\t.b.length<=s.length)/\(j++vI e).length<=a+1:=by
 unfold vI;split<;>rename_i c;have:=x.g c;refine⟨this.1.va ⟨atY _,?_⟩,λt k=>?_,?_⟩;show e.d+(if(7:Int)=7 then 0 else 1)<=b;omega;rcases auj.1 k with h|h;exact x.i t h
 grind
 have:=x.d
 grind
 rw[av5];exact⟨x.f.up zo,x.i,by have:=x.d;omega⟩
theorem acS:Hz t0=false:=by rfl
theorem Lz(s:List UInt8):∀(g:Nat)(o:Nat->Nat×Int)(a:Nat)(f:Tk)(d:List Tk),s.length<a+g->a<=s.length->VW s a f d->C8 s (o9 s g o a f d)
 |0,_,a,_,_,l,j,_=>zo
 |g+1,o,a,f,d,l,j,x=>by
  unfold o9
  by_cases c:a<s.length
  rw[atV c];have k:s.drop a≠[]:=λe=>by have:=aui List.length e;grind
  by_cases c1:s.getD a 0∈[32,9,13]
  rw[atV c1];exact Lz s g o (a+1) f d zo zo ⟨x.f.up zo,λe=>⟨(x.g e).1,by have:=(x.g e).2;omega⟩,x.i,by have:=x.d;omega⟩;rw[atS c1]
  by_cases c2:s.getD a 0=10
  rw[atV c2];have:=x.acR (b:=a+1) zo;exact Lz s g o (a+1) t0 _ zo zo ⟨this.1,λe=>(by grind [acS]),this.2.1,this.2.2⟩;rw[atS c2]
  by_cases c3:aEv (s.drop a) [47,47]=true
  rw[atV c3];have:=amb (c:=10) c3 zm;simp at this;exact Lz s g o _ f d zo zo ⟨x.f.up zo,λe=>⟨(x.g e).1,by have:=(x.g e).2;omega⟩,x.i,by have:=x.d;omega⟩;rw[atS c3]
  by_cases i:(fA (o 0) (s.drop a)).2.2 ≠0
  rw[atV i];exact i;rw[atS i];have:=ama k (by simpa using i);generalize fA (o 0) (s.drop a)=q at this⊢;simp at this;have n:aEI 0 (d++[⟨q.1,(s.drop a).take q.2.1,a,a+q.2.1⟩]) (a+q.2.1 :Nat):=x.f.va ⟨atY _,by show(a:Int)+(if q.1 =7 then 0 else 1)<=_;omega⟩;refine Lz s g _ _ _ _ zo zo ⟨n,λ_=>⟨by grind,by simp⟩,λt m=>?_,by have:=x.d;grind⟩;rcases auj.1 m with h|h;exact x.i t h
  grind
  rw[atS c];have:=x.acR (b:=s.length) j;exact⟨this.1,this.2.1,by omega⟩
theorem Pn(b:Int)(o:Nat->Nat×Int)(s:List UInt8):C8 s (tf b o s):=by unfold tf;split;simp[C8];split;simp[C8];exact Lz s _ o 0 t0 [] zo zo ⟨by simp[aEI],λe=>(by grind [acS]),λt h=>by grind,by simp⟩
def Az(k:Int):Bool:=decide (k=26)||decide (k=9)
def BG(k:Int):Bool:=decide (k=16)||decide (k=11)||decide (k=12)||decide (k=7)||decide (k=25)||decide (k=8)||decide (k=17)||decide (k=18)
mutual
def aEA(lo hi:Int):Tree->Prop
 |.mk kind _ _ a _ c=>
  if Az kind=true then gZ lo a c/\a+1<=hi
  else if BG kind=true then lo<=a/\gZ (a+1) hi c
  else(kind=0\/a<hi)/\gZ lo hi c
def gZ(lo hi:Int):List Tree->Prop
 |[]=>lo<=hi
 |t::ts=>∃md,aEA lo md t/\gZ md hi ts
end
mutual
def m8(N:Nat):Tree->Prop
 |.mk _ _ _ _ _ a=>a.length<=N/\kP N a
def kP(N:Nat):List Tree->Prop
 |[]=>True
 |t::ts=>m8 N t/\kP N ts
end
mutual
theorem aEA.le:∀{t:Tree}{lo hi:Int},aEA lo hi t->lo<=hi
 |.mk kind _ _ a _ c,lo,hi,h=>by unfold aEA at h;split at h;have:=gZ.le h.1;omega;split at h;have:=gZ.le h.2;omega;exact gZ.le h.2
theorem gZ.le:∀{ts:List Tree}{lo hi:Int},gZ lo hi ts->lo<=hi
 |[],_,_,h=>h
 |t::ts,_,_,h=>by obtain⟨md,a,c⟩:=h;exact avU (aEA.le a) (gZ.le c)
end
mutual
theorem aEA.up:∀{t:Tree}{lo hi kg c:Int},aEA lo hi t->kg<=lo->hi<=c->aEA kg c t
 |.mk kind _ _ a _ f,lo,hi,kg,c,h,d,e=>by unfold aEA at h⊢;split at h<;>rename_i c1;rw[atV c1];exact⟨gZ.up h.1 d (atY _),by omega⟩;rw[atS c1];split at h<;>rename_i c2;rw[atV c2];exact⟨by omega,gZ.up h.2 (atY _) e⟩;rw[atS c2];exact⟨by omega,gZ.up h.2 d e⟩
theorem gZ.up:∀{ts:List Tree}{lo hi kg c:Int},gZ lo hi ts->kg<=lo->hi<=c->gZ kg c ts
 |[],lo,hi,kg,c,h,d,e=>by have h:lo<=hi:=h;show kg<=c;omega
 |t::ts,_,_,_,_,h,d,e=>by obtain⟨md,a,b⟩:=h;exact⟨md,aEA.up a d (atY _),gZ.up b (atY _) e⟩
end
def gZ.tx{lo md hi:Int}{t ts}(x:aEA lo md t)(y:gZ md hi ts):gZ lo hi (t::ts):=⟨md,x,y⟩
def gZ.ly{lo hi:Int}{t}(x:aEA lo hi t):gZ lo hi [t]:=⟨hi,x,atY _⟩
def gZ.va{lo md hi:Int}:∀{ts us:List Tree},gZ lo md ts->gZ md hi us->gZ lo hi (ts++us)
 |[],_,x,y=>gZ.up y x (atY _)
 |t::ts,_,x,y=>by obtain⟨m,a,b⟩:=x;exact⟨m,a,gZ.va b y⟩
theorem aEA.hd{lo hi k f t a:Int}{nm c}(g:BG k=true)(d:lo<=a)(e:gZ (a+1) hi c):aEA lo hi (.mk k f t a nm c):=by
 unfold aEA;have:¬Az k=true:=by grind [BG,Az]
 grind
def aEA.sel{lo hi k f t a:Int}{nm c}(g:Az k=true)(d:gZ lo a c)(e:a+1<=hi):aEA lo hi (.mk k f t a nm c):=by simp_all[aEA]
def aEA.wx{lo hi k f t a:Int}{nm c}(h:Az k=false)(d:BG k=false)(e:a<hi)(g:gZ lo hi c):aEA lo hi (.mk k f t a nm c):=by simp_all[aEA]
def VY{lo hi:Int}(h:lo<=hi):aEA lo hi zT:=by exact⟨.inl rfl,h⟩
structure fE(l:List Tk):Prop where
 b:fc l
 d:∀n,n+1<l.length->(tk l n).a+(if(tk l n).c=7 then 0 else 1)<=(tk l (n+1)).a
section
def fE.le1(g:fE l)(h:n+1<l.length):(tk l n).a<=(tk l (n+1)).a:=by have:=g.d n h;omega
theorem fE.le(g:fE l)(h:i<=j)(a:j<l.length):(tk l i).a<=(tk l j).a:=by
 induction j with
 |zero=>grind
 |succ j e=>
  rcases avh i (j+1) with c|c;exact avU (e zo zo) (g.le1 a)
  grind
def fE.lt(g:fE l)(h:i<j)(c:j<l.length)(e:(tk l i).c≠7):(tk l i).a+1<=(tk l j).a:=by have a:=g.d i zo;have:=g.le (i:=i+1) (j:=j) h c;omega
def VZ{t:Tk}{ws}(h:bD t ws=true):t.c≠0/\t.c≠7/\t.c≠1:=by simp[bD] at h;omega
def RG{p:Type}(l:List Tk)(n:Nat)(Q:p->Nat->Prop):PR p->Prop
 |.c a m=>n<=m/\m<l.length/\Q a m
 |.i _ e=>e≠0
 |.d=>False
variable {p s:Type}{Q:p->Nat->Prop}{u:s->Nat->Prop}{r:PR p}
theorem RG.dk{n0:Nat}{f:p->Nat->PR s}(h:RG l n Q r)(e:∀a m,n<=m->m<l.length->Q a m->RG l n0 u (f a m)):RG l n0 u (r.dk f):=by
 cases r with
 |c a m=>exact e a m h.1 h.2.1 h.2.2
 |i=>exact h
 |d=>exact h
def RG.aw{R:p->Nat->Prop}(h:RG l m Q r)(e:n<=m)(f:∀a o,m<=o->o<l.length->Q a o->R a o):RG l n R r:=by
 cases r with
 |c a m=>exact⟨at1 e h.1,h.2.1,f _ _ h.1 h.2.1 h.2.2⟩
 |i=>exact h
 |d=>exact h
structure oM(l:List Tk)(b:Bool)(n m:Nat)(t:Tree):Prop where
 a:aEA (tk l n).a (tk l m).a t
 c:fh b t
 d:m8 (l.length+4) t
 f:t.gl<(tk l m).a
 g:t.bi=25->t.gl=t.at
def TG(l:List Tk)(b:Bool)(n:Nat):PR Tree->Prop:=RG l n λt m=>n<m/\oM l b n m t
variable {b:Bool}
def xy(g:fE l){q:Int}(c:q≠0)(a:n<l.length):RG l n (λt m=>m=n+1/\t=tk l n/\(tk l n).c=q) (jR l q n):=by unfold jR;split;exact⟨by omega,g.b n a zo,rfl,rfl,by omega⟩;simp[RG]
def AA(g:fE l){x}(a:n<l.length):RG l n (λt m=>m=n+1/\t=tk l n/\bD (tk l n) [x]=true) (lR l x n):=by unfold lR;split<;>rename_i c;exact⟨by omega,g.b n a (VZ c).1,rfl,rfl,c⟩;simp[RG]
def mD(g:fE l){ws}(h:bD (tk l n) ws=true)(d:n<l.length):n+1<l.length/\∀j,n<j->j<l.length->(tk l n).a+1<=(tk l j).a:=
 ⟨g.b n d (VZ h).1,λ_ a c=>g.lt a c (VZ h).2.1⟩
end
mutual
theorem C9:∀{t:Tree},fh false t->fh true t
 |.mk kind _ _ _ _ a,h=>by
  unfold fh at h⊢;split at h<;>rename_i c
  grind
  rw[atS c];split at h<;>rename_i c2
  grind
  rw[atS c2];exact⟨λ_=>rfl,h.2.1,acT h.2.2⟩
theorem acT:∀{ts:List Tree},aEy false ts->aEy true ts
 |[],_=>trivial
 |_::_,h=>⟨C9 h.1,acT h.2⟩
end
theorem acU:∀{b:Bool}(t:Tree),fh b t->Aa t≠none
 |b,.mk kind _ _ _ _ a,h=>by
  by_cases c:kind=26
  subst c;unfold fh at h
  match a,h with
  |[],h=>grind
  |t::ts,h=>
   have:=acU t h.2.2.1;unfold Aa
   grind
  unfold Aa
  grind
def oM.t{l n m t}(x:oM l false n m t):oM l true n m t:=⟨x.a,C9 x.c,x.d,x.f,x.g⟩
theorem aEM{b:Bool}{k f t a:Int}{nm c}(h5:k≠5)(d:k≠10)(e:k≠15)(g:(k=16\/k=11\/k=12)->b=true)(o:(k=26\/k=9)->c≠[])(h:aEy b c):fh b (.mk k f t a nm c):=by
 unfold fh
 grind
def V0{b:Bool}:fh b zT:=by simp[zT,fh,aEy]
def V2{N}:m8 N zT:=by simp[zT,m8,kP]
section
theorem jU{k f a:Int}{nm c}:(aV l n k f a nm c).gl=f:=rfl
theorem tE{k f t a:Int}{nm c}:(Tree.mk k f t a nm c).gl=f:=rfl
def fE.st(g:fE l){t:Tk}{q:Int}(a:i<j)(c:j<l.length)(e:(tk l i).c=q)(f:q≠7):(tk l i).a+1<=(tk l j).a:=g.lt a c zo
theorem V3(g:fE l)(k:n<l.length):TG l false n (Ct l n):=by
 unfold Ct;split<;>rename_i c;have⟨a,d⟩:=mD g c k;have f:=d (n+1) zo a;refine⟨by omega,a,by omega,.hd qac (atY _) f,by simp[aV,fh,aEy],by simp[aV,m8,kP],by grind [jU],λe=>by rfl⟩;refine(xy g zm k).dk λt m _ h ⟨q,r,v⟩=>?_;subst q r;have f:=g.lt (i:=n) (j:=n+1) zo h zo;split<;>rename_i c2;have⟨a,d⟩:=mD g c2 h;refine(xy g zm a).dk λt o _ p ⟨s,u,w⟩=>?_;subst s u;have x:=d (n+1+1) zo a;have h5:=g.lt (i:=n+1+1) (j:=n+1+1+1) zo p zo;refine⟨by omega,p,by omega,.sel qac (.ly (.hd qac (atY _) ?_)) h5,by simp[aV,fh,aEy],by simp[aV,m8,kP],?_,λe=>by grind [aV,Tree.bi]⟩;show(tk l n).a+1<=(tk l (n+1+1)).a;omega
 grind [jU]
 exact⟨by omega,h,by omega,.hd qac (atY _) f,by simp[aV,fh,aEy],by simp[aV,m8,kP],by grind [jU],λe=>by rfl⟩
theorem acV(g:fE l){k:Int}(a:k=4\/k=7)(p:n<l.length):TG l false n (En l k n):=by refine(xy g zm p).dk λt m _ c ⟨f,h,q⟩=>?_;subst f h;have r:=g.lt (i:=n) (j:=n+1) zo c zo;refine(V3 g c).dk λx o _ d ⟨s,x⟩=>?_;have h5:=g.le (i:=n+1) (j:=o) zo d;refine⟨by omega,d,by omega,?_,?_,⟨by simp,x.d,auW⟩,by grind [jU],λe=>by rfl⟩;rcases a with rfl|rfl;exact .wx qac qac zo (.ly (x.a.up zo zo));exact .hd qac (atY _) (.ly (x.a.up zo zo));rcases a with rfl|rfl<;>simp[aV,fh,aEy,x.c]
structure V4(l:List Tk)(b:Bool)(n m:Nat)(ts:List Tree):Prop where
 d:gZ (tk l n).a (tk l m).a ts
 c:aEy b ts
 f:kP (l.length+4) ts
 a:ts.length<=m- n
variable {b:Bool}
theorem acW(g:fE l){right:List UInt8}{p:Nat->PR Tree}{c:Nat->PR Unit}{n0:Nat}(k:∀n,n0<=n->n<l.length->TG l b n (p n)) (d:∀n,n0<=n->n<l.length->RG l n (λ_ _=>True) (c n)):∀(f n:Nat),n0<=n->n<l.length->l.length<=n+f->RG l n (λts m=>V4 l b n m ts) (ug l right p c f n)
 |0,n,_,a,r=>zo
 |f+1,n,h0,a,r=>by unfold ug;split;exact⟨at2 _,a,atY _,auW,auW,auz _⟩;refine(k n h0 a).dk λt m _ e ⟨v,x⟩=>?_;split;exact⟨by omega,e,.ly x.a,⟨x.c,auW⟩,⟨x.d,auW⟩,by grind⟩;refine(d m zo e).dk λ_ o s h _=>?_;refine(acW g k d f o zo h zo).dk λts q h5 u y=>?_;have:=g.le (i:=m) (j:=o) s h;exact⟨by omega,u,.tx x.a (y.d.up this (atY _)),⟨x.c,y.c⟩,⟨x.d,y.f⟩,by have:=y.a;grind⟩
def LA(g:fE l){left right:List UInt8}{h:Nat->PR Tree}{d:Nat->PR Unit}{op:Int}{f:Nat}(t:∀m,n<m->m<l.length->TG l b m (h m)) (r:∀m,n<m->m<l.length->RG l m (λ_ _=>True) (d m)) (k:n<l.length) (u:l.length<=n+f):
 RG l n (λts m=>n+1<m/\(∀j,n<j->j<l.length->(tk l n).a+1<=(tk l j).a)/\V4 l b (n+1) m ts) (wS l left right h d op f n):=by
 unfold wS;split<;>rename_i c;have⟨o,p⟩:=mD g c k;split;simp[RG];refine(acW g (n0:=n+1) (λm a b=>t m zo b) (λm a b=>r m zo b) f (n+1) zo o zo).dk λts m h5 s x=>?_;split<;>rename_i c2;have⟨e,q⟩:=mD g c2 s;have:=q (m+1) zo e;exact⟨by omega,e,by omega,p,x.d.up (atY _) zo,x.c,x.f,by have:=x.a;omega⟩;simp[RG];simp[RG]
def V5(g:fE l){right:List UInt8}(a:n<l.length):RG l n (λ_ _=>True) (Cu l right n):=by refine(AA g a).dk λ_ m _ c ⟨e,_⟩=>?_;split;simp[RG];exact⟨by omega,c,auW⟩
def Fg(g:fE l)(a:n<l.length):RG l n (λ_ m=>n<m) (mU l n):=by exact(xy g zm a).dk λ_ m _ c ⟨e,_⟩=>⟨by omega,c,by omega⟩
section
variable {ex:Int->Bool->Int->Nat->PR Tree}{hd:Bool}
def tF(l:List Tk)(ex:Int->Bool->Int->Nat->PR Tree)(n0:Nat):Prop:=∀op hd a n,0<=a->n0<n->n<l.length->TG l false n (ex op hd a n)
def tF.up{n0 a:Nat}(x:tF l ex n0)(h:n0<=a):tF l ex a:=λop hd c n h0 e d=>x op hd c n h0 zo d
def acX(g:fE l)(e:tF l ex n)(c:n<l.length)(d:l.length<=n+F):
 RG l n (λts m=>n+1<m/\(∀j,n<j->j<l.length->(tk l n).a+1<=(tk l j).a)/\V4 l false (n+1) m ts) (Kj l F ex op n):=
 LA g (λm a b=>e _ _ _ m zm a b) (λm _ b=>V5 g b) c d
theorem amc(g:fE l)(r:tF l ex n)(h:n<l.length):TG l false n (Kl l ex op hd n):=by refine(xy g zm h).dk λt m _ p ⟨d,f,s⟩=>?_;subst d f;refine(AA g p).dk λ_ o _ a ⟨u,_⟩=>?_;refine(r _ _ _ o zm zo a).dk λx q _ c ⟨v,x⟩=>?_;have w:=g.lt (i:=n) (j:=q) zo c zo;have k:=g.le (i:=n) (j:=o) zo a;exact⟨by omega,c,by omega,.wx qac qac zo (.ly (x.a.up k (atY _))),by simp[aV,fh,aEy,x.c],⟨by simp,x.d,auW⟩,by grind [jU],λe=>by rfl⟩
theorem acY(g:fE l){sZ:Tree}{n0:Nat}(c:oM l false n0 n sZ)(h0:n0<=n)(o:tF l ex n)(f:n<l.length)(k:l.length<=n+F):RG l n (λt m=>n<m/\oM l false n0 m t) (Cv l F ex op sZ n):=by refine(LA g (b:=false) (λm a b=>amc g (o.up zo) b) (λm _ b=>V5 g b) f k).dk λts m _ d ⟨p,h,x⟩=>?_;have q:=h m zo d;have h5:=g.le (i:=n) (j:=n+1) zo zo;have r:=x.a;have s:=c.f;exact⟨by omega,d,by omega,.wx qac qac zo (.tx c.a (x.d.up h5 (atY _))),aEM zm zm zm zm zm ⟨c.c,x.c⟩,⟨by grind,c.d,x.f⟩,by grind [jU],λe=>by grind [aV,Tree.bi]⟩
theorem amd(g:fE l)(q:tF l ex n)(h:n<l.length):TG l false n (NX l ex op n):=by unfold NX;split<;>rename_i c;have⟨d,f⟩:=mD g c h;split;simp[RG,TG];refine(q _ _ _ (n+1) zm zo d).dk λx m _ p ⟨r,x⟩=>?_;split<;>rename_i c2;have⟨a,o⟩:=mD g c2 p;have s:=o (m+1) zo a;have t:=f (m+1) zo a;have k:=f (n+1) zo d;exact⟨by omega,a,by omega,.wx qac qac zo (.ly (x.a.up zo zo)),by simp[aV,fh,aEy,x.c],⟨by simp,x.d,auW⟩,by grind [jU],λe=>by rfl⟩;simp[RG];simp[RG,TG]
theorem ame{t:Tk}(h:o7 t≠0):t.c≠0/\t.c≠7/\(o7 t=21\/o7 t=22\/o7 t=23\/o7 t=25\/o7 t=24):=by grind [o7]
theorem amf(g:fE l)(h:tF l ex n)(d:n<l.length)(w:l.length<=n+F):TG l false n (Km l F ex op hd n):=by unfold Km;split<;>rename_i c;have⟨p,q,kk⟩:=ame c;have f:=g.b n d p;have a:=g.lt (i:=n) (j:=n+1) zo f q;split;refine(acY g (sZ:=aV l (n+1) 8 (tk l n).a (tk l n).a (tk l n).b []) (n:=n+1) (n0:=n) ⟨.hd qac (atY _) a,by simp[aV,fh,aEy],by simp[aV,m8,kP],by grind [jU],λe=>by rfl⟩ zo (h.up zo) f zo).aw zo λt m _ _ x=>⟨by omega,x.2⟩;refine⟨by omega,f,by omega,?_,?_,by simp[aV,m8,kP],by grind [jU],λ_=>rfl⟩;rcases kk with e|e|e|e|e<;>rw[e];exact .wx qac qac zo qah;exact .wx qac qac zo qah;exact .wx qac qac zo qah;exact .hd qac (atY _) a;exact .wx qac qac zo qah;rcases kk with e|e|e|e|e<;>rw[e]<;>simp[aV,fh,aEy];split<;>rename_i c2;have⟨a,k⟩:=mD g c2 d;refine(acX g (h.up zo) a zo).dk λts m _ o ⟨h5,r,x⟩=>?_;have s:=k m zo o;have u:=k (n+1+1) zo zo;have v:=x.a;exact⟨by omega,o,by omega,.wx qac qac zo (x.d.up zo (atY _)),aEM zm zm zm zm zm x.c,⟨by omega,x.f⟩,by grind [jU],λe=>by rfl⟩;exact amd g h d
theorem Pp(g:fE l){n0:Nat}:∀(f:Nat)(x:Tree)(n:Nat),n0<n->tF l ex n0->n<l.length->l.length<=n+f->l.length<=n+F->oM l false n0 n x->RG l n (λt m=>oM l false n0 m t) (ye l F ex op hd f x n)
 |0,x,n,_,_,p,v,_,_=>zo
 |f+1,x,n,h0,k,p,v,G,a=>by unfold ye;split<;>rename_i c;have⟨q,w⟩:=mD g c p;refine(xy g zm q).dk λt m _ d ⟨r,s,D⟩=>?_;subst r s;have h5:=w (n+1) zo q;have h:=g.lt (i:=n+1) (j:=n+1+1) zo d zo;have z:=a.f;split;exact(acY g (sZ:=aV l (n+1+1) 9 x.gl (tk l (n+1)).a (tk l (n+1)).b [x]) (n0:=n0) ⟨.sel qac (.ly (a.a.up (atY _) zo)) h,by simp[aV,fh,aEy,a.c],⟨by simp,a.d,auW⟩,by grind [jU],λe=>by grind [aV,Tree.bi]⟩ zo (k.up zo) d zo).dk λy o _ B ⟨A,C⟩=>((Pp g f y o zo k B zo zo C).aw zo λ_ _ _ _ x=>x);exact(Pp g f _ (n+1+1) zo k d zo zo ⟨.sel qac (.ly (a.a.up (atY _) zo)) h,by simp[fh,aEy,a.c],⟨by simp,a.d,auW⟩,by grind [tE],λe=>by grind [Tree.bi]⟩).aw zo λ_ _ _ _ x=>x;split;refine(acX g (k.up zo) p zo).dk λts m _ d ⟨h5,h,y⟩=>?_;have z:=h m zo d;have A:=h (n+1) zo zo;have E:=y.a;have u:=a.f;exact(Pp g f _ m zo k d zo zo ⟨.wx qac qac zo (.tx a.a (y.d.up zo (atY _))),aEM zm zm zm zm zm ⟨a.c,y.c⟩,⟨by grind,a.d,y.f⟩,by grind [tE],λe=>by grind [Tree.bi]⟩).aw zo λ_ _ _ _ x=>x;exact⟨at2 _,p,a⟩
theorem V6(g:fE l)(a:tF l ex n)(c:n<l.length)(e:l.length<=n+F):TG l false n (yf l F ex op hd n):=by exact(amf g a c e).dk λx m _ f ⟨d,x⟩=>((Pp g F _ m d a f zo zo x).aw zo λ_ _ h _ y=>⟨by omega,y⟩)
theorem acZ(g:fE l):∀(f n:Nat),tF l ex n->n<l.length->l.length<=n+f->l.length<=n+F->TG l false n (G8 l F ex op hd f n)
 |0,n,_,a,o,_=>zo
 |f+1,n,p,a,o,s=>by
  unfold G8;split<;>rename_i c;have⟨d,h⟩:=mD g c a;refine(acZ g f (n+1) (p.up zo) d zo zo).dk λx m _ k ⟨h5,x⟩=>?_;have q:=h m zo k;have r:=h (n+1) zo d;exact⟨by omega,k,by omega,.wx qac qac zo (.ly (x.a.up zo (atY _))),by simp[aV,fh,aEy,x.c],⟨by simp,x.d,auW⟩,by grind [jU],λe=>by rfl⟩
  grind [V6]
theorem amg{t:Tk}{a:Int}(h0:0<=a)(h:a<Bb t):t.c≠0/\t.c≠7:=by grind [Bb]
theorem ac0(g:fE l){h:Int}(o:0<=h){n0:Nat}(q:tF l ex n0):∀(f:Nat)(x:Tree)(n:Nat),n0<n->n<l.length->l.length<=n+f->oM l false n0 n x->RG l n (λt m=>oM l false n0 m t) (G9 l ex op hd h f x n)
 |0,x,n,_,d,r,_=>zo
 |f+1,x,n,h0,d,r,a=>by unfold G9;split<;>rename_i c;have⟨u,v⟩:=amg o c;have k:=g.b n d u;refine(q _ _ _ (n+1) zo zo k).dk λy m _ p ⟨w,y⟩=>?_;have h5:=g.lt (i:=n) (j:=m) zo p v;have s:=g.le (i:=n) (j:=n+1) zo k;have z:=a.f;exact(ac0 g o q f _ m zo p zo ⟨.wx qac qac zo (.tx a.a (.ly (y.a.up s (atY _)))),aEM zm zm zm zm zm ⟨a.c,y.c,auW⟩,⟨by simp,a.d,y.d,auW⟩,by grind [tE],λe=>by grind [Tree.bi]⟩).aw zo λ_ _ _ _ x=>x;exact⟨at2 _,d,a⟩
end
def ac1(g:fE l){F:Nat}(q:l.length<=F):∀(f:Nat)(op:Int)(hd:Bool)(d:Int)(n:Nat),0<=d->n<l.length->l.length<=n+f->TG l false n (zU l F f op hd d n)
 |0,_,_,_,n,_,e,o=>zo
 |f+1,op,hd,d,n,h0,e,o=>by have k:tF l (zU l F f) n:=λop hd d m a b c=>ac1 g q f op hd d m a c zo;exact(acZ g F n k e zo zo).dk λx m _ r ⟨p,x⟩=>((ac0 g h0 k F _ m p r zo x).aw zo λ_ _ h _ y=>⟨by omega,y⟩)
end
section
variable {ex:Int->Bool->Int->Nat->PR Tree}{st:Int->Nat->PR Tree}{hd:Bool}{b:Bool}
theorem ac2{k f t a:Int}{nm c}(d:k=10\/k=15)(h:aEy true c):fh true (.mk k f t a nm c):=by
 unfold fh
 grind
def ac3:∀{t:Tree}{lo hi:Int},t.bi=25->aEA lo hi t->lo<=t.at/\t.at+1<=hi
 |.mk k _ _ a _ c,lo,hi,e,h=>by have e:=e;subst e;exact⟨h.1,h.2.le⟩
theorem V7(g:fE l){n0:Nat}(o:tF l ex n0)(h0:n0<n)(k:n<l.length){x:Tree}{p:Bool}(a:oM l false n0 n x):RG l n (λt m=>oM l true n0 m t) (uj l ex op hd x p n):=by have u:=a.f;unfold uj;split<;>rename_i c;have⟨d,f⟩:=mD g c.2.2 k;refine(o _ _ _ (n+1) zm zo d).dk λy m _ h ⟨q,y⟩=>?_;have⟨h5,s⟩:=ac3 c.2.1 a.a;have e:=a.g c.2.1;have r:=f (n+1) zo d;exact⟨by omega,h,.hd qac zo (.ly (y.a.up zo (atY _))),aEM zm zm zm zm zm ⟨C9 y.c,auW⟩,⟨by simp,y.d,auW⟩,by grind [jU],λe=>by rfl⟩;split;rename_i e;exact absurd e (acU x a.c);split<;>rename_i c2;have⟨d,f⟩:=mD g c2.2 k;refine(o _ _ _ (n+1) zm zo d).dk λy m _ h ⟨q,y⟩=>?_;have r:=f (n+1) zo d;have v:=f m zo h;exact⟨by omega,h,.wx qac qac zo (.tx a.a (.ly (y.a.up zo (atY _)))),aEM zm zm zm zm zm ⟨C9 a.c,C9 y.c,auW⟩,⟨by simp,a.d,y.d,auW⟩,by grind [jU],λe=>by grind [aV,Tree.bi]⟩;split;exact⟨at2 _,k,.wx qac qac zo (.ly a.a),aEM zm zm zm zm zm ⟨C9 a.c,auW⟩,⟨by simp,a.d,auW⟩,by grind [jU],λe=>by rfl⟩;simp[RG]
def BH(l:List Tk)(ex:Int->Bool->Int->Nat->PR Tree):Prop:=∀op hd a n,0<=a->n<l.length->TG l false n (ex op hd a n)
def BH.g(x:BH l ex)(n0:Nat):tF l ex n0:=λop hd d n a _ c=>x op hd d n a c
structure sx(l:List Tk)(lo hi:Int)(t:Tree):Prop where
 a:aEA lo hi t
 b:fh true t
 c:m8 (l.length+4) t
def sx.z{lo hi:Int}(h:lo<=hi):sx l lo hi zT:=⟨VY h,V0,V2⟩
def oM.o{t:Tree}(x:oM l true n m t):sx l (tk l n).a (tk l m).a t:=⟨x.a,x.c,x.d⟩
def sx.up{lo hi kg d:Int}{t:Tree}(x:sx l lo hi t)(e:kg<=lo)(f:hi<=d):sx l kg d t:=⟨x.a.up e f,x.b,x.c⟩
def ac4(l:List Tk)(n:Nat)(p:Tree×Tree×Tree)(m:Nat):Prop:=∃a b,sx l (tk l n).a a p.1 /\sx l a b p.2.1 /\sx l b (tk l m).a p.2.2
theorem RG.GT{c:Prop}[Decidable c]{r s:PR Tree}{Q:Tree->Nat->Prop}(a:c->RG l n Q r)(d:¬c->RG l n Q s):RG l n Q (if c then r else s):=by grind
theorem amh(g:fE l)(d:BH l ex)(f:n<l.length)(I:l.length<=n+F):RG l n (ac4 l n) (Ks l F ex op n):=by refine RG.dk (Q:=λ(r:Tree×Tree×Bool) m=>sx l (tk l n).a (tk l m).a r.1 /\sx l (tk l n).a (tk l m).a r.2.1) (n:=n) ?_ λr m h a ⟨q1,q2⟩=>?_;split;refine(d _ _ _ n zm f).dk λx m _ a ⟨h,x⟩=>?_;split;exact⟨by omega,a,.z (g.le zo a),x.t.o⟩;exact(V7 g (d.g n) h a x).dk λi o t c y=>⟨by omega,c,y.o,.z (g.le zo c)⟩;exact⟨at2 _,f,.z (atY _),.z (atY _)⟩;split;exact⟨by omega,a,(tk l n).a,(tk l m).a,.z (atY _),q2,.z (atY _)⟩;refine(Fg g a).dk λ_ o _ c t=>?_;refine RG.dk (Q:=λx q=>sx l (tk l o).a (tk l q).a x) (n:=o) ?_ λx q G A D=>?_;exact RG.GT (λ_=>((d _ _ _ o zm c).aw zl λ_ _ _ _ x=>x.2.t.o)) λ_=>⟨at2 _,c,.z (atY _)⟩;refine(Fg g A).dk λ_ s _ e h5=>?_;refine RG.dk (Q:=λx q=>sx l (tk l s).a (tk l q).a x) (n:=s) ?_ λz v H C E=>?_;exact RG.GT (λ_=>⟨at2 _,e,.z (atY _)⟩) λ_=>((V6 g (d.g s) e zo).dk λy u _ B ⟨w,y⟩=>((V7 g (d.g s) w B y).aw zo λ_ _ _ _ x=>x.o));have k:=g.le (i:=m) (j:=o) zo c;have p:=g.le (i:=q) (j:=s) zo e;exact⟨by omega,C,(tk l m).a,(tk l q).a,q1,D.up k (atY _),E.up p (atY _)⟩
theorem ami(g:fE l)(A:BH l ex)(p:n<l.length):TG l true n (Kt l ex op n):=by refine(AA g p).dk λt m _ s ⟨a,d,y⟩=>?_;subst a d;refine(xy g (q:=1) zm s).dk λu o _ f ⟨a,d,D⟩=>?_;subst a d;have⟨_,w⟩:=mD g y p;have B:=w (n+1) zo s;have C:=g.lt (i:=n+1) (j:=n+1+1) zo f zo;refine RG.dk (Q:=λx q=>sx l (tk l (n+1+1)).a (tk l q).a x) (n:=n+1+1) ?_ λty q E v h=>?_;exact RG.GT (λ_=>⟨at2 _,f,.z (atY _)⟩) λ_=>((V3 g f).aw zl λ_ _ _ _ x=>x.2.t.o);refine RG.dk (Q:=λx r=>sx l (tk l q).a (tk l r).a x) (n:=q) ?_ λe r G z k=>?_;split<;>rename_i c;have⟨c1,c2⟩:=mD g c v;have c3:=c2 (q+1) zo c1;exact(A _ _ _ (q+1) zm c1).aw zo λ_ _ _ _ x=>x.2.t.o.up zo (atY _);exact⟨at2 _,v,.z (atY _)⟩;exact⟨by omega,z,by omega,.hd qac zo (.tx (h.a.up zo (atY _)) (.ly k.a)),aEM zm zm zm zm zm ⟨h.b,k.b,auW⟩,⟨by simp,h.c,k.c,auW⟩,by grind [jU],λe=>by grind [aV,Tree.bi]⟩
theorem ac5(g:fE l){k:Int}(p:k=17\/k=18){ws}(c:bD (tk l n) ws=true)(h:n<l.length):TG l true n (Ht l k n):=by
 have⟨a,o⟩:=mD g c h;have f:=o (n+1) zo a;have hh:BG k=true:=by rcases p with rfl|rfl<;>decide
 unfold Ht;split<;>rename_i c2;exact⟨by omega,a,by omega,.hd hh (atY _) f,aEM zo zo zo zo zo trivial,by simp[aV,m8,kP],by grind [jU],λe=>by rfl⟩;have d:=g.b (n+1) a zo;have h5:=g.lt (i:=n+1) (j:=n+1+1) zo d zo;exact⟨by omega,d,by omega,.hd hh zo h5,aEM zo zo zo zo zo trivial,by simp[aV,m8,kP],by grind [jU],λe=>by grind [aV,Tree.bi]⟩
def BI(l:List Tk)(st:Int->Nat->PR Tree)(n0:Nat):Prop:=∀op n,n0<n->n<l.length->TG l true n (st op n)
def BI.up{n0 a:Nat}(x:BI l st n0)(h:n0<=a):BI l st a:=λop n d c=>x op n zo c
theorem ac6(g:fE l)(k:BI l st n)(f:n<l.length)(h:l.length<=n+F):RG l n (λt m=>n<m/\oM l true n m t/\aEy true t.bv) (vE l F st op n):=by refine(LA g (b:=true) (λm a b=>k _ m a b) (λm _ b=>(Fg g b).aw zl λ_ _ _ _ _=>trivial) f h).dk λts m _ d ⟨o,c,x⟩=>?_;have p:=c m zo d;have h5:=c (n+1) zo zo;have q:=x.a;exact⟨by omega,d,by omega,⟨.wx qac qac zo (x.d.up zo (atY _)),ac2 (.inl rfl) x.c,⟨by omega,x.f⟩,by grind [jU],λe=>by rfl⟩,x.c⟩
def Pq(g:fE l)(d:BI l st n)(a:n<l.length)(c:l.length<=n+F):TG l true n (vE l F st op n):=(ac6 g d a c).aw zl λ_ _ _ _ x=>⟨x.1,x.2.1⟩
theorem ac7(g:fE l)(u:BH l ex):∀(f n:Nat),BI l st n->n<l.length->l.length<=n+f->l.length<=n+F->TG l true n (Hu l F ex st op f n)
 |0,n,_,h,B,_=>zo
 |f+1,n,k,h,B,N=>by refine(AA g h).dk λt m _ p ⟨y,z,A⟩=>?_;subst y z;have⟨_,v⟩:=mD g A h;have E:=v (n+1) zo p;refine(u _ _ _ (n+1) zm p).dk λc o _ C ⟨K,c⟩=>?_;refine(Pq g (k.up zo) C zo).dk λa q _ s ⟨L,a⟩=>?_;refine RG.dk (Q:=λx r=>sx l (tk l q).a (tk l r).a x) (n:=q) ?_ λe r M D d=>?_;split<;>rename_i c2;have⟨c3,w⟩:=mD g c2 s;have J:=w (q+1) zo c3;split;exact(ac7 g u f (q+1) (k.up zo) c3 zo zo).aw zo λ_ _ _ _ x=>x.2.o.up zo (atY _);exact(Pq g (k.up zo) c3 zo).aw zo λ_ _ _ _ x=>x.2.o.up zo (atY _);exact⟨at2 _,s,.z (atY _)⟩;have G:=a.a.le;have H:=d.a.le;have I:=c.a.le;exact⟨by omega,D,by omega,.wx qac qac zo (.tx (c.a.up zo (atY _)) (.tx a.a (.ly d.a))),aEM zm zm zm zm zm ⟨C9 c.c,a.c,d.b,auW⟩,⟨by simp,c.d,a.d,d.c,auW⟩,by grind [jU],λe=>by rfl⟩
theorem ac8(g:fE l)(J:BH l ex)(z:BI l st n)(k:n<l.length)(I:l.length<=n+F):TG l true n (Hv l F ex st op n):=by
 refine(AA g k).dk λt m _ r ⟨u,v,w⟩=>?_;subst u v;have⟨_,s⟩:=mD g w k;have A:=s (n+1) zo r;refine RG.dk (Q:=ac4 l (n+1)) (n:=n+1) ?_ λp o H x ⟨a,b,d,f,h⟩=>?_;split;exact⟨at2 _,r,_,_,.z (atY _),.z (atY _),.z (atY _)⟩
 grind [amh]
 refine(Pq g (z.up zo) x zo).dk λc q _ y ⟨G,c⟩=>?_;have B:=c.a.le;have C:=d.a.le;have D:=f.a.le;have E:=h.a.le;exact⟨by omega,y,by omega,.wx qac qac zo (.tx (d.a.up zo (atY _)) (.tx f.a (.tx h.a (.ly c.a)))),ac2 (.inr rfl) ⟨d.b,f.b,h.b,c.c,auW⟩,⟨by simp,d.c,f.c,h.c,c.d,auW⟩,by grind [jU],λe=>by rfl⟩
theorem amj(g:fE l)(d:BH l ex)(r:BI l st n)(a:n<l.length)(p:l.length<=n+F):TG l true n (Ku l F ex st op n):=by refine RG.GT (λ_=>Pq g r a p) λ_=>?_;refine RG.GT (λ_=>ac7 g d F n r a p p) λ_=>?_;refine RG.GT (λ_=>ac8 g d r a p) λ_=>?_;refine RG.GT (λ_=>ami g d a) λ_=>?_;refine RG.GT (λc=>ac5 g (.inl rfl) c a) λ_=>?_;refine RG.GT (λc=>ac5 g (.inr rfl) c a) λ_=>?_;refine RG.GT (λc=>?_) λ_=>?_;have⟨f,k⟩:=mD g c a;have t:=k (n+1) zo f;refine RG.GT (λ_=>?_) λ_=>?_;exact⟨by omega,f,by omega,.wx qac qac zo qah,aEM zm zm zm zm zm trivial,by simp[aV,m8,kP],by grind [jU],λe=>by rfl⟩;refine(d _ _ _ (n+1) zm f).dk λx m _ q ⟨s,x⟩=>?_;have u:=k m zo q;exact⟨by omega,q,by omega,.wx qac qac zo (.ly (x.a.up zo (atY _))),aEM zm zm zm zm zm ⟨C9 x.c,auW⟩,⟨by simp,x.d,auW⟩,by grind [jU],λe=>by rfl⟩;refine(V6 g (d.g n) a p).dk λx m _ q ⟨f,x⟩=>?_;split<;>rename_i c;have⟨k,s⟩:=mD g c.2 q;have t:=s (m+1) zo k;have⟨u,w⟩:=ac3 c.1 x.a;exact(ac8 g d (r.up zo) k zo).dk λy o _ v ⟨h5,y⟩=>(⟨by omega,v,by omega,.hd qac (atY _) (.ly (y.a.up zo (atY _))),aEM zm zm zm zm zm ⟨y.c,auW⟩,⟨by simp,y.d,auW⟩,by grind [jU],λe=>by rfl⟩);exact(V7 g (d.g n) f q x).aw zo λ_ _ h _ y=>⟨by omega,y⟩
def ac9(g:fE l)(e:BH l ex)(k:l.length<=F):∀(f:Nat)(op:Int)(n:Nat),n<l.length->l.length<=n+f->TG l true n (Hw l F ex f op n)
 |0,_,n,d,h=>zo
 |f+1,op,n,d,h=>by exact amj g e (λop m a c=>ac9 g e k f op m c zo) d zo
end
section
variable {ex:Int->Bool->Int->Nat->PR Tree}{st:Int->Nat->PR Tree}
theorem RG.ada{a:Type}{c:Prop}[Decidable c]{r s:PR a}{Q:a->Nat->Prop}(b:c->RG l n Q r)(d:¬c->RG l n Q s):RG l n Q (if c then r else s):=by grind
def LC(l:List Tk):Prop:=∀n,(tk l n).b.length<4294967296
theorem amk(g:fE l)(v:LC l)(p:n<l.length):RG l n (λt m=>n<m/\oM l false n m t/\t.bv≠[]/\(t.bv.headD zT).bc.length<4294967296) (Kv l op n):=by unfold Kv;split<;>rename_i c;have⟨d,r⟩:=mD g c p;have w:=r (n+1) zo d;split;simp[RG];refine(xy g (q:=1) zm d).dk λt m _ h ⟨a,b,A⟩=>?_;subst a b;refine(xy g (q:=1) zm h).dk λu o _ k ⟨a,b,B⟩=>?_;subst a b;have x:=g.lt (i:=n+1) (j:=n+1+1) zo h zo;have y:=g.lt (i:=n+1+1) (j:=n+1+1+1) zo k zo;split<;>rename_i c2;have⟨f,s⟩:=mD g c2 k;have z:=s (n+1+1+1+1) zo f;exact⟨by omega,f,by omega,⟨.hd qac zo (.ly (.hd qac zo (by show(tk l (n+1+1)).a+1<=(tk l (n+1+1+1+1)).a;omega))),aEM zm zm zm zm zm ⟨aEM zm zm zm zm zm trivial,auW⟩,⟨by simp,⟨by simp,auW⟩,auW⟩,by grind [jU],λe=>by rfl⟩,by simp[aV,Tree.bv],v _⟩;simp[RG];simp[RG]
theorem aml{b:Bool}{f t a:Int}{nm}{g h:Tree}{ps e:List Tree}{k o p q y1 y2 y3 y4 c d}(h0:fh false g)(r:aEy false ps)(s:fh false h)(u:aEy true e):fh b (.mk 5 f t a nm [g,.mk k o p q c ps,h,.mk y1 y2 y3 y4 d e]):=by
 unfold fh
 grind
def Tree.ST(t:Tree):t=.mk t.bi t.gl t.to t.at t.bc t.bv:=by cases t;rfl
theorem amm(g:fE l)(D:LC l)(G:BI l st n)(y:n<l.length)(W:l.length<=n+F):RG l n (λt m=>n<m/\oM l false n m t/\yN t) (Kw l F st op n):=by refine(AA g y).dk λt m _ k ⟨c,d,C⟩=>?_;subst c d;have⟨_,p⟩:=mD g C y;have M:=p (n+1) zo k;refine RG.dk (Q:=λx o=>aEA (tk l (n+1)).a (tk l o).a x/\fh false x/\m8 (l.length+4) x/\(x.bi≠0->x.bv≠[]/\(x.bv.headD zT).bc.length<4294967296)) (n:=n+1) ?_ λr o T E ⟨J,r2,K,L⟩=>?_;split;exact(amk g D k).aw zl λ_ _ _ _ x=>⟨x.2.1.a,x.2.1.c,x.2.1.d,λ_=>x.2.2⟩;exact⟨at2 _,k,VY (atY _),V0,V2,λh=>absurd rfl h⟩;refine(xy g (q:=1) zm E).dk λu q _ A ⟨c,d,S⟩=>?_;subst c d;have N:=g.lt (i:=o) (j:=o+1) zo A zo;refine(LA g (b:=false) (λm _ b=>acV g (.inr rfl) b) (λm _ b=>V5 g b) A zo).dk λps s _ f ⟨U,z,x⟩=>?_;have O:=z s zo f;have P:=z (o+1+1) zo zo;have X:=x.a;refine RG.dk (Q:=λx v=>aEA (tk l s).a (tk l v).a x/\fh false x/\m8 (l.length+4) x) (n:=s) ?_ λty v h5 H ⟨t1,t2,t3⟩=>?_;exact RG.GT (λ_=>⟨at2 _,f,VY (atY _),V0,V2⟩) λ_=>((V3 g f).aw zl λ_ _ _ _ x=>⟨x.2.a,x.2.c,x.2.d⟩);refine(ac6 g (G.up zo) H zo).dk λbT w _ I ⟨V,a,B⟩=>?_;have p:=a.a.le;have R:=t1.le;refine⟨by omega,I,by omega,⟨.wx qac qac zo (.tx (J.up zo (atY _)) (.tx (md:=(tk l s).a) (.wx qac qac zo (x.d.up zo (atY _))) (.tx t1 (.ly a.a)))),?_,⟨by simp,K,⟨by omega,x.f⟩,t3,a.d,auW⟩,by grind [jU],λe=>by grind [aV,Tree.bi]⟩,.inr (.inr ⟨by simp[aV,Tree.bi],by simp[aV,Tree.bv],L⟩)⟩;rw[Tree.ST bT];exact aml r2 x.c t2 B
theorem amn(g:fE l)(y:LC l)(f:n<l.length)(I:l.length<=n+F):RG l n (λt m=>n<m/\oM l false n m t/\yN t) (aE6 l F op n):=by refine(AA g f).dk λt m _ k ⟨a,c,w⟩=>?_;subst a c;refine(xy g (q:=1) zm k).dk λu o _ p ⟨a,c,E⟩=>?_;subst a c;refine(AA g p).dk λ_ q _ r ⟨a,_,G⟩=>?_;subst a;have⟨_,v⟩:=mD g w f;have z:=v (n+1) zo k;have A:=g.lt (i:=n+1) (j:=n+1+1) zo p zo;refine(LA g (b:=false) (λm _ b=>acV g (.inl rfl) b) (λm _ b=>(Fg g b).aw zl λ_ _ _ _ _=>trivial) r zo).dk λps s _ d ⟨H,h,x⟩=>?_;have B:=h s zo d;have C:=h (n+1+1+1+1) zo zo;have D:=g.le (i:=n+1+1) (j:=n+1+1+1) zo r;have J:=x.a;exact⟨by omega,d,by omega,⟨.wx qac qac zo (x.d.up zo (atY _)),aEM zm zm zm zm zm x.c,⟨by omega,x.f⟩,by grind [jU],λe=>by grind [aV,Tree.bi]⟩,.inr (.inl ⟨rfl,y _⟩)⟩
theorem amo(g:fE l){o}(a:n<l.length):RG l n (λt m=>n<m/\oM l false n m t/\yN t) (Ac l o n):=by refine(AA g a).dk λt m _ d ⟨h,k,p⟩=>?_;subst h k;have⟨_,f⟩:=mD g p a;have q:=f (n+1) zo d;split<;>rename_i c;simp[RG];split;simp[RG];have b:=g.b (n+1) d zo;have r:=g.lt (i:=n+1) (j:=n+1+1) zo b zo;exact⟨by omega,b,by omega,⟨.wx qac qac zo qah,aEM zm zm zm zm zm trivial,by simp[aV,m8,kP],by grind [jU],λe=>by grind [aV,Tree.bi]⟩,.inl rfl⟩
structure Fh(l:List Tk)(n0 n:Nat)(ts:List Tree):Prop where
 b:gZ (tk l n0).a (tk l n).a ts
 f:aEy false ts
 j:kP (l.length+4) ts
 a:ts.length<=n
 d:∀t∈ts,yN t
def adb{b:Bool}:∀{ts us:List Tree},aEy b ts->aEy b us->aEy b (ts++us)
 |[],_,_,h=>h
 |_::_,_,h,a=>⟨h.1,adb h.2 a⟩
def ade{N:Nat}:∀{ts us:List Tree},kP N ts->kP N us->kP N (ts++us)
 |[],_,_,h=>h
 |_::_,_,h,a=>⟨h.1,ade h.2 a⟩
theorem Fh.QQ{n0:Nat}{ts:List Tree}{t:Tree}(g:fE l)(x:Fh l n0 n ts)(y:oM l false n m t)(h:yN t)(k:n<m)(d:m<=i)(hi:i<l.length):Fh l n0 i (ts++[t]):=
 ⟨x.b.va (.ly (y.a.up (atY _) (g.le d hi))),adb x.f ⟨y.c,auW⟩,ade x.j ⟨y.d,auW⟩,by have:=x.a;grind,λu e=>by
  rcases auj.1 e with c|c;exact x.d u c
  grind⟩
def adf(g:fE l){n0:Nat}:∀(f:Nat)(o:Nat->List UInt8×Bool)(n:Nat)(a:List Tree),n<l.length->l.length<=n+f->Fh l n0 n a->RG l n (λts m=>Fh l n0 m ts) (vH l f o n a)
 |0,_,n,_,b,d,_=>zo
 |f+1,o,n,a,b,d,x=>by exact RG.ada (λ_=>((amo g b).dk λt m _ h ⟨e,y,hd⟩=>((Fg g h).dk λ_ q _ c k=>((adf g f _ q _ c zo (x.QQ g y hd e zo c)).aw zo λ_ _ _ _ x=>x)))) λ_=>⟨at2 _,b,x⟩
def adg(g:fE l)(d:LC l)(h:∀op n,n<l.length->TG l true n (st op n)) (p:l.length<=F) {n0:Nat}:∀(f:Nat)(n:Nat)(b:List Tree),n<l.length->l.length<=n+f->Fh l n0 n b->RG l n (λts m=>Fh l n0 m ts) (aE0 l F st f n b)
 |0,n,_,a,k,_=>zo
 |f+1,n,b,a,k,x=>by exact RG.ada (λ_=>(RG.dk (Q:=λt m=>n<m/\oM l false n m t/\yN t) (n:=n) (RG.GT (λ_=>amn g d a zo) λ_=>amm g d (λop m _ c=>h op m c) a zo) λt m _ r ⟨o,y,hd⟩=>((Fg g r).dk λ_ q _ e s=>((adg g d h p f q _ e zo (x.QQ g y hd o zo e)).aw zo λ_ _ _ _ x=>x)))) λ_=>⟨at2 _,a,x⟩
structure rG(N:Nat)(lo hi:Int)(t:Tree):Prop where
 c:t.bi=1
 f:t.at<hi
 g:gZ lo hi t.bv
 i:aEy false t.bv
 b:kP N t.bv
 a:t.bv.length<=N
 d:∀t'∈t.bv,yN t'
theorem amq(g:fE l)(p:LC l)(z:∀op n,n<l.length->TG l true n (st op n)) (k:l.length<=F) {to:Int} {o} (f:0<l.length):RG l 0 (λt m=>rG (l.length+4) (tk l 0).a (tk l m).a t) (Ad l F st to o 0):=by refine(AA g f).dk λt m _ w ⟨d,b,B⟩=>?_;refine(xy g (q:=1) zm w).dk λu q _ c ⟨d,b,C⟩=>?_;refine(Fg g c).dk λ_ r _ a D=>?_;refine(adf g (n0:=r) F o r [] a zo ⟨atY _,auW,auW,auz _,λ_ h=>by grind⟩).dk λis s _ e x=>?_;refine(adg g p z k F s is e zo x).dk λds v _ A y=>?_;have:=g.le (i:=0) (j:=r) zo a;have c1:=y.b.le;have c2:=g.le (i:=q) (j:=r) zo a;have c3:=g.lt (i:=m) (j:=q) zo c zo;exact⟨by omega,A,rfl,by rw[b];show(tk l m).a<_;omega,y.b.up this (atY _),y.f,y.j,by have:=y.a;show ds.length<=_;omega,y.d⟩
end
def aEI.Hm{e:Tk}:∀{l:List Tk}{lo:Int},aEI lo l e.a->lo<=(tk (l++[e]) 0).a
 |[],_,h=>h
 |_::_,_,h=>h.1
theorem aEI.ac{e:Tk}:∀{l:List Tk}{lo:Int},aEI lo l e.a->∀n,n+1<(l++[e]).length->(tk (l++[e]) n).a+(if(tk (l++[e]) n).c=7 then 0 else 1)<=(tk (l++[e]) (n+1)).a
 |[],_,_,n,a=>by grind
 |t::l,_,h,0,_=>h.2.Hm
 |t::l,_,h,n+1,a=>h.2.ac n qaa
theorem adh{l:List Tk}{n:Nat}(h:n<l.length):tk l n∈l:=by grind [tk]
theorem adi{l:List Tk}{n:Nat}(h:l.length<=n):tk l n=⟨0,[],0,0⟩:=by grind [tk]
section
variable {s:List UInt8}
theorem adj(h:C8 s (.c l n)):fc (l++[fD s]):=by
 intro n b a
 grind [tk,fD]
def amr(h:C8 s (.c l n)):fE (l++[fD s]):=⟨adj h,λn a=>(show aEI 0 l (fD s).a from h.1).ac n a⟩
theorem adk(h:C8 s (.c l n))(m:Nat):(tk (l++[fD s]) m).b.length<=s.length:=by
 rcases avh m (l++[fD s]).length with c|c;rcases auj.1 (adh c) with q|q;exact(h.2.1 _ q).2
 grind [fD]
 rw[adi c];simp
mutual
theorem m8.up{N M:Nat}(h:N<=M):∀{t:Tree},m8 N t->m8 M t
 |.mk _ _ _ _ _ a,x=>⟨at1 x.1 h,kP.up h x.2⟩
theorem kP.up{N M:Nat}(h:N<=M):∀{ts:List Tree},kP N ts->kP M ts
 |[],_=>trivial
 |_::_,x=>⟨m8.up h x.1,kP.up h x.2⟩
end
theorem adl(h:C8 s (.c l n))(r:s.length<16777216)(oi:Nat->List UInt8×Bool):RG (l++[fD s]) 0 (λt _=>rG (s.length+6) 0 s.length t) (sj (l++[fD s]) s.length oi):=by
 have g:=amr h;have p:=h.2.2;have k:(l++[fD s]).length=l.length+1:=by simp
 have f:=(show aEI 0 l (fD s).a from h.1).Hm;have u:(tk (l++[fD s]) l.length).a=s.length:=by simp[tk,fD]
 generalize o:l++[fD s]=L at*;have e:BH L (zU L (lY L) (lY L)):=λop hd c n a b=>ac1 g qav _ op hd c n a b qav;have d:=λop n b=>ac9 (F:=lY L) g e qav (lY L) op n b qav;refine(amq g (λm=>?_) d qav zo).aw zl λt m _ q x=>?_
 grind [adk]
 have:=g.le (i:=m) (j:=l.length) zo zo;exact⟨x.c,by have:=x.f;omega,x.g.up f zo,x.i,x.b.up zo,by have:=x.a;omega,x.d⟩
end
def Pr(s:List UInt8):PR Tree->Prop
 |.c t _=>rG (s.length+6) 0 s.length t
 |.i _ e=>e≠0
 |.d=>False
def V8(s:List UInt8)(a:s.length<16777216)(b:Int)(o oi):Pr s (Al b o oi s):=by
 have h:=Pn b o s;unfold Al;revert h;generalize tf b o s=r;intro h;cases r with
 |i=>exact h
 |d=>exact h
 |c l n=>
  have t:=adl h a oi;show Pr s ((sj (l++[fD s]) s.length oi).dk _);revert t;generalize sj (l++[fD s]) s.length oi=r;intro t;cases r with
  |i=>exact t
  |d=>exact t
  |c t m=>
   show Pr s (if _ then _ else _);split;simp[Pr];exact t.2.2
mutual
theorem m8.t{N:Nat}(h:N<4294967296):∀{t:Tree},m8 N t->rY t
 |.mk _ _ _ _ _ a,x=>⟨auD x.1 h,kP.t h x.2⟩
theorem kP.t{N:Nat}(h:N<4294967296):∀{ts:List Tree},kP N ts->pq ts
 |[],_=>trivial
 |_::_,x=>⟨m8.t h x.1,kP.t h x.2⟩
end
def rG.QP{N:Nat}{lo hi:Int}{t:Tree}(x:rG N lo hi t)(h:N<4294967296):rY t:=by rw[Tree.ST t];exact⟨auD x.a h,x.b.t h⟩
def rG.fh{N:Nat}{lo hi:Int}{t:Tree}(x:rG N lo hi t):Yv.fh false t:=by rw[Tree.ST t,x.c];exact aEM zm zm zm zm zm x.i
theorem adn(s:List UInt8)(i:s.length<16777216):O3 s where
 c:=i
 g b o l n e:=by have h:=Pn b o s;rw[e] at h;exact⟨adj h,λm _=>by grind [adk],by have:=h.2.2;omega⟩
 f b o p e h:=by have:=Pn b o s;rw[h] at this;exact this
 h b o l n oi t m e h:=by have g:=Pn b o s;rw[e] at g;have:=adl g i oi;rw[h] at this;exact this.2.2.QP zo
 d b o oi h:=by have:=V8 s i b o oi;rw[h] at this;exact this
 a b o oi p e h:=by have:=V8 s i b o oi;rw[h] at this;exact this
structure C'(Pd:aC->Prop)(u:dx)(nd:List aC):Prop where
 i:u.c=false->u.d=qG
 h:u.c=true->u.d.a=u.f
 g:u.c=true->u.d∈nd
 f:u.c=true->u.d.b=7\/u.d.b=6\/u.d.b=8->u.d.c=u.a/\u.d.f<u.b
 b:u.c=true->u.d.b=1->u.d.c=u.a
 c:u.c=true->u.d.b≠5/\u.d.b≠4
 a:u.c=true->u.d.b=2->Pd u.d
section
variable {Pd:aC->Prop}
variable {E:fM}{A j:List aC}{c c' lo md:Int}{m ar:KM}{ms:List KM}{aN:Bool}{s l v:WS}{o:Option aC}
def qJ(E:fM)(nd:List aC)(c:Int)(m:KM):Prop:=∀s d,m s=some d->d.a=s/\(d.b=6\/d.b=7\/d.b=8)/\d.c=E.j/\d.f<c/\d∈nd
theorem qJ.up(x:qJ E nd c m)(h:c<=c')(k:∀d∈nd,d∈A):qJ E A c' m:=λs d e=>by
 obtain⟨a,b,f,g,i⟩:=x s d e
 grind
def qJ.z:qJ E nd c aX:=λs d e=>by cases e
def tG(Pd:aC->Prop)(E:fM)(nd:List aC)(lo:Int):List dx->Int->Prop
 |[],hi=>lo<=hi
 |u::us,hi=>lo<=u.b/\u.a=E.j/\C' Pd u nd/\tG Pd E nd (u.b+1) us hi
def C'.up{u:dx}(x:C' Pd u nd)(k:∀d∈nd,d∈A):C' Pd u A:=⟨x.i,x.h,λe=>k _ (x.g e),x.f,x.b,x.c,x.a⟩
def tG.va:∀{us vs:List dx}{lo:Int},tG Pd E nd lo us md->tG Pd E nd md vs hi->tG Pd E nd lo (us++vs) hi
 |[],[],_,a,b=>avU a b
 |[],_::_,_,a,b=>⟨avU a b.1,b.2⟩
 |_::_,_,_,a,b=>⟨a.1,a.2.1,a.2.2.1,a.2.2.2.va b⟩
def tG.up(b:∀d∈nd,d∈A):∀{us:List dx}{lo:Int},tG Pd E nd lo us hi->tG Pd E A lo us hi
 |[],_,a=>a
 |_::_,_,a=>⟨a.1,a.2.1,a.2.2.1.up b,a.2.2.2.up b⟩
theorem tG.px:∀{us:List dx}{lo:Int},tG Pd E nd lo us hi->lo+us.length<=hi
 |[],_,a=>by have a:_<=hi:=a;grind
 |_::_,_,a=>by have:=a.2.2.2.px;have:=a.1;grind
structure WG(Pd:aC->Prop)(E:fM)(lo hi:Int)(s l:WS):Prop where
 f:lo<=hi
 c:∀d∈s.a.c,d∈l.a.c
 m:qJ E l.a.c hi l.m
 g:qJ E l.a.c hi l.b
 i:∃new,l.a.b=s.a.b++new/\tG Pd E l.a.c lo new hi
structure xz(E:fM)(j:List aC)(ms:List KM)(ar:KM)(lo:Int)(s:WS):Prop where
 a:∀d∈j,d∈s.a.c
 f:∀m∈ms,qJ E s.a.c lo m
 c:qJ E s.a.c lo ar
 m:qJ E s.a.c lo s.m
 b:qJ E s.a.c lo s.b
def xz.lj(x:xz E j ms ar lo s)(w:WG Pd E lo hi s l):xz E j ms ar hi l:=
 ⟨λd h=>w.c d (x.a d h),λm h=>(x.f m h).up w.f w.c,x.c.up w.f w.c,w.m,w.g⟩
theorem WG.ab(a:WG Pd E lo md s l)(b:WG Pd E md hi l v):WG Pd E lo hi s v:=by obtain⟨e,q,n⟩:=a.i;obtain⟨k,r,p⟩:=b.i;exact⟨avU a.f b.f,λd h=>b.c d (a.c d h),b.m,b.g,e++k,by grind,(n.up b.c).va p⟩
def xz.sT(x:xz E j ms ar lo s)(h:lo<=hi):WG Pd E lo hi s s:=⟨h,λ_ h=>h,x.m.up h λ_ h=>h,x.b.up h λ_ h=>h,[],by simp,h⟩
structure Pt(Pd:aC->Prop)(E:fM)(j:List aC):Prop where
 b:∀q,∀d∈E.a q,(d.b=2\/d.b=3)/\d∈j
 a:∀x∈(E.n.getD E.j zT).bv,x.bi=2->⟨1,x.bc,E.j,x.at,x.bc⟩∈j
 p:∀q,∀d∈E.a q,Pd d
def Ij(Pd:aC->Prop)(E:fM)(nd:List aC)(c:Int)(nm:List UInt8)(o:Option aC):Prop:=∀d,o=some d->d.a=nm/\d∈nd/\(d.b=7\/d.b=6\/d.b=8->d.c=E.j/\d.f<c)/\(d.b=1->d.c=E.j)/\d.b≠5/\d.b≠4/\(d.b=2->Pd d)
theorem qJ.jk(x:qJ E nd c m):Ij Pd E nd c nm (m nm):=λd e=>by
 obtain⟨a,b,f,g,i⟩:=x nm d e
 grind
theorem ado:∀{ms:List KM},(∀m∈ms,qJ E nd c m)->Ij Pd E nd c nm (xk ms nm)
 |[],_=>λd e=>by simp[xk] at e
 |m::ms,h=>by
  unfold xk;have a:=(h m zm).jk (Pd:=Pd) (nm:=nm);split<;>rename_i e
  grind
  exact ado λm b=>h m qaa
theorem adp(t:Pt Pd E j)(g:∀d∈j,d∈nd) {q:List UInt8}:Ij Pd E nd c nm (uy (E.a q) nm):=λd e=>by unfold uy at e;have f:=avP e;obtain⟨a,b⟩:=t.b q d f;exact⟨by grind,g d b,λ_=>by omega,λ_=>by omega,by omega,by omega,λ_=>t.p q d f⟩
theorem ams(t:Pt Pd E j)(g:∀d∈j,d∈nd) (i:∀m∈ms,qJ E nd c m):Ij Pd E nd c nm (qH E ms nm):=by
 unfold qH EU;have a:=ado (Pd:=Pd) (nm:=nm) i;split<;>rename_i e
 grind
 split<;>rename_i b;have h:=avP b;have f:=axf b;simp at f;have:=g _ (t.a _ h f.1);intro d e
 grind
 exact adp t g
def V9(x:xz E j ms ar lo s){a:Int}(n:lo<=a)(p:a+1<=hi)(r:Ij Pd E s.a.c a nm o):WG Pd E lo hi s ⟨s.m,s.b,lD E a nm o s.a⟩:=by
 have k:lo<=hi:=zo;refine⟨k,λ_ h=>h,x.m.up k λ_ h=>h,x.b.up k λ_ h=>h,_,rfl,n,rfl,?_,p⟩;cases o with
 |none=>exact⟨λ_=>rfl,nofun,nofun,nofun,nofun,nofun,nofun⟩
 |some d=>
  obtain⟨a,b,c,e,f,g,i⟩:=r d rfl;exact⟨nofun,λ_=>a,λ_=>b,λ_=>c,λ_=>e,λ_=>⟨f,g⟩,λ_=>i⟩
theorem Wa(x:qJ E nd c m){d:aC}(k:d.b=6\/d.b=7\/d.b=8)(n:d.c=E.j)(p:d.f<c):qJ E (d::nd) c (rA m d.a d):=λs e h=>by
 unfold rA at h;split at h<;>rename_i q
 grind
 obtain⟨a,b,f,g,i⟩:=x s e h
 grind
def adq(x:xz E j ms ar lo s){d:aC}(hh:lo<=hi)(a:d.b=6\/d.b=7\/d.b=8)(b:d.c=E.j)(e:d.f<hi):WG Pd E lo hi s (HK d s):=
 ⟨hh,λ_ h=>.tail _ h,Wa (x.m.up hh λ_ h=>h) a b e,x.b.up hh λ_ h=>.tail _ h,[],by simp[HK,HJ,K4],hh⟩
def amt(x:xz E j ms ar lo s){d:aC}(hh:lo<=hi)(a:d.b=6\/d.b=7\/d.b=8)(b:d.c=E.j)(e:d.f<hi):WG Pd E lo hi s (EW d s):=
 ⟨hh,λ_ h=>.tail _ h,x.m.up hh λ_ h=>.tail _ h,Wa (x.b.up hh λ_ h=>h) a b e,[],by simp[EW,HJ,K4],hh⟩
def Pu(Pd:aC->Prop)(E:fM)(j:List aC)(t:Tree):Prop:=∀lo hi aN ms ar s,aEA lo hi t->xz E j ms ar lo s->WG Pd E lo hi s (fU E ms aN ar t s)
theorem Fi:∀{ts:List Tree}{lo:Int}{s:WS},(∀t∈ts,Pu Pd E j t)->gZ lo hi ts->xz E j ms ar lo s->WG Pd E lo hi s (jF E ms aN ar ts s)
 |[],_,_,_,o,x=>by exact x.sT o
 |t::ts,_,_,h,⟨md,b,d⟩,x=>by have a:=h t zm _ _ aN ms ar _ b x;exact a.ab (Fi (λt e=>h t qaa) d (x.lj a))
def amu:∀{t:Tree}{lo hi:Int},t.bi≠0->aEA lo hi t->t.at<hi
 |.mk k _ _ a _ b,lo,hi,e,h=>by have e:k≠0:=e;unfold aEA at h;show a<hi;split at h;omega;split at h;have:=h.2.le;omega;omega
theorem adr:∀{ts:List Tree}{lo:Int}{s:WS},(∀t∈ts,Pu Pd E j t)->gZ lo hi ts->xz E j [] aX lo s->WG Pd E lo hi s (oD E ts s)
 |[],_,_,_,o,x=>by exact x.sT o
 |t::ts,lo,s,h,⟨md,d,e⟩,x=>by
  have a:=h t zm _ _ false [] aX ⟨aX,aX,s.a⟩ d ⟨x.a,x.f,x.c,.z,.z⟩;have b:WG Pd E lo md s ⟨s.m,s.b,(fU E [] false aX t ⟨aX,aX,s.a⟩).a⟩:=⟨a.f,a.c,x.m.up a.f a.c,x.b.up a.f a.c,a.i⟩;have y:=x.lj b;have c:WG Pd E lo md s (tj E t ⟨s.m,s.b,(fU E [] false aX t ⟨aX,aX,s.a⟩).a⟩):=by unfold tj;split<;>rename_i q;omega;exact b.ab (adq y (atY _) (.inl rfl) rfl (amu q d))
  exact c.ab (adr (λt f=>h t qaa) e (x.lj c))
theorem ads:∀{t:Tree}{lo hi:Int},aEA lo hi t->gZ lo hi t.bv
 |.mk k _ _ a _ b,lo,hi,h=>by
  unfold aEA at h;show gZ lo hi b;split at h;exact h.1.up (atY _) zo;split at h;exact h.2.up zo (atY _)
  grind
theorem adt(t:Pt Pd E j):∀(n:Nat)(x:Tree),sizeOf x<n->Pu Pd E j x
 |0,x,h=>zo
 |n+1,x,hn=>by
  intro lo hi aN ms ar s o p;have D:=adt t n;have g:∀t'∈x.bv,Pu Pd E j t':=λt' h=>D t' (by have:=HN h;omega);have o':=o;rw[Tree.ST x] at o';unfold aEA at o'
  by_cases G:x.bi=5
  rw[G,atS zd,atS zd] at o';have ol:=o'.2
  by_cases q:∃k k1 r w,x.bv=[k,k1,r,w]
  obtain⟨k,k1,r,w,q⟩:=q;rw[ab3 G q];rw[q] at ol;obtain⟨m1,M,m2,N,m3,O,J,S,H⟩:=ol;have K:k1∈x.bv:=by grind
  have L:w∈x.bv:=by grind
  have a:=adr (ts:=k::k1.bv) (s:=⟨aX,aX,s.a⟩) (λt' h=>by rcases atZ.1 h with e|e;rw[e];exact g k qaa;exact D t' (by have:=OJ K e;omega)) (.tx M (ads N)) ⟨p.a,λ_ h=>qaa,.z,.z,.z⟩
  generalize oD E (k::k1.bv) ⟨aX,aX,s.a⟩=P at a⊢;have b:=g r qaa _ _ false [] aX ⟨aX,aX,P.a⟩ O ⟨λd h=>a.c d (p.a d h),λ_ h=>qaa,.z,.z,.z⟩;generalize fU E [] false aX r ⟨aX,aX,P.a⟩=Q at b⊢;have c:=Fi (ms:=[aX]) (ar:=aX) (aN:=true) (s:=⟨P.m,P.b,Q.a⟩) (ts:=w.bv) (λt' e=>D t' (by have:=OJ L e;omega)) (ads S) ⟨λd h=>b.c d (a.c d (p.a d h)),λm h=>(by simp at h;subst h;exact .z),.z,a.m.up b.f b.c,a.g.up b.f b.c⟩;generalize jF E [aX] true aX w.bv ⟨P.m,P.b,Q.a⟩=R at c⊢;have le:lo<=hi:=by have:=a.f;have:=b.f;have:=c.f;have H:J<=hi:=H;omega
  have nd:∀d∈s.a.c,d∈R.a.c:=λd h=>c.c d (b.c d (a.c d h));obtain⟨T,B,W⟩:=a.i;obtain⟨U,I,X⟩:=b.i;obtain⟨V,Z,Y⟩:=c.i;refine⟨le,nd,p.m.up le nd,p.b.up le nd,T++(U++(V++[])),?_,(W.up λd h=>c.c d (b.c d h)).va ((X.up c.c).va (Y.va (md:=J) (vs:=[]) H))⟩
  grind
  have e:fU E ms aN ar x s=s:=by rw[Tree.ST x];simp_all[fU]
  rw[e];exact p.sT o.le
  by_cases C:x.bi=10\/x.bi=15
  rw[abZ C];have k1:Az x.bi=false:=by rcases C with e|e<;>rw[e]<;>decide
  have r:BG x.bi=false:=by rcases C with e|e<;>rw[e]<;>decide
  rw[atS qaa,atS qaa] at o';have a:=Fi (aN:=true) (ms:=s.m::ms) (ar:=ar) (s:=⟨aX,s.b,s.a⟩) g o'.2 ⟨p.a,λm h=>by rcases atZ.1 h with e|e;rw[e];exact p.m;exact p.f m e,p.c,.z,p.b⟩
  exact⟨a.f,a.c,p.m.up a.f a.c,a.g,a.i⟩
  by_cases F:x.bi=16
  rw[ab0 F];rw[F,atS zd,atV qac] at o';have a:=amt (Pd:=Pd) (hi:=x.at+1) (d:=kj E 8 x.bc x.at) p zo (.inr (.inr rfl)) rfl (by simp[kj];omega);have y:=p.lj a;have u:qJ E (EW (kj E 8 x.bc x.at) s).a.c (x.at+1) (rA ar x.bc (kj E 8 x.bc x.at)):=Wa (d:=kj E 8 x.bc x.at) (p.c.up zo λ_ h=>h) (.inr (.inr rfl)) rfl (by simp[kj];omega);exact a.ab (Fi g o'.2 ⟨y.a,y.f,u,y.m,y.b⟩);rw[abV G C F];have pl:∀{c:Int}{s:WS},xz E j ms ar c s->∀nm,Ij Pd E s.a.c c nm (qH E (rC aN ms s.m) nm):=λy nm=>by
   refine ams t y.a λm h=>?_;unfold rC at h;split at h;rcases atZ.1 h with e|e;rw[e];exact y.m;exact y.f m e
   grind
  split at o'<;>rename_i c1;have B:oH E ms aN ar x.bi x.at x.bc s=s:=by
   simp[Az] at c1;unfold oH
   grind
  rw[B];have a:=Fi (aN:=aN) g o'.1 p;have y:=p.lj a;refine a.ab ?_;have i:x.at<=hi:=zo;unfold qI;rw[atS (by simp[Az] at c1;omega)];split;split;split;split;split;exact V9 y (atY _) o'.2 (adp t y.a);exact y.sT i;exact y.sT i;exact y.sT i;exact y.sT i;exact y.sT i;split at o'<;>rename_i c2;have a:WG Pd E lo (x.at+1) s (oH E ms aN ar x.bi x.at x.bc s):=by
   unfold oH;split;exact V9 p o'.1 (atY _) (p.c.up o'.1 λ_ h=>h).jk;split;exact V9 p o'.1 (atY _) λd e=>by
    obtain⟨a,b,c,f⟩:=pl p _ d e
    grind
   exact p.sT zo
  have y:=p.lj a;have b:=Fi (aN:=aN) g o'.2 y;have z:=y.lj b;refine a.ab (b.ab ?_);generalize jF E ms aN ar x.bv (oH E ms aN ar x.bi x.at x.bc s)=v at z⊢;unfold qI;split;exact adq z (atY _) (.inr (.inl rfl)) rfl (by simp only[kj];have:=o'.2.le;omega);rw[atS (by simp[Az] at c1;omega)];exact z.sT (atY _);have B:oH E ms aN ar x.bi x.at x.bc s=s:=by simp[BG] at c2;unfold oH;rw[atS zo,atS zo]
  rw[B];have a:=Fi (aN:=aN) g o'.2 p;have I:∀v,qI E ms aN x.bi x.at x.bc x.bv v=v:=λv=>by simp[BG] at c2;simp[Az] at c1;unfold qI;rw[atS zo,atS zo]
  rw[I];exact a
end
def rG.up{N d:Nat}{lo hi e:Int}{t:Tree}(x:rG N lo hi t)(h:N<=d)(k:hi<=e):rG d lo e t:=⟨x.c,by have:=x.f;omega,x.g.up (atY _) k,x.i,x.b.up h,at1 x.a h,x.d⟩
def rG.aEA{N:Nat}{lo hi:Int}{t:Tree}(x:rG N lo hi t):Yv.aEA lo hi t:=by rw[Tree.ST t];exact .wx (by rw[x.c];rfl) (by rw[x.c];rfl) x.f x.g
section
variable {vm:List UInt8}{s:jv}{aq:List (List UInt8)}
def DG(s:jv):Prop:=∀q,∀d∈s.a q,(d.b=2\/d.b=3)/\d∈s.d
theorem adu{key:List UInt8}:∀(ts:List Tree)(s:jv),DG s->DG (yL vm key j ts s)/\(∀d∈s.d,d∈(yL vm key j ts s).d)/\(yL vm key j ts s).d.length=s.d.length+ts.length
 |[],s,h=>⟨h,λ_ h=>h,rfl⟩
 |t::ts,s,h=>by unfold yL;obtain⟨a,b,c⟩:=adu ts {s with d:=⟨5,t.bc,j,t.at,vm⟩::s.d,b:=iY s.b (1,key) (s.b (1,key)++[⟨5,t.bc,j,t.at,vm⟩])} λq d hd=>⟨(h q d hd).1,.tail _ (h q d hd).2⟩;exact⟨a,λd hd=>b d (.tail _ hd),by grind⟩
theorem adv{nd:List aC}{bu:List UInt8->List aC}{d:aC}{im f:List aC}{ot b:Kk->List aC}(h:DG ⟨bu,im,nd,ot⟩)(hd:d.b=2\/d.b=3):DG ⟨vQ bu vm (bu vm++[d]),f,d::nd,b⟩:=λq e a=>by
 have a:e∈vQ bu vm (bu vm++[d]) q:=a;unfold vQ at a;split at a;rcases auj.1 a with c|c;exact⟨(h _ e c).1,.tail _ (h _ e c).2⟩
 grind
 exact⟨(h _ e a).1,.tail _ (h _ e a).2⟩
theorem amv(t:Tree)(s:jv)(h:DG s):DG (kX vm j t s)/\(∀d∈s.d,d∈(kX vm j t s).d)/\(kX vm j t s).d.length<=s.d.length+1+t.bv.length/\(t.bi=2->⟨1,t.bc,j,t.at,t.bc⟩∈(kX vm j t s).d):=by have up:∀d:aC,∀q,∀e∈s.a q,(e.b=2\/e.b=3)/\e∈d::s.d:=λd q e f=>⟨(h q e f).1,.tail _ (h q e f).2⟩;unfold kX;split<;>rename_i c1;exact⟨up _,λd h=>.tail _ h,by grind,λ_=>.head _⟩;split<;>rename_i c2;obtain⟨a,b,c⟩:=adu (vm:=vm) (j:=j) t.bv {s with a:=vQ s.a vm (s.a vm++[⟨2,t.bc,j,t.at,vm⟩]),d:=⟨2,t.bc,j,t.at,vm⟩::s.d} (adv (im:=s.c) (ot:=s.b) h (.inl rfl));exact⟨a,λd h=>b d (.tail _ h),by grind,λe=>absurd e c1⟩;split;exact⟨adv (im:=s.c) (ot:=s.b) h (.inr rfl),λd h=>.tail _ h,by grind,λe=>absurd e c1⟩;exact⟨up _,λd h=>.tail _ h,by grind,λe=>absurd e c1⟩
theorem adw{N:Nat}:∀(ts:List Tree)(s:jv),DG s->kP N ts->DG (tB vm j ts s)/\(∀d∈s.d,d∈(tB vm j ts s).d)/\(tB vm j ts s).d.length<=s.d.length+ts.length*(N+1)/\(∀t∈ts,t.bi=2->⟨1,t.bc,j,t.at,t.bc⟩∈(tB vm j ts s).d)
 |[],s,h,_=>⟨h,λ_ h=>h,by simp[tB],λ_ h=>by grind⟩
 |t::ts,s,h,e=>by
  unfold tB;obtain⟨a,b,c,d⟩:=amv (vm:=vm) (j:=j) t s h;obtain⟨f,g,c',i⟩:=adw ts _ a e.2;have:t.bv.length<=N:=by have:=e.1;rw[Tree.ST t] at this;exact this.1
  grind [Nat.add_mul]
theorem adx{N:Nat}{hi:Int}:∀(ts:List Tree)(j:Nat)(s:jv),DG s->(∀t∈ts,rG N 0 hi t)->DG (jG aq ts j s)/\(∀d∈s.d,d∈(jG aq ts j s).d)/\(jG aq ts j s).d.length<=s.d.length+ts.length*(N*(N+1))/\(∀i(hi:i<ts.length),∀x∈ts[i].bv,x.bi=2->⟨1,x.bc,(j+i:Nat),x.at,x.bc⟩∈(jG aq ts j s).d)
 |[],_,s,h,_=>⟨h,λ_ h=>h,by simp[jG],λi hi=>absurd hi (avm _)⟩
 |t::ts,j,s,h,g=>by
  unfold jG;have f:=g t zm;obtain⟨a,b,c,d⟩:=adw (vm:=aq.getD j []) (j:=j) (N:=N) t.bv s h f.b;obtain⟨k,l,c',m⟩:=adx ts (j+1) _ a λt n=>g t qaa;refine⟨k,λd hd=>l d (b d hd),?_,λi hi x o e=>?_⟩;have:t.bv.length*(N+1)<=N*(N+1):=at4 _ f.a
  grind [Nat.add_mul]
  grind
end
structure Pv(Pd:aC->Prop)(s:Sc):Prop where
 b:∀j(hj:j+1<s.b.length),s.b[j].a<s.b[j+1].a\/s.b[j].a=s.b[j+1].a/\s.b[j].b<s.b[j+1].b
 a:∀u∈s.b,C' Pd u s.c
section
variable {Pd:aC->Prop}{E:fM}{fs:List Tree}{aq:List (List UInt8)}{bu:List UInt8->List aC}
def Pw(u v:dx):Prop:=u.a<v.a\/u.a=v.a/\u.b<v.b
def tG.lo:∀{us:List dx}{lo:Int},tG Pd E nd lo us hi->∀u∈us,lo<=u.b/\u.a=E.j/\C' Pd u nd
 |_::_,_,a,u,h=>by rcases atZ.1 h with e|e;rw[e];exact⟨a.1,a.2.1,a.2.2.1⟩;obtain⟨b,c⟩:=a.2.2.2.lo u e;exact⟨by have:=a.1;omega,c⟩
def tG.pw:∀{us:List dx}{lo:Int},tG Pd E nd lo us hi->us.Pairwise Pw
 |[],_,_=>.nil
 |u::us,_,a=>.cons (λv d=>.inr (by obtain⟨b,c,_⟩:=a.2.2.2.lo v d;exact⟨by rw[a.2.1,c],by omega⟩)) a.2.2.2.pw
theorem ady{N:Nat}{k:List aC}(n:∀q,∀d∈bu q,Pd d) (y:∀q,∀d∈bu q,(d.b=2\/d.b=3)/\d∈k) (m:∀i(hi:i<fs.length),∀x∈fs[i].bv,x.bi=2->⟨1,x.bc,(i:Nat),x.at,x.bc⟩∈k):∀(ts:List Tree)(j:Nat)(s:Sc),(∀i,ts[i]? =fs[j+i]?)->(∀t∈ts,rG N 0 hi t)->(∀d∈k,d∈s.c)->s.b.Pairwise Pw->(∀u∈s.b,u.a<j/\C' Pd u s.c)->
 (uB fs aq bu ts j s).b.Pairwise Pw/\(∀u∈(uB fs aq bu ts j s).b,C' Pd u (uB fs aq bu ts j s).c)/\((uB fs aq bu ts j s).b.length:Int)<=s.b.length+ts.length*hi
 |[],j,s,_,_,_,l,b=>⟨l,λu h=>(b u h).2,by simp[uB]⟩
 |t::ts,j,s,r,p,o,l,b=>by
  unfold uB;have f:=p t zm;have g0:=r 0;obtain⟨B,F⟩:=at0.1 g0.symm;have C:Pt Pd (C3 fs aq bu j) k:=⟨y,λx z e=>by
   have q:(fs.getD j zT)=fs[j]:=by grind
   rw[show(C3 fs aq bu j).n=fs from rfl,show(C3 fs aq bu j).j=j from rfl,q] at z;exact m j B x z e,n⟩
  have w:=adt C _ t (aw7 _) 0 hi false [] aX ⟨aX,aX,s⟩ f.aEA ⟨o,λ_ h=>qaa,.z,.z,.z⟩;generalize fU (C3 fs aq bu j) [] false aX t ⟨aX,aX,s⟩=w' at w⊢;obtain⟨new,e,a⟩:=w.i;have e:=e;have lo:=a.lo;have D:=a.px;have pw:w'.a.b.Pairwise Pw:=by rw[e];refine au9.2 ⟨l,a.pw,λu g v A=>.inl ?_⟩;have:=(b u g).1;have:=(lo v A).2.1;rw[this];exact(b u g).1
  obtain⟨c1,c2,c3⟩:=ady n y m ts (j+1) w'.a (λi=>by
   have:=r (i+1)
   grind) (λt h=>p t qaa) (λd h=>w.c d (o d h)) pw λu g=>by rw[e] at g;rcases auj.1 g with c|c;exact⟨by grind,(b u c).2.up w.c⟩;have:=lo u c;exact⟨by rw[this.2.1];show(j:Int)<_;omega,this.2.2⟩
  refine⟨c1,c2,avU c3 ?_⟩;rw[e,auk,atX]
  grind
end
def DG0:DG l9:=λ_ _ h=>by cases h
theorem amw{fs:List Tree}{aq:List (List UInt8)}(o:fs.length<=6)(g:∀t∈fs,rG 9006 0 9000 t):O5 fs aq/\∀f,Pv (λd=>∃q,d∈(jG aq fs 0 l9).a q) (Lw fs aq f):=by
 obtain⟨a,b,c,d⟩:=adx (aq:=aq) fs 0 l9 DG0 g;have l:=λk=>ady (aq:=aq) (bu:=(jG aq fs 0 l9).a) (Pd:=λd=>∃q,d∈(jG aq fs 0 l9).a q) (λq d hd=>⟨q,hd⟩) a (λi hi x n e=>by have:=d i hi x n e;grind) fs 0 ⟨k,(jG aq fs 0 l9).d,[]⟩ (λi=>by grind) g (λ_ h=>h) .nil (λ_ h=>by grind);refine⟨⟨λt h=>⟨(g t h).fh,(g t h).QP zm⟩,λt h=>(g t h).d,?_,λk=>?_⟩,λf=>⟨λj m=>?_,(l f).2.1⟩⟩;have:(l9.d).length=0:=rfl;omega
 grind
 exact List.pairwise_iff_getElem.1 (l f).1 j (j+1) _ m (aw7 _)
def amx{a:List Doc}{rs:List (PR Tree)}{aq:List (List UInt8)}(hd:∀d∈a,d.a.length<=9000) (x:Ay a rs aq) (ok:∀r∈rs,BF r):∀t∈rs.map pB,rG 9006 0 9000 t:=λt n=>by
 obtain⟨r,g,e⟩:=auR.1 n;obtain⟨i,hi,l⟩:=avC g;have f:i<a.length:=by have:=x.a;omega
 obtain⟨b,o,oi,_,h⟩:=x.r i hi f;have p:=hd _ (auy f);have:=V8 a[i].a zo b o oi;rw[<-h,l] at this;have k:=ok r g;subst e;cases r with
 |c t m=>exact rG.up this zo zo
 |i=>cases k
 |d=>cases k
theorem Wb{a:List Doc}(b:a.length<=6)(hd:∀d∈a,d.a.length<=9000) {rs:List (PR Tree)} {aq:List (List UInt8)} (x:Ay a rs aq) (ok:∀r∈rs,BF r):O5 (rs.map pB) aq/\∀f,Pv (λd=>∃q,d∈(jG aq (rs.map pB) 0 l9).a q) (Lw (rs.map pB) aq f):=
 amw (by have:=x.a;grind) (amx hd x ok)
def PR.fw{e g:Type}{r:PR e}{f:e->Nat->PR g}{b:g}{m:Nat}(h:r.dk f=.c b m):∃a n,r=.c a n/\f a n=.c b m:=by
 cases r with
 |c a n=>exact⟨a,n,rfl,h⟩
 |i=>cases h
 |d=>cases h
def TyN(t:Tree):Prop:=(t.bi=8\/t.bi=9)/\t.bc.length<4294967296
def ayD(t:Tree):Prop:=t.bv≠[]/\TyN (t.bv.headD zT)
def ax8(t:Tree):Prop:=t.bi=2\/t.bi=3/\(∀q∈t.bv,ayD q)\/t.bi=5/\∃r ps ty b,t.bv=[r,ps,ty,b]/\(r=zT\/r.bi≠0/\ayD r)/\(∀q∈ps.bv,ayD q)/\(ty=zT\/TyN ty)
section
variable {st:Int->Nat->PR Tree}{t:Tree}
theorem aAG(a:LC l){q:Int}{u:Tk}(h:jR l q n=.c u m):u.b.length<4294967296:=by
 unfold jR at h;split at h;cases h;exact a _
 grind
theorem aBN(b:LC l)(h:Ct l n=.c t m):TyN t:=by unfold Ct at h;split at h;cases h;exact⟨.inl rfl,b _⟩;obtain⟨a,o,e,h⟩:=PR.fw h;split at h;obtain⟨u,q,c,h⟩:=PR.fw h;cases h;exact⟨.inr rfl,aAG b c⟩;cases h;exact⟨.inl rfl,aAG b e⟩
def aBO(c:LC l){k:Int}(h:En l k n=.c t m):ayD t:=by obtain⟨a,o,e,h⟩:=PR.fw h;obtain⟨u,q,b,h⟩:=PR.fw h;cases h;exact⟨by simp[aV,Tree.bv],aBN c b⟩
theorem aBP{P:Tree->Prop}{right:List UInt8}{c:Nat->PR Tree}{d:Nat->PR Unit}(i:∀n t m,c n=.c t m->P t):∀(f n:Nat)(ts:List Tree)(m:Nat),ug l right c d f n=.c ts m->∀t∈ts,P t
 |0,_,_,_,h=>by simp[ug] at h
 |f+1,n,ts,m,h=>by
  unfold ug at h;split at h
  grind
  obtain⟨a,o,e,h⟩:=PR.fw h;split at h
  grind
  obtain⟨_,q,_,h⟩:=PR.fw h;obtain⟨us,r,g,h⟩:=PR.fw h;cases h;intro t b;rcases atZ.1 b with rfl|b
  grind
  exact aBP i f _ _ _ g t b
theorem aBQ{P:Tree->Prop}{left right:List UInt8}{b:Nat->PR Tree}{c:Nat->PR Unit}{ts:List Tree}(d:∀n t m,b n=.c t m->P t) (h:wS l left right b c op F n=.c ts m):∀t∈ts,P t:=by
 unfold wS at h;split at h;split at h
 grind
 obtain⟨a,o,e,h⟩:=PR.fw h;split at h;cases h;exact aBP d _ _ _ _ e
 grind
 grind
theorem aC0(a:LC l)(h:aE6 l F op n=.c t m):ax8 t:=by obtain⟨_,_,_,h⟩:=PR.fw h;obtain⟨_,_,_,h⟩:=PR.fw h;obtain⟨_,_,_,h⟩:=PR.fw h;obtain⟨_,_,e,h⟩:=PR.fw h;cases h;exact .inr (.inl ⟨rfl,aBQ (λ_ _ _=>aBO a) e⟩)
theorem aC1(a:LC l)(h:Kv l op n=.c t m):t.bi≠0/\ayD t:=by
 unfold Kv at h;split at h;split at h
 grind
 obtain⟨_,_,_,h⟩:=PR.fw h;obtain⟨_,_,e,h⟩:=PR.fw h;split at h;cases h;exact⟨by simp[aV,Tree.bi],by simp[aV,Tree.bv],.inl rfl,aAG a e⟩
 grind
 grind
theorem aC2(b:LC l)(h:Kw l F st op n=.c t m):ax8 t:=by
 obtain⟨_,_,_,h⟩:=PR.fw h;obtain⟨r,_,er,h⟩:=PR.fw h;obtain⟨_,_,_,h⟩:=PR.fw h;obtain⟨_,_,a,h⟩:=PR.fw h;obtain⟨ty,_,c,h⟩:=PR.fw h;obtain⟨_,_,_,h⟩:=PR.fw h;cases h;refine .inr (.inr ⟨rfl,r,_,ty,_,rfl,?_,aBQ (λ_ _ _=>aBO b) a,?_⟩)
 grind [aC1]
 grind [aBN]
theorem aBR:∀(f:Nat)(o:Nat->List UInt8×Bool)(n:Nat)(b ts:List Tree)(m:Nat),(∀t∈b,ax8 t)->vH l f o n b=.c ts m->∀t∈ts,ax8 t
 |0,_,_,_,_,_,_,h=>by cases h
 |f+1,o,n,b,ts,m,g,h=>by
  unfold vH at h;split at h;obtain⟨a,_,e,h⟩:=PR.fw h;obtain⟨_,_,_,h⟩:=PR.fw h;refine aBR f _ _ _ _ _ (λt d=>?_) h;rcases auj.1 d with c|c
  grind
  simp at c;subst c;obtain⟨_,_,_,e⟩:=PR.fw e;split at e
  grind
  split at e
  grind
  cases e;exact .inl rfl
  grind
theorem aBS(c:LC l):∀(f n:Nat)(b ts:List Tree)(m:Nat),(∀t∈b,ax8 t)->aE0 l F st f n b=.c ts m->∀t∈ts,ax8 t
 |0,_,_,_,_,_,h=>by cases h
 |f+1,n,b,ts,m,d,h=>by
  unfold aE0 at h;split at h;obtain⟨a,_,e,h⟩:=PR.fw h;obtain⟨_,_,_,h⟩:=PR.fw h;refine aBS c f _ _ _ _ (λt g=>?_) h
  grind [aC0,aC2]
  grind
theorem aC3(b:LC l){to:Int}{o:Nat->List UInt8×Bool}(h:Ad l F st to o n=.c t m):∀t'∈t.bv,ax8 t':=by obtain⟨_,_,_,h⟩:=PR.fw h;obtain⟨_,_,_,h⟩:=PR.fw h;obtain⟨_,_,_,h⟩:=PR.fw h;obtain⟨_,_,e,h⟩:=PR.fw h;obtain⟨_,_,a,h⟩:=PR.fw h;cases h;exact aBS b _ _ _ _ _ (aBR _ _ _ _ _ _ (λ_ h=>by grind) e) a
end
theorem aC4{s:List UInt8}(c:s.length<16777216){b:Int}{o oi}{t:Tree}{m:Nat}(h:Al b o oi s=.c t m):∀t'∈t.bv,ax8 t':=by
 obtain⟨l,_,e,h⟩:=PR.fw h;obtain⟨_,_,a,h⟩:=PR.fw h;have g:=Pn b o s;split at h
 grind
 cases h;exact aC3 (λm=>by grind [adk]) a
def aC5{a:List Doc}{rs:List (PR Tree)}{aq:List (List UInt8)}(hd:∀d∈a,d.a.length<=9000) (x:Ay a rs aq) (ok:∀r∈rs,BF r):∀t∈rs.map pB,∀t'∈t.bv,ax8 t':=λt p=>by
 obtain⟨r,g,e⟩:=auR.1 p;obtain⟨i,hi,j⟩:=avC g;have f:i<a.length:=by have:=x.a;omega
 obtain⟨b,o,oi,_,h⟩:=x.r i hi f;have q:=hd _ (auy f);have k:=ok r g;subst e;cases r with
 |c t m=>exact aC4 (s:=a[i].a) zo (b:=b) (o:=o) (oi:=oi) (m:=m) (h.symm.trans j)
 |i=>cases k
 |d=>cases k
section
variable {k:aK->Prop}{v:List Doc}{fs:List Tree}{aq:List (List UInt8)}{bu:List UInt8->List aC}{lo t:Nat}{s:Q5}{m:Mem}{M N:AV}{L:List cN}{n:Tree}
theorem aBT(z:aA T)(x:iE v fs aq bu us p h)(F:h.ac t=.a 83 [.a p 0,O,P,M,N,fv])(hf:VL 28 3 h fv (L.map cN.ca))(hl:L.length<536870912)(hj:j<v.length)(hn:ay 0 h n row)(hq:ayD n)
 (C:∀h' Y,DW (kI 28 3) (·=t) h h'->h'.ac t=.a 83 [.a p 0,O,P,M,N,Y]->VL 28 3 h' Y ((ax5 (nu us j (n.bv.headD zT)).2 L).map cN.ca)->k (.a (.p [.j (ax' us aq j K n).ca,.d (decide ((nu us j (n.bv.headD zT)).2.e=0))]) h')):aE T (W T) ⟨60⟩ [.a t 0,.i j,.i K,.j row] h k:=by
 rw[ic z.t60];obtain⟨kv,rfl,D⟩:=hn.fx;obtain⟨Q,Y6⟩:=hq;have h0:=auA.2 Q;obtain⟨b,cap,ex,r,ff,rfl,V,hr,iW⟩:=D.pj Q;have G:=iW 0 h0;have ek:n.bv[0]=n.bv.headD zT:=by grind [List.head?_eq_getElem?]
 rw[ek] at G;unfold ax' at C;generalize n.bv.headD zT=k0 at*;have lt:=Hp.lt F rfl;have lb:=Hp.lt V rfl;obtain⟨OE,R,C2⟩:=G.fx;refine aS V R ?_;rw[<-R];generalize u:((h.am _).am _:Hp)=H;have c:ax h H:=by rw[<-u];exact aZ
 have u7:H.ac h.a=.a 72 [.i n.bi,.i n.gl,.i n.to,.i n.at,S n.bc,.c b 0 6 n.bv.length cap ex]:=by rw[<-u];simp
 have u8:H.ac (h.a+1)=.a 48 [.i 0,S [],.i 0,.i 0,S [],.i 0,S [],S []]:=by rw[<-u];simp
 have nH:H.a=h.a+1+1:=by rw[<-u];rfl
 have xH:=x.g0 c;refine aAD z xH ((c.f _ lt id).trans F) (hf.aw λi r t li _=>c.f i li id) hl (G.nf (mY c) zl) Y6.2 λg lf e w J=>?_;generalize nu us j k0=o at C J⊢;obtain⟨y,f⟩:=o;have n1:=e.j;have kk:∀{i U l},H.ac i=.a U l->i≠t->g.ac i=.a U l:=λq a=>(e.d _ (Hp.lt q rfl) a λ⟨_,_,q'⟩=>by grind).trans q;have Z:=kk u7 zo;have v8:=kk u8 zo;have x1:=xH.dw e (λo q=>.inr q) λi _ q=>by subst q;exact⟨_,(c.f _ lt id).trans F⟩
 have I:=Hp.lt w rfl;have fL:∀d,g.a<=d.a->(∀i,i<g.a->i≠h.a+1->d.ac i=g.ac i)->k (.a (.p [.j (Mem.ca ⟨⟨K,n.bc,j,n.at,aq.getD j []⟩,y⟩),.d (decide (f.e=0))]) d):=λd n4 A=>C d lf ⟨by omega,λi hi hm h28=>by rw[A i zo zo,e.d i zo hm (by rw[c.f i hi id];omega),c.f i hi id]⟩ ((A _ I zo).trans w) (J.aw λi r t li q=>A i li qaa)
 refine aU Ty.ca.eq_1 Z w ?_;refine aAC z (x1.g0 ?_) hj ?_;exact fZ;refine aS Z v8 ?_;exact fL _ bh λi hi q=>aa
def iE.up(x:iE v fs aq bu us p hB)(g:DW ax1 (λi=>hB.a<=i) hB h):iE v fs aq bu us p h:=x.dw g (λ_=>id) λi hi m=>absurd m zo
def iw.k1(x:iw lo p t fb E wb sb h s B)(g:DW ax1 (TM t fb E wb sb) h h'){i a:Nat}{l:List AV}(e:h.ac i=.a a l)(ne:a≠83):h'.ac i=.a a l:=
 (g.d i (Hp.lt e rfl) (λm=>by rcases x.Or m with⟨_,q⟩|⟨_,_,q⟩<;>rw[e] at q<;>cases q;omega) (by rw[e];exact aAE)).trans e
def iw.nf(x:iw lo p t fb E wb sb h s B)(g:DW ax1 (TM t fb E wb sb) h h'):NF 0 h h':=λi r f _ e=>
 (g.d i (Hp.lt e rfl) (λm=>by rcases x.Or m with⟨_,q⟩|⟨_,_,q⟩<;>rw[e] at q<;>cases q) (by rw[e];rintro(⟨_,_,q⟩|⟨_,_,q⟩)<;>cases q)).trans e
def iw.PQ(x:iw hB.a p t fb E wb sb h s B)(g0:DW ax1 (λi=>hB.a<=i) hB h) (g:DW ax1 (TM t fb E wb sb) h h'):DW ax1 (λi=>hB.a<=i) hB h':=g0.ab (g.aw (λ_=>id) λi _ m=>x.J i m)
theorem ayP{f:cN}{l:List cN}:(ax5 f l).length<=l.length+1:=by grind [ax5]
def ayp(us:List dx)(aq:List (List UInt8))(j:Nat)(X:Ty)(q:Tree)(s:Q5):Q5:=
 ⟨axY s.a X (s.a X++[ax' us aq j 5 q]),if(nu us j (q.bv.headD zT)).2.e=0 then s.f else axY s.f X (s.f X+1),s.c,s.d,ax5 (nu us j (q.bv.headD zT)).2 s.b,s.n+1⟩
theorem aC6(HT:aA T)(x0:iE v fs aq bu us p hB)(hj:j<v.length){A xb:Nat}{kv:AV}(hm:A<4294967296):∀(ts:List Tree)(i:Nat)(s:Q5)(h:Hp)(B:Ty->Option Nat)(u:Fr)(K:aT->Prop),i+ts.length=A->DW ax1 (λi=>hB.a<=i) hB h->iw hB.a p t fb E wb sb h s B->s.n+ts.length<536870912->h.ac xb=.a 40 X.ca->
 (ts≠[]->∃b cap ex r ff,kv=.c b 0 6 A cap ex/\h.ac b=.b 72 6 r 0 ff/\A<=r/\∀q,(U:q<ts.length)->ay 0 h ts[q] (ff (i+q)))->(∀q∈ts,ayD q)->
 cg 0 u=.a t 0->cg 1 u=.i j->cg 7 u=.a xb 0->cg 45 u=kv->cg 46 u=.i A->cg 47 u=.i i->
 (∀J h' D,DW ax1 (TM t fb E wb sb) h h'->iw hB.a p t fb E wb sb h' (ts.foldl (λs q=>ayp us aq j X q s) s) D->K (.a 1 J h' []))->W T (.d l27_1) u h [] K:=by
 intro ts
 induction ts with
 |nil=>
  intro i s h B u K hi g0 y hn hx C U f0 f1 f7 f45 f46 f47 x;rw[aP];refine aU f45 f46 f47 ?_
  grind [DW.da]
 |cons q ts ih=>
  intro i s h B u K hi g0 y hn hx C U f0 f1 f7 f45 f46 f47 x;obtain⟨b,cap,ex,r,ff,rfl,C,hr,iW⟩:=C zm;simp only[atX] at hi hn;have ao:i<A:=zo;have aY:(i:Int)<A:=zo;have eJ:=iW 0 zm;simp only[aus,aud] at eJ;obtain⟨OE,jE,C2⟩:=eJ.fx;have lb:=Hp.lt C rfl;have lx:=Hp.lt hx rfl;rw[aP];refine mz f0 f1 f45 f46 f47 ao aY C jE ?_;rw[<-jE];generalize hH:((h.am _).bj _ _:Hp)=H;have R:ax h H:=by rw[<-hH];exact fZ
  clear hH;have yH:=y.g0 R;obtain⟨fv,E4,Aw⟩:=yH.A;refine aBT HT (x0.up (g0.ab (DW.of (ah.ka R)))) E4 Aw (by have:=y.k.1;omega) hj (eJ.nf (mY R) zl) (U q zm) λh1 lf d1 a mC=>?_;have y1:=yH.wl d1 a mC (by have:=ayP (f:=(nu us j (q.bv.headD zT)).2) (l:=s.b);have:=y.k.1;omega);have F:DW ax1 (TM t fb E wb sb) H h1:=d1.aw (λo q=>.inr q) λi _ q=>.inl q;have mV:=yH.k1 F ((R.f _ lx id).trans hx) zm;rw[aEd] at x;have es:ayp us aq j X q s=(if(nu us j (q.bv.headD zT)).2.e=0 then(⟨axY s.a X (s.a X++[ax' us aq j 5 q]),s.f,s.c,s.d,ax5 (nu us j (q.bv.headD zT)).2 s.b,s.n+1⟩:Q5) else⟨axY s.a X (s.a X++[ax' us aq j 5 q]),axY s.f X (s.f X+1),s.c,s.d,ax5 (nu us j (q.bv.headD zT)).2 s.b,s.n+1⟩):=by grind [ayp]
  rw[es] at x;generalize ax' us aq j 5 q=m at*;generalize(nu us j (q.bv.headD zT)).2 =f at*;have aD6:=a;have e:=mV;simp only[Ty.ca] at e;have lt2:=Hp.lt a rfl;have V:=Hp.lt mV rfl;refine cC Mem.ca.eq_1 f0 f7 a e ?_;generalize oF:(Hp.am _ _:Hp)=H3;have Q:ax h1 H3:=by rw[<-oF];exact fZ
  obtain⟨t1,ub,rm⟩:∃t1,H3.ac (h1.a+1)=.b 48 8 1 0 t1/\t1 0=m.ca:=⟨_,by rw[<-oF];exact Hp.ba aa,by rfl⟩;clear oF;have y3:=y1.g0 Q;obtain⟨v0,jj,H4,H5,w,o,em,ea,eo,n4,n5,k1,d5,y5⟩:=y3.ID (X:=X) (m:=m) qaa ub rm (by have:=(y.k.2 X).1;grind);simp only[Ty.ca] at em;have KI:=k1 _ _ _ ((Q.f _ lt2 id).trans a);have Ep:=k1 _ _ _ ((Q.f _ V id).trans e);have lt4:=Hp.lt KI.1 rfl;have lx4:=Hp.lt Ep.1 rfl;rw[em];refine aS KI.1 Ep.1 ?_;rw[ea];refine ag ?_;rw[eo];refine ag ?_;have dd:DW ax1 (TM t fb E wb sb) h (H5.bj fb o):=(((DW.of (ah.ka R)).ab F).ab (DW.of (ah.ka Q))).ab d5;have nx:∀(g:Fr)(S:Hp)(Y:Q5)(B6:Ty->Option Nat),Y.n=s.n+1->DW ax1 (TM t fb E wb sb) h S->iw hB.a p t fb E wb sb S Y B6->cg 0 g=.a t 0->cg 1 g=.i j->cg 7 g=.a xb 0->cg 45 g=.c b 0 6 A cap ex->cg 46 g=.i A->cg 47 g=.i (i+1)->(∀J h' D,DW ax1 (TM t fb E wb sb) h h'->iw hB.a p t fb E wb sb h' (ts.foldl (λs q=>ayp us aq j X q s) Y) D->K (.a 1 J h' []))->W T (.d l27_1) g S [] K:=by intro g S Y B6 en Z y6 e0 e1 e7 e45 e46 e47 x;have nf:=y.nf Z;refine ih (i+1) Y S B6 g K zo (y.PQ g0 Z) y6 zo (y.k1 Z hx zm) (λ_=>⟨b,cap,ex,r,ff,rfl,nf _ _ _ (auz _) C,hr,λq U=>?_⟩) (λq Ci=>U q qaa) e0 e1 e7 e45 e46 qaa λJ h' D d y=>x J h' D (Z.ab d) y;have:=iW (q+1) qaa;simp[auu,show i+(q+1)=i+1+q by omega] at this;exact this.nf nf zl
  by_cases c:f.e=0
  rw[atV c] at x;refine aU c f47 ao ?_;exact nx _ _ _ _ rfl dd y5 zA zA zA zA zA aa x;rw[atS c] at x;obtain⟨z,j6,H6,o6,e6,I,G,eo6,n6,g6,g6',y6⟩:=y5.wrg (X:=X) (by have:=(y.k.2 X).2;grind);have ww:(w64 ((s.f X:Int)+1))=(s.f X:Int)+1:=gf zo (by have:=(y.k.2 X).2;omega);have lfb:fb<H5.a:=by have:=y3.lt (i:=fb) (.inr (.inl rfl));omega
  have ne:=y.C;simp at ne;have oO:(H5.bj fb o).ac t=_:=(Hp.du ne.1.1).trans KI.2;have Be:=y3.k1 d5 ((Q.f _ V id).trans e) zm;have lt5:=Hp.lt oO rfl;have lx5:=Hp.lt Be rfl;simp only[Ty.ca] at e6 I G;refine cq c f0 f7 oO Be e6 ?_;rw[I];refine aS G ww ?_;rw[eo6];refine aS f47 ao ?_;refine nx _ _ _ _ ?_ (dd.ab (DW.of (g6'.aw λi _ q=>.inr (.inr (.inr (.inl q)))))) y6 zA zA zA zA zA aa x;rfl
end
def ayc(us:List dx)(j:Nat)(r:Tree):Ty:=if r.bi=0 then dP else(nu us j (r.bv.headD zT)).1
def ayd(us:List dx)(aq:List (List UInt8))(j:Nat)(t:Tree)(s:Q5):Q5:=
 if t.bi=3 then t.bv.foldl (λs q=>ayp us aq j ⟨5,aq.getD j [],t.bc⟩ q s) {s with c:=axY s.c ⟨5,aq.getD j [],t.bc⟩ (some ⟨2,t.bc,j,t.at,aq.getD j []⟩),n:=s.n+1}
 else if t.bi=5 then
  match t.bv with
  |r::ps::ty::_=>{s with b:=ax5 (nu us j ty).2 (ps.bv.foldl (λl q=>ax5 (nu us j (q.bv.headD zT)).2 l) (if r.bi=0 then s.b else ax5 (nu us j (r.bv.headD zT)).2 s.b)),n:=s.n+(ps.bv.length+2),d:=axY s.d ⟨ayc us j r,aq.getD j [],t.bc⟩ (some ⟨⟨if r.bi=0 then 3 else 4,t.bc,j,t.at,aq.getD j []⟩,ayc us j r,ps.bv.map (ax' us aq j 6),(nu us j ty).1⟩)}
  |_=>s
 else s
def ayq(t:Tree):Nat:=if t.bi=3 then t.bv.length+1 else match t.bv with|_::ps::_=>ps.bv.length+2|_=>0
section
variable {k:aK->Prop}{w:List Doc}{fs:List Tree}{aq:List (List UInt8)}{bu:List UInt8->List aC}{lo t:Nat}{s:Q5}{m:Mem}{Q R:AV}{N:List cN}{n:Tree}
theorem DW.UV{M:Nat->Prop}(g:DW (kI 28 3) M h h')(a:∀i,M i->∃l,h.ac i=.a 83 l):NF 0 h h':=λi r f _ e=>
 (g.d i (Hp.lt e rfl) (λm=>by grind) qad).trans e
theorem aBU:∀(ts:List Tree)(l:List cN),(ts.foldl (λl q=>ax5 (nu us j (q.bv.headD zT)).2 l) l).length<=l.length+ts.length
 |[],_=>at2 _
 |q::ts,l=>by
  have:=aBU ts (ax5 (nu us j (q.bv.headD zT)).2 l)
  grind [ayP]
def oG(d:aC)(o:Ty)(v:AV):List AV:=[.i d.b,S d.a,.i d.c,.i d.f,S d.g,.i o.a,S o.c,S o.b,v,.i 0,S [],S []]
theorem aC7(HT:aA T)(x0:iE w fs aq bu us p h0)(hj:j<w.length){F gb:Nat}{kv:AV}{d:aC}{ow:Ty}(hm:F<4294967296)(ht0:∃l,h0.ac t=.a 83 l)(hgb:h0.a<=gb):∀(ts:List Tree)(i:Nat)(N:List cN)(o:List Mem)(u fv:AV)(h:Hp)(x:Fr)(K:aT->Prop),i+ts.length=F->DW (kI 28 3) (·=t) h0 h->h.ac t=.a 83 [.a p 0,Q,R,O,P,fv]->VL 28 3 h fv (N.map cN.ca)->N.length+ts.length<536870912->o.length+ts.length<536870912->
 h.ac gb=.a 43 (oG d ow u)->VL 48 8 h u (o.map Mem.ca)->(∀b,aL u=some b->h0.a<=b)->
 (ts≠[]->∃b cap ex r ff,kv=.c b 0 6 F cap ex/\h0.ac b=.b 72 6 r 0 ff/\F<=r/\∀q,(A:q<ts.length)->ay 0 h0 ts[q] (ff (i+q)))->(∀q∈ts,ayD q)->
 cg 0 x=.a t 0->cg 1 x=.i j->cg 12 x=.a gb 0->cg 115 x=kv->cg 116 x=.i F->cg 117 x=.i i->
 (∀f' h' v iZ,(∀q,q<=13->cg q f'=cg q x)->DW (kI 28 3) (·=t) h0 h'->(∀i,i<h.a->i≠t->i≠gb->(∃M l,h.ac i=.a M l)->h'.ac i=h.ac i)->h'.ac t=.a 83 [.a p 0,Q,R,O,P,iZ]->VL 28 3 h' iZ ((ts.foldl (λl q=>ax5 (nu us j (q.bv.headD zT)).2 l) N).map cN.ca)->h'.ac gb=.a 43 (oG d ow v)->VL 48 8 h' v ((o++ts.map (ax' us aq j 6)).map Mem.ca)->(∀b,aL v=some b->h0.a<=b)->K (.a 3 f' h' []))->W T (.d l27_0) x h [] K:=by
 intro ts
 induction ts with
 |nil=>
  intro i N o u fv h x K hi g ht hf hl Gt hg hv hb U A f0 f1 f12 f115 f116 f117 hk;subst hi;rw[aP];refine aU f115 f116 f117 ?_;exact hk _ _ u fv (λq A=>by repeat rw[eG (m:=14) zo zm]) g (λ_ _ _ _ _=>rfl) ht hf hg qaa hb
 |cons q ts ih=>
  intro i N o u fv h x K hi g ht hf hl Gt hg hv hb U A f0 f1 f12 f115 f116 f117 hk;obtain⟨b,cap,ex,r,ff,rfl,N7,hr,iW⟩:=U zm;simp only[atX] at hi hl Gt;have ao:i<F:=zo;have aY:(i:Int)<F:=zo;have nf:=g.UV λi e=>by grind
  have eJ:=(iW 0 zm).nf nf zl;simp only[aus,aud] at eJ;obtain⟨OE,jE,C2⟩:=eJ.fx;have qW:=nf _ _ _ (auz _) N7;have lb:=Hp.lt qW rfl;have lt:=Hp.lt ht rfl;have lg:=Hp.lt hg rfl;have tg:t≠gb:=λe=>by grind
  rw[aP];refine mz f0 f1 f115 f116 f117 ao aY qW jE ?_;rw[<-jE];generalize hH:((h.am _).bj _ _:Hp)=H;have C:ax h H:=by rw[<-hH];exact fZ
  clear hH;have nH:=C.g;have xH:iE w fs aq bu us p H:=(x0.dw g (λ_ q=>.inr q) λi _ e=>by grind).g0 C;refine aBT HT xH ((C.f _ lt id).trans ht) (hf.aw λi r t li _=>C.f i li id) zo hj (eJ.nf (mY C) zl) (A q zm) λz lf d1 D mC=>?_;rw[aEd,aul] at hk;have le1:=ayP (f:=(nu us j (q.bv.headD zT)).2) (l:=N);generalize ax' us aq j 6 q=m at*;generalize(nu us j (q.bv.headD zT)).2 =f at*;have n1:=d1.j;have kH:∀{i},i<h.a->i≠t->¬kI 28 3 (h.ac i)->z.ac i=h.ac i:=λa c e=>(d1.d _ zo c (by rw[C.f _ a id];omega)).trans (C.f _ a id);have n28:∀{M l},¬kI 28 3 (.a M l):=λ⟨_,_,e⟩=>by grind
  have NR:z.ac gb=.a 43 (oG d ow u):=(kH lg (Ne.symm tg) qaa).trans hg;have Y:VL 48 8 z u (o.map Mem.ca):=hv.aw λi r t li e=>kH li qaa (by rintro⟨_,_,e⟩;grind);have lg1:=Hp.lt NR rfl;have J:=NR;simp only[oG] at J;refine aU Mem.ca.eq_1 f12 J ?_;generalize oF:(Hp.am _ _:Hp)=G;have g3:ax z G:=by rw[<-oF];exact fZ
  obtain⟨t1,ub,rm⟩:∃t1,G.ac (z.a+1)=.b 48 8 1 0 t1/\t1 0=m.ca:=⟨_,by rw[<-oF];exact Hp.ba aa,by rfl⟩;have n3:G.a=z.a+1+1:=by rw[<-oF];simp
  clear oF;have V:VL 48 8 G u (o.map Mem.ca):=Y.aw λi r t li _=>g3.f i li id;obtain⟨H4,ea,rw4,n4,kp⟩:=V.va (AM:=96) (cap:=1) (ex:=true) zm qaa zm ub zl rm;have S:H4.ac gb=.a 43 (oG d ow u):=by have e:=(g3.f _ lg1 id).trans NR;exact(kp gb zo (V.nb e)).trans e
  have lg4:=Hp.lt S rfl;have L:=S;simp only[oG] at L;rw[ea];refine cC iN.eq_1 f12 L f117 ao ?_;generalize Ap:(Hp.bj _ _ _:Hp)=I;have k5:∀{i},i≠gb->I.ac i=H4.ac i:=λa=>by rw[<-Ap,Hp.du a]
  have hg5:I.ac gb=.a 43 (oG d ow (iN 8 G.a (o.map Mem.ca++[m.ca]))):=by rw[<-Ap];exact bV oG.eq_1 iN.eq_1
  have n5:I.a=H4.a:=by grind [Hp.jp]
  clear Ap;have y:∀{i},i<z.a->i≠gb->aL u≠some i->I.ac i=z.ac i:=λa c e=>(k5 c).trans ((kp _ zo e).trans (g3.f _ a id));have oO:I.ac t=.a 83 [.a p 0,Q,R,O,P,lf]:=(y (Hp.lt D rfl) tg (Y.nb D)).trans D;have er:(o++[m]).map Mem.ca=o.map Mem.ca++[m.ca]:=by simp
  refine ih (i+1) (ax5 f N) (o++[m]) (iN 8 G.a (o.map Mem.ca++[m.ca])) lf I _ K zo ⟨by omega,λi hi a c=>?_⟩ oO (mC.aw λi r t li e=>y li qaa λc=>?_) zo qaa hg5 ?_ (λb e=>by cases e;omega) (λ_=>⟨b,cap,ex,r,ff,rfl,N7,hr,λq A=>?_⟩) (λq Ci=>A q qaa) zA zA zA zA zA aa λf' h' v iZ hfq g' kk jL BD NQ tV oY=>hk f' h' v iZ (λq A=>?_) g' (λi hi a c e=>?_) jL BD NQ ?_ oY;have:=g.j;rw[y zo zo λe=>by grind,kH zo a (by rw[g.d i hi a c];omega),g.d i hi a c];obtain⟨r2,t2,q2⟩:=(Y.is c).1;rw[e] at q2;cases q2;rw[er];exact Rw.vl (rw4.aw (k5 zo)) zm;have:=iW (q+1) zn;simp only[auu,show i+(q+1)=i+1+q by omega] at this;exact this
  ·rw[hfq q A]
   repeat rw[eG (m:=14) zo zd]
  obtain⟨M,l,e⟩:=e;have q1:=kH hi a (by rw[e];exact n28);have Z:=q1.trans e;have q5:=y (Hp.lt Z rfl) c (Y.nb Z);rw[kk i (by have:=Hp.lt (q5.trans Z) rfl;omega) a c ⟨M,l,q5.trans Z⟩,q5,q1];simpa using tV
theorem iw.aC8{fv:AV}{c:Nat}(x:iw lo p t fb E wb sb h s B)(g:DW (kI 28 3) (·=t) h h')(e:h'.ac t=.a 83 [.a p 0,.h fb,.h E,.h wb,.h sb,fv])(v:VL 28 3 h' fv (N.map cN.ca))(d:N.length<=s.n+(c+1)):iw lo p t fb E wb sb h' {s with b:=N,n:=s.n+(c+1)} B:=by have y:iw lo p t fb E wb sb h {s with n:=s.n+c} B:={x with D:=(by obtain⟨L,a,b,c⟩:=x.D;grind),k:=⟨by have:=x.k.1;grind,λy=>⟨by have:=(x.k.2 y).1;grind,by have:=(x.k.2 y).2;grind⟩⟩};exact y.wl g e v d
theorem aC9(HT:aA T)(x0:iE w fs aq bu us p hB)(g0:DW ax1 (λi=>hB.a<=i) hB h) (y:iw hB.a p t fb E wb sb h s B) (hj:j<w.length) (hn:ay 0 h n row) (hT:ax8 n) (sm:rY n) (hc:s.n+ayq n<536870912)
 (J:∀h' B',DW ax1 (TM t fb E wb sb) h h'->iw hB.a p t fb E wb sb h' (ayd us aq j n s) B'->k (.a (.p []) h')):aE T (W T) ⟨27⟩ [.a t 0,.i j,.j row] h k:=by
 rw[ic HT.t27];obtain⟨kv,rfl,L⟩:=hn.fx;have smk:=Aq sm;obtain⟨fv,I,hf⟩:=y.A;have lt:=Hp.lt I rfl;have x:=x0.up g0;generalize pY:CC.g (cQ (z q27 20) (.j 3 (.d l27_0))) (cQ (z q27 26) (.f (ze q27 27 12 [103,105,108,110,211])))=T2;refine aB I ?_;refine aAC HT (x.g0 ?_) hj ?_;exact aZ;generalize HW:aq.getD j []=vm;rcases hT with c2|⟨c3,hq⟩|⟨c5,r,ps,ty,b,ek,hr,hps,Y6⟩;have e:ayd us aq j n s=s:=by simp_all[ayd]
 rw[e] at J;refine aB c2 ?_;exact J _ B (DW.of (ah.ka aZ)) (y.g0 aZ);have e:ayd us aq j n s=n.bv.foldl (λs q=>ayp us aq j ⟨5,vm,n.bc⟩ q s) {s with c:=axY s.c ⟨5,vm,n.bc⟩ (some ⟨2,n.bc,j,n.at,vm⟩),n:=s.n+1}:=by simp_all[ayd]
 rw[e] at J;have jQ:s.n+1+n.bv.length<536870912:=by unfold ayq at hc;grind
 refine aS c3 I ?_;generalize A:((Hp.am (Hp.am _ _) _).bj _ _:Hp)=H;have u:ax h H:=by rw[<-A];exact fZ
 have Y:H.ac h.a=.a 72 [.i 3,.i n.gl,.i n.to,.i n.at,S n.bc,kv]:=by rw[<-A];simp
 have u7:H.ac (h.a+1)=.a 40 [.i 5,S vm,S n.bc]:=by rw[<-A];simp
 obtain⟨o,eo,y1⟩:=(y.g0 u).plc (X:=⟨5,vm,n.bc⟩) (d:=⟨2,n.bc,j,n.at,vm⟩);simp[Ty.ca,aC.ca] at eo;rw[eo];have lpb:=y.lt (i:=E) (.inr (.inr (.inl rfl)));have C:DW ax1 (TM t fb E wb sb) h (H.bj E o):=DW.of ((ah.ka u).bj _ (.inr (.inr (.inr (.inl rfl)))));have v7:(H.bj E o).ac (h.a+1)=.a 40 [.i 5,S vm,S n.bc]:=(Hp.du zo).trans u7;have v5:(H.bj E o).ac h.a=.a 72 [.i 3,.i n.gl,.i n.to,.i n.at,S n.bc,kv]:=(Hp.du zo).trans Y;have oh:=L.nf (y.nf C);refine aS v5 (L.px (H:=H.bj E o)) ?_;exact aC6 HT x0 hj (X:=⟨5,vm,n.bc⟩) (xb:=h.a+1) smk.1 n.bv 0 _ (H.bj E o) B _ _ zo (y.PQ g0 C) y1 jQ v7 oh.pj hq aa aa aa aa aa aa λf' h' B' d2 y2=>(ag (J _ B' (C.ab d2) y2));have e:ayd us aq j n s={s with b:=ax5 (nu us j ty).2 (ps.bv.foldl (λl q=>ax5 (nu us j (q.bv.headD zT)).2 l) (if r.bi=0 then s.b else ax5 (nu us j (r.bv.headD zT)).2 s.b)),n:=s.n+(ps.bv.length+2),d:=axY s.d ⟨ayc us j r,vm,n.bc⟩ (some ⟨⟨if r.bi=0 then 3 else 4,n.bc,j,n.at,vm⟩,ayc us j r,ps.bv.map (ax' us aq j 6),(nu us j ty).1⟩)}:=by simp_all[ayd]
 rw[e] at J;have jQ:s.n+(ps.bv.length+2)<536870912:=by simp_all[ayq]
 have sm3:=smk.2;rw[ek] at L sm3;have smp:=Aq sm3.2.1;obtain⟨bb,cap,ex,rr,ff,rfl,hb,Bg,iW⟩:=L.pj zm;have hN0:ay 0 h r (ff 0):=iW 0 zm;have hN1:ay 0 h ps (ff 1):=iW 1 zm;have hN2:ay 0 h ty (ff 2):=iW 2 zm;obtain⟨OE,e0,js⟩:=hN0.fx;obtain⟨kv1,e1,oh⟩:=hN1.fx;obtain⟨zX,e2,hk2⟩:=hN2.fx;simp only[atX,aup] at Bg;have lb:=Hp.lt hb rfl;have e11:cellsOf (.b 72 6 rr 0 ff) 11 1=some [kv1]:=by have:=Kd (el:=72) (rw:=6) (vh:=rr) (fz:=0) (t:=ff) (k:=1) (j:=5) (n:=1) zo zm zm;simp_all
 have e12:cellsOf (.b 72 6 rr 0 ff) 12 6=some [.i ty.bi,.i ty.gl,.i ty.to,.i ty.at,S ty.bc,zX]:=by have:=Kd (el:=72) (rw:=6) (vh:=rr) (fz:=0) (t:=ff) (k:=2) (j:=0) (n:=6) zo zm zm;simp_all
 have rest:∀(fr:Fr)(D:Hp)(Z:List cN)(lf:AV),Z=(if r.bi=0 then s.b else ax5 (nu us j (r.bv.headD zT)).2 s.b)->DW (kI 28 3) (·=t) h D->D.ac t=.a 83 [.a p 0,.h fb,.h E,.h wb,.h sb,lf]->VL 28 3 D lf (Z.map cN.ca)->
  D.ac h.a=.a 72 [.i 5,.i n.gl,.i n.to,.i n.at,S n.bc,.c bb 0 6 4 cap ex]->D.ac (h.a+1)=.a 43 (oG ⟨if r.bi=0 then 3 else 4,n.bc,j,n.at,vm⟩ (ayc us j r) .o)->cg 0 fr=.a t 0->cg 1 fr=.i j->cg 5 fr=.a h.a 0->cg 6 fr=S vm->cg 12 fr=.a (h.a+1) 0->W T T2 fr D [] (bY 0 (finish T (W T) [] k)):=by
  intro fr D Z lf ef C E4 Aw Y M f0 f1 f5 f6 f12;subst pY;have n1:=C.j;have nf1:=C.UV λi q=>by subst q;exact⟨_,I⟩
  have qW:=nf1 _ _ _ (auz _) hb;have lb1:=Hp.lt qW rfl;have l12:=Hp.lt M rfl;have x1:iE w fs aq bu us p D:=x.dw C (λ_ q=>.inr q) λi _ q=>by subst q;exact⟨_,I⟩
  refine iR f0 f1 f5 Y qW e11 (oh.px (H:=D)) ?_;refine aC7 HT x hj (kv:=kv1) (d:=⟨if r.bi=0 then 3 else 4,n.bc,j,n.at,vm⟩) (ow:=ayc us j r) (gb:=h.a+1) smp.1 ⟨_,I⟩ zo ps.bv 0 Z [] .o lf D _ _ zo C E4 Aw (by have:=y.k.1;have:=ayP (f:=(nu us j (r.bv.headD zT)).2) (l:=s.b);rw[ef];split<;>omega) zn M (.inl ⟨rfl,rfl⟩) (λ_ q=>by cases q) oh.pj hps zA zA zA aa aa aa λf' h2 pv fv2 F d2 kp ht2 mC u12' hv hvb=>?_;have n2:=d2.j;have q0:=F 0 zd;have q1:=F 1 zd;have q5:=F 5 zd;have q6:=F 6 zd;have q12:=F 12 zd;simp(disch:=omega) [f0,f1,f5,f6,f12] at q0 q1 q5 q6 q12;have l5:=Hp.lt Y rfl;have u5':h2.ac h.a=.a 72 [.i 5,.i n.gl,.i n.to,.i n.at,S n.bc,.c bb 0 6 4 cap ex]:=(kp _ l5 zo zo ⟨_,_,Y⟩).trans Y;have Ex:=d2.UV λi q=>by subst q;exact⟨_,I⟩
  have fX:=Ex _ _ _ (auz _) hb;have x2:iE w fs aq bu us p h2:=x.dw d2 (λ_ q=>.inr q) λi _ q=>by subst q;exact⟨_,I⟩
  refine iR q0 q1 q5 q12 u5' fX e12 ?_;rw[<-e2];have le2:=aBU (us:=us) (j:=j) ps.bv Z;have le1:Z.length<=s.n+1:=by have:=y.k.1;have:=ayP (f:=(nu us j (r.bv.headD zT)).2) (l:=s.b);rw[ef];split<;>omega
  refine aAD HT x2 ht2 mC zo (hN2.nf Ex zl) (by rcases Y6 with q|q;subst q;exact(by decide:(0:Nat)<4294967296);exact q.2) λh3 fv3 d3 KH so=>?_;have n3:=d3.j;have le3:=ayP (f:=(nu us j ty).2) (l:=ps.bv.foldl (λl q=>ax5 (nu us j (q.bv.headD zT)).2 l) Z);have k3:∀{i e1 l},h2.ac i=.a e1 l->i≠t->h3.ac i=.a e1 l:=λq a=>(d3.d _ (Hp.lt q rfl) a λ⟨_,_,V⟩=>by rw[q] at V;cases V).trans q;have w5:=k3 u5' zo;have G:=k3 u12' zo;have d03:=d2.ab d3;have hv3:VL 48 8 h3 pv ((ps.bv.map (ax' us aq j 6)).map Mem.ca):=hv.aw λi r t li q=>d3.d i li (by rintro rfl;rw[q] at ht2;cases ht2) λ⟨_,_,V⟩=>by rw[q] at V;cases V
  have y3:=y.aC8 (c:=ps.bv.length+1) d03 KH so zo;generalize nu us j ty=o at J y3⊢;obtain⟨rt,f⟩:=o;simp only at J y3⊢;generalize hg:(⟨⟨if r.bi=0 then 3 else 4,n.bc,j,n.at,vm⟩,ayc us j r,ps.bv.map (ax' us aq j 6),rt⟩:oS)=g at J;have hgr:g.ca pv=[.i (if r.bi=0 then 3 else 4),S n.bc,.i j,.i n.at,S vm,.i (ayc us j r).a,S (ayc us j r).c,S (ayc us j r).b,pv,.i rt.a,S rt.c,S rt.b]:=by rw[<-hg];rfl
  have hgp:g.b=ps.bv.map (ax' us aq j 6):=by rw[<-hg]
  rw[<-hgp] at hv3;have l12':=Hp.lt G rfl;have ltt:=Hp.lt KH rfl;simp only[oG] at G;rw[ef] at y3;generalize(if r.bi=0 then(3:Int) else 4)=kd at*;generalize ayc us j r=ow at*;refine mz Ty.ca.eq_1 w5 G q0 q5 q6 q12 KH hv3.fx ?_;generalize A:(h3.bj _ _:Hp)=H;have VV:H.ac (h.a+1)=.a 43 (g.ca pv):=by rw[<-A,hgr];exact aa
  have u:∀i,i≠h.a+1->H.ac i=h3.ac i:=λi q=>by rw[<-A,Hp.du q]
  have nH:H.a=h3.a:=by rw[<-A,Hp.jp l12']
  clear A;have y4:iw hB.a p t fb E wb sb H _ B:=y3.rx λi hi q=>u i (by rintro rfl;rcases q with q|q;have:=y.lt q;omega;rw[G] at q;exact aAE q);obtain⟨o,eo,y5⟩:=y4.sig (q:=⟨ow,vm,n.bc⟩) (g:=g) (v:=pv) (hv3.aw λi r t li q=>u i (by rintro rfl;rw[G] at q;cases q)) λz b hz q=>by have:=hvb _ q;have:=((y.u z).2 b hz).2.lt;omega
  rw[hgr] at eo VV;simp only[Ky.ca] at eo;have htH:=(u t zo).trans KH;have h5H:=(u h.a zo).trans w5;rw[eo];refine ag ?_;refine J _ B ⟨?_,λi hi hm hI=>?_⟩ y5;rw[Hp.jp (y4.lt (.inr (.inr (.inr (.inr rfl)))))];omega;rw[Hp.du λq=>hm (.inr (.inr (.inr (.inr q)))),u i zo,d03.d i hi (λq=>hm (.inl q)) λq=>hI (.inr q)]
 by_cases c0:r.bi=0
 rw[atV c0,atV c0,show ayc us j r=dP from atV c0] at rest;rw[c0] at e0;refine aU c5 hb e0 ?_;exact rest _ _ s.b fv rfl (DW.of (ah.ka fZ)) (au I) (hf.aw λi r t li q=>aa) aa (bV oG.eq_1 dP.eq_1) aa aa aa aa aa;rw[atS c0,atS c0,show ayc us j r=_ from atS c0] at rest;rcases hr with rfl|⟨_,bg,aC'⟩;exact absurd rfl c0;have pP:=auA.2 bg;obtain⟨b0,atm,ex0,r0,ff0,rfl,N7,JW,acr⟩:=js.pj bg;have eJ:=acr 0 pP;have ek0:r.bv[0]=r.bv.headD zT:=by rw[List.headD_eq_head?_getD,aEk,atT pP];rfl
 rw[ek0,aue] at eJ;generalize r.bv.headD zT=k0 at*;obtain⟨aD7,e00,aD8⟩:=eJ.fx;have lb0:=Hp.lt N7 rfl;have h00:0<r0:=zo;refine cq c5 hb e0 c0 N7 e00 ?_;rw[<-e00];generalize A:(Hp.bj (Hp.bj _ _ _) _ _:Hp)=H;have u:ax h H:=by rw[<-A];exact fZ
 have Y:H.ac h.a=.a 72 [.i 5,.i n.gl,.i n.to,.i n.at,S n.bc,.c bb 0 6 4 cap ex]:=by rw[<-A];exact aa
 have M:H.ac (h.a+1)=.a 43 (oG ⟨4,n.bc,j,n.at,vm⟩ dP .o):=by rw[<-A];exact bV oG.eq_1 dP.eq_1
 clear A;refine aAD HT (x.g0 u) ((u.f _ lt id).trans I) (hf.aw λi r t li _=>u.f i li id) (by have:=y.k.1;omega) (eJ.nf (mY u) zl) aC'.2 λD lf C E4 Aw=>?_;have n1:=C.j;have nH:=u.g;have kH:∀{i e1 l},H.ac i=.a e1 l->i≠t->D.ac i=.a e1 l:=λq a=>(C.d _ (Hp.lt q rfl) a λ⟨_,_,V⟩=>by rw[q] at V;cases V).trans q;have v5:=kH Y zo;have U:=kH M zo;have l12:=Hp.lt U rfl;have ltt:=Hp.lt E4 rfl;generalize nu us j k0=o at*;obtain⟨ow,f⟩:=o;simp only[oG,dP] at U;refine aS Ty.ca.eq_1 U ?_;refine rest _ _ _ lf rfl ⟨?_,λi hi hm h28=>?_⟩ ((Hp.du zo).trans E4) (Aw.aw λi r t li q=>Hp.du (by rintro rfl;rw[U] at q;cases q)) ((Hp.du zo).trans v5) (au oG.eq_1) aa aa aa aa aa;rw[Hp.jp l12];omega;rw[Hp.du zo,C.d i zo hm (by rw[u.f i hi id];exact h28),u.f i hi id]
end
def ax2(U:List Ty)(M:Ty->Nat):Nat:=(U.filter λy=>decide (M y=0)).length
theorem aDa{U:List Ty}{M b:Ty->Nat}{x:Ty}(f:x∈U)(c:M x=0)(d:b x≠0)(e:∀z,M z≠0->b z≠0):ax2 U b+1<=ax2 U M:=by
 unfold ax2;have key:∀l:List Ty,(l.filter λy=>decide (b y=0)).length<=(l.filter λy=>decide (M y=0)).length/\(x∈l->(l.filter λy=>decide (b y=0)).length<(l.filter λy=>decide (M y=0)).length):=by
  intro l
  induction l with
  |nil=>grind
  |cons a l g=>
   grind
 grind
theorem aAI{U:List Ty}{M b:Ty->Nat}(c:∀z,M z≠0->b z≠0):ax2 U b<=ax2 U M:=by
 unfold ax2
 induction U with
 |nil=>grind
 |cons a l d=>
  grind
theorem aDb{M:Ty->Nat}{a y:Ty}(h:M y≠0):axY M a (M a+1) y≠0:=by grind [axY]
structure GoP(F:Ty->List Mem)(U:List Ty)(x:Ty)(ms:List Mem)(b:Nat)(M M':Ty->Nat):Prop where
 f:∀y,M y≠0->M' y≠0
 d:∀y,M' y≠0->M y≠0\/gL F x y
 c:∀m∈ms,m.t.a=5->M' m.t≠0
 a:∀y,M y=0->M' y≠0->∀m∈F y,m.t.a=5->M' m.t≠0
 g:∀y,M' y<=b
section
variable {k:aK->Prop}{lo t mb c1 c2 c3:Nat}{s:Q5}
structure GoC(h:Hp)(t mb c1 c2 c3:Nat):Prop where
 a:h.ac c1=.a 31 [.a t 0]
 b:h.ac c2=.a 79 [.h mb]
 c:h.ac c3=.a 165 [.q ⟨97⟩ [] [.a c1 0,.a c2 0,.a c3 0]]
theorem GoC.aw(x:GoC h t mb c1 c2 c3)(g:ah (·=mb) h h')(b:∃a aD,h.ac mb=.d a aD):GoC h' t mb c1 c2 c3:=by obtain⟨a,aD,e⟩:=b;exact⟨(g.f _ (Hp.lt x.a rfl) λq=>by rw[<-q,x.a] at e;grind).trans x.a,(g.f _ (Hp.lt x.b rfl) λq=>by rw[<-q,x.b] at e;grind).trans x.b,(g.f _ (Hp.lt x.c rfl) λq=>by rw[<-q,x.c] at e;grind).trans x.c⟩
theorem iw.gm(x:iw lo p t fb n wb sb h s B)(g:ah (·=mb) h h')(b:∃a aD,h.ac mb=.d a aD)(c:¬TM t fb n wb sb mb):iw lo p t fb n wb sb h' s B:=x.rx λi hi q=>g.f i hi (by
 rintro rfl
 grind [aCY])
theorem aDc(HT:aA T)(hU:∀x m,m∈s.a x->m.t.a=5->m.t∈U) (hb:¬TM t fb n wb sb mb):∀(mm:Nat)(x:Ty)(c:Nat)(M:Ty->Nat)(h:Hp)(k:aK->Prop),ax2 U M=mm->(∀y,M y<=c)->c+s.n+s.n*ax2 U M<4611686018427387904->s.n<536870912->ax6 h mb M->iw lo p t fb n wb sb h s B->GoC h t mb c1 c2 c3->
 (∀h' C,ah (·=mb) h h'->ax6 h' mb C->GoP s.a U x (s.a x) (c+s.n+s.n*ax2 U M- s.n*ax2 U C) M C->s.n*ax2 U C<=s.n*ax2 U M->k (.a (.p []) h'))->aE T (W T) ⟨97⟩ [.j x.ca,.a c1 0,.a c2 0,.a c3 0] h k:=by
 intro mm
 induction mm using Nat.strongRecOn with
 |_ mm ih=>
 intro x c M h k hm hc O1 hn hM y gc hk;rw[ic HT.t97];obtain⟨fv,ht,_⟩:=y.A;have lt:=Hp.lt ht rfl;have l1:=Hp.lt gc.a rfl;obtain⟨v,el,hv⟩:=y.lkG (X:=x) (ok:=false);simp only[Ty.ca] at el;have lfb:=y.lt (i:=fb) (.inr (.inl rfl));have J3:∀l,aEx (.b [.b .i64,.a,.a]) (h.am (.a 40 l)) .o (.h fb) (.j [.i x.a,S x.c,S x.b]) false=.v v:=λl=>el _ (Hp.io lfb);have g0:ax h (h.am (.a 40 x.ca)):=aZ;have key:∀(ms:List Mem)(i:Nat)(a:Ty->Nat)(w:Hp)(J:Fr)(K:aT->Prop),i+ms.length=(s.a x).length->(∀q(hq:q<ms.length),(s.a x)[i+q]? =some ms[q])->ah (·=mb) h w->ax6 w mb a->s.n*ax2 U a<=s.n*ax2 U M->GoP s.a U x ((s.a x).take i) (c+i+s.n*ax2 U M- s.n*ax2 U a) M a->
  cg 1 J=.a c1 0->cg 2 J=.a c2 0->cg 3 J=.a c3 0->cg 12 J=v->cg 13 J=.i (s.a x).length->cg 14 J=.i i->(∀f' h' C,ah (·=mb) h h'->ax6 h' mb C->s.n*ax2 U C<=s.n*ax2 U M->GoP s.a U x (s.a x) (c+(s.a x).length+s.n*ax2 U M- s.n*ax2 U C) M C->K (.a 0 f' h' []))->W T (.d l97_0) J w [] K:=by
  intro ms
  induction ms with
  |nil=>
   intro i a w J K hi hq g1 g dA P f1 f2 f3 f12 f13 f14 hk;simp at hi;rw[aP];refine aS f13 f14 ?_
   grind
  |cons m ms ihm=>
   intro i a w J K hi hq g1 g dA P f1 f2 f3 f12 f13 f14 hk;simp only[atX] at hi;have ao:i<(s.a x).length:=zo;have aY:(i:Int)<(s.a x).length:=zo;have em:(s.a x)[i]=m:=by
    have:=hq 0 zm
    grind
   have Fe:=(y.k.2 x).1;have R:m∈s.a x:=by grind
   have y1:=y.gm g1 hM.yr hb;have O:=gc.aw g1 hM.yr;have Ba:VL 48 8 w v ((s.a x).map Mem.ca):=hv.aw λi r t li q=>g1.f i li (by rintro rfl;obtain⟨_,_,e⟩:=hM.yr;grind);obtain⟨b,r,ff,ev,qW,hr,SD⟩:=Ba.at (j:=i) qaa;simp only[avd,aEc,em] at ev hr SD;have lb:=Hp.lt qW rfl;have lm1:=g.lt;have n1:=g1.g;have tk:(s.a x).take (i+1)=(s.a x).take i++[m]:=by grind [List.take_succ_eq_append_getElem]
   have nx:∀(I:Fr)(h2:Hp)(D:Ty->Nat),ah (·=mb) w h2->ax6 h2 mb D->s.n*ax2 U D<=s.n*ax2 U M->GoP s.a U x ((s.a x).take (i+1)) (c+(i+1)+s.n*ax2 U M- s.n*ax2 U D) M D->cg 1 I=.a c1 0->cg 2 I=.a c2 0->cg 3 I=.a c3 0->cg 12 I=v->cg 13 I=.i (s.a x).length->cg 14 I=.i (i+1)->W T (.d l97_0) I h2 [] K:=λI h2 D g2 E ati P2 e1 e2 e3 e12 e13 e14=>
    ihm (i+1) D h2 I K zo (λq Ci=>by
     have:=hq (q+1) qaa
     grind) (g1.ab g2) E ati P2 e1 e2 e3 e12 e13 qaa hk
   subst ev;have gca:=O.a;have f:=O.b;have Q:=O.c;have la:=Hp.lt gca rfl;have lb2:=Hp.lt f rfl;have lc:=Hp.lt Q rfl;simp only[Mem.ca] at SD;rw[aP]
   by_cases G:m.t.a=5
   have u:∀y,a y≠0->axY a m.t (a m.t+1) y≠0:=λy=>aDb;have ml:=au2 s.n (aAI (U:=U) u);have bM:a m.t<4611686018427387904:=by have:=P.g m.t;omega
   have b2:∀y,axY a m.t (a m.t+1) y<=c+(i+1)+s.n*ax2 U M- s.n*ax2 U a:=λy=>by have:=P.g y;unfold axY;grind
   have m2:axY a m.t (a m.t+1) m.t=a m.t+1:=by unfold axY;grind
   have s2:∀y,axY a m.t (a m.t+1) y≠0->a y≠0\/y=m.t:=λy q=>by grind [axY]
   generalize hH:((w.am (.a 48 [.i 0,S [],.i 0,.i 0,S [],.i 0,S [],S []])).bj w.a (.a 48 [.i m.d.b,S m.d.a,.i m.d.c,.i m.d.f,S m.d.g,.i m.t.a,S m.t.c,S m.t.b]):Hp)=H;have Z:ax w H:=by rw[<-hH];exact fZ
   have u6:H.ac w.a=.a 48 [.i m.d.b,S m.d.a,.i m.d.c,.i m.d.f,S m.d.g,.i m.t.a,S m.t.c,S m.t.b]:=by rw[<-hH];exact aa
   obtain⟨z,jj,H1,o,e0,em1,el2,eo,nH1,gi1,gi2,E⟩:=(g.aw (Z.f _ lm1 id)).inc (X:=m.t);have ww:w64 ((a m.t:Int)+1)=(a m.t:Int)+1:=gf zo zo;have Y:=E.rg (X:=m.t);rw[m2] at Y;generalize axY a m.t (a m.t+1)=D at*;have nb:∀i,i<w.a+1->i≠mb->(H1.bj mb o).ac i=H.ac i:=λi hi q=>gi2.f i (by have:=Hp.lt u6 rfl;omega) q;have vb:=(nb c2 zo qaz).trans ((Z.f _ lb2 id).trans f);have vc:=(nb c3 zo (by rintro rfl;obtain⟨_,_,e⟩:=g.yr;rw[e] at Q;cases Q)).trans ((Z.f _ lc id).trans Q);have v6:=(nb w.a zo zo).trans u6;have vb1:H1.ac c2=.a 79 [.h mb]:=(gi1.f _ (by have:=Z.g;omega) qaz).trans ((Z.f _ lb2 id).trans f);have v61:=(gi1.f _ (Hp.lt u6 rfl) zo).trans u6;have N:ah (·=mb) w (H1.bj mb o):=(ah.ka Z).ab gi2;simp only[Ty.ca,G] at e0 em1 el2 Y;rw[G] at hH u6 v6 v61;have lv:=Hp.lt v6 rfl;have lvb:=Hp.lt vb rfl;have lvc:=Hp.lt vc rfl;have lu:=Hp.lt u6 rfl;have lv1:=Hp.lt v61 rfl;have aD9:=Hp.lt vb1 rfl;have gb2:=(Z.f _ lb2 id).trans f;generalize hL:CC.d l97_0=L at nx;refine pU f1 f2 f3 f12 f13 f14 ao aY qW SD G f ?_;rw[hH];refine aB e0 ?_;rw[em1];refine aS el2 ww ?_;rw[eo];refine cC f2 f3 vb v6 Y ?_
   by_cases c0:a m.t=0
   have m1:=aDa (hU x m R G) c0 (by omega:D m.t≠0) u;have m3:=au2 s.n m1;rw[Nat.mul_add,axu] at m3;refine bK c0 vc v6 f3 ?_;have e1:(AV.j [.i 5,S m.t.c,S m.t.b])=.j m.t.ca:=by simp only[Ty.ca,G]
   rw[e1];refine ih (ax2 U D) (by have:=au2 s.n (aAI (U:=U) P.f);have:=aAI (U:=U) P.f;omega) m.t (c+(i+1)+s.n*ax2 U M- s.n*ax2 U a) D (H1.bj mb o) _ rfl b2 zo hn E (y1.gm N g.yr hb) (O.aw N g.yr) λh4 M4 g4 hM4 V Oq=>?_;refine aS f14 ao ?_;subst hL;refine nx _ h4 M4 (N.ab g4) hM4 zo ⟨λy q=>V.f y (u y (P.f y q)),λy q=>?_,λF q A=>?_,λy q1 q2 F yg A=>?_,λy=>?_⟩ zA zA zA zA zA aa;rcases V.d y q with q|q;rcases s2 y q with q|rfl;exact P.d y q;exact .inr (.b R G);exact .inr (.Hm R G q);rw[tk] at q;rcases auj.1 q with q|q;exact V.f _ (u _ (P.c F q A));simp at q;subst q;exact V.f _ zo
   by_cases d:a y=0
   by_cases e:y=m.t
   subst e;exact V.c F yg A;exact V.a y (avt λq=>(s2 y q).elim (λq=>q d) e) q2 F yg A;exact V.f _ (u _ (P.a y q1 d F yg A));have:=V.g y;omega;have c1:¬((a m.t:Int)+1=1):=zo;refine aU c1 f14 ao ?_;subst hL;refine nx _ _ D N E zo ⟨λy q=>u y (P.f y q),λy q=>?_,λF q A=>?_,λy q1 q2 F yg A=>?_,λy=>?_⟩ zA zA zA zA zA aa;rcases s2 y q with q|rfl;exact P.d y q;exact .inr (.b R G);rw[tk] at q;rcases auj.1 q with q|q;exact u _ (P.c F q A);simp at q;subst q;omega;exact u _ (P.a y q1 ((s2 y q2).elim id λe=>by rw[e];exact c0) F yg A);have:=b2 y;omega;refine wM f1 f2 f3 f12 f13 f14 ao aY qW SD G ?_;refine nx _ _ a (ah.ka fZ) (g.aw aa) dA ⟨P.f,P.d,λF q A=>?_,P.a,λy=>by have:=P.g y;omega⟩ zA zA zA zA zA aa;rw[tk] at q;rcases auj.1 q with q|q;exact P.c F q A;simp at q;subst q;exact absurd A G
 have len:=hv.px (H:=h.am (.a 40 [.i x.a,S x.c,S x.b]));rw[avd] at len;have Fe:=(y.k.2 x).1;have gca:=gc.a;simp only[Ty.ca];refine bK gca ht J3 len ?_;refine key (s.a x) 0 M _ _ _ zo (λq hq=>by rw[aue,atT hq]) (ah.ka aZ) (hM.aw (Hp.io hM.lt)) zl ⟨λ_ q=>q,λ_ q=>.inl q,λm q=>by simp at q,λy q1 q2=>absurd q1 q2,λy=>by have:=hc y;omega⟩ aa aa aa aa aa aa λf' h' C g' hM' le' P'=>?_;refine ag ?_;exact hk h' C g' hM' ⟨P'.f,P'.d,P'.c,P'.a,λy=>by have:=P'.g y;omega⟩ le'
theorem aDd(g:aA T)(w:∀x m,m∈s.a x->m.t.a=5->m.t∈U) (y:iw lo p t fb n wb sb h s B) (C:s.n<536870912) (I:s.n+s.n*U.length<4611686018427387904)
 (A:∀h' mb M,ax h h'->h.a<=mb->ax6 h' mb M->(∀z,M z≠0 <-> gL s.a x z)->k (.a (.h mb) h')):aE T (W T) ⟨62⟩ [.a t 0,.j x.ca] h k:=by
 rw[ic g.t62];simp only[Ty.ca];refine ag ?_;generalize c:(Hp.bj _ _ _:Hp)=H;have j:ax h H:=by rw[<-c];exact fZ
 have E:H.ac h.a=.a 31 [.a t 0]:=by rw[<-c];exact aa
 have G:H.ac (h.a+1+1)=.d [] 0:=by rw[<-c];simp
 have l:H.ac (h.a+1+1+1)=.a 79 [.h (h.a+1+1)]:=by rw[<-c];simp
 have F:H.ac (h.a+1+1+1+1)=.a 165 [.q ⟨97⟩ [] [.a h.a 0,.a (h.a+1+1+1) 0,.a (h.a+1+1+1+1) 0]]:=by rw[<-c];simp
 have L:H.a=h.a+1+1+1+1+1:=by rw[<-c];simp
 have d:ax6 H (h.a+1+1) λ_=>0:=⟨[],ax0.ph G,λ_=>rfl⟩;have K:ax2 U (λ_=>0)=U.length:=by unfold ax2;simp
 refine aDc g w (mb:=h.a+1+1) (λm=>by have:=y.lt m;omega) (ax2 U λ_=>0) x 0 (λ_=>0) H _ rfl (λ_=>at2 _) qaa C d (y.g0 j) ⟨E,l,F⟩ λu M g1 v P _=>?_;have o:=(g1.f _ zo zo).trans l;have J:=Hp.lt o rfl;refine aB o ?_;refine A u (h.a+1+1) M ⟨by omega,λi hi _=>(g1.f i zo zo).trans (j.f i hi id)⟩ zo v λz=>⟨λq=>(P.d z q).resolve_left (λq=>q rfl),λr=>?_⟩
 induction r with
 |b e f=>exact P.c _ e f
 |a _ e f D=>exact P.a _ rfl D _ e f
end
mutual
theorem TT.ind{P:TT->Prop}(h:∀x a,(∀q∈a,P q)->P (.mk x a)):∀D,P D
 |.mk x a=>h x a (TT.aBX h a)
theorem TT.aBX{P:TT->Prop}(h:∀x b,(∀q∈b,P q)->P (.mk x b)):∀b:List TT,∀q∈b,P q
 |[],_,d=>by grind
 |a::l,q,d=>by rcases atZ.1 d with e|e;rw[e];exact TT.ind h a;exact TT.aBX h l q e
end
def oC(F:Ty->List Mem)(h:Hp)(kb:Nat):Prop:=∃L,ax0 dM h kb L/\∀x v,gF L x=some v->∃D:TT,D.ty=x/\iA F D/\v=.i (iD D)
section
variable {k:aK->Prop}{lo t c:Nat}{s:Q5}
def aBY(T:aM->Option CF)(lo p t fb c wb sb kb:Nat)(s:Q5)(B:Ty->Option Nat)(D:TT):Prop:=
 ∀(h:Hp)(k:aK->Prop),iA s.a D->iw lo p t fb c wb sb h s B->oC s.a h kb->(∀h',ah (·=kb) h h'->oC s.a h' kb->k (.a (.i (iD D)) h'))->aE T (W T) ⟨41⟩ [.a t 0,.j D.ty.ca,.h kb] h k
def oC.yr(x:oC s.a h kb):∃a aD,h.ac kb=.d a aD:=by obtain⟨L,m,_⟩:=x;exact⟨_,_,m.1⟩
def oC.aw(x:oC s.a h kb)(e:h'.ac kb=h.ac kb):oC s.a h' kb:=by obtain⟨L,m,q⟩:=x;exact⟨L,m.aw e,q⟩
def oC.lt(x:oC s.a h kb):kb<h.a:=by obtain⟨L,m,_⟩:=x;exact m.lt
theorem VL.gm{el w:Nat}{v:AV}{L:List (List AV)}(x:VL el w h v L)(g:ah (·=kb) h h')(b:∃a aD,h.ac kb=.d a aD):VL el w h' v L:=x.aw λi r t li q=>g.f i li qaa
theorem aDe(V:aA T){ms:List Mem}{v:AV}(X:ms.length<4294967296)(O:¬TM t fb c wb sb kb):∀(d:List TT)(i:Nat)(n:Int)(h:Hp)(a:Fr)(K:aT->Prop),(∀q∈d,aBY T lo p t fb c wb sb kb s B q)->aya s.a d->d.map TT.ty=(ms.drop i).map (·.t)->i+d.length=ms.length->0<=n->n<=257->iw lo p t fb c wb sb h s B->oC s.a h kb->VL 48 8 h v (ms.map Mem.ca)->
 cg 0 a=.a t 0->cg 2 a=.h kb->cg 9 a=.i n->cg 31 a=v->cg 32 a=.i ms.length->cg 33 a=.i i->(∀l h',(∀q,q<=8->cg q l=cg q a)->cg 9 l=.i (iP d n)->ah (·=kb) h h'->oC s.a h' kb->K (.a 0 l h' []))->W T (.d l41_0) a h [] K:=by
 intro d
 induction d with
 |nil=>
  intro i n h a K _ _ _ hi n0 U y g C f0 E f9 f31 f32 f33 u;subst hi;rw[aP];refine aS f32 f33 ?_;exact u _ _ (λq z=>by repeat rw[eG (m:=9) zo zm]) (by simp_all[iP]) (ah.da _) g
 |cons D d Q=>
  intro i n h a K G A e hi n0 U y g C f0 E f9 f31 f32 f33 u;simp only[atX] at hi;have w:i<ms.length:=zo;have J:(i:Int)<ms.length:=zo;rw[aut w,aul,aul,awm] at e;obtain⟨em,e⟩:=e;obtain⟨b,r,ff,ev,H,P,o⟩:=C.at (j:=i) qaa;simp only[avd,aEc] at ev P o;generalize ms[i]=m at em o;have lb:=Hp.lt H rfl;have sz:=ay5 A.1;simp only[Mem.ca] at o;rw[aP];subst ev;refine mz f0 E f31 f32 f33 w J H o ?_;have er:(AV.j [.i m.t.a,S m.t.c,S m.t.b])=.j D.ty.ca:=by rw[em];rfl
  rw[er];refine G D zm _ _ A.1 (y.g0 ?_) (g.aw ?_) λF g1 k1=>?_;exact fZ;have:=g.lt;exact aa
  ·have f:ah (·=kb) h F:=(ah.ka fZ).ab g1;unfold iP at u;refine aU f9 f33 w ?_;have L:(if(257:Int)<n+iD D then 257 else n+iD D)=mn (n+iD D) 257:=rfl;rw[L];refine Q (i+1) (mn (n+iD D) 257) F _ K (λq z=>G q qaa) A.2 e zo zo zo (y.gm f g.yr O) k1 (C.gm f g.yr) zA zA aa zA zA aa λl h' z N M R=>u l h' (λq I=>?_) N (f.ab M) R;rw[z q I]
   repeat rw[qA,atS zo]
theorem aBZ(C:aA T)(hn:s.n<4294967296)(U:¬TM t fb c wb sb kb):∀D:TT,aBY T lo p t fb c wb sb kb s B D:=by
 intro D
 induction D using TT.ind with
 |_ x a W=>
 intro h k j y d f;rw[ic C.t41];have V:(TT.mk x a).ty=x:=rfl;rw[V];obtain⟨h0,h5,F,E⟩:=j;have j:iA s.a (.mk x a):=⟨h0,h5,F,E⟩;unfold iD at f;simp only[Ty.ca]
 by_cases b:x.a=5
 rw[atV b] at f;obtain⟨L,K,N⟩:=d;have d:oC s.a h kb:=⟨L,K,N⟩;have g1:ax h (h.am (.a 40 [.i 5,S x.c,S x.b])):=aZ;have u:=d.lt;have el:=(K.aw (g1.f _ u id)).rg (s:=x) (z:=.i 0) (ok:=true);have el:aEx (.b [.b .i64,.a,.a]) (h.am (.a 40 [.i 5,S x.c,S x.b])) (.i 0) (.h kb) (.j [.i 5,S x.c,S x.b]) true=y7 true ((gF L x).getD (.i 0)) (gF L x).isSome:=by rw[<-b];rw[<-b] at el;exact el
 cases q:gF L x with
 |some v=>
  obtain⟨D,O,uD,rfl⟩:=N x v q;have:=uD.AC j O;subst this;rw[q] at el;unfold iD at el;exact aS b el (f _ (ah.ka aZ) (d.aw (g1.f _ u id)))
 |none=>
  rw[q] at el;simp only[Option.getD_none,aEh] at el;obtain⟨v,ev,J⟩:=(y.g0 g1).lkF (X:=x) (ok:=false);have len:=J.px (H:=h.am (.a 40 [.i 5,S x.c,S x.b]));rw[avd] at len;simp only[Ty.ca,b] at ev;obtain⟨fv,I,_⟩:=y.A;have lt:=Hp.lt I rfl;have Ch:=(y.k.2 x).1;have bz:a.length=(s.a x).length:=by have:=aui List.length F;grind
  refine cC b el I ev len ?_;refine aDe C (ms:=s.a x) (v:=v) zo U a 0 0 _ _ _ W E qaa zo (atY _) zm (y.g0 g1) (d.aw (g1.f _ u id)) J aa aa aa aa aa aa λf' i G R g2 Y=>?_;have q2:=G 2 zm;have q4:=G 4 zm;simp(disch:=omega) at q2 q4;have mV:(h.am (.a 40 [.i 5,S x.c,S x.b])).ac h.a=.a 40 [.i 5,S x.c,S x.b]:=Hp.ba rfl;have A:=(g2.f _ zm zo).trans mV;have l4:=Hp.lt A rfl;obtain⟨L2,Z,p2⟩:=Y;obtain⟨o,P,Q⟩:=Z.sf (s:=x) (v:=.i (mx (iP a 0) 1));have M:=Q (i.bj kb o) (Hp.dq rfl);have g:=M.rg (s:=x) (z:=.i 0) (ok:=false);rw[ayl,atV rfl] at g;have n:wk (.b [.b .i64,.a,.a]) i (.h kb) (.j [.i 5,S x.c,S x.b]) (.i (mx (iP a 0) 1))=.b undef (i.bj kb o):=by rw[<-b];exact P
  have l:aEx (.b [.b .i64,.a,.a]) (i.bj kb o) (.i 0) (.h kb) (.j [.i 5,S x.c,S x.b]) false=.v (.i (mx (iP a 0) 1)):=by rw[<-b];exact g
  have m:(if iP a 0<(1:Int) then 1 else iP a 0)=mx (iP a 0) 1:=rfl;have v4:(i.bj kb o).ac h.a=.a 40 [.i 5,S x.c,S x.b]:=(Hp.du zo).trans A;refine cC q2 q4 A R m ?_;rw[n];refine bK q2 q4 v4 l ?_;refine f _ (((ah.ka g1).ab g2).bj _ (.inr rfl)) ⟨_,M,λz w r=>?_⟩;rw[ayl] at r;split at r;rename_i e;subst e;cases r;exact⟨.mk z a,rfl,j,by unfold iD;grind⟩
  grind
 rw[atS b] at f;have m:(if(1:Int)<x.a then 1 else x.a)=mn x.a 1:=rfl;refine aS b m ?_;exact f _ (ah.ka aZ) (d.aw (Hp.io d.lt))
end
structure FOk(s:Q5):Prop where
 a:∀x m,m∈s.a x->(s.c x).isSome=true
 b:∀x m,m∈s.a x->m.t.a=5->(s.c m.t).isSome=true
 d:∀x m,m∈s.a x->0<=m.t.a/\m.t.a<=5
 c:∀x,(s.c x).isSome=true->x.a=5
def oB(h:Hp)(ib lo hi:Nat)(F:Ty->List Mem)(j:List Ty):Prop:=∃L,ax0 dM h ib L/\∀x,(x∈j->∃mb M,gF L x=some (.h mb)/\ax6 h mb M/\mb≠ib/\(lo<=mb/\mb<hi)/\∀z,M z≠0 <-> gL F x z)/\(x∉j->gF L x=none)
section
variable {k:aK->Prop}{lo t:Nat}{s:Q5}{j:List Ty}{N:List (Ty×AV)}
def oB.lt{F hi}(x:oB h ib lo hi F j):ib<h.a:=by obtain⟨L,m,_⟩:=x;exact m.lt
def oB.aw{F hi g}(x:oB h ib lo hi F j)(le:hi<=g)(e:∀i,i<h.a->i<hi\/i=ib->(∃l aD,h.ac i=.d l aD)->h'.ac i=h.ac i):oB h' ib lo g F j:=by obtain⟨L,m,q⟩:=x;refine⟨L,m.aw (e _ m.lt (.inr rfl) ⟨_,_,m.1⟩),λy=>⟨λn=>?_,(q y).2⟩⟩;obtain⟨mb,M,a,b,c,d,f⟩:=(q y).1 n;exact⟨mb,M,a,b.aw (e _ b.lt (.inl d.2) b.yr),c,⟨d.1,by omega⟩,f⟩
theorem aDg(HT:aA T)(hF:FOk s)(hU:∀x,(s.c x).isSome=true->x∈U) (hn:s.n<536870912) (X:s.n+s.n*U.length<4611686018427387904) (y0:iw lo p t fb E wb sb h0 s B) (mp:ax0 dM h0 E N) (VU:∀x,gF N x=(s.c x).map λd=>.j d.ca) (li:h0.a<=ib) (lt:h0.a<=it) (bg:it≠ib):∀(n:Nat)(todo j:List Ty)(h:Hp)(I:Option AV)(A:Fr)(K:aT->Prop),todo.length=n->ax h0 h->oB h ib h0.a h.a s.a j->h.ac it=.c dM.d E N.length (todo.map dM.c) I->(∀q∈todo,(s.c q).isSome=true)->
 cg 0 A=.a t 0->cg 2 A=.h ib->cg 14 A=.a it 0->(∀w h' f,cg 0 w=.a t 0->cg 2 w=.h ib->ax h0 h'->oB h' ib h0.a h'.a s.a f->(∀q,q∈todo\/q∈j->q∈f)->(∀q∈f,(s.c q).isSome=true\/q∈j)->K (.a 0 w h' []))->W T (.d l28_2) A h [] K:=by
 intro n
 induction n with
 |zero=>
  intro todo j h I A K bz g V F y f0 f2 f14 Y;obtain rfl:=avW.1 bz;have mh:=mp.aw (g.f _ mp.lt id);rw[aP];refine aB f14 ?_;refine C1 F mh.1 (λ_=>?_) (λe r D=>absurd D.length_eq zm);refine ag ?_;exact Y _ h j zA zA g V (λq C=>C.resolve_left awg) λq C=>.inr C
 |succ n ih=>
  intro todo j h I A K bz g V F y f0 f2 f14 Y;have mh:=mp.aw (g.f _ mp.lt id);have lpb:=mp.lt;have n0:=g.g;have lit:=Hp.lt F rfl;rw[aP];refine aB f14 ?_;refine C1 F mh.1 (λe=>by grind) (λe r D=>?_);have he:e∈todo:=D.mem_iff.1 zm;have A2:=y e he;obtain⟨d,hd⟩:=awk.1 A2;generalize Q:h.bj it (.c dM.d E N.length (r.map dM.c) (some (dM.c e)))=H;have P:ax h0 H:=by rw[<-Q];exact g.bj _ (.inl lt)
  have vT:H.ac it=.c dM.d E N.length (r.map dM.c) (some (dM.c e)):=by rw[<-Q];simp
  have nH:H.a=h.a:=by grind [Hp.jp]
  have aH:oB H ib h0.a H.a s.a j:=V.aw zo λi hi _ ⟨_,_,q⟩=>by grind [Hp.du]
  clear Q;have mH:=mp.aw (P.f _ mp.lt id);have J:=mH.Hb (s:=e) (v:=.j d.ca) rfl vT qaa;have J:FU H (.a it 0)=.v (.p [.j [.i e.a,S e.c,S e.b],.j d.ca]):=J;simp only[wm];refine aU f14 f0 J ?_;have er:(AV.j [.i e.a,S e.c,S e.b])=.j e.ca:=rfl;rw[er];have g1:ax H ((H.am (.a 40 [.i 0,S [],S []])).bj H.a (.a 40 [.i e.a,S e.c,S e.b])):=fZ;refine aDd HT (U:=U) (λx m hm k5=>hU _ (hF.b x m hm k5)) (y0.g0 (P.ab g1)) hn X λl mb M g2 lm hM R=>?_;have u:=g1.ab g2;have v3:l.ac H.a=.a 40 [.i e.a,S e.c,S e.b]:=(g2.f _ aa id).trans aa;have l3:=Hp.lt v3 rfl;have n12:=u.g;have n2:=g2.g;have a1:oB l ib h0.a l.a s.a j:=aH.aw zo λi hi _ _=>u.f i hi id;obtain⟨L,m,q⟩:=a1;obtain⟨o,O,fo⟩:=m.sf (s:=e) (v:=.h mb);have O:wk (.b [.b .i64,.a,.a]) l (.h ib) (.j [.i e.a,S e.c,S e.b]) (.h mb)=.b undef (l.bj ib o):=O;have lib:ib<H.a:=aH.lt;have lm':H.a<mb:=by have:=lm;simp at this;omega
  refine bK Ty.ca.eq_1 f2 v3 O ?_;have ns:(l.bj ib o).a=l.a:=Hp.jp zo;have lmb:=hM.lt;have a2:oB (l.bj ib o) ib h0.a (l.bj ib o).a s.a (e::j):=by
   refine⟨_,fo _ (Hp.dq rfl),λz=>⟨λhz=>?_,λhz=>?_⟩⟩;rw[ayl]
   by_cases c:z=e
   subst c;exact⟨mb,M,atV rfl,hM.aw (Hp.du zo),by omega,by omega,R⟩;obtain⟨Z,M',a,b,c',d',w⟩:=(q z).1 ((atZ.1 hz).resolve_left c);exact⟨Z,M',by grind,b.aw (Hp.du c'),c',by omega,w⟩
   grind [ayl]
  have G:(l.bj ib o).ac it=_:=(Hp.du bg).trans ((u.f _ (Hp.lt vT rfl) id).trans vT);refine ih r (e::j) (l.bj ib o) _ _ K (by have:=D.length_eq;grind) ((P.ab u).bj _ (.inl li)) a2 G (λq C=>y q (D.mem_iff.1 qaa)) zA zA zA λw h' f a0 b0 g' a' bC lN=>Y w h' f a0 b0 g' a' (λq C=>bC q ?_) λq C=>?_
  grind
  grind
theorem oB.val{lo hi}(x:oB h ib lo hi s.a j)(e:∀y,s.a y≠[]->y∈j) (X:Ty):∃mv c,aEx (.b [.b .i64,.a,.a]) h .y (.h ib) (.j [.i X.a,S X.c,S X.b]) false=.v mv/\aEx (.b [.b .i64,.a,.a]) h (.i 0) mv (.j [.i X.a,S X.c,S X.b]) false=.v (.i c)/\(c=0 <-> ¬gL s.a X X)/\0<=c:=by
 obtain⟨L,m,q⟩:=x;have d:=m.rg (s:=X) (z:=.y) (ok:=false)
 by_cases c:X∈j
 obtain⟨mb,M,a,b,_,_,f⟩:=(q X).1 c;rw[a] at d;refine⟨.h mb,M X,d,b.rg (X:=X),?_,by omega⟩
 grind
 rw[(q X).2 c] at d;refine⟨.y,0,d,?_,⟨λ_ r=>?_,λ_=>rfl⟩,atY _⟩;have:=dM.f X;have this:BS (.b [.b .i64,.a,.a]) (.j [.i X.a,S X.c,S X.b])=true:=this;simp_all[aEx];exact c (e X r.ne)
def iw.gi(x:iw lo p t fb E wb sb h s B)(g:ah (·=it) h h'){c m aD todo b}(a:h.ac it=.c c m aD todo b):iw lo p t fb E wb sb h' s B:=x.rx λi hi q=>g.f i hi (by rintro rfl;rcases q with q|q;rcases x.Or q with⟨_,e⟩|⟨_,_,e⟩<;>rw[a] at e<;>cases e;rw[a] at q;rcases q with⟨_,_,q⟩|⟨_,_,q⟩<;>cases q)
theorem ay6{i b m aD todo a c v}(d:h.ac it=.c b m aD todo a)(e:h.ac i=.d c v):i≠it:=by grind
theorem aDi(HT:aA T){mb hi wH:Nat}{L:List (Ty×AV)}(pT:∀y,s.a y≠[]->y∈j):∀(n:Nat)(todo:List Ty)(g:Bool)(h:Hp)(R:Option AV)(a:Fr)(K:aT->Prop),todo.length=n->iw lo p t fb E wb sb h s B->oB h ib wH hi s.a j->ax0 dM h mb L->h.ac it=.c dM.d mb L.length (todo.map dM.c) R->(∀q∈todo,(gF L q).isSome=true)->
 cg 0 a=.a t 0->cg 2 a=.h ib->cg 7 a=.d g->cg 53 a=.a it 0->(∀A h' d,(∀q,q<=6\/q=29->cg q A=cg q a)->cg 7 A=.d d->(d=true <-> g=true/\∀y∈todo,s.f y=0/\¬gL s.a y y)->ah (·=it) h h'->K (.a 4 A h' []))->W T (.d l28_0) a h [] K:=by
 intro n
 induction n with
 |zero=>
  intro todo g h R a K bz y ha w f l f0 C f7 f53 Z;obtain rfl:=avW.1 bz;rw[aP];refine aB f53 ?_;refine C1 f w.1 (λ_=>?_) (λe r F=>absurd F.length_eq zm);refine ag ?_;exact Z _ h g (λq b=>by repeat rw[qA,atS zo]) zA ⟨λq=>⟨q,λ_ h=>by grind⟩,λq=>q.1⟩ (ah.da _)
 |succ n ih=>
  intro todo g h R a K bz y ha w f l f0 C f7 f53 Z;have lit:=Hp.lt f rfl;rw[aP];refine aB f53 ?_;refine C1 f w.1 (λe=>by grind) (λe r F=>?_);have he:e∈todo:=F.mem_iff.1 zm;obtain⟨v,hv⟩:=awk.1 (l e he);generalize Y:h.bj it (.c dM.d mb L.length (r.map dM.c) (some (dM.c e)))=H;have G:ah (·=it) h H:=by rw[<-Y];exact(ah.da _).bj _ (.inr rfl)
  have vT:H.ac it=.c dM.d mb L.length (r.map dM.c) (some (dM.c e)):=by rw[<-Y];simp
  have nH:H.a=h.a:=by grind [Hp.jp]
  clear Y;have mH:=w.aw (G.f _ w.lt (ay6 f w.1));have o:=mH.Hb (s:=e) (v:=v) rfl vT hv;have o:FU H (.a it 0)=.v (.p [.j [.i e.a,S e.c,S e.b],v]):=o;have yH:=y.gi G f;have aH:oB H ib wH hi s.a j:=ha.aw zl λi li _ ⟨_,_,q⟩=>G.f i li (ay6 f q);generalize u:((H.am (.a 40 [.i 0,S [],S []])).bj H.a (.a 40 [.i e.a,S e.c,S e.b]):Hp)=J;have D:ax H J:=by rw[<-u];exact fZ
  have O:J.ac H.a=.a 40 [.i e.a,S e.c,S e.b]:=by rw[<-u];simp
  have yJ:=yH.g0 D;have aJ:oB J ib wH hi s.a j:=aH.aw zl λi li _ _=>D.f i li id;have P:=(D.f _ (Hp.lt vT rfl) id).trans vT;obtain⟨fv,I,_⟩:=yJ.A;obtain⟨mv,c,q1,q2,q3,q4⟩:=aJ.val pT e;have q5:=yJ.F.rg (X:=e);simp only[Ty.ca] at q5;have lt:=Hp.lt I rfl;have lJ:=Hp.lt O rfl;have g2:ah (·=it) h J:=G.ab (ah.ka D);simp only[wm];have M:∀(m:Fr)(d:Bool),(∀q,q<=6\/q=29->cg q m=cg q a)->cg 53 m=.a it 0->cg 7 m=.d d->(d=true <-> g=true/\s.f e=0/\¬gL s.a e e)->W T (.d l28_0) m J [] K:=λm d b Q e7 hg=>by
   refine ih r d J _ m K (by have:=F.length_eq;grind) yJ aJ (mH.aw (D.f _ mH.lt id)) P (λq b=>l q (F.mem_iff.1 qaa)) ((b 0 zo).trans f0) ((b 2 zo).trans C) e7 Q λA h' V Ci h7 NQ g3=>Z A h' V (λq z=>(Ci q z).trans (b q z)) h7 ?_ (g2.ab g3)
   grind
  cases g with
  |false=>
   refine aU f53 f7 o ?_;rw[u];refine M _ false (λq b=>by repeat rw[qA,atS zo]) zA aa zm
  |true=>
   by_cases w0:s.f e=0
   ·rw[w0] at q5
    by_cases c0:c=0
    ·have hn:=q3.1 c0;rw[c0] at q2;refine aU f53 f7 o ?_;rw[u];refine iR O I q5 f0 C q1 q2 ?_;exact M _ true (λq b=>by repeat rw[qA,atS zo]) zA aa qaa
    ·have hn:gL s.a e e:=avt λq=>c0 (q3.2 q);refine aU f53 f7 o ?_;rw[u];refine fY O I q5 f0 C q1 q2 c0 ?_;exact M _ false (λq b=>by repeat rw[qA,atS zo]) zA aa (by simp[hn])
   ·refine aU f53 f7 o ?_;rw[u];refine cq O I q5 f0 C w0 ?_;exact M _ false (λq b=>by repeat rw[qA,atS zo]) zA aa (by simp[w0])
theorem iw.bN{fv:AV}{f:cN}(x:iw lo p t fb E wb sb h s B)(v:h.ac t=.a 83 [.a p 0,.h fb,.h E,.h wb,.h sb,fv]){nb:Nat}{t1:N3 (List AV)}(H:h.ac nb=.b 28 3 1 0 t1)(o:t1 0=f.ca)(L:s.n<4294967296):
 ∃w d,kJ h 28 3 24 fv (.c nb 0 3 1 1 true)=.b w d/\bQ w=some [w]/\d.a=h.a+1/\(∀i e l,h.ac i=.a e l->d.ac i=.a e l)/\DW (kI 28 3) (·=t) h (d.bj t (.a 83 [.a p 0,.h fb,.h E,.h wb,.h sb,w]))/\iw lo p t fb E wb sb (d.bj t (.a 83 [.a p 0,.h fb,.h E,.h wb,.h sb,w])) {s with b:=s.b++[f],n:=s.n+1} B:=by
 obtain⟨y,e,m⟩:=x.A;have ev:y=fv:=by grind
 subst ev;have K:=x.k.1;obtain⟨d,r,g,z,kp⟩:=m.va (AM:=24) (cap:=1) (ex:=true) zm qaa zm H zl o;have lt:=Hp.lt v rfl;have dw:DW (kI 28 3) (·=t) h (d.bj t (.a 83 [.a p 0,.h fb,.h E,.h wb,.h sb,iN 3 h.a (s.b.map cN.ca++[f.ca])])):=⟨by grind [Hp.jp],λi hi a c=>by rw[Hp.du a,kp i hi λq=>c (m.is q).1]⟩;refine⟨_,d,r,rfl,z,λi e l q=>(kp i (Hp.lt q rfl) (m.nb q)).trans q,dw,x.wl dw (Hp.dq rfl) ?_ qaa⟩;rw[show(s.b++[f]).map cN.ca=s.b.map cN.ca++[f.ca] by simp];exact Rw.vl (g.aw (Hp.du zo)) zm
end
structure WhP(s:Q5)(todo:List Ty)(ex:List cN):Prop where
 l:ex.length<=todo.length
 e:∀f∈ex,f.e≠0
 z:ex=[]->∀x∈todo,¬gL s.a x x/\(s.f x=0->(∀y,gL s.a x y->s.f y=0/\¬gL s.a y y)->∀D:TT,D.ty=x->iA s.a D->iD D<=256)
 n:(∀x∈todo,¬gL s.a x x/\∀D:TT,D.ty=x->iA s.a D->iD D<=256)->ex=[]
section
variable {k:aK->Prop}{lo t hi wH:Nat}{s:Q5}{o:List Ty}{u:List (Ty×AV)}
def oC.g0(x:oC s.a h kb)(g:ax h h'):oC s.a h' kb:=x.aw (g.f _ x.lt id)
def aDk(HT:aA T)(hF:FOk s)(hU:∀x,(s.c x).isSome=true->x∈U) (pT:∀y,s.a y≠[]->y∈o) (Bl:∀x,(s.c x).isSome=true->x∈o) (VU:∀x,gF u x=(s.c x).map λd=>.j d.ca) (hb:¬TM t fb j wb sb kb) (hki:kb≠ib) (hkh:hi<=kb) (h5:∀x,x.a≠5->s.a x=[]):∀(n:Nat)(todo:List Ty)(ft:List cN)(nn:Nat)(h:Hp)(eC:Option AV)(fr:Fr)(K:aT->Prop),todo.length=n->iw lo p t fb j wb sb h {s with b:=ft,n:=nn} B->nn+todo.length<4294967296->oB h ib wH hi s.a o->oC s.a h kb->ax0 dM h j u->h.ac it=.c dM.d j u.length (todo.map dM.c) eC->(∀q∈todo,(s.c q).isSome=true)->
 cg 0 fr=.a t 0->cg 2 fr=.h ib->cg 4 fr=.h kb->cg 29 fr=.a it 0->(∀f' h' ex,DW (kI 28 3) (λi=>i=t\/i=it\/i=kb) h h'->iw lo p t fb j wb sb h' {s with b:=ft++ex,n:=nn+ex.length} B->WhP s todo ex->K (.a 2 f' h' []))->W T (.d l28_1) fr h [] K:=by
 intro n
 induction n with
 |zero=>
  intro todo ft nn h eC fr K bz y hn ha kn mp gV hin f0 f2 f4 f29 hk;obtain rfl:=avW.1 bz;rw[aP];refine aB f29 ?_;refine C1 gV mp.1 (λ_=>?_) (λe r hp=>absurd hp.length_eq zm);refine ag ?_;exact hk _ h [] (DW.da _) (by simpa using y) ⟨at2 _,λf h=>qaF,λ_ x h=>qaF,λ_=>rfl⟩
 |succ n ih=>
  intro todo ft nn h eC fr K bz y hn ha kn mp gV hin f0 f2 f4 f29 hk;have lit:=Hp.lt gV rfl;rw[aP];generalize hL:CC.d l28_1=L;unfold l28_1;generalize hR:CC.g (.f (bB q28 14 [0,4301,4302,4303,4304,5])) (.i (.t 81) (.f (bB q28 15 [0,1,2,3,1304,5,106,7,108,209,810,1411,12,13,2014])) (cQ (z q28 16) (cI 103 (.f (bB q28 17 [0,1,2,3,1304,5,106,7,108,209,810,1411,12,13,2014])))))=R;refine aB f29 ?_;refine C1 gV mp.1 (λe=>by subst e;simp at bz) (λe r hp=>?_);have he:e∈todo:=hp.mem_iff.1 zm;have A2:=hin e he;have hlr:todo.length=r.length+1:=by have:=hp.length_eq;simp at this;omega
  obtain⟨d,hd⟩:=awk.1 A2;generalize hH:h.bj it (.c dM.d j u.length (r.map dM.c) (some (dM.c e)))=H;have Z:ah (·=it) h H:=by rw[<-hH];exact(ah.da _).bj _ (.inr rfl)
  have vT:H.ac it=.c dM.d j u.length (r.map dM.c) (some (dM.c e)):=by rw[<-hH];exact Hp.dq rfl
  have nH:H.a=h.a:=by rw[<-hH];exact Hp.jp lit
  clear hH;have mH:=mp.aw (Z.f _ mp.lt (ay6 gV mp.1));have en:=mH.Hb (s:=e) (v:=.j d.ca) rfl vT (by rw[VU,hd];rfl);have en:FU H (.a it 0)=.v (.p [.j [.i e.a,S e.c,S e.b],.j [.i d.b,S d.a,.i d.c,.i d.f,S d.g]]):=en;have yH:=y.gi Z gV;have aH:oB H ib wH hi s.a o:=ha.aw zl λi li _ ⟨_,_,q⟩=>Z.f i li (ay6 gV q);have knH:oC s.a H kb:=kn.aw (Z.f _ kn.lt (by obtain⟨_,_,q⟩:=kn.yr;exact ay6 gV q));generalize hJ:((((H.am (.a 40 [.i 0,S [],S []])).am (.a 38 [.i 0,S [],.i 0,.i 0,S []])).bj H.a (.a 40 [.i e.a,S e.c,S e.b])).bj (H.a+1) (.a 38 [.i d.b,S d.a,.i d.c,.i d.f,S d.g]):Hp)=J;have gJ:ax H J:=by rw[<-hJ];exact fZ
  have u5:J.ac H.a=.a 40 [.i e.a,S e.c,S e.b]:=by rw[<-hJ];exact aa
  have u6:J.ac (H.a+1)=.a 38 [.i d.b,S d.a,.i d.c,.i d.f,S d.g]:=by rw[<-hJ];exact aa
  have l6:=Hp.lt u6 rfl;have l5:=Hp.lt u5 rfl;have yJ:=yH.g0 gJ;have aJ:oB J ib wH hi s.a o:=aH.aw zl λi li _ _=>gJ.f i li id;obtain⟨fv,ht,_⟩:=yJ.A;have lt:=Hp.lt ht rfl;obtain⟨mv,c,q1,q2,q3,q4⟩:=aJ.val pT e;have q5:=yJ.F.rg (X:=e);simp only[Ty.ca] at q5;obtain⟨Li,mi,qi⟩:=aJ;have aJ:oB J ib wH hi s.a o:=⟨Li,mi,qi⟩;obtain⟨mb,M,qa,qb,qc,qd,qe⟩:=(qi e).1 (Bl e A2);have e1:=mi.rg (s:=e) (z:=.y) (ok:=false);rw[qa] at e1;have e1:aEx (.b [.b .i64,.a,.a]) J .y (.h ib) (.j [.i e.a,S e.c,S e.b]) false=.v (.h mb):=e1;obtain rfl:mv=.h mb:=by rw[e1] at q1;cases q1;rfl
  obtain⟨Lx,mx,qx⟩:=qb;have aAJ:FT (.b [.b .i64,.a,.a]) J (.h mb)=.b (.a J.a 0) (J.am (.c dM.d mb Lx.length ((ou Lx).map dM.c) none)):=mx.Mj (κ:=dM) rfl;have ikx:∀y,y∈ou Lx <-> gL s.a e y:=λy=>by
   rw[<-qe y];have:=qx y
   by_cases c:M y=0
   rw[atV c] at this;exact⟨λq=>absurd q (ayC.1 this),λq=>absurd c q⟩;rw[atS c] at this;exact⟨λ_=>c,λ_=>avt λq=>by rw[ayC.2 q] at this;cases this⟩
  simp only[wm];have nx:∀(l:Fr)(A:Hp)(ex:List cN),ex.length<=1->DW (kI 28 3) (λi=>i=t\/i=it\/i=kb) h A->(∀i,i<H.a->i≠t->i≠kb->¬kI 28 3 (H.ac i)->A.ac i=H.ac i)->iw lo p t fb j wb sb A {s with b:=ft++ex,n:=nn+ex.length} B->oC s.a A kb->WhP s [e] ex->cg 0 l=.a t 0->cg 2 l=.h ib->cg 4 l=.h kb->cg 29 l=.a it 0->W T L l A [] K:=by
   intro l A ex hx d4 k4 y4 G P N V Y E;subst hL;have km:∀i,i<H.a->i≠kb->(∃es aD,H.ac i=.d es aD)->A.ac i=H.ac i:=λi li a ⟨_,_,q⟩=>k4 i li (by rintro rfl;obtain⟨_,e,_⟩:=yH.A;rw[q] at e;cases e) a λ⟨_,_,q'⟩=>by rw[q] at q';cases q'
   refine ih r (ft++ex) (nn+ex.length) A _ l K zo y4 zo (aH.aw zl λi li q m=>km i li (by rcases q with q|q;omega;omega) m) G (mH.aw (km _ mH.lt (by rintro rfl;exact hb (.inr (.inr (.inl rfl)))) ⟨_,_,mH.1⟩)) ((k4 it (Hp.lt vT rfl) (by rintro rfl;obtain⟨_,e,_⟩:=yH.A;rw[vT] at e;cases e) (by rintro rfl;obtain⟨_,_,e⟩:=knH.yr;rw[vT] at e;cases e) λ⟨_,_,q⟩=>by rw[vT] at q;cases q).trans vT) (λq hq=>hin q (hp.mem_iff.1 (by simp[hq]))) N V Y E λf' h' Ey d' y' P'=>hk f' h' (ex++Ey) (d4.ab d') ?_ ⟨by have:=P.l;have:=P'.l;simp at*;omega,λf hf=>?_,λhz x hx=>?_,λha=>?_⟩;rw[auk,<-avg,<-av7];exact y';rcases auj.1 hf with q|q;exact P.e f q;exact P'.e f q;obtain⟨z1,z2⟩:=aEl.1 hz;rcases atZ.1 (hp.mem_iff.2 hx) with rfl|q;exact P.z z1 x zm;exact P'.z z2 x q;rw[P.n λx q=>ha x (by simp at q;rw[q];exact he),P'.n λx q=>ha x (hp.mem_iff.1 (by simp[q]))];rfl
  have rest:∀(l:Fr)(h3:Hp)(g:Bool),ax J h3->(g=true <-> s.f e=0/\¬gL s.a e e/\∀y,gL s.a e y->s.f y=0/\¬gL s.a y y)->cg 0 l=.a t 0->cg 2 l=.h ib->cg 4 l=.h kb->cg 5 l=.a H.a 0->cg 6 l=.a (H.a+1) 0->cg 29 l=.a it 0->cg 7 l=.d g->W T R l h3 [] (bY 3 (bF (W T L) K)):=by
   intro l h3 g g3 hg N V Y e5 e6 E e7;subst hR;have y3:=yJ.g0 g3;have C:=gJ.ab g3;have a3:oB h3 ib wH hi s.a o:=aJ.aw zl λi li _ _=>g3.f i li id;have kn3:=knH.g0 C;obtain⟨fv3,KH,_⟩:=y3.A;have v5:=(g3.f _ l5 id).trans u5;have v6:=(g3.f _ l6 id).trans u6;have k5:=Hp.lt v5 rfl;have k6:=Hp.lt v6 rfl;have lt3:=Hp.lt KH rfl;have n3:=g3.g;obtain⟨mv3,c3,r1,r2,r3,r4⟩:=a3.val pT e;have fF:∀(A I:Hp)(z:Int)(t1:N3 (List AV)),z≠0->ah (·=kb) h3 A->oC s.a A kb->I=A.am (.b 28 3 1 0 t1)->t1 0=[.i d.c,.i d.f,.i z]->∃fv w H6,I.ac t=.a 83 [.a p 0,.h fb,.h j,.h wb,.h sb,fv]/\A.ac t=.a 83 [.a p 0,.h fb,.h j,.h wb,.h sb,fv]/\h3.ac t=.a 83 [.a p 0,.h fb,.h j,.h wb,.h sb,fv]/\kJ I 28 3 24 fv (.c A.a 0 3 1 1 true)=.b w H6/\bQ w=some [w]/\H6.ac t=.a 83 [.a p 0,.h fb,.h j,.h wb,.h sb,fv]/\(∀l,WhP s [e] [⟨d.c,d.f,z⟩]->cg 0 l=.a t 0->cg 2 l=.h ib->cg 4 l=.h kb->cg 29 l=.a it 0->W T L l (H6.bj t (.a 83 [.a p 0,.h fb,.h j,.h wb,.h sb,w])) [] K):=by
    intro A I z t1 hz O G e5 e1;have y4:=y3.gm O kn3.yr hb;have Q:ax A I:=by rw[e5];exact aZ
    have y5:=y4.g0 Q;obtain⟨fv5,oO,_⟩:=y5.A;have ub:I.ac A.a=.b 28 3 1 0 t1:=by rw[e5];exact Hp.ba rfl
    obtain⟨w,H6,ea,cw,n6,k1,d6,y6⟩:=y5.bN (f:=⟨d.c,d.f,z⟩) oO ub e1 (by show nn<4294967296;omega);have eb:A.ac t=I.ac t:=(Q.f _ (by obtain⟨_,q,_⟩:=y4.A;exact Hp.lt q rfl) id).symm;have ec:A.ac t=h3.ac t:=O.f _ lt3 qaw;have n4:=O.g;have n5:=Q.g;have k34:∀i,i<H.a->i≠t->i≠kb->¬kI 28 3 (H.ac i)->(H6.bj t (.a 83 [.a p 0,.h fb,.h j,.h wb,.h sb,w])).ac i=H.ac i:=λi li a b c=>by have q1:=gJ.f i li id;have q2:=g3.f i qaB id;have q3:=O.f i qaB b;have q4:=Q.f i qaB id;rw[d6.d i qaB a (by rw[q4,q3,q2,q1];exact c),q4,q3,q2,q1]
    refine⟨fv5,w,H6,oO,eb.trans oO,ec.symm.trans (eb.trans oO),ea,cw,k1 _ _ _ oO,λl P f0 f2 f4 f29=>nx l _ [⟨d.c,d.f,z⟩] zm ⟨by have:=Z.g;have:=gJ.g;have:=d6.j;omega,λi li a c=>?_⟩ k34 y6 (G.aw ?_) P f0 f2 f4 f29⟩;simp only[aEi] at a;rw[k34 i zo a.1 a.2.2 (by rw[Z.f i li a.2.1];exact c),Z.f i li a.2.1];obtain⟨_,_,q⟩:=G.yr;have q':=(Q.f _ G.lt id).trans q;rw[d6.d kb (Hp.lt q' rfl) qaw (by rw[q'];rintro⟨_,_,q⟩;cases q)];exact q'.trans q.symm
   by_cases c0:c3=0
   have nr:=r3.1 c0;rw[c0] at r2;cases g with
   |false=>
    refine fY N V Y e5 e7 v5 r1 r2 ?_;refine nx _ h3 [] zm ⟨by have:=Z.g;have:=C.g;omega,λi li a c=>?_⟩ (λi li _ _ _=>C.f i li id) (by simpa using y3) kn3 ⟨auz _,λf h=>qaF,λ_ x hx=>?_,λ_=>rfl⟩ (au N) (au V) (au Y) (au E);simp only[aEi] at a;rw[C.f i zo id,Z.f i li a.2.1];simp at hx;subst hx;exact⟨nr,λw1 w2=>absurd (hg.2 ⟨w1,nr,w2⟩) zm⟩
   |true=>
    obtain⟨w0,_,w2⟩:=hg.1 rfl;have k5e:=hF.c e A2;obtain⟨D,eD,uD⟩:=aAB (F:=s.a) (U:=U) (λx m hm q=>hU _ (hF.b x m hm q)) hF.d h5 (U.length+1) e [] zm aEe (λa h=>by cases h) zo (λ_=>hU e A2) nr λy q=>(w2 y q).2;refine fY N V Y e5 e7 v5 r1 r2 ?_;have er:(AV.j [.i e.a,S e.c,S e.b])=.j D.ty.ca:=by rw[eD];rfl
    rw[er];refine aBZ HT (s:={s with b:=ft,n:=nn}) (by show nn<4294967296;omega) hb D h3 _ uD y3 kn3 λA O G=>?_;have w5:=(O.f _ k5 (by have:=kn.lt;omega)).trans v5;have w6:=(O.f _ k6 (by have:=kn.lt;omega)).trans v6;have l6':=Hp.lt w6 rfl
    by_cases cz:(256:Int)<iD D
    have KI:=(O.f _ lt3 qaw).trans KH;refine cC cz N e6 w6 KI ?_;refine ayy HT λh5 Q=>?_;have oO:=(Q.f _ (Hp.lt KI rfl) id).trans KI;refine aB oO ?_;generalize Ap:(Hp.am _ _:Hp)=I;obtain⟨t1,eH,et⟩:∃t1,I=h5.am (.b 28 3 1 0 t1)/\t1 0=[.i d.c,.i d.f,.i 3]:=⟨_,Ap.symm,by simp⟩;clear Ap;obtain⟨fv,w,H6,a1,a2,a3,ea,cw,a6,b8⟩:=fF h5 I 3 t1 zd (O.ab (ah.ka Q)) (G.g0 Q) eH et;obtain rfl:fv=fv3:=by rw[KH] at a3;cases a3;rfl
    have l6t:=Hp.lt a6 rfl;rw[ea];refine aU a1 a6 cw ?_;exact b8 _ ⟨at2 _,λf h=>by simp at h;subst h;exact(by decide:(3:Int)≠0),λh=>qaF,λh=>absurd ((h e zm).2 D eD uD) zo⟩ (au N) (au V) (au Y) (au E);refine aB cz ?_;refine nx _ A [] zm ⟨by have:=Z.g;have:=C.g;have:=O.g;omega,λi li a c=>?_⟩ (λi li _ b _=>(O.f i qaK b).trans (C.f i li id)) (by simpa using y3.gm O kn3.yr hb) G ⟨auz _,λf h=>qaF,λ_ x hx=>?_,λ_=>rfl⟩ (au N) (au V) (au Y) (au E);simp only[aEi] at a;rw[O.f i qaK a.2.2,C.f i zo id,Z.f i li a.2.1];simp at hx;subst hx;exact⟨nr,λ_ _ D' e' u'=>by rw[<-uD.AC u' (eD.trans e'.symm)];omega⟩
   have rr:gL s.a e e:=avt λq=>c0 (r3.2 q);have c1:0<c3:=zo;refine pU N V Y e5 e6 e7 v5 v6 r1 r2 c1 KH ?_;refine ayy HT λh5 Q=>?_;have oO:=(Q.f _ lt3 id).trans KH;refine aB oO ?_;generalize Ap:(Hp.am _ _:Hp)=I;obtain⟨t1,eH,et⟩:∃t1,I=h5.am (.b 28 3 1 0 t1)/\t1 0=[.i d.c,.i d.f,.i 16]:=⟨_,Ap.symm,by simp⟩;clear Ap;obtain⟨fv,w,H6,a1,a2,a3,ea,cw,a6,b8⟩:=fF h5 I 16 t1 zd (ah.ka Q) (kn3.g0 Q) eH et;obtain rfl:fv=fv3:=by rw[KH] at a3;cases a3;rfl
   have l6t:=Hp.lt a6 rfl;rw[ea];refine aU a1 a6 cw ?_;exact b8 _ ⟨at2 _,λf h=>by simp at h;subst h;exact(by decide:(16:Int)≠0),λh=>qaF,λh=>absurd rr (h e zm).1⟩ (au N) (au V) (au Y) (au E)
  have mid:∀(l:Fr)(g0:Bool),(g0=true <-> s.f e=0/\¬gL s.a e e)->cg 0 l=.a t 0->cg 2 l=.h ib->cg 4 l=.h kb->cg 5 l=.a H.a 0->cg 6 l=.a (H.a+1) 0->cg 29 l=.a it 0->cg 7 l=.d g0->cg 53 l=.a J.a 0->W T (.d l28_0) l (J.am (.c dM.d mb Lx.length ((ou Lx).map dM.c) none)) [] (bY 4 (bF (W T R) (bY 3 (bF (W T L) K)))):=by
   intro l g0 hg0 N V Y e5 e6 E e7 e53;have gP:ax J (J.am (.c dM.d mb Lx.length ((ou Lx).map dM.c) none)):=aZ;refine aDi HT (s:={s with b:=ft,n:=nn}) (mb:=mb) (L:=Lx) pT _ (ou Lx) g0 _ none _ _ rfl (yJ.g0 gP) (aJ.aw zl λi li _ _=>gP.f i li id) (mx.aw (gP.f _ mx.lt id)) (Hp.ba rfl) (λq hq=>?_) N V e7 e53 λf' h' g' hq h7 hg g3=>?_;cases hv:gF Lx q with
   |none=>exact absurd hq (ayC.1 hv)
   |some v=>rfl
   refine ag ?_;refine rest f' h' g' ⟨by have:=g3.g;simp at this;omega,λi li _=>(g3.f i zn zo).trans (gP.f i li id)⟩ ?_ ((hq 0 zo).trans N) ((hq 2 zo).trans V) ((hq 4 zo).trans Y) ((hq 5 zo).trans e5) ((hq 6 zo).trans e6) ((hq 29 zo).trans E) h7;rw[hg,hg0];exact⟨λ⟨⟨a,b⟩,c⟩=>⟨a,b,λy r=>c y ((ikx y).2 r)⟩,λ⟨a,b,c⟩=>⟨⟨a,b⟩,λy q=>c y ((ikx y).1 q)⟩⟩
  by_cases w0:s.f e=0
  rw[w0] at q5
  by_cases c0:c=0
  have nr:=q3.1 c0;rw[c0] at q2;refine aS f29 en ?_;rw[hJ];refine fY u5 ht q5 f0 f2 e1 q2 aAJ ?_;exact mid _ true (by simp[w0,nr]) zA zA zA aa aa zA aa aa;have rr:gL s.a e e:=avt λq=>c0 (q3.2 q);refine aS f29 en ?_;rw[hJ];refine mz u5 ht q5 f0 f2 e1 q2 c0 aAJ ?_;exact mid _ false (by simp[rr]) zA zA zA aa aa zA aa aa;refine aS f29 en ?_;rw[hJ];refine fY u5 ht q5 f0 f2 w0 e1 aAJ ?_;exact mid _ false (by simp[w0]) zA zA zA aa aa zA aa aa
end
end Yv
