/- A part of the proof of 'TypesZeroUptoCardSaid': an evaluator of open calls, its soundness, and what the functions come to. There is no further condition. -/
import Derived.Test.YtakmgamiepdiiaaGreatDoorX08
import GoSem.PinnedTables
import Derived.Test.YtakmgamiepdiiaaGreatDoorRows
import Derived.ProofKit
import Derived.LaidMore
import Derived.Carry
import Derived.Test.YtakmgamiepdiiaaGreatDoorCards
import Derived.Test.YtakmgamiepdiiaaGreatDoorTie
import Derived.Deep.DeepHandedRow
import Derived.Lib.LaidTab
import Derived.Lay
set_option maxHeartbeats 64000000
set_option maxRecDepth 100000
set_option linter.all false
namespace Yv
variable {B:Ty->Option Nat}{P Q:Nat->Prop}{T:aM->Option CF}{a c:List Doc}{d fb j p sb vb wb:Nat}{ds:List aC}{fs:List Tree}{h' h0 hB:Hp}{s:Q5}{us:List dx}{v:AV}{w:Go.World}{x:Ty}
section
variable {h:Hp}{k:aK->Prop}{lo t f ib it kb hi wH:Nat}{U g:List Ty}{e:List (Ty×AV)}
def aDl(v:aA T)(A:FOk s)(h5:∀x,x.a≠5->s.a x=[]) (y:iw lo p t fb f wb sb h s B) (Y:s.n<536870912)
 (V:∀h' ex U,(∀x,(s.c x).isSome=true <-> x∈U)->U.length<=s.n->DW (kI 28 3) (·=t) h h'->iw lo p t fb f wb sb h' {s with b:=s.b++ex,n:=s.n+ex.length} B->WhP s U ex->k (.a (.p []) h')):aE T (W T) ⟨28⟩ [.a t 0] h k:=by
 rw[ic v.t28];obtain⟨fv,E,_⟩:=y.A;obtain⟨e,mp,w,G⟩:=y.D;have lt:=Hp.lt E rfl;have r:=mp.lt;have o:∀x,(s.c x).isSome=true <-> x∈ou e:=λx=>by
  have:=w x;cases hd:s.c x with
  |none=>rw[hd] at this;exact⟨λq=>(by cases q),λq=>absurd q (ayC.1 this)⟩
  |some d=>rw[hd] at this;exact⟨λ_=>avt λq=>(by rw[ayC.2 q] at this;cases this),λ_=>rfl⟩
 have lU:(ou e).length<=s.n:=by simpa[ou] using G
 have C:s.n+s.n*(ou e).length<4611686018427387904:=by have l:s.n*(ou e).length<=536870912*536870912:=axp zo zo;omega
 have O:ax h (h.am (.d [] 0)):=aZ;have Z:FT (.b [.b .i64,.a,.a]) (h.am (.d [] 0)) (.h f)=.b (.a (h.a+1) 0) ((h.am (.d [] 0)).am (.c dM.d f e.length ((ou e).map dM.c) none)):=(mp.aw (O.f _ r id)).Mj (κ:=dM) rfl;refine aS E Z ?_;have Q:ax h ((h.am (.d [] 0)).am (.c dM.d f e.length ((ou e).map dM.c) none)):=aZ;have mi:ax0 dM ((h.am (.d [] 0)).am (.c dM.d f e.length ((ou e).map dM.c) none)) h.a []:=ax0.ph aa;refine aDg v A (λx=>(o x).1) Y C y mp w (ib:=h.a) (it:=h.a+1) zl zo zo _ (ou e) [] _ none _ _ rfl Q ⟨[],mi,λx=>⟨λq=>(by cases q),λ_=>rfl⟩⟩ (Hp.ba rfl) (λq D=>(o q).2 D) aa aa aa λf1 l g K N g1 I M lN=>?_;have H:=(g1.f _ lt id).trans E;have lt1:=Hp.lt H rfl;have u:=mp.aw (g1.f _ r id);have R:ax l (l.am (.d [] 0)):=aZ;have rm:FT (.b [.b .i64,.a,.a]) (l.am (.d [] 0)) (.h f)=.b (.a (l.a+1) 0) ((l.am (.d [] 0)).am (.c dM.d f e.length ((ou e).map dM.c) none)):=(u.aw (R.f _ u.lt id)).Mj (κ:=dM) rfl;refine aU K H rm ?_;have L:ax l ((l.am (.d [] 0)).am (.c dM.d f e.length ((ou e).map dM.c) none)):=aZ;have j:=g1.ab L;have n1:=g1.g;have lib:=I.lt;refine aDk v A (λx=>(o x).1) (λz F=>M z (.inl ((o z).1 ?_))) (λz F=>M z (.inl ((o z).1 F))) w (λq=>by have:=y.lt q;omega) (kb:=l.a) (it:=l.a+1) (hi:=l.a) (wH:=h.a) zo zl h5 _ (ou e) s.b s.n _ none _ _ rfl (y.g0 j) zo (I.aw zl λi li _ _=>L.f i li id) ⟨[],ax0.ph aa,λ_ _ q=>by cases q⟩ (mp.aw (j.f _ r id)) (Hp.ba rfl) (λq D=>(o q).2 D) (au K) (au N) aa aa λf2 S ex J y2 P=>?_;obtain⟨m,X⟩:=List.exists_mem_of_ne_nil _ F;exact A.a z m X;refine ag ?_;refine V S ex _ o lU ⟨by have:=j.g;have:=J.j;omega,λi hi a c=>?_⟩ y2 P;rw[J.d i qat zo (by rw[j.f i hi id];exact c),j.f i hi id]
end
section
variable {h:Hp}{k:aK->Prop}{a b:cN}{L:List cN}
def aDm(c:aA T)(e:∀h'(z:Int),ax h h'->k (.a (.i z) h')):aE T (W T) ⟨30⟩ [.j a.ca,.j b.ca] h k:=by
 rw[ic c.t30];refine aB cN.ca.eq_1 ?_;refine Oz c ?_;refine ag ?_;refine Oz c ?_;refine ag ?_;refine ajO c ?_;refine ag ?_;refine abz c (L:=[xj a.b b.b,xj a.a b.a,xj a.e b.e]) (Hp.ba rfl) zm (λj d=>?_) zm ?_;exact match j,d with
 |0,_=>rfl
 |1,_=>rfl
 |2,_=>rfl
 refine ag ?_;exact e _ _ aZ
def aDn(J:aA T)(G:VL 28 3 h v (L.map cN.ca))(X:L≠[])(hl:L.length<4294967296)(o:∀h' f,f∈L->ax h h'->k (.a (.j f.ca) h')):aE T (W T) ⟨29⟩ [v,.q ⟨30⟩ [] []] h k:=by
 rw[ic J.t29];have h0:0<L.length:=auA.2 X;have h1:¬(L.length:Int)<1:=zo;have len:∀H,tL 1 H v=.v (.i L.length):=λH=>by have:=G.px (H:=H);rwa[avd] at this
 obtain⟨bb,r,ff,ev,p,F,d⟩:=G.at (j:=0) (by simpa using h0);simp only[avd,aEc] at ev F d;have lb:=Hp.lt p rfl;have r0:0<r:=zo;have key:∀(n i:Nat)(f:cN)(H:Hp)(l:Fr)(K:aT->Prop),i+n=L.length->f∈L->ax h H->h.a+2<=H.a->H.ac (h.a+1)=.a 28 f.ca->H.ac h.a=.a 28 [.i 0,.i 0,.i 0]->cg 0 l=v->cg 1 l=.q ⟨30⟩ [] []->cg 4 l=.a h.a 0->cg 5 l=.a (h.a+1) 0->cg 6 l=.i i->(∀D C f,f∈L->ax h C->C.ac (h.a+1)=.a 28 f.ca->C.ac h.a=.a 28 [.i 0,.i 0,.i 0]->cg 4 D=.a h.a 0->cg 5 D=.a (h.a+1) 0->K (.a 0 D C []))->W T (.d l29_0) l H [] K:=by
  intro n
  induction n with
  |zero=>
   intro i f H l K hi y g hx u B f0 O f4 f5 f6 o;have e:¬i<L.length:=zo;have A:=len H;rw[aP];refine bK f0 f6 A e ?_;exact o _ H f y g u B zA zA
  |succ n Q=>
   intro i f H l K hi y g hx u B f0 O f4 f5 f6 o;have s:i<L.length:=zo;have V:(i:Int)<L.length:=zo;have I:VL 28 3 H v (L.map cN.ca):=G.aw λi r t li _=>g.f i li id;obtain⟨bb,r,ff,ev,p,F,E⟩:=I.at (j:=i) (by simpa using s);simp only[avd,aEc] at ev F E;have lb:=Hp.lt p rfl;have A:=len H;have N:L[i]∈L:=auy s;generalize L[i]=q at E N;have m:=E;simp only[cN.ca] at m u;rw[aP];subst ev;generalize x:CC.d l29_0=LL;refine nA f0 O f5 f6 A s V p m u ?_;have Y:(AV.j [.i q.b,.i q.a,.i q.e])=.j q.ca:=rfl;have Z:(AV.j [.i f.b,.i f.a,.i f.e])=.j f.ca:=rfl;rw[Y,Z];refine aDm J λU z g1=>?_;have w:=g.ab g1;have n1:=g1.g;have R:=(g1.f _ zo id).trans u;have S:=(g1.f _ zo id).trans B;have P:=(g1.f _ lb id).trans p;have lb2:=Hp.lt P rfl
   by_cases c:z<0
   refine fY c f0 f5 f6 P m R s ?_;subst x;exact Q (i+1) q _ _ K zo N (w.bj _ (.inl zo)) (by rw[Hp.jp zo];omega) (au cN.ca.eq_1) (au S) zA zA zA zA aa o;refine aU c f6 s ?_;subst x;exact Q (i+1) f U _ K zo y w zo (by rw[R];rfl) S zA zA zA zA aa o
 have A:=len (h.am (.a 28 [.i 0,.i 0,.i 0]));have M:L[0]∈L:=auy h0;generalize L[0]=q at d M;simp only[cN.ca] at d;subst ev;refine cC A h1 h0 p d ?_;refine key (L.length- 1) 1 q _ _ _ zo M ?_ ?_ ?_ ?_ ?_ ?_ ?_ ?_ ?_ λD h' f y g u B e4 e5=>?_;exact fZ;exact aa;exact au cN.ca.eq_1;exact aa;exact aa;exact aa;exact aa;exact aa;exact aa;have l5:=Hp.lt u rfl;simp only[cN.ca] at u;refine bK e4 e5 u B ?_;exact o _ f y (g.bj _ (.inl zl))
end
def ayz(us:List dx)(aq:List (List UInt8))(j:Nat)(ts:List Tree)(s:Q5):Q5:=ts.foldl (λs q=>ayd us aq j q s) s
def ax3(us:List dx)(aq:List (List UInt8)):List Tree->Nat->Q5->Q5
 |[],_,s=>s
 |t::ts,j,s=>ax3 us aq ts (j+1) (ayz us aq j t.bv s)
def iF:Q5:=⟨λ_=>[],λ_=>0,λ_=>none,λ_=>none,[],0⟩
def ayb(ts:List Tree):Nat:=(ts.map ayq).sum
def ax9(fs:List Tree):Nat:=(fs.map λt=>ayb t.bv).sum
section
variable {h:Hp}{k:aK->Prop}{aq:List (List UInt8)}{bu:List UInt8->List aC}{lo t:Nat}
theorem aB1{X:Ty}:∀(ts:List Tree)(s:Q5),(ts.foldl (λs q=>ayp us aq j X q s) s).n=s.n+ts.length
 |[],_=>rfl
 |q::ts,s=>by
  rw[aEd,aB1 ts];show s.n+1+ts.length=_
  grind
theorem aB2(q:Tree)(s:Q5):(ayd us aq j q s).n<=s.n+ayq q:=by
 unfold ayd ayq;split;rw[aB1];grind
 grind
theorem aDo(L:aA T)(x0:iE c fs aq bu us p hB)(P:j<c.length){m:Nat}{kv:AV}(Z:m<4294967296):∀(ts:List Tree)(i:Nat)(s:Q5)(h:Hp)(B:Ty->Option Nat)(a:Fr)(K:aT->Prop),i+ts.length=m->DW ax1 (λi=>hB.a<=i) hB h->iw hB.a p t fb d wb sb h s B->s.n+ayb ts<536870912->
 (ts≠[]->∃b cap ex r ff,kv=.c b 0 6 m cap ex/\h.ac b=.b 72 6 r 0 ff/\m<=r/\∀q,(g:q<ts.length)->ay 0 h ts[q] (ff (i+q)))->(∀q∈ts,ax8 q)->pq ts->
 cg 4 a=.a t 0->cg 5 a=.i j->cg 26 a=kv->cg 27 a=.i m->cg 28 a=.i i->(∀l h' o,(∀q,q<=4\/q=19\/q=20->cg q l=cg q a)->DW ax1 (TM t fb d wb sb) h h'->iw hB.a p t fb d wb sb h' (ayz us aq j ts s) o->K (.a 2 l h' []))->W T (.d l7_0) a h [] K:=by
 intro ts
 induction ts with
 |nil=>
  intro i s h B a K hi g0 y E f w z f4 f5 f26 f27 f28 x;subst hi;rw[aP];refine aU f26 f27 f28 ?_;exact x _ _ B (λq g=>by repeat rw[qA,atS zo]) (DW.da _) y
 |cons q ts R=>
  intro i s h B a K hi g0 y E f w z f4 f5 f26 f27 f28 x;obtain⟨b,cap,ex,r,ff,rfl,u,Q,F⟩:=f zm;simp only[atX] at hi;have A:i<m:=zo;have M:(i:Int)<m:=zo;have v:=F 0 zm;simp only[aus,aud] at v;obtain⟨V,G,U⟩:=v.fx;have lb:=Hp.lt u rfl;have Y:s.n+(ayq q+ayb ts)<536870912:=by simpa[ayb] using E
  have X:=aB2 (us:=us) (aq:=aq) (j:=j) q s;rw[aP];refine mz f4 f5 f26 f27 f28 A M u G ?_;rw[<-G];generalize D:((h.am _).bj _ _:Hp)=H;have n:ax h H:=by rw[<-D];exact fZ
  clear D;have g1:=g0.ab (DW.of (ah.ka n));refine aC9 L x0 g1 (y.g0 n) P (v.nf (mY n) zl) (w q zm) z.1 zo λC I O y1=>?_;have e:DW ax1 (TM t fb d wb sb) h C:=(DW.of (ah.ka n)).ab O;have nf:=y.nf e;refine aS f28 A ?_;refine R (i+1) (ayd us aq j q s) C I _ K zo (y.PQ g0 e) y1 zo (λ_=>⟨b,cap,ex,r,ff,rfl,nf _ _ _ (auz _) u,Q,λq g=>?_⟩) (λq g=>w q qaa) z.2 zA zA zA zA aa λl h' o g N S=>x l h' o (λq J=>?_) (e.ab N) S;have:=F (q+1) qaa;simp[auu,show i+(q+1)=i+1+q by omega] at this;exact this.nf nf zl
  ·rw[g q J]
   repeat rw[qA,atS zo]
theorem azw:∀(ts:List Tree)(s:Q5),(ayz us aq j ts s).n<=s.n+ayb ts
 |[],_=>at2 _
 |q::ts,s=>by
  have:=azw ts (ayd us aq j q s);have:=aB2 (us:=us) (aq:=aq) (j:=j) q s;have e:ayb (q::ts)=ayq q+ayb ts:=by rfl
  have a:ayz us aq j (q::ts) s=ayz us aq j ts (ayd us aq j q s):=rfl
  grind
theorem aDp(D:aA T)(x0:iE c fs aq bu us p hB):∀(ts:List Tree)(j:Nat)(s:Q5)(h:Hp)(B:Ty->Option Nat)(f:Fr)(K:aT->Prop),j+ts.length=fs.length->(∀q(g:q<ts.length),fs[j+q]? =some ts[q])->DW ax1 (λi=>hB.a<=i) hB h->iw hB.a p t fb d wb sb h s B->s.n+ax9 ts<536870912->(∀q∈ts,∀U∈q.bv,ax8 U)->pq ts->
 cg 0 f=.a p 0->cg 3 f=.a (hB.a) 0->cg 4 f=.a t 0->cg 19 f=.i c.length->cg 20 f=.i j->(∀l h' r,cg 3 l=.a hB.a 0->cg 4 l=.a t 0->DW ax1 (TM t fb d wb sb) h h'->iw hB.a p t fb d wb sb h' (ax3 us aq ts j s) r->K (.a 0 l h' []))->W T (.d l7_1) f h [] K:=by
 intro ts
 induction ts with
 |nil=>
  intro j s h B f K x A g0 y I w C f0 f3 f4 f19 f20 z;have P:=x0.j;simp at x;have e:¬(j:Int)<c.length:=zo;rw[aP];refine aU f19 f20 e ?_;exact z _ _ B zA zA (DW.da _) y
 |cons q ts R=>
  intro j s h B f K x A g0 y I w C f0 f3 f4 f19 f20 z;have P:=x0.j;simp only[atX] at x;have u:j<c.length:=zo;have J:(j:Int)<c.length:=zo;have S:j<fs.length:=zo;have dl:=x0.k;have O:fs[j]=q:=by
   have:=A 0 zm
   grind
  have X:s.n+(ayb q.bv+ax9 ts)<536870912:=by simpa[ax9] using I
  have Y:=azw (us:=us) (aq:=aq) (j:=j) q.bv s;generalize Q:CC.d l7_0=L;rw[aP];refine cC f0 f19 f20 u J ?_;refine aCP D (x0.up g0) S λF row g1 E=>?_;rw[O] at E;obtain⟨kv,rfl,n⟩:=E.fx;have o:=Aq C.1;refine aB (n.px (H:=F)) ?_;subst Q;have v:=g0.ab (DW.of (ah.ka g1));refine aDo D x0 u (kv:=kv) o.1 q.bv 0 s F B _ _ zo v (y.g0 g1) zo n.pj (w q zm) o.2 zA aa aa aa aa λl G B2 g N y2=>?_;have q0:=g 0 zo;have q3:=g 3 zo;have q4:=g 4 zo;have q19:=g 19 zo;have q20:=g 20 zo;simp(disch:=omega) [f0,f3,f4,f19,f20] at q0 q3 q4 q19 q20;have m:DW ax1 (TM t fb d wb sb) h G:=(DW.of (ah.ka g1)).ab N;refine aS q20 u ?_;refine R (j+1) (ayz us aq j q.bv s) G B2 _ K zo (λi hi=>?_) (y.PQ g0 m) y2 zo (λq g=>w q qaa) C.2 (au q0) (au q3) (au q4) (au q19) aa λl h' r a b M V=>z l h' r a b (m.ab M) V;have:=A (i+1) qaa;simp only[auu] at this;rw[show j+1+i=j+(i+1) by omega];exact this
end
section
variable {h:Hp}{k:aK->Prop}{d:List Doc}{aq:List (List UInt8)}{bu:List UInt8->List aC}{lo t g:Nat}
theorem iw.g1(x:iw lo p t fb g wb sb h s B){q b:Nat}{l:List AV}{o:AO}(e:h.ac q=.a b l)(ne:b≠83):iw lo p t fb g wb sb (h.bj q o) s B:=x.rx λi hi m=>Hp.du (by
 rintro rfl;rcases m with m|m;rcases x.Or m with⟨_,a⟩|⟨_,_,a⟩<;>rw[e] at a<;>cases a;omega
 grind [aAE])
theorem aB3(r:aA T)(x:iE d fs aq bu us p h)(Y:∀q∈fs,∀q'∈q.bv,ax8 q') (sm:pq fs) (hc:ax9 fs<536870912) (R:FOk (ax3 us aq fs 0 iF)) (h5:∀x,x.a≠5->(ax3 us aq fs 0 iF).a x=[])
 (Q:∀h' f ex U,f∈(ax3 us aq fs 0 iF).b++ex->(∀x,((ax3 us aq fs 0 iF).c x).isSome=true <-> x∈U)->WhP (ax3 us aq fs 0 iF) U ex->DW ax1 (λi=>h.a<=i) h h'->k (.a (.p [.w,.j f.ca]) h'))
 (V:∀h' t fb g wb sb B U,(ax3 us aq fs 0 iF).b=[]->(∀x,((ax3 us aq fs 0 iF).c x).isSome=true <-> x∈U)->WhP (ax3 us aq fs 0 iF) U []->DW ax1 (λi=>h.a<=i) h h'->h.a<=t->iw h.a p t fb g wb sb h' (ax3 us aq fs 0 iF) B->k (.a (.p [.a t 0,.j [.i 0,.i 0,.i 0]]) h')):aE T (W T) ⟨7⟩ [.a p 0] h k:=by
 rw[ic r.t7];generalize X:CC.d l7_1=L;refine ag ?_;generalize l:(((((h.am _).am _).am _).am _).am _:Hp)=m;have O:ax h m:=by rw[<-l];exact aZ
 have J:m.ac h.a=.a 28 [.i 0,.i 0,.i 0]:=by rw[<-l];exact aa
 have m1:m.ac (h.a+1)=.d [] 0:=by rw[<-l];simp
 have m2:m.ac (h.a+1+1)=.d [] 0:=by rw[<-l];simp
 have m3:m.ac (h.a+1+1+1)=.d [] 0:=by rw[<-l];simp
 have m4:m.ac (h.a+1+1+1+1)=.d [] 0:=by rw[<-l];simp
 have n0:m.a=h.a+1+1+1+1+1:=by rw[<-l];rfl
 clear l;generalize l:(Hp.am _ _:Hp)=H;have A:ax m H:=by rw[<-l];exact aZ
 have ut:H.ac (h.a+1+1+1+1+1)=.a 83 [.a p 0,.h (h.a+1),.h (h.a+1+1),.h (h.a+1+1+1),.h (h.a+1+1+1+1),.o]:=by grind [Hp.ba]
 clear l;have g0:=O.ab A;have mn:∀{K:Type}[DecidableEq K]{κ:ayL K}{i},m.ac i=.d [] 0->i<m.a->ax0 κ H i []:=λq li=>ax0.ph ((A.f _ li id).trans q);have y0:iw h.a p (h.a+1+1+1+1+1) (h.a+1) (h.a+1+1) (h.a+1+1+1) (h.a+1+1+1+1) H iF λ_=>none:=by
  refine⟨⟨.o,ut,.inl ⟨rfl,rfl⟩⟩,⟨[],mn m1 zo,λ_=>rfl⟩,λx=>⟨λ_=>rfl,λb q=>qaa⟩,λ_ _ _ q=>qaa,⟨[],mn m2 zo,λ_=>rfl,at2 _⟩,⟨[],mn m3 zo,λ_=>rfl⟩,⟨[],mn m4 zo,λ_=>rfl⟩,?_,λi hi=>?_,at2 _,λ_=>⟨at2 _,at2 _⟩⟩
  grind
  unfold TM at hi;omega
 refine aCO r (x.g0 g0) ?_;refine ag ?_;subst X;refine aDp r x fs 0 iF H _ _ _ zo (λq hq=>by grind) (DW.of (ah.ka g0)) y0 (by show 0+_<_;omega) Y sm aa aa aa aa aa λf1 h1 D y z E y1=>?_;have N:(ax3 us aq fs 0 iF).n<536870912:=by
  have key:∀(ts:List Tree)(j:Nat)(s:Q5),(ax3 us aq ts j s).n<=s.n+ax9 ts:=by
   intro ts
   induction ts with
   |nil=>exact λ_ _=>at2 _
   |cons q ts ih=>
    intro j s;have:=ih (j+1) (ayz us aq j q.bv s);have:=azw (us:=us) (aq:=aq) (j:=j) q.bv s;have e:ax9 (q::ts)=ayb q.bv+ax9 ts:=by rfl
    have e2:ax3 us aq (q::ts) j s=ax3 us aq ts (j+1) (ayz us aq j q.bv s):=rfl
    grind
  have:=key fs 0 iF;have:iF.n=0:=rfl;omega
 generalize ax3 us aq fs 0 iF=S at*;refine aB z ?_;refine aDl r R h5 y1 N λw ex U I lU F y2 P=>?_;obtain⟨fv,o,v⟩:=y2.A;have lt2:=Hp.lt o rfl;have n:=y1.k1 (F.aw (λ_ q=>.inr q) λi _ q=>.inl q) (y0.k1 E ((A.f _ (Hp.lt J rfl) id).trans J) zm) zm;have l3:=Hp.lt n rfl;have u:DW ax1 (λi=>h.a<=i) h w:=(y1.PQ (hB:=h) (y0.PQ (hB:=h) (DW.of (ah.ka g0)) E) (F.aw (λ_ q=>.inr q) λi _ q=>.inl q));have len:=v.px (H:=w);rw[avd] at len
 by_cases c:S.b++ex=[]
 obtain⟨c1,c2⟩:=aEl.1 c;subst c2;have len:tL 1 w fv=.v (.i 0):=by grind
 refine cC y z o len n ?_;refine V _ _ _ _ _ _ D U c1 I P ⟨?_,λi hi a b=>?_⟩ zo ((show iw _ _ _ _ _ _ _ w S D by simpa using y2).g1 n zm)
 grind [Hp.jp]
 rw[Hp.du zo];exact u.d i hi a b;have l0:=auA.2 c;have C:(0:Int)<(S.b.length:Int)+ex.length:=by grind
 refine cC y z o len C ?_;refine aDn r v c (by have:=P.l;have:=y1.k.1;grind) λh3 f Z G=>?_;have M:=(G.f _ l3 id).trans n;have l3':=Hp.lt M rfl;refine aU cN.ca.eq_1 y M ?_;refine Q _ f ex U Z I P ⟨?_,λi hi a b=>?_⟩
 grind [Hp.jp]
 rw[Hp.du zo,G.f i zo id];exact u.d i hi a b
end
def aye(s:Q5)(x:Ty):Prop:=(s.c x).isSome=true\/(0<=x.a/\x.a<5)/\x.c=[]/\x.b=[]
mutual
def ayQ(s:Q5):TT->Prop
 |.mk x a=>aye s x/\ay7 s a
def ay7(s:Q5):List TT->Prop
 |[]=>True
 |t::ts=>ayQ s t/\ay7 s ts
end
mutual
def oL(h:Hp)(P:Nat->Prop):TT->List AV->Prop
 |.mk x a,row=>∃fv L,row=[.i x.a,.i 0,.d false,S [],.u .f64 0,fv]/\VL 100 6 h fv L/\(∀b,aL fv=some b->P b)/\axZ h P a L
def axZ(h:Hp)(P:Nat->Prop):List TT->List (List AV)->Prop
 |[],L=>L=[]
 |t::ts,L=>∃r rs,L=r::rs/\oL h P t r/\axZ h P ts rs
end
section
variable {h:Hp}{k:aK->Prop}{lo t f:Nat}
mutual
theorem oL.aw(e:∀i,i<h.a->P i->h'.ac i=h.ac i/\Q i):∀(D:TT)(row:List AV),oL h P D row->oL h' Q D row
 |.mk x m,row,l=>by obtain⟨fv,L,g,a,c,j⟩:=l;refine⟨fv,L,g,?_,λb d=>(e b (a.is d).2 (c b d)).2,axZ.aw e m L j⟩;rcases a with q|⟨n,b,ev,y⟩;exact .inl q;have lb:=y.lt;obtain⟨r,t,q,w⟩:=y;exact .inr ⟨n,b,ev,r,t,(e b lb (c b (by rw[ev];rfl))).1.trans q,w⟩
theorem axZ.aw(e:∀i,i<h.a->P i->h'.ac i=h.ac i/\Q i):∀(b:List TT)(L:List (List AV)),axZ h P b L->axZ h' Q b L
 |[],L,a=>by grind [axZ]
 |t::ts,L,a=>by unfold axZ at a⊢;obtain⟨r,rs,c,d,g⟩:=a;exact⟨r,rs,c,oL.aw e t r d,axZ.aw e ts rs g⟩
end
def axZ.va:∀{c:List TT}{L:List (List AV)}{D:TT}{r:List AV},axZ h P c L->oL h P D r->axZ h P (c++[D]) (L++[r])
 |[],L,D,r,b,a=>by subst b;exact⟨r,[],rfl,a,by rfl⟩
 |t::ts,L,D,r,b,a=>by obtain⟨g,rs,rfl,d,e⟩:=b;exact⟨g,rs++[r],rfl,d,e.va a⟩
theorem axZ.px:∀{b:List TT}{L:List (List AV)},axZ h P b L->L.length=b.length
 |[],L,a=>by grind [axZ]
 |t::ts,L,a=>by obtain⟨d,rs,rfl,_,c⟩:=a;simp[c.px]
def aAL(a:aA T)(y:iw lo p t fb f wb sb h s B)(b:k (.a (.d true) h)):aE T (W T) ⟨42⟩ [.a t 0] h k:=by rw[ic a.t42];obtain⟨fv,c,_⟩:=y.A;simp_all
theorem aAM(l:aA T)(y:iw lo p t fb f wb sb h s B)(u:aye s x)(n:∀h',ax h h'->k (.a (.d true) h')):aE T (W T) ⟨40⟩ [.a t 0,.j x.ca] h k:=by
 rw[ic l.t40];simp only[Ty.ca];refine ag ?_;refine aAL l (y.g0 ?_) ?_;exact aZ;obtain⟨fv,j,_⟩:=y.A;have lt:=Hp.lt j rfl;obtain⟨L,m,q,_⟩:=y.D;have o:ax h (h.am (.a 40 [.i x.a,S x.c,S x.b])):=aZ;have r:ax h ((h.am (.a 40 [.i x.a,S x.c,S x.b])).am (.a 38 [.i 0,S [],.i 0,.i 0,S []])):=aZ;have e:∀H:Hp,H.ac f=h.ac f->aEx (.b [.b .i64,.a,.a]) H (.j [.i 0,S [],.i 0,.i 0,S []]) (.h f) (.j [.i x.a,S x.c,S x.b]) true=y7 true ((gF L x).getD (.j [.i 0,S [],.i 0,.i 0,S []])) (gF L x).isSome:=λH q=>(m.aw q).rg (s:=x) (z:=.j [.i 0,S [],.i 0,.i 0,S []]) (ok:=true);rw[q] at e;have g:=e _ (o.f _ m.lt id);have i:=e _ (r.f _ m.lt id);cases hd:s.c x with
 |some d=>
  rw[hd] at g i;simp[au3,avo,aEn,aC.ca] at g i;refine aU j g i ?_;exact n _ fZ
 |none=>
  rw[hd] at g i;obtain⟨⟨a,b⟩,c,d⟩:=u.resolve_left qaa;have eq:cJ (.b [.b .i64,.a,.a]) (.j [.i x.a,S [],S []]) (.j [.i x.a,S [],S []])=some true:=by have:=aAz (a:=⟨x.a,[],[]⟩) (b:=⟨x.a,[],[]⟩);simpa[Ty.ca] using this
  rw[c,d] at g i⊢;refine cq j g i a b eq ?_;exact n _ fZ
def ay8(a:aA T)(y:iw lo p t fb f wb sb h s B)(g:s.n<4294967296){D:TT}(j:aye s D.ty)(u:iA s.a D)(e:∀h',ax h h'->k (.a (.i (iD D)) h')):aE T (W T) ⟨14⟩ [.a t 0,.j D.ty.ca] h k:=by rw[ic a.t14];simp only[Ty.ca];refine ag ?_;refine aAM a (y.g0 ?_) j λc g1=>?_;exact aZ;have g0:=(show ax h _ from aZ).ab g1;have d:=(g1.f _ zm id).trans (Hp.ba rfl);have n:=Hp.lt d rfl;refine aB d ?_;have g2:ax h (c.am (.d [] 0)):=g0.am _;exact aBZ a g (kb:=c.a) (λm=>by have:=(y.g0 g0).lt m;omega) D _ _ u (y.g0 g2) ⟨[],ax0.ph (Hp.ba rfl),λ_ _ q=>by cases q⟩ λl b _=>(ag (e _ ⟨by have:=g2.g;have:=b.g;omega,λi hi _=>(b.f i (by have:=g2.g;omega) zo).trans (g2.f i hi id)⟩))
end
@[simp] def aEa{a b}:qM (.u a b)=true:=rfl
section
variable {h:Hp}{k:aK->Prop}{lo t l:Nat}
def aB4(T:aM->Option CF)(lo p t fb l wb sb:Nat)(s:Q5)(B:Ty->Option Nat)(D:TT):Prop:=
 ∀(h:Hp)(k:aK->Prop),iA s.a D->ayQ s D->iw lo p t fb l wb sb h s B->(∀h' row,ax h h'->oL h' (λi=>h.a<=i) D row->k (.a (.j row) h'))->aE T (W T) ⟨37⟩ [.a t 0,.j D.ty.ca] h k
theorem oL.ca:∀{D:TT}{row:List AV},oL h P D row->∃fv,row=[.i D.ty.a,.i 0,.d false,S [],.u .f64 0,fv]
 |.mk x b,row,a=>by obtain⟨fv,L,e,_⟩:=a;exact⟨fv,e⟩
theorem aDq(HT:aA T){ms:List Mem}{v:AV}{kd:Int}(Up:ms.length<4294967296)(y0:iw lo p t fb l wb sb h0 s B)(hv:VL 48 8 h0 v (ms.map Mem.ca))(hvb:h0.a<=vb):∀(o:List TT)(i:Nat)(A:List TT)(fv:AV)(L:List (List AV))(h:Hp)(u:Fr)(K:aT->Prop),(∀q∈o,aB4 T lo p t fb l wb sb s B q)->aya s.a o->ay7 s o->o.map TT.ty=(ms.drop i).map (·.t)->i+o.length=ms.length->ax h0 h->
 h.ac vb=.a 100 [.i kd,.i 0,.d false,S [],.u .f64 0,fv]->VL 100 6 h fv L->axZ h (λi=>(h0.a<=i/\i≠vb)/\aL fv≠some i) A L->(∀b,aL fv=some b->h0.a<=b)->L.length=i->
 cg 0 u=.a t 0->cg 4 u=.a vb 0->cg 20 u=v->cg 21 u=.i ms.length->cg 22 u=.i i->(∀O h' F J,cg 4 O=.a vb 0->ax h0 h'->h'.ac vb=.a 100 [.i kd,.i 0,.d false,S [],.u .f64 0,F]->VL 100 6 h' F J->axZ h' (λi=>h0.a<=i) (A++o) J->(∀b,aL F=some b->h0.a<=b)->K (.a 0 O h' []))->W T (.d l37_0) u h [] K:=by
 intro o
 induction o with
 |nil=>
  intro i A fv L h u K _ _ _ _ hi g z R hz hb hL f0 f4 f20 f21 f22 hk;subst hi;rw[aP];refine aS f21 f22 ?_;exact hk _ _ fv L zA g z R (by rw[av5];exact axZ.aw (λi _ q=>⟨rfl,q.1.1⟩) _ _ hz) hb
 |cons D o ih=>
  intro i A fv L h u K hS dy C e hi g z R hz hb hL f0 f4 f20 f21 f22 hk;simp only[atX] at hi;have Y:i<ms.length:=zo;have aY:(i:Int)<ms.length:=zo;rw[aut Y,aul,aul,awm] at e;obtain⟨em,e⟩:=e;have hvh:VL 48 8 h v (ms.map Mem.ca):=hv.aw λi r t li _=>g.f i li id;obtain⟨b,r,ff,ev,qW,hr,M⟩:=hvh.at (j:=i) qaa;simp only[avd,aEc] at ev hr M;generalize ms[i]=m at em M;have lb:=Hp.lt qW rfl;have lu:=Hp.lt z rfl;have n0:=g.g;simp only[Mem.ca] at M;rw[aP];subst ev;refine nA f0 f4 f20 f21 f22 Y aY qW M z ?_;have er:(AV.j [.i m.t.a,S m.t.c,S m.t.b])=.j D.ty.ca:=by rw[em];rfl
  rw[er];generalize hH:(Hp.bj (Hp.am _ _) _ _:Hp)=H;have Z:ax h H:=by rw[<-hH];exact fZ
  clear hH;refine hS D zm H _ dy.1 C.1 (y0.g0 (g.ab Z)) λh1 row g1 z1=>?_;have w:=Z.ab g1;have n1:=w.g;have nH:=Z.g;have nH1:=g1.g;obtain⟨V,rfl⟩:=z1.ca;have wD:=(w.f _ lu id).trans z;have lu1:=Hp.lt wD rfl;refine aS f4 wD ?_;generalize N:(Hp.am _ _:Hp)=y;have g2:ax h1 y:=by rw[<-N];exact aZ
  obtain⟨t1,ub,et⟩:∃t1,y.ac h1.a=.b 100 6 1 0 t1/\t1 0=[.i D.ty.a,.i 0,.d false,S [],.u .f64 0,V]:=⟨_,by rw[<-N];exact Hp.ba rfl,by simp⟩;have n2:y.a=h1.a+1:=by rw[<-N];rfl
  clear N;have n:=w.ab g2;have Gt:VL 100 6 y fv L:=R.aw λi r t li _=>n.f i li id;have X:=(n.f _ lu id).trans z;obtain⟨H3,ea,rw3,n3,kp⟩:=Gt.va (AM:=72) (cap:=1) (ex:=true) zm zo zm ub zl et;have E:=(kp _ (Hp.lt X rfl) (Gt.nb X)).trans X;have lu3:=Hp.lt E rfl;rw[ea];refine cq iN.eq_1 f4 X E f22 Y ?_;generalize oU:(Hp.bj _ _ _:Hp)=I;have U:∀{i},i≠vb->I.ac i=H3.ac i:=λa=>by rw[<-oU,Hp.du a]
  have hu4:I.ac vb=.a 100 [.i kd,.i 0,.d false,S [],.u .f64 0,iN 6 y.a (L++[[.i D.ty.a,.i 0,.d false,S [],.u .f64 0,V]])]:=by rw[<-oU];exact au iN.eq_1
  have n4:I.a=H3.a:=by grind [Hp.jp]
  clear oU;have vb1:∀{i},aL fv=some i->kI 100 6 (h.ac i)/\i<h.a:=λq=>R.is q;refine ih (i+1) (A++[D]) (iN 6 y.a (L++[[.i D.ty.a,.i 0,.d false,S [],.u .f64 0,V]])) (L++[[.i D.ty.a,.i 0,.d false,S [],.u .f64 0,V]]) I _ K (λq hq=>hS q qaa) dy.2 C.2 e zo ⟨by omega,λi hi _=>?_⟩ hu4 (Rw.vl (rw3.aw (U zo)) zm) (axZ.va (axZ.aw (λi li q=>?_) _ _ hz) (oL.aw (λi li q=>?_) _ _ z1)) (λb q=>by cases q;omega) qaa zA zA zA zA aa λO h' F J a c d e' f g'=>hk O h' F J a c d e' qaa g';rw[U zo,kp i zo (λq=>by grind),n.f i zo id,g.f i hi id];exact⟨by rw[U q.1.2,kp i zo q.2,n.f i li id],q.1,λG=>by cases G;omega⟩;refine⟨by rw[U zo,kp i zo (λG=>by have:=(vb1 G).2;omega),g2.f i li id],⟨by omega,by omega⟩,λG=>by cases G;omega⟩
theorem aDr(g:aA T)(hn:s.n<4294967296)(hp:∀x,(s.c x).isSome=true->x.a=5):∀D:TT,aB4 T lo p t fb l wb sb s B D:=by
 intro D
 induction D using TT.ind with
 |_ x o ih=>
 intro h k Y R y V;rw[ic g.t37];have Z:(TT.mk x o).ty=x:=rfl;rw[Z];obtain⟨h0,h5,N,L⟩:=Y;obtain⟨n,pQ⟩:=R;simp only[Ty.ca];refine ag ?_;have er:(AV.j [.i x.a,S x.c,S x.b])=.j x.ca:=rfl;rw[er];generalize e:((h.am _).am _:Hp)=H;have u:ax h H:=by rw[<-e];exact aZ
 have u3:H.ac h.a=.a 40 [.i x.a,S x.c,S x.b]:=by rw[<-e];simp
 have u4:H.ac (h.a+1)=.a 100 [.i 0,.i 0,.d false,S [],.u .f64 0,.o]:=by rw[<-e];simp
 have nH:H.a=h.a+1+1:=by rw[<-e];rfl
 clear e;refine aAM g (y.g0 u) n λw g1=>?_;have r:=(g1.f _ zo id).trans u3;have F:=(g1.f _ zo id).trans u4;have n1:=g1.g;have l3:=Hp.lt r rfl;have l4:=Hp.lt F rfl;have a:=u.ab g1;have y1:=y.g0 a;obtain⟨fv,f,_⟩:=y.A;have J:=(a.f _ (Hp.lt f rfl) id).trans f;have lt1:=Hp.lt J rfl;have bz:o.length=(s.a x).length:=by have:=aui List.length N;grind
 have Ch:=(y.k.2 x).1;generalize j:(w.bj (h.a+1) (.a 100 [.i x.a,.i 0,.d false,S [],.u .f64 0,.o]):Hp)=d;have g2:ah (·=h.a+1) w d:=by rw[<-j];exact(ah.da _).bj _ (.inr rfl)
 have w4:d.ac (h.a+1)=.a 100 [.i x.a,.i 0,.d false,S [],.u .f64 0,.o]:=by rw[<-j];simp
 have G:=(g2.f _ l3 zo).trans r;have b:ax h d:=⟨by have:=g2.g;omega,λi hi _=>(g2.f i zo zo).trans (a.f i hi id)⟩;obtain⟨v,ev,A⟩:=y.lkG (X:=x) (ok:=false);have ev:=ev d (b.f _ (y.lt (.inr (.inl rfl))) id);have len:=A.px (H:=d);rw[avd] at len;simp only[Ty.ca] at ev;have I:=(b.f _ (Hp.lt f rfl) id).trans f;have lw:=Hp.lt I rfl;have lw3:=Hp.lt G rfl;refine aS r F ?_;rw[j];refine bK I G ev len ?_;refine aDq g (ms:=s.a x) (kd:=x.a) (h0:=h) (vb:=h.a+1) zo y A zo o 0 [] .o [] d _ _ ih L pQ qaa zo b w4 (.inl ⟨rfl,rfl⟩) qac (λ_ q=>by cases q) rfl aa aa aa aa aa λf' z C K M O E W hz U=>?_;have l5:=Hp.lt E rfl;refine aS M E ?_;have m:∀i,(z.bj (h.a+1) (.a 100 [.i x.a,.i 0,.d false,S [],.u .f64 0,C])).ac i=z.ac i:=λi=>by
  by_cases c:i=h.a+1
  simp_all;simp_all
 refine V _ _ ⟨by grind [Hp.jp],λi hi _=>(m i).trans (O.f i hi id)⟩ ?_;unfold oL;exact⟨C,K,rfl,W.aw λi _ _ _ _=>m i,U,axZ.aw (λi _ q=>⟨m i,q⟩) _ _ qaa⟩
end
@[simp] def aEb:cJ (.g .f64) (.u .f64 0) (.u .f64 0)=some true:=by rfl
section
variable {h:Hp}{k:aK->Prop}{lo t a:Nat}
def aB5(T:aM->Option CF)(lo p t fb a wb sb:Nat)(s:Q5)(B:Ty->Option Nat)(P:Nat->Prop)(D:TT):Prop:=
 ∀(h:Hp)(k:aK->Prop)(kq:Int)(fv:AV)(L:List (List AV)),iA s.a D->ayQ s D->iw lo p t fb a wb sb h s B->VL 100 6 h fv L->axZ h P D.bv L->(∀h',ax h h'->k (.a (.d (decide (kq=D.ty.a))) h'))->aE T (W T) ⟨38⟩ [.a t 0,.j D.ty.ca,.j [.i kq,.i 0,.d false,S [],.u .f64 0,fv]] h k
theorem axZ.nth:∀{c:List TT}{L:List (List AV)}{i:Nat}(hi:i<c.length),axZ h P c L->∃r,L[i]? =some r/\oL h P c[i] r
 |t::ts,L,0,_,b=>by
  unfold axZ at b
  grind
 |t::ts,L,i+1,hi,b=>by obtain⟨e,rs,rfl,_,d⟩:=b;simp_all[axZ.nth]
def axZ.g0(g:ax h h'){b:List TT}{L:List (List AV)}(z:axZ h P b L):axZ h' P b L:=axZ.aw (λi li q=>⟨g.f i li id,q⟩) _ _ z
def VL.g0{el w:Nat}{v:AV}{L:List (List AV)}(x:VL el w h v L)(g:ax h h'):VL el w h' v L:=x.aw λi _ _ li _=>g.f i li id
theorem aDs(HT:aA T){ms:List Mem}{v fv:AV}{L:List (List AV)}{kq:Int}{all:List TT}(Up:ms.length<4294967296)(pQ:all.length=ms.length):∀(d:List TT)(i:Nat)(h:Hp)(f:Fr)(K:aT->Prop),(∀q∈d,aB5 T lo p t fb a wb sb s B P q)->aya s.a d->ay7 s d->d=all.drop i->d.map TT.ty=(ms.drop i).map (·.t)->i+d.length=ms.length->iw lo p t fb a wb sb h s B->VL 48 8 h v (ms.map Mem.ca)->VL 100 6 h fv L->axZ h P all L->
 h.ac vb=.a 100 [.i kq,.i 0,.d false,S [],.u .f64 0,fv]->cg 0 f=.a t 0->cg 5 f=.a vb 0->cg 81 f=v->cg 82 f=.i ms.length->cg 83 f=.i i->(∀H h',ax h h'->K (.a 0 H h' []))->W T (.d l38_0) f h [] K:=by
 intro d
 induction d with
 |nil=>
  intro i h f K _ _ _ _ _ hi y M J A g f0 f5 f81 f82 f83 I;subst hi;rw[aP];exact aS f82 f83 (I _ _ (ah.da _))
 |cons D d ih=>
  intro i h f K R O o F e hi y M J A g f0 f5 f81 f82 f83 I;simp only[atX] at hi;have E:i<ms.length:=zo;have X:(i:Int)<ms.length:=zo;rw[aut E,aul,aul,awm] at e;obtain⟨em,e⟩:=e;have w:i<all.length:=zo;rw[aut w,awm] at F;obtain⟨r,er,V⟩:=A.nth w;rw[<-F.1] at V;obtain⟨b,rr,ff,ev,U,hr,z⟩:=M.at (j:=i) qaa;simp only[avd,aEc] at ev hr z;generalize ms[i]=m at em z;have P0:=A.px;have u:i<L.length:=zo;obtain⟨b2,r2,Z,n,Q,hr2,l⟩:=J.at (j:=i) u;have G:L[i]=r:=by grind
  rw[G] at l;have lb:=Hp.lt U rfl;have lb2:=Hp.lt Q rfl;have lu:=Hp.lt g rfl;simp only[Mem.ca] at z;cases D with
  |mk x kx=>
  obtain⟨lf,L1,rfl,l1,_,z1⟩:=V;rw[aP];subst ev;have C:(i:Int)<L.length:=zo;have N:=M;rw[n] at g;refine kC f0 f5 f81 f82 f83 E X U z g Q l (atQ u C) ?_;have er:(AV.j [.i m.t.a,S m.t.c,S m.t.b])=.j (TT.mk x kx).ty.ca:=by rw[em];rfl
  rw[er];refine R (.mk x kx) zm _ _ x.a lf L1 O.1 o.1 (y.g0 ?_) (l1.g0 ?_) (axZ.g0 ?_ z1) λh1 g1=>?_;exact fZ;exact fZ;exact fZ;have c:=(show ax h _ from fZ).ab g1;have Y:x.a=(TT.mk x kx).ty.a:=rfl;simp(disch:=omega) [<-Y,f83,E];rw[<-n] at g;exact ih (i+1) h1 _ K (λq hq=>R q qaa) O.2 o.2 F.2 e zo (y.g0 c) (N.g0 c) (J.g0 c) (A.g0 c) ((c.f _ lu id).trans g) zA zA zA zA aa λH h' g'=>I H h' (c.ab g')
theorem aB6(l:aA T)(hn:s.n<4294967296):∀D:TT,aB5 T lo p t fb a wb sb s B P D:=by
 intro D
 induction D using TT.ind with
 |_ x f N=>
 intro h k kq fv L K J y u g d;rw[ic l.t38];have G:bB q38 1 [0,101,202,3,4,5,18706,7,18708,9,10,11,12,18713,18714,15,16,17,18,18719,18720,21,22,23,18724,18725,18726,18727,28,29]=⟨0,⟨some 9,.mv (.t 0),none⟩,.d,0⟩::⟨1,⟨some 10,.FE 3 (.t 4),none⟩,.f,0⟩::⟨2,⟨some 11,.j ⟨40⟩ [.t 9,.t 10],none⟩,.g,0⟩::(bB q38 1 [0,101,202,3,4,5,18706,7,18708,9,10,11,12,18713,18714,15,16,17,18,18719,18720,21,22,23,18724,18725,18726,18727,28,29]).drop 3:=rfl;rw[G];generalize I:(bB q38 1 [0,101,202,3,4,5,18706,7,18708,9,10,11,12,18713,18714,15,16,17,18,18719,18720,21,22,23,18724,18725,18726,18727,28,29]).drop 3=R;have M:(TT.mk x f).ty=x:=rfl;rw[M] at d⊢;have g:axZ h P f L:=g;obtain⟨h0,h5,E,A⟩:=K;obtain⟨q,Q⟩:=J;simp only[Ty.ca];refine ag ?_;have er:(AV.j [.i x.a,S x.c,S x.b])=.j x.ca:=rfl;rw[er];generalize e:((h.am _).am _:Hp)=H;have r:ax h H:=by rw[<-e];exact aZ
 have U:H.ac h.a=.a 40 [.i x.a,S x.c,S x.b]:=by rw[<-e];simp
 have V:H.ac (h.a+1)=.a 100 [.i kq,.i 0,.d false,S [],.u .f64 0,fv]:=by rw[<-e];simp
 have nH:H.a=h.a+1+1:=by rw[<-e];rfl
 clear e;refine aAM l (y.g0 r) q λn g1=>?_;have i:=(g1.f _ zo id).trans U;have j:=(g1.f _ zo id).trans V;have n1:=g1.g;have l4:=Hp.lt i rfl;have l5:=Hp.lt j rfl;have b:=r.ab g1;subst I
 by_cases c:kq=x.a
 have y1:=y.g0 b;obtain⟨F,w,_⟩:=y1.A;have O:=Hp.lt w rfl;obtain⟨v,ev,z⟩:=y1.lkF (X:=x) (ok:=false);have len:=z.px (H:=n);rw[avd] at len;have m:=u.px (H:=n);have C:f.length=(s.a x).length:=by have:=aui List.length E;grind
 have W:=(y.k.2 x).1;have Y:=g.px;have o:(L.length:Int)=(s.a x).length:=zo;simp only[Ty.ca] at ev;rw[<-c] at i d ev;simp only[auS] at d;refine iR i j w ev len m o ?_;refine aDs l (ms:=s.a x) (v:=v) (fv:=fv) (L:=L) (kq:=kq) (all:=f) (vb:=h.a+1) (P:=P) zo C f 0 n _ _ N A Q zm qaa zo y1 z (u.g0 b) (g.g0 b) j aa aa aa aa aa λZ h2 g2=>?_;refine ag ?_;exact d _ (b.ab g2);rw[auK c] at d;refine aU i j c ?_;exact d _ b
theorem azx:∀(b:List TT)(n:Int),(∀q∈b,1<=oT q)->n+b.length<=R9 b n
 |[],_,_=>by simp[R9]
 |D::b,n,h=>by
  unfold R9;have:=h D zm;have:=azx b (n+oT D) λq c=>h q qaa
  grind
theorem aAO(D:TT):1<=oT D:=by
 induction D using TT.ind with
 |_ x d b=>
 unfold oT;split;simp;rename_i c;have:=azx d 0 b
 grind [List.length_pos_iff]
def aB7(T:aM->Option CF)(P:Nat->Prop)(D:TT):Prop:=
 ∀(h:Hp)(k:aK->Prop)(row:List AV),oL h P D row->oT D<=256->(∀h',ax h h'->k (.a (.i (oT D)) h'))->aE T (W T) ⟨39⟩ [.j row] h k
theorem aDu(HT:aA T):∀D:TT,aB7 T P D:=by
 intro D
 induction D using TT.ind with
 |_ x f ih=>
 intro h k row A m b;rw[ic HT.t39];unfold oL at A;obtain⟨fv,L,rfl,hl,_,A⟩:=A;have P0:=A.px;have len:∀H,tL 1 H fv=.v (.i L.length):=λH=>hl.px;unfold oT at m b
 by_cases c:x.a≠5\/f=[]
 rw[atV c] at b
 by_cases v:x.a=5
 have e:=c.resolve_left (λq=>q v);subst e;have V:=P0;have C:=len (h.am (.a 100 [.i 5,.i 0,.d false,S [],.u .f64 0,fv]));rw[V] at C;refine aS v C ?_;exact b _ aZ;refine aB v ?_;exact b _ aZ;rw[atS c] at b m;have v:x.a=5:=avt λq=>c (.inl q);have cn:f≠[]:=λq=>c (.inr q);have V:¬L.length=0:=by grind
 have l256:=azx f 0 λq _=>aAO q;have key:∀(ts:List TT)(i:Nat)(n:Int)(H:Hp)(l:Fr)(K:aT->Prop),(∀q∈ts,aB7 T P q)->ts=f.drop i->i+ts.length=f.length->0<=n->R9 ts n<=256->ax h H->H.ac h.a=.a 100 [.i 5,.i 0,.d false,S [],.u .f64 0,fv]->cg 1 l=.a h.a 0->cg 3 l=.i n->cg 4 l=.i i->(∀w o,ax h o->cg 3 w=.i (R9 ts n)->K (.a 0 w o []))->W T (.d l39_0) l H [] K:=by
  intro ts
  induction ts with
  |nil=>
   intro i n H l K _ _ hi _ _ g u N f3 f4 b;simp at hi;have e:¬(i:Int)<L.length:=zo;have E:=len H;rw[aP];refine cC N f4 u E e ?_;exact b _ _ g (by simp(disch:=omega) [f3,R9])
  |cons D ts Vy=>
   intro i n H l K hS I hi n0 m g u N f3 f4 b;simp only[atX] at hi;have z:i<f.length:=zo;rw[aut z,awm] at I;have U:=A.g0 g;have R:=hl.g0 g;obtain⟨r,er,X⟩:=U.nth z;rw[<-I.1] at X;have y:i<L.length:=zo;have F:(i:Int)<L.length:=zo;obtain⟨b2,r2,ff2,M,Z,hr2,d⟩:=R.at (j:=i) y;have J:L[i]=r:=by grind
   rw[J] at d;obtain⟨lf,Y⟩:=X.ca;rw[Y] at d;have E:=len H;have lu:=Hp.lt u rfl;have lb2:=Hp.lt Z rfl;have u':=u;rw[M] at u' E;unfold R9 at m;have d0:=aAO D;have up:=azx ts (n+oT D) λq _=>aAO q;rw[aP];refine mz N f3 f4 u' E y F Z d ?_;rw[<-Y];refine hS D zm H _ r X zo λH1 g1=>?_;have Q:=g.ab g1;refine aS f3 f4 ?_;refine Vy (i+1) (n+oT D) H1 _ K (λq hq=>hS q qaa) I.2 zo zo m Q ((g1.f _ lu id).trans u) zA aa aa λw o O G=>b w o O (by rw[G];rfl)
 have C:=len (h.am (.a 100 [.i 5,.i 0,.d false,S [],.u .f64 0,fv]));refine aU v C V ?_;refine key f 0 0 _ _ _ ih zm zo (atY _) m ?_ ?_ ?_ ?_ ?_ λw o O G=>?_;exact aZ;exact aa;exact aa;exact aa;exact aa;refine aB G ?_;exact b _ O
end
section
variable {h:Hp}{k:aK->Prop}{lo t:Nat}{ms:List Mem}
theorem aDv{a:Int}(h:0<=a/\a<=5)(h0:a≠0):a.tmod 5+1≠a/\0<=a.tmod 5/\a.tmod 5<5:=by grind
theorem aDw(f:aA T)(y:iw lo p t fb d wb sb h s B)(m:s.n<4294967296)(hp:∀x,(s.c x).isSome=true->x.a=5) {D:TT} (u:iA s.a D) (E:ayQ s D) (hz:iD D<=256) (hd:D.ty.a≠0->kdT D) (Z:∀h',ax h h'->k (.a (.d true) h')):aE T (W T) ⟨11⟩ [.a t 0,.j D.ty.ca] h k:=by
 rw[ic f.t11];have l:aye s D.ty:=by cases D;exact E.1
 have M:0<=D.ty.a/\D.ty.a<=5:=by cases D;exact u.1
 have N:D.ty.a=0->iD D=0:=by
  cases D with
  |mk x ks=>
   intro e;have e:x.a=0:=e;unfold iD;rw[atS zo,e];rfl
 simp only[Ty.ca];refine ag ?_;have er:(AV.j [.i D.ty.a,S D.ty.c,S D.ty.b])=.j D.ty.ca:=rfl;rw[er];have V:ax h (h.am (.a 40 [.i D.ty.a,S D.ty.c,S D.ty.b])):=aZ;refine aDr f m hp D _ _ u E (y.g0 V) λC row g1 R=>?_;have J:=V.ab g1;have n1:=g1.g;have O:=(g1.f _ zm id).trans (Hp.ba rfl);have l3:=Hp.lt O rfl;obtain⟨fv,rfl⟩:=R.ca;obtain⟨L,hl,U⟩:∃L,VL 100 6 C fv L/\axZ C (λi=>(h.am (.a 40 [.i D.ty.a,S D.ty.c,S D.ty.b])).a<=i) D.bv L:=by
  cases D with
  |mk x ks=>
   obtain⟨iZ,L,e,a,_,b⟩:=R;have:fv=iZ:=by grind
   subst this;exact⟨L,a,b⟩
 refine aB O ?_;generalize Y:(Hp.bj _ _ _:Hp)=H;have j:ax C H:=by rw[<-Y];exact fZ
 have u5:H.ac C.a=.a 100 [.i D.ty.a,.i 0,.d false,S [],.u .f64 0,fv]:=by rw[<-Y];simp
 have r:=J.ab j;refine aB6 f m D H _ D.ty.a fv L u E (y.g0 r) (hl.g0 j) (U.g0 j) λh2 g2=>?_;have o:=r.ab g2;have P:=(g2.f _ qat id).trans ((j.f _ l3 id).trans O);have v5:=(g2.f _ (Hp.lt u5 rfl) id).trans u5;have k3:=Hp.lt P rfl;have k5:=Hp.lt v5 rfl;refine aB P ?_;refine ay8 f (y.g0 o) m l u λh3 z=>?_;have c:=o.ab z;have F:=(z.f _ k3 id).trans P;have G:=(z.f _ k5 id).trans v5;have m3:=Hp.lt F rfl;have m5:=Hp.lt G rfl;have c1:¬(256:Int)<iD D:=zo
 by_cases c0:D.ty.a=0
 refine aU c1 F c0 ?_;have I:(AV.j [.i 0,S D.ty.c,S D.ty.b])=.j D.ty.ca:=by grind
 rw[I];refine ay8 f (y.g0 c) m l u λX g=>?_;rw[N c0];have n:=(g.f _ m5 id).trans G;rw[c0] at n;exact aB n (Z _ (c.ab g));have el:=aBC u (hd c0) hz;refine bK c1 F c0 G ?_;refine ay8 f (y.g0 c) m l u λX g=>?_;have K:=c.ab g;have z4:=oL.aw (Q:=λ_=>True) (λi li _=>⟨((j.ab g2).ab (z.ab g)).f i li id,auW⟩) _ _ R;have n:=(g.f _ m5 id).trans G;have x3:=(g.f _ m3 id).trans F;have q3:=Hp.lt x3 rfl;have q5:=Hp.lt n rfl;refine aB n ?_;refine aDu f D X _ _ z4 zo λh5 A=>?_;have q:=K.ab A;have y5:=(A.f _ q5 id).trans n;have y3:=(A.f _ q3 id).trans x3;have r5:=Hp.lt y5 rfl;obtain⟨t1,t2,t3⟩:=aDv M c0;refine aU el y5 y3 ?_;have w:=((j.ab g2).ab (z.ab g)).ab A;refine aB6 f m D _ _ (D.ty.a.tmod 5+1) fv L u E (y.g0 (q.ab ?_)) (hl.g0 ?_) (U.g0 ?_) λh6 g6=>?_;exact fZ;exact w.ab (show ax h5 _ from fZ);exact w.ab (show ax h5 _ from fZ);rw[auK t1];exact ag (Z _ (q.ab ((show ax h5 _ from fZ).ab g6)))
theorem aB8(y:aA T)(D:VL 48 8 h v (ms.map Mem.ca))(I:ms.length<1073741824)(g:∀h' q,ax h h'->VL 48 8 h' q (ms.map Mem.ca)->k (.a q h')):aE T (W T) ⟨43⟩ [v] h k:=by
 rw[ic y.t43];rcases D with⟨e,rfl⟩|⟨z,b,rfl,r,t,m,o,J⟩;simp(disch:=omega) [cJ];exact g _ _ (ah.da _) (.inl ⟨e,rfl⟩);have E:=Hp.lt m rfl;simp[iN,avd] at o⊢;simp(disch:=omega) [cJ];generalize f:(h.am _:Hp)=H;have a:∃t,H.ac h.a=.b 48 8 0 0 t:=⟨_,by rw[<-f];exact Hp.ba rfl⟩;have c:ax h H:=by rw[<-f];exact aZ
 obtain⟨t1,a⟩:=a;have w:=(c.f _ E id).trans m;have F:=Ke (h:=H) (el:=48) (rw:=8) (b:=b) (cap:=ms.length) (ex:=false) (n:=ms.length) zm w o;have h0:0<ms.length:=by grind
 obtain⟨n,l⟩:∃n,ms.length=n+1:=⟨ms.length- 1,by omega⟩;have C:=G2 (h:=H) (el:=48) (rw:=8) (bytes:=96) (n:=n) (i:=h.a) (len:=0) (vh:=0) (t:=t1) zm a zl F (by simp[lenOf,l]) (rV zo zo);rw[C];refine ag ?_;refine g _ _ (c.am _) (.inr ⟨z,H.a,by simp[iN,l],n+1,jy fG 0 ([]++aEt t ms.length 0),?_,by grind,λj G=>?_⟩);rw[Hp.ba rfl,jJ];rfl;have u:j<ms.length:=by grind
 have A:j<(aEt t ms.length 0).length:=by grind [oZ]
 rw[au5,wO A];have:=vw t ms.length 0 j u
 grind
def aDx(a:aA T)(y:iw lo p t fb d wb sb h s B)(l:s.n<536870912)(g:∀h' e,ax h h'->VL 48 8 h' e ((s.a x).map Mem.ca)->k (.a e h')):aE T (W T) ⟨16⟩ [.a t 0,.j x.ca] h k:=by rw[ic a.t16];simp only[Ty.ca];refine ag ?_;refine aAL a (y.g0 ?_) ?_;exact aZ;have b:ax h (h.am (.a 40 [.i x.a,S x.c,S x.b])):=aZ;have y1:=y.g0 b;obtain⟨fv,c,_⟩:=y.A;have lt:=Hp.lt c rfl;obtain⟨v,ev,i⟩:=y1.lkF (X:=x) (ok:=false);simp[Ty.ca] at ev;refine aS c ev ?_;exact aB8 a i (by have:=(y.k.2 x).1;omega) λj m g1 f=>(ag (g _ _ (b.ab g1) f))
theorem aDy(w:aA T)(y:iw lo p t fb d wb sb h s B){vm nm:List UInt8}(hl:∀g,s.d ⟨dP,vm,nm⟩=some g->g.b.length<1073741824) (hk:∀h' v g,ax h h'->VL 48 8 h' v (g.b.map Mem.ca)->(∀l,s.d ⟨dP,vm,nm⟩=some l->g=l)->(s.d ⟨dP,vm,nm⟩=none->g.b=[]/\g.a=dP)->k (.a (.p [.j (g.ca v),.d (s.d ⟨dP,vm,nm⟩).isSome]) h')):aE T (W T) ⟨10⟩ [.a t 0,S vm,S nm] h k:=by
 rw[ic w.t10];refine ag ?_;rw[ic w.t36];refine ag ?_;refine aAL w (y.g0 ?_) ?_;exact aZ;obtain⟨fv,G,_⟩:=y.A;have lt:=Hp.lt G rfl;obtain⟨L,m,q⟩:=y.I;have q:=q ⟨dP,vm,nm⟩;have u:=m.lt;have R:∀H:Hp,H.ac sb=h.ac sb->aEx kKy.d H (.j [.i 0,S [],.i 0,.i 0,S [],.i 0,S [],S [],.o,.i 0,S [],S []]) (.h sb) (kKy.c ⟨dP,vm,nm⟩) true=y7 true ((gF L ⟨dP,vm,nm⟩).getD (.j [.i 0,S [],.i 0,.i 0,S [],.i 0,S [],S [],.o,.i 0,S [],S []])) (gF L ⟨dP,vm,nm⟩).isSome:=λH q=>(m.aw q).rg;have e:∀H:Hp,H.ac sb=h.ac sb->aEx (.b [.b .i64,.a,.a,.a,.a]) H (.j [.i 0,S [],.i 0,.i 0,S [],.i 0,S [],S [],.o,.i 0,S [],S []]) (.h sb) (.j [.i 0,S [],S [],S vm,S nm]) true=y7 true ((gF L ⟨dP,vm,nm⟩).getD (.j [.i 0,S [],.i 0,.i 0,S [],.i 0,S [],S [],.o,.i 0,S [],S []])) (gF L ⟨dP,vm,nm⟩).isSome:=R;obtain⟨g,A,Y,Z,h3,C⟩:∃(g:oS) (A:AV),(∀l,s.d ⟨dP,vm,nm⟩=some l->g=l)/\(s.d ⟨dP,vm,nm⟩=none->g.b=[]/\g.a=dP)/\VL 48 8 h A (g.b.map Mem.ca)/\∀H:Hp,H.ac sb=h.ac sb->aEx (.b [.b .i64,.a,.a,.a,.a]) H (.j [.i 0,S [],.i 0,.i 0,S [],.i 0,S [],S [],.o,.i 0,S [],S []]) (.h sb) (.j [.i 0,S [],S [],S vm,S nm]) true=.v (.p [.j (g.ca A),.d (s.d ⟨dP,vm,nm⟩).isSome]):=by
  cases hd:s.d ⟨dP,vm,nm⟩ with
  |none=>
   rw[hd] at q;exact⟨⟨qG,dP,[],dP⟩,.o,λ_ q=>qaa,λ_=>⟨rfl,rfl⟩,.inl ⟨rfl,rfl⟩,λH f=>by rw[e H f,q];rfl⟩
  |some g=>
   rw[hd] at q;obtain⟨v,a,b,_⟩:=q;exact⟨g,v,λ_ q=>qaa,λq=>qaa,b,λH f=>by simp_all⟩
 have E:g.b.length<1073741824:=by grind
 generalize(s.d ⟨dP,vm,nm⟩).isSome=bb at*;simp only[oS.ca] at C;generalize f:(((h.am _).am _).am _:Hp)=H;have n:ax h H:=by rw[<-f];exact aZ
 have K:H.ac h.a=.a 43 [.i 0,S [],.i 0,.i 0,S [],.i 0,S [],S [],.o,.i 0,S [],S []]:=by rw[<-f];exact aa
 have u3:H.ac (h.a+1)=.a 96 [.i 0,S [],S [],S vm,S nm]:=by rw[<-f];simp
 have I:H.ac (h.a+1+1)=.a 43 [.i 0,S [],.i 0,.i 0,S [],.i 0,S [],S [],.o,.i 0,S [],S []]:=by rw[<-f];simp
 have nH:H.a=h.a+1+1+1:=by rw[<-f];rfl
 clear f;have U:=C H (n.f _ u id);have V:=C (H.am (.a 43 [.i 0,S [],.i 0,.i 0,S [],.i 0,S [],S [],.o,.i 0,S [],S []])) ((Hp.io zo).trans (n.f _ u id));have o:=(n.f _ lt id).trans G;have lH:=Hp.lt o rfl;have l4:=Hp.lt I rfl;refine bK o u3 U V ?_;generalize D:(Hp.bj (Hp.am _ _) _ _:Hp)=J;have j:ax H J:=by rw[<-D];exact fZ
 have N:J.ac H.a=.a 43 [.i g.d.b,S g.d.a,.i g.d.c,.i g.d.f,S g.d.g,.i g.c.a,S g.c.c,S g.c.b,A,.i g.a.a,S g.a.c,S g.a.b]:=by rw[<-D];simp
 clear D;refine aB8 w (h3.g0 (n.ab j)) E λh5 M z O=>?_;have Q:=(z.f _ (Hp.lt N rfl) id).trans N;have P:=(z.f _ qat id).trans ((j.f _ l4 id).trans I);have x0:=(z.f _ qat id).trans ((j.f _ (Hp.lt K rfl) id).trans K);have m6:=Hp.lt Q rfl;have m4:=Hp.lt P rfl;have m0:=Hp.lt x0 rfl;have nJ:=j.g;have X:=(n.ab j).ab z;have F:∀H,ax h H->(∀i r t,i<h5.a->h5.ac i=.b 48 8 r 0 t->H.ac i=h5.ac i)->k (.a (.p [.j (g.ca M),.d bb]) H):=λH g e=>hk H M _ g (O.aw e) Y Z;simp only[oS.ca] at F;refine bK Q P x0 O.fx ?_;refine F _ ?_ λi r t li q=>?_;exact fZ;have a:i≠H.a:=by grind
 have b:i≠h.a+1+1:=by grind
 have c:i≠h.a:=by grind
 exact aa
end
def ax7:List Tree->Nat->List (Nat×Tree)
 |[],_=>[]
 |t::ts,j=>t.bv.map (λq=>(j,q))++ax7 ts (j+1)
theorem azy{x:Nat×Tree}:∀(fs:List Tree)(j:Nat),x∈ax7 fs j->∃t∈fs,x.2 ∈t.bv
 |[],_,h=>by cases h
 |t::ts,j,h=>by
  rcases auj.1 h with h|h
  grind
  obtain⟨u,a,e⟩:=azy ts (j+1) h
  grind
theorem azz{a b:Type}{P:List a->b->Prop}{f:b->a->b}(Q:a->Prop)(step:∀L x s,Q x->P L s->P (L++[x]) (f s x)):∀(l L:List a)(s:b),(∀x∈l,Q x)->P L s->P (L++l) (l.foldl f s)
 |[],L,s,_,h=>by grind
 |x::l,L,s,c,h=>by
  have:=azz Q step l (L++[x]) (f s x) (λy d=>c y qaa) (step L x s (c x zm) h)
  grind
section
variable {aq:List (List UInt8)}
def aB9:∀(fs:List Tree)(j:Nat)(s:Q5),ax3 us aq fs j s=(ax7 fs j).foldl (λs x=>ayd us aq x.1 x.2 s) s
 |[],_,_=>rfl
 |t::ts,j,s=>by unfold ax3 ax7;rw[aEq,List.foldl_map,<-aB9 ts];rfl
def aB'{vm:List UInt8}{j:Nat}:∀(ts:List Tree)(s:jv),tB vm j ts s=ts.foldl (λs q=>kX vm j q s) s
 |[],_=>rfl
 |t::ts,s=>by unfold tB;rw[aB' ts];rfl
def aAP:∀(fs:List Tree)(j:Nat)(s:jv),jG aq fs j s=(ax7 fs j).foldl (λs x=>kX (aq.getD x.1 []) x.1 x.2 s) s
 |[],_,_=>rfl
 |t::ts,j,s=>by unfold jG ax7;rw[aEq,List.foldl_map,<-aAP ts,aB']
def ayo(aq:List (List UInt8))(x:Nat×Tree):Ty:=⟨5,aq.getD x.1 [],x.2.bc⟩
def ayE(aq:List (List UInt8))(x:Nat×Tree):aC:=⟨if x.2.bi=3 then 2 else 3,x.2.bc,x.1,x.2.at,aq.getD x.1 []⟩
def azA(t:Tree):Prop:=t.bi≠2/\(t.bi≠3->(t.bv.headD zT).bi=0)
def azB(aq:List (List UInt8))(L:List (Nat×Tree))(s:jv):Prop:=∀q d,d∈s.a q <-> ∃x∈L,azA x.2 /\q=aq.getD x.1 []/\d=ayE aq x
def aCa{vm key:List UInt8}{j:Nat}:∀(ts:List Tree)(s:jv),(yL vm key j ts s).a=s.a
 |[],_=>rfl
 |t::ts,s=>by unfold yL;rw[aCa ts]
theorem aCb{bu:List UInt8->List aC}{vm q:List UInt8}{e d:aC}:d∈vQ bu vm (bu vm++[e]) q <-> d∈bu q\/q=vm/\d=e:=by grind [vQ]
theorem aDz(L:List (Nat×Tree))(x:Nat×Tree)(s:jv)(h:azB aq L s):azB aq (L++[x]) (kX (aq.getD x.1 []) x.1 x.2 s):=by
 intro q d;have e:(∃y∈L++[x],azA y.2 /\q=aq.getD y.1 []/\d=ayE aq y) <-> d∈s.a q\/azA x.2 /\q=aq.getD x.1 []/\d=ayE aq x:=by
  rw[h q d]
  grind
 rw[e];unfold kX azA ayE;split<;>rename_i c1
 grind
 split<;>rename_i c2;simp_all[aCa,aCb];split<;>rename_i c3
 grind [aCb]
 grind
def aCc(fs:List Tree):azB aq (ax7 fs 0) (jG aq fs 0 l9):=by rw[aAP];exact azz (λ_=>True) (λL x s _=>aDz L x s) (ax7 fs 0) [] l9 (λ_ _=>trivial) (λq d=>by simp[l9])
def okT(us:List dx)(x:Nat×Tree):Prop:=(x.2.bi=3->∀q∈x.2.bv,(nu us x.1 (q.bv.headD zT)).2.e=0)/\(x.2.bi=5->∀r ps ty a,x.2.bv=r::ps::ty::a->(r.bi≠0->(nu us x.1 (r.bv.headD zT)).2.e=0)/\(∀q∈ps.bv,(nu us x.1 (q.bv.headD zT)).2.e=0)/\(nu us x.1 ty).2.e=0)
def sgK(us:List dx)(aq:List (List UInt8))(x:Nat×Tree)(r:Tree):Ky:=⟨ayc us x.1 r,aq.getD x.1 [],x.2.bc⟩
structure ayg(us:List dx)(aq:List (List UInt8))(L:List (Nat×Tree))(s:Q5):Prop where
 o:∀X,(s.c X).isSome=true <-> ∃x∈L,x.2.bi=3/\X=ayo aq x
 v:∀X m,m∈s.a X->∃x∈L,x.2.bi=3/\X=ayo aq x/\∃q∈x.2.bv,m=ax' us aq x.1 5 q
 A:∀f∈s.b,f.e≠0
 i:s.b=[]->(∀X,s.f X=0)/\∀x∈L,okT us x
 B:∀K g,s.d K=some g->∃x∈L,∃r ps ty tl,x.2.bi=5/\x.2.bv=r::ps::ty::tl/\K=sgK us aq x r/\g.b=ps.bv.map (ax' us aq x.1 6)/\g.a=(nu us x.1 ty).1
 n:∀x∈L,∀r ps ty tl,x.2.bi=5->x.2.bv=r::ps::ty::tl->(s.d (sgK us aq x r)).isSome=true
theorem azC{f:cN}{l:List cN}(h:∀g∈l,g.e≠0):∀g∈ax5 f l,g.e≠0:=by grind [ax5]
theorem ay9{f:cN}{l:List cN}(h:ax5 f l=[]):l=[]/\f.e=0:=by
 unfold ax5 at h;split at h<;>rename_i c
 grind
 simp_all
def aCd{j:Nat}:∀(ts:List Tree)(l:List cN),(∀g∈l,g.e≠0)->∀g∈ts.foldl (λl q=>ax5 (nu us j (q.bv.headD zT)).2 l) l,g.e≠0
 |[],_,h=>h
 |q::ts,l,h=>aCd ts _ (azC h)
theorem aCe{j:Nat}:∀(ts:List Tree)(l:List cN),ts.foldl (λl q=>ax5 (nu us j (q.bv.headD zT)).2 l) l=[]->l=[]/\∀q∈ts,(nu us j (q.bv.headD zT)).2.e=0
 |[],_,h=>⟨h,λ_ q=>by grind⟩
 |q::ts,l,h=>by
  obtain⟨a,b⟩:=aCe ts _ h
  grind [ay9]
structure aDA(us:List dx)(aq:List (List UInt8))(j:Nat)(X:Ty)(ts:List Tree)(s s':Q5):Prop where
 g:s'.c=s.c
 a:s'.d=s.d
 b:∀Y m,m∈s'.a Y->m∈s.a Y\/Y=X/\∃q∈ts,m=ax' us aq j 5 q
 c:(∀f∈s.b,f.e≠0)->∀f∈s'.b,f.e≠0
 d:s'.b=[]->s.b=[]/\s'.f=s.f/\∀q∈ts,(nu us j (q.bv.headD zT)).2.e=0
theorem aCf{j:Nat}{X:Ty}:∀(ts:List Tree)(s:Q5),aDA us aq j X ts s (ts.foldl (λs q=>ayp us aq j X q s) s)
 |[],s=>⟨rfl,rfl,λ_ _ h=>.inl h,id,λh=>⟨h,rfl,λ_ q=>by grind⟩⟩
 |t::ts,s=>by
  have y:=aCf (j:=j) (X:=X) ts (ayp us aq j X t s);refine⟨y.g,y.a,λY m i=>?_,λh=>y.c (azC h),λh=>?_⟩;rcases y.b Y m i with c|⟨c,q,d,e⟩;have c:m∈axY s.a X (s.a X++[ax' us aq j 5 t]) Y:=c
  grind [axY]
  grind
  obtain⟨a,b,c⟩:=y.d h;obtain⟨f,g⟩:=ay9 a;refine⟨f,?_,λq d=>(atZ.1 d).elim (λe=>e▸g) (c q)⟩;rw[aEd,b];show(if _ then _ else _)=_
  grind
theorem ay'{a:Type}{P:a->Prop}{L:List a}{x:a}:(∃y∈L++[x],P y) <-> (∃y∈L,P y)\/P x:=by grind
theorem aDB(L:List (Nat×Tree))(x:Nat×Tree)(s:Q5)(E:ax8 x.2)(h:ayg us aq L s):ayg us aq (L++[x]) (ayd us aq x.1 x.2 s):=by
 have up:∀{P:Nat×Tree->Prop},(∃y∈L,P y)->∃y∈L++[x],P y:=λq=>ay'.2 (.inl q);unfold ayd;split<;>rename_i c3;have y:=aCf (us:=us) (aq:=aq) (j:=x.1) (X:=ayo aq x) x.2.bv {s with c:=axY s.c (ayo aq x) (some ⟨2,x.2.bc,x.1,x.2.at,aq.getD x.1 []⟩),n:=s.n+1};show ayg us aq (L++[x]) (x.2.bv.foldl (λs q=>ayp us aq x.1 (ayo aq x) q s) {s with c:=axY s.c (ayo aq x) (some ⟨2,x.2.bc,x.1,x.2.at,aq.getD x.1 []⟩),n:=s.n+1});refine⟨λX=>?_,λX m A=>?_,y.c h.A,λe=>?_,λK g e=>?_,λz f r ps ty C i e=>?_⟩;rw[ay',<-h.o X,y.g]
 grind [axY]
 rcases y.b X m A with c|⟨c,q,I,e⟩;exact up (h.v X m c)
 grind
 obtain⟨a,b,c⟩:=y.d e;obtain⟨G,H⟩:=h.i a;refine⟨λX=>by simp_all,λz f=>?_⟩;rcases auj.1 f with d|d
 grind
 simp at d;subst d;exact⟨λ_=>c,λe=>by omega⟩;rw[y.a] at e;exact up (h.B K g e);rw[y.a];rcases auj.1 f with d|d;exact h.n z d r ps ty C i e
 grind
 have D:∀X,(s.c X).isSome=true <-> ∃z∈L++[x],z.2.bi=3/\X=ayo aq z:=λX=>by rw[ay',<-h.o X];grind
 have l:∀X m,m∈s.a X->∃z∈L++[x],z.2.bi=3/\X=ayo aq z/\∃q∈z.2.bv,m=ax' us aq z.1 5 q:=λX m A=>up (h.v X m A);have F:x.2.bi≠5->ayg us aq (L++[x]) s:=λu=>⟨D,l,h.A,λe=>⟨(h.i e).1,λz f=>by
  rcases auj.1 f with d|d;exact(h.i e).2 z d;simp at d;subst d;exact⟨λe=>absurd e c3,λe=>absurd e u⟩⟩,λK g e=>up (h.B K g e),λz f r ps ty C i e=>by
  rcases auj.1 f with d|d;exact h.n z d r ps ty C i e
  grind⟩
 split<;>rename_i u;rcases E with q|⟨q,_⟩|⟨_,r,ps,ty,b,v,_⟩;omega;omega;rw[v];refine⟨D,l,azC (aCd ps.bv _ ?_),λe=>?_,λK g e=>?_,λz f B o t p i e=>?_⟩;split;exact h.A;exact azC h.A;obtain⟨a,b⟩:=ay9 e;obtain⟨c,d⟩:=aCe ps.bv _ a;have k:s.b=[]/\(r.bi≠0->(nu us x.1 (r.bv.headD zT)).2.e=0):=by
  split at c<;>rename_i c0
  grind
  grind [ay9]
 refine⟨(h.i k.1).1,λz f=>?_⟩;rcases auj.1 f with w|w;exact(h.i k.1).2 z w;simp at w;subst w;refine⟨λe=>absurd e c3,λ_ B o t p e=>?_⟩
 grind
 have e:axY s.d (sgK us aq x r) _ K=some g:=e;unfold axY at e;split at e<;>rename_i c;cases e;exact ay'.2 (.inr ⟨r,ps,ty,[b],u,v,c,rfl,rfl⟩);exact up (h.B K g e);show(axY s.d (sgK us aq x r) _ (sgK us aq z B)).isSome=true;unfold axY;split<;>rename_i c;rfl;rcases auj.1 f with d|d;exact h.n z d B o t p i e;simp at d;subst d;rw[v] at e;cases e;exact absurd rfl c;exact F u
theorem aDC(fs:List Tree)(c:∀t∈fs,∀t'∈t.bv,ax8 t'):ayg us aq (ax7 fs 0) (ax3 us aq fs 0 iF):=by
 rw[aB9];refine azz (λx:Nat×Tree=>ax8 x.2) aDB (ax7 fs 0) [] iF (λx d=>?_) ⟨λX=>by simp[iF],λX m b=>(by cases b),λf a=>(by cases a),λ_=>⟨λ_=>rfl,λ_ h=>qaa⟩,λK g e=>(by cases e),λz i=>qaa⟩
 grind [azy]
end
theorem aDD{nm:List UInt8}(h:nm∈K5):K5.idxOf nm<4:=by have:=avD h;exact this
theorem aCg(nm:List UInt8):0<=ayf nm/\ayf nm<=4:=by grind [ayf,aDD]
theorem aCh:∀{l:List aC}{a b:aC},(l.map (·.a)).Nodup->a∈l->b∈l->a.a=b.a->a=b
 |c::l,a,b,h,d,g,e=>by
  rw[aul,au6] at h;rcases atZ.1 d with p|p<;>rcases atZ.1 g with q|q
  grind
  grind
  grind
  exact aCh h.2 p q e
section
variable {aq:List (List UInt8)}{L:List (Nat×Tree)}{nd:List aC}{t:Tree}
def UsI(us:List dx)(s:Q5):Prop:=∀u∈us,u.c=true->u.d.b=2->(s.c ⟨5,u.d.g,u.d.a⟩).isSome=true
theorem azD(f:UsI us s){k a:Int}{nm:List UInt8}:aye s (ayv us j k a nm).1 /\((ayv us j k a nm).2.e=0->(ayv us j k a nm).1.a≠0):=by
 have z:aye s dP:=.inr ⟨⟨atY _,by decide⟩,rfl,rfl⟩;unfold ayv;split<;>rename_i c1
 grind
 split<;>rename_i c2
 grind
 split<;>rename_i c3
 grind
 refine⟨.inl ?_,λ_=>(by simp:(5:Int)≠0)⟩;unfold ayn at c1 c2⊢;cases e:ayO us j a with
 |none=>rw[e] at c1;exact absurd rfl c1
 |some u=>
  rw[e] at c1 c2;simp at c1 c2⊢;exact f u (avP e) qaa zo
theorem ayI(f:UsI us s):aye s (nu us j t).1 /\(TyN t->(nu us j t).2.e=0->(nu us j t).1.a≠0):=by
 have z:aye s dP:=.inr ⟨⟨atY _,by decide⟩,rfl,rfl⟩;unfold nu;split<;>rename_i c0;exact⟨z,λq=>by have:=q.1;omega⟩;split<;>rename_i c8;split<;>rename_i cb;exact⟨.inr ⟨⟨(aCg _).1,Int.lt_of_le_of_lt (aCg _).2 zm⟩,rfl,rfl⟩,λ_ _=>cb⟩
 grind [azD]
 grind [azD]
variable (h:ayg us aq L s)(f:UsI us s)
include h f
theorem ayg.kx{X:Ty}(x:aye s X):0<=X.a/\X.a<=5/\(X.a=5->(s.c X).isSome=true):=by
 rcases x with q|⟨q,_⟩;obtain⟨x,_,_,e⟩:=(h.o X).1 q;have:X.a=5:=by rw[e];rfl
 grind
 omega
def ayg.sA:FOk s:=by refine⟨λx m d=>?_,λx m d e=>?_,λx m d=>?_,λx e=>?_⟩;obtain⟨y,a,b,c,_⟩:=h.v x m d;exact(h.o x).2 ⟨y,a,b,c⟩;obtain⟨y,_,_,_,q,_,rfl⟩:=h.v x m d;exact(h.kx f (ayI f).1).2.2 e;obtain⟨y,_,_,_,q,_,rfl⟩:=h.v x m d;have:=h.kx f (ayI (j:=y.1) (t:=q.bv.headD zT) f).1;exact⟨this.1,this.2.1⟩;obtain⟨y,_,_,rfl⟩:=(h.o x).1 e;rfl
omit f in
theorem ayg.h5:∀x,x.a≠5->s.a x=[]:=λx a=>by
 cases e:s.a x with
 |nil=>rfl
 |cons m l=>
  obtain⟨y,_,_,c,_⟩:=h.v x m qaa;exact absurd (by rw[c];rfl) a
def ayS(s:Q5)(X:Ty):Prop:=∃D:TT,D.ty=X/\iA s.a D/\ayQ s D/\iD D<=256/\(X.a≠0->kdT D)
variable (E:∀x∈L,ax8 x.2)(C:s.b=[])
include E C
def ayg.ID{X:Ty}{m:Mem}(d:m∈s.a X):aye s m.t/\m.t.a≠0:=by obtain⟨y,b,g,_,q,a,rfl⟩:=h.v X m d;have e:=((h.i C).2 y b).1 g q a;refine⟨(ayI f).1,(ayI f).2 ?_ e⟩;rcases E y b with c|⟨_,c⟩|⟨c,_⟩;omega;exact(c q a).2;omega
theorem ayg.aDE:∀D:TT,aye s D.ty->iA s.a D->ayQ s D/\(D.ty.a≠0->kdT D):=by
 intro D
 induction D using TT.ind with
 |_ x k y=>
  intro w u;have u:=u;unfold iA at u;have key:∀l:List TT,(∀q∈l,q∈k)->aya s.a l->ay7 s l/\kdL l:=by
   intro l
   induction l with
   |nil=>exact λ_ _=>⟨auW,auW⟩
   |cons q l z=>
    intro g ul;have a:q.ty∈(s.a x).map (·.t):=by grind
    obtain⟨m,r,e⟩:=auR.1 a;have b:=h.ID f E C r;rw[e] at b;have c:=y q (g q zm) b.1 ul.1;have d:=z (λp F=>g p qaa) ul.2;exact⟨⟨c.1,d.1⟩,c.2 b.2,d.2⟩
  have:=key k (λ_ q=>q) u.2.2.2;exact⟨⟨w,this.1⟩,λe=>⟨e,this.2⟩⟩
theorem ayg.eT{U:List Ty}(b:∀x,(s.c x).isSome=true <-> x∈U) (w:WhP s U []) {X:Ty} (d:aye s X):ayS s X:=by
 have kx:=h.kx f d;have F:=h.sA f;have a:∀y,¬gL s.a y y:=λy r=>by
  have ne:=r.ne;cases e:s.a y with
  |nil=>grind
  |cons m l=>exact(w.z rfl y ((b y).1 (F.a y m qaa))).1 r
 obtain⟨D,e,u⟩:=aAB (F:=s.a) (U:=U) (λx m g k=>(b _).1 (F.b x m g k)) F.d h.h5 (U.length+1) X [] zm .nil (λ_ q=>by grind) ⟨kx.1,kx.2.1⟩ (λk=>(b _).1 (kx.2.2 k)) (a X) (λy _=>a y);subst e;have t:=h.aDE f E C D d u;refine⟨D,rfl,u,t.1,?_,t.2⟩
 by_cases c:D.ty.a=5
 exact(w.z rfl D.ty ((b _).1 (kx.2.2 c))).2 ((h.i C).1 _) (λy _=>⟨(h.i C).1 y,a y⟩) D rfl u;cases D with
 |mk x p=>
  have c:x.a≠5:=c;unfold iD mn;omega
theorem ayg.nO{d:jv}(Q:azB aq L d)(nd:∀q,((d.a q).map (·.a)).Nodup) {q:List UInt8} {e:aC} (O:e∈d.a q):(∀g,s.d ⟨dP,e.g,e.a⟩=some g->(∀m∈g.b,aye s m.t)/\aye s g.a/\∃x∈L,∃r ps ty F,x.2.bv=r::ps::ty::F/\g.b.length=ps.bv.length)/\((s.d ⟨dP,e.g,e.a⟩).isSome=true <-> e.b=3)/\(e.b≠3->aye s ⟨5,e.g,e.a⟩):=by
 obtain⟨x,N,it,eq,J⟩:=(Q q e).1 O;refine⟨λg K=>?_,⟨λS=>?_,λT=>?_⟩,λT=>?_⟩;obtain⟨y,z,r,ps,ty,F,P,k,_,l,G⟩:=h.B _ g K;rw[l,G];refine⟨λm R=>?_,(ayI f).1,y,z,r,ps,ty,F,k,by simp⟩;obtain⟨p,_,rfl⟩:=auR.1 R;exact(ayI f).1;obtain⟨g,K⟩:=awk.1 S;obtain⟨y,z,r,ps,ty,F,P,k,I,_⟩:=h.B _ g K;unfold sgK at I;simp only[Ky.mk.injEq] at I;obtain⟨l,G,H⟩:=I;have D:r.bi=0:=by
  by_cases c:r.bi=0
  omega;have ok:=((h.i C).2 y z).2 P r ps ty F k;have a:(nu us y.1 (r.bv.headD zT)).1.a≠0:=by refine(ayI f).2 ?_ (ok.1 c);rcases E y z with w|⟨w,_⟩|⟨_,Y,V,W,X,u,M,_⟩;omega;omega;rw[k] at u;cases u;rcases M with rfl|M;exact absurd rfl c;exact M.2.2
  unfold ayc at l;rw[atS c] at l;rw[<-l] at a;exact absurd rfl a
 have b:=(Q q (ayE aq y)).2 ⟨y,z,⟨by omega,λ_=>by grind⟩,by rw[eq,<-G,J];rfl,rfl⟩;have c:=aCh (nd q) O b H;rw[c];show(if y.2.bi=3 then(2:Int) else 3)=3;omega;have U:x.2.bi≠3:=λc=>by grind [ayE]
 rcases E x N with w|⟨w,_⟩|⟨w,r,ps,ty,b,k,_⟩;exact absurd w it.1;omega;have D:=it.2 U;rw[k] at D;have D:r.bi=0:=D;have a:=h.n x N r ps ty [b] w k;unfold sgK ayc at a;rw[atV D] at a;rw[J];exact a;have H:x.2.bi=3:=by grind [ayE]
 refine .inl ((h.o _).2 ⟨x,N,H,?_⟩);rw[J];rfl
end
def We:∀{ds:List Doc}{d:Doc},d∈ds->d.a.length+d.b.length<=pC ds
 |e::ds,d,h=>by
  have:pC (e::ds)=e.a.length+e.b.length+pC ds:=by simp only[pC,aul,axF]
  rcases atZ.1 h with q|q;rw[q];omega;have:=We q;omega
def VX(el w:Nat)(h:Hp)(v:AV)(L:List (List AV)):Prop:=∃b ex,v=.c b 0 w L.length L.length ex/\Rw el w h b L
section
variable {h:Hp}{el w q0 r AM cap:Nat}{ex:Bool}{L:List (List AV)}{row:List AV}{t1:N3 (List AV)}
def VX.aw(x:VX el w h v L)(e:∀i r t,i<h.a->h.ac i=.b el w r 0 t->h'.ac i=h.ac i):VX el w h' v L:=by obtain⟨b,x,q,y⟩:=x;have l:=y.lt;obtain⟨r,t,c,w⟩:=y;exact⟨b,x,q,r,t,(e b r t l c).trans c,w⟩
def VX.px(x:VX el w h v L){H:Hp}:tL 1 H v=.v (.i L.length):=by obtain⟨b,x,rfl,_⟩:=x;rfl
def VX.va(x:VX el w h v L)(u:0<w)(H:L.length<4294967296)(l:AM<=128)(C:L≠[])(A:h.ac q0=.b el w r 0 t1)(m:1<=r)(q:t1 0=row):
 ∃d,kJ h el w AM v (.c q0 0 w 1 cap ex)=.b (iN w h.a (L++[row])) d/\Rw el w d h.a (L++[row])/\d.a=h.a+1/\∀i,i<h.a->aL v≠some i->d.ac i=h.ac i:=by
 obtain⟨b,e,rfl,y⟩:=x;cases e with
 |false=>exact(y.vl C).va u H l A m q
 |true=>
  have z:=wN (h:=h) (rw:=w) (cap:=cap) (ex:=ex) A m;rw[q] at z;have I:room AM (L.length+(0+1))=true:=rV (by have:(2*(L.length+(0+1))+1024)*AM<=(2*(L.length+(0+1))+1024)*128:=au2 _ l;omega) zo
  obtain⟨r2,t2,F,f,g⟩:=y;have E:=G2 (h:=h) (el:=el) (rw:=w) (bytes:=AM) (n:=0) (i:=b) (len:=L.length) (vh:=r2) (t:=t2) (y:=.c q0 0 w 1 cap ex) u F f z rfl I;refine⟨h.am (jJ el w (L.length+1) (aEt t2 L.length 0++[row])),by rw[E];simp[iN],⟨L.length+1,jy fG 0 (aEt t2 L.length 0++[row]),Hp.ba rfl,by simp,λj G=>?_⟩,rfl,λi hi _=>Hp.io hi⟩;simp only[auk,ave] at G;have D:j<(aEt t2 L.length 0++[row]).length:=by simp[oZ];omega
  rw[wO D]
  by_cases c:j<L.length
  have c':j<(aEt t2 L.length 0).length:=by rw[oZ];exact c
  have:=vw t2 L.length 0 j c;rw[atT c'] at this;rw[ava c',ava c,auQ this,aue,g j c];have c':j=L.length:=zo;subst c';rw[awV (by rw[oZ];exact at2 _)];simp[oZ]
end
section
variable {h:Hp}{k:aK->Prop}{aq:List (List UInt8)}{bu:List UInt8->List aC}{lo t o:Nat}
def al1(K:aA T)(hd:vV h v a)(X:a.length<1073741824)(U:pC a<1073741824)(g:k (.a (.d (decide (a.length<=6/\pC a<=9000))) h)):aE T (W T) ⟨4⟩ [v] h k:=by
 rw[ic K.t4];generalize M:CC.g (.h (z q4 6)) .m=F;generalize C:CC.d l4_0=L;refine ag ?_;subst C;have I:∀(d:Fr)(z:Nat),cg 0 d=v->cg 3 d=.i z->(a.length<=6->z=pC a)->W T F d h [] (finish T (W T) [.a 2] k):=by
  intro d z f0 f3 l;subst M
  by_cases c1:a.length<=6
  have e:(a.length:Int)<=6:=zo;have l:=l c1
  by_cases c2:z<=9000
  have f:(z:Int)<=9000:=zo;refine cC f0 f3 (hd.px (H:=h)) e f ?_;rw[avf ⟨c1,by omega⟩] at g;exact g;have f:¬(z:Int)<=9000:=zo;refine cC f0 f3 (hd.px (H:=h)) e f ?_;rw[auK zo] at g;exact g;have e:¬(a.length:Int)<=6:=zo;refine bK f0 f3 (hd.px (H:=h)) e ?_;rw[auK zo] at g;exact g
 have key:∀(m i:Nat)(d:Fr),m=a.length- i->i<=a.length->i<=10->cg 0 d=v->cg 4 d=.i i->∀z:Nat,cg 3 d=.i z->z+pC (a.drop i)=pC a->
  W T (.d l4_0) d h [] (bY 0 (bF (W T F) (finish T (W T) [.a 2] k))):=by
  intro m
  induction m with
  |zero=>
   intro i d P hi A f0 f4 z f3 l;have O:i=a.length:=zo;subst O;rw[aP];refine bK f0 f3 f4 (hd.px (H:=h)) ?_;simp[pC] at l;exact I _ z zA zA λ_=>l
  |succ m R=>
   intro i d P hi A f0 f4 z f3 l;have n:i<a.length:=zo;have G:(i:Int)<a.length:=zo
   by_cases N:i=10
   have c:¬(i:Int)<10:=zo;rw[aP];refine iR f0 f3 f4 (hd.px (H:=h)) n G c ?_;exact I _ z zA zA λq=>zo;have c:(i:Int)<10:=zo;have S:=al0 n;obtain⟨b,cap,ex,r,t,rfl,D,Y,Q⟩:∃b cap ex r t,v=.c b 0 3 a.length cap ex/\tC (h.ac b) r t/\a.length<=r/\∀j,(V:j<a.length)->t j=a[j].ca:=by rcases hd with⟨rfl,_⟩|x;simp at n;exact x
   have lb:=D.lt;have J:i<r:=zo;have E:=Q i n;have u:=D.ld0 J E;have y:=D.yV J E;rw[aP];generalize C:CC.d l4_0=L;refine fY f0 f3 f4 n G c u y ?_;subst C;refine R (i+1) _ zo zo zo zA aa (z+a[i].a.length+a[i].b.length) aa zo
 exact key _ 0 _ rfl (auz _) zd aa aa 0 aa zm
def aDF(d:aA T)(x:iE a fs aq bu us p h){q:List UInt8}(i:∀h' b,ax h h'->yG h' b (bu q)->k (.a b h')):aE T (W T) ⟨8⟩ [.a p 0,S q] h k:=by rw[ic d.t8];obtain⟨c0,c1,c2,f,nm,tb,c8,C,c,hd,n,y,⟨L,j,l⟩,u⟩:=x.d;have A:=Hp.lt c rfl;simp only[bS] at c;have e:=j.rg (s:=q) (z:=.o) (ok:=false);simp(disch:=omega) [c,e,y7];refine abE d (l q) (x.n q) λh' b g m _=>?_;refine ag ?_;exact i h' b g m
def aCi(I:aA T){X:List Ty}(Z:X.length<1073741824)(R:s.n<4294967296)(S:∀x,(s.c x).isSome=true->x.a=5) (Q:∀x∈X,ayS s x):∀(n j:Nat)(h:Hp)(c:Fr)(K:aT->Prop),j+n=X.length->iw lo p t fb o wb sb h s B->VX 40 3 h v (X.map Ty.ca)->cg 5 c=.a t 0->cg 12 c=v->cg 14 c=.i j->
 (∀g h',(∀q,q<=13->cg q g=cg q c)->ax h h'->K (.a 6 g h' []))->W T (.d l3_0) c h [] K:=by
 intro n
 induction n with
 |zero=>
  intro j h c K m y d f5 f12 f14 z;simp only[aud] at m;subst m;rw[aP];refine aU f12 f14 (d.px (H:=h)) ?_;exact z _ _ (λq E=>by repeat rw[qA,atS zo]) (ah.da _)
 |succ n V=>
  intro j h c K m y d f5 f12 f14 z;have f:j<X.length:=zo;have J:(j:Int)<X.length:=zo;obtain⟨D,C,u,P,U,hd⟩:=Q X[j] (auy f);obtain⟨b,ex,rfl,r,Y,l,F,e⟩:=d;have d:VX 40 3 h (.c b 0 3 (X.map Ty.ca).length (X.map Ty.ca).length ex) (X.map Ty.ca):=⟨b,ex,rfl,r,Y,l,F,e⟩;have e:=e j (by simpa using f);rw[aEc,<-C] at e;have A:=d;simp only[avd] at A F f12⊢;have lb:=Hp.lt l rfl;rw[<-C] at hd;rw[aP];generalize O:CC.d l3_0=L;refine fY f5 f12 f14 f J l e Ty.ca.eq_1 ?_;refine aDw I y R S u P U hd λN g1=>?_;refine aS f14 f ?_;subst O;refine V (j+1) N _ K zo (y.g0 g1) (d.aw λi r t hi _=>g1.f i hi id) zA zA aa λg h' E M=>z g h' (λq G=>?_) (g1.ab M);rw[E q G]
  repeat rw[qA,atS zo]
end
section
variable {h:Hp}{k:aK->Prop}{a:AV}{aq:List (List UInt8)}{bu:List UInt8->List aC}{lo t gb:Nat}{g:oS}
def aCj(HT:aA T)(w:hB.ac gb=.a 43 (g.ca a))(z:VL 48 8 hB a (g.b.map Mem.ca))(hl:g.b.length<1073741824):∀(n j:Nat)(f:List Ty)(xs:AV)(h:Hp)(u:Fr)(K:aT->Prop),j+n=g.b.length->ax hB h->VX 40 3 h xs (f.map Ty.ca)->(∀b,aL xs=some b->hB.a<=b)->f.length=j+1->cg 10 u=.a gb 0->cg 12 u=xs->cg 13 u=.i j->
 (∀y h' l,(∀q,q<=11->cg q y=cg q u)->cg 12 y=l->ax hB h'->VX 40 3 h' l ((f++(g.b.drop j).map (·.t)).map Ty.ca)->K (.a 4 y h' []))->W T (.d l3_1) u h [] K:=by
 intro n;have A:=Hp.lt w rfl
 induction n with
 |zero=>
  intro j f xs h u K J g0 M V U f10 f12 f13 D;simp only[aud] at J;subst J;have o:=(g0.f _ A id).trans w;have lg:=Hp.lt o rfl;simp only[oS.ca] at o;have E:VL 48 8 h a (g.b.map Mem.ca):=z.aw λi r t hi _=>g0.f i hi id;rw[aP];refine bK f10 f13 o (E.px (H:=h)) ?_;exact D _ _ xs (λq X=>by repeat rw[qA,atS zo]) zA g0 (by simpa using M)
 |succ n ih=>
  intro j f xs h u K J g0 M V U f10 f12 f13 D;have C:j<g.b.length:=zo;have aY:(j:Int)<g.b.length:=zo;have o:=(g0.f _ A id).trans w;have lg:=Hp.lt o rfl;simp only[oS.ca] at o;have E:VL 48 8 h a (g.b.map Mem.ca):=z.aw λi r t hi _=>g0.f i hi id;have Q:=E.px (H:=h);obtain⟨b,r,tt,rfl,P,hr,Y⟩:=E.at (j:=j) (by simpa using C);rw[aEc] at Y;have lb:=Hp.lt P rfl;have ed:(g.b.drop j).map (·.t)=g.b[j].t::(g.b.drop (j+1)).map (·.t):=by rw[aut C];rfl
  rw[ed] at D;generalize g.b[j]=m at*;simp only[avd] at hr o Q;rw[aP];generalize hL:CC.d l3_1=L;refine nA f10 f12 f13 C aY o Q P Y Mem.ca.eq_1 ?_;generalize F:(Hp.am _ _:Hp)=x;have S:ax h x:=by rw[<-F];exact fZ
  obtain⟨t1,ub,rm⟩:∃t1,x.ac h.a=.b 40 3 1 0 t1/\t1 0=m.t.ca:=⟨_,by rw[<-F];exact Hp.ba aa,by simp[Ty.ca]⟩;have n3:x.a=h.a+1:=by rw[<-F];exact aa
  clear F;have yq:VX 40 3 x xs (f.map Ty.ca):=M.aw λi r t li _=>S.f i li id;obtain⟨G,R,N,n4,kp⟩:=yq.va (AM:=40) (cap:=1) (ex:=true) zd zn zd (by intro e;simp at e;subst e;simp at U) ub zl rm;have nB:=g0.g;have g4:ax hB G:=⟨by omega,λi hi _=>(kp i zo λe=>by have:=V i e;omega).trans ((g0.ab S).f i hi id)⟩;have O:VX 40 3 G (iN 3 x.a (f.map Ty.ca++[m.t.ca])) (f.map Ty.ca++[m.t.ca]):=⟨_,false,rfl,N⟩;rw[<-List.map_singleton,<-au4] at O R;rw[R];refine aU iN.eq_1 f13 C ?_;subst hL;refine ih (j+1) (f++[m.t]) _ G _ K zo g4 O (λb e=>?_) zn zA (au iN.eq_1) aa λy h' l X I g' kN=>D y h' l (λq Z=>?_) I g' (by simpa using kN);cases e;omega
  ·rw[X q Z]
   repeat rw[qA,atS zo]
end
section
variable {h:Hp}{k:aK->Prop}{lv:AV}{aq:List (List UInt8)}{bu:List UInt8->List aC}{lo t f:Nat}
def aAQ(s:Q5)(d:aC):Prop:=(∀g,s.d ⟨dP,d.g,d.a⟩=some g->g.b.length<1073741820/\(∀m∈g.b,ayS s m.t)/\ayS s g.a)/\(s.d ⟨dP,d.g,d.a⟩).isSome=decide (d.b=3)/\(d.b≠3->ayS s ⟨5,d.g,d.a⟩)
def yG.px(x:yG h v ds){H:Hp}:tL 1 H v=.v (.i ds.length):=by rcases x with⟨rfl,rfl⟩|⟨_,q,t,c,e,r,rfl,_⟩<;>rfl
def aDG(O:aA T)(hn:s.n<4294967296)(hp:∀x,(s.c x).isSome=true->x.a=5) (hl:ds.length<1073741824) (hd:∀d∈ds,aAQ s d):∀(n j:Nat)(h:Hp)(u:Fr)(K:aT->Prop),j+n=ds.length->iw lo p t fb f wb sb h s B->yG h lv ds->cg 5 u=.a t 0->cg 8 u=lv->cg 9 u=.i j->
 (∀f' h',(∀q,q<=7->cg q f'=cg q u)->ax h h'->K (.a 2 f' h' []))->W T (.d l3_2) u h [] K:=by
 intro n
 induction n with
 |zero=>
  intro j h u K C y hv f5 f8 f9 hk;simp only[aud] at C;subst C;rw[aP];refine aU f8 f9 (hv.px (H:=h)) ?_;exact hk _ _ (λq w=>by repeat rw[qA,atS zo]) (ah.da _)
 |succ n ih=>
  intro j h u K C y hv f5 f8 f9 hk;have D:j<ds.length:=zo;have aY:(j:Int)<ds.length:=zo;obtain⟨o1,o2,o3⟩:=hd ds[j] (auy D);have hv0:=hv;rcases hv with⟨e,_⟩|⟨_,b,tt,cap,ex,r,rfl,hb,hr,N⟩;subst e;simp at D;have N:=N j D;generalize ds[j]=d at*;have lb:=Hp.lt hb rfl;rw[aP];generalize hL:CC.d l3_2=L;refine fY f5 f8 f9 D aY hb N aC.ca.eq_1 ?_;refine aDy O y (λg hg=>by have:=(o1 g hg).1;omega) λE gv g g1 S hs DU=>?_;rw[o2];have qW:=(g1.f _ lb id).trans hb;have lb1:=Hp.lt qW rfl;simp only[oS.ca];have b8:∀(f3:Fr)(F:Hp),cg 5 f3=.a t 0->cg 8 f3=.c b 0 5 ds.length cap ex->cg 9 f3=.i j->(∀q,q<=7->cg q f3=cg q u)->ax h F->W T (CC.h (z q3 29)) f3 F [] (bF (W T L) K):=by intro f3 F e5 e8 e9 eq I;refine aS e9 D ?_;subst hL;refine ih (j+1) F _ K zo (y.g0 I) (hv0.aw λq w _=>I.f q w id) (au e5) (au e8) aa λf' h' w g'=>hk f' h' (λq Ci=>?_) (I.ab g');rw[w q Ci,qA,atS zo,qA,atS zo,qA,atS zo,eq q Ci]
  generalize hZ:CC.h (z q3 29)=Z at b8
  by_cases c:d.b=3
  ·refine mz f5 f8 f9 D aY qW N aC.ca.eq_1 c ?_;generalize A:(Hp.bj (Hp.am _ _) _ _:Hp)=M;have Q:ax E M:=by rw[<-A];exact fZ
   have uM:M.ac E.a=.a 43 (g.ca gv):=by rw[<-A];exact Hp.dq rfl
   have nM:M.a=E.a+1:=by rw[<-A];exact aa
   clear A;generalize J:(Hp.am M _:Hp)=X;have gX:ax M X:=by rw[<-J];exact aZ
   have G:VX 40 3 X (.c (E.a+1) 0 3 1 1 true) ([g.a].map Ty.ca):=⟨_,true,rfl,1,_,by rw[<-J];exact Hp.ba nM.symm,by simp,λj C=>by
    obtain rfl:j=0:=by simp at C;omega
    simp[Ty.ca]⟩
   clear J;obtain⟨g',NQ⟩:=awk.1 (o2.trans (avf c));have eg:=hs g' NQ;subst eg;obtain⟨p1,p2,p3⟩:=o1 g NQ;refine aCj O uM (S.aw λi r t hi _=>Q.f i hi id) zo g.b.length 0 [g.a] _ X _ _ zo gX G (λb e=>by cases e;omega) rfl aa aa aa λf2 R xs2 q2 P g2 kT=>?_;have q5:=q2 5 zo;have q8:=q2 8 zo;have q9:=q2 9 zo;have q11:=q2 11 zo;simp(disch:=omega) [f5,f8,f9] at q5 q8 q9 q11;have o:=(g1.ab Q).ab g2;have q7:∀q,q<=7->cg q f2=cg q u:=λq w=>by
    rw[q2 q zo]
    repeat rw[qA,atS zo]
   refine aB q11 ?_;refine aCi O (X:=[g.a]++(g.b.drop 0).map (·.t)) zn hn hp (λx G=>?_) _ 0 R _ _ (aue _) (y.g0 o) kT (au q5) (au P) aa λf3 F l I=>?_;rcases auj.1 G with e|e;simp at e;subst e;exact p3;obtain⟨m,hm,rfl⟩:=auR.1 e;exact p2 m (by simpa using hm)
   ·have U:=l 5 zo;have V:=l 8 zo;have r9:=l 9 zo;simp(disch:=omega) [q5,q8,q9] at U V r9;refine ag ?_;refine b8 f3 F U V r9 (λq w=>?_) (o.ab I);rw[l q zo,<-q7 q w]
    repeat rw[qA,atS zo]
  ·refine mz f5 f8 f9 D aY qW N aC.ca.eq_1 c ?_;generalize A:(Hp.bj (Hp.am _ _) _ _:Hp)=M;have Q:ax E M:=by rw[<-A];exact fZ
   have uM:M.ac E.a=.a 43 (g.ca gv):=by rw[<-A];exact Hp.dq rfl
   have nM:M.a=E.a+1:=by rw[<-A];exact aa
   clear A;generalize J:(Hp.am M _:Hp)=X;have gX:ax M X:=by rw[<-J];exact aZ
   have G:VX 40 3 X (.c (E.a+1) 0 3 1 1 true) ([g.a].map Ty.ca):=⟨_,true,rfl,1,_,by rw[<-J];exact Hp.ba nM.symm,by simp,λj C=>by
    obtain rfl:j=0:=by simp at C;omega
    simp[Ty.ca]⟩
   clear J;obtain⟨p1,p2⟩:=DU (by
    cases e:s.d ⟨dP,d.g,d.a⟩ with
    |none=>rfl
    |some g'=>rw[e,auK c] at o2;cases o2)
   have p3:g.b.length=0:=by rw[p1];rfl
   refine aCj O uM (S.aw λi r t hi _=>Q.f i hi id) zo g.b.length 0 [g.a] _ X _ _ zo gX G (λb e=>by cases e;omega) rfl aa aa aa λf2 R xs2 q2 P g2 kT=>?_;have q5:=q2 5 zo;have q8:=q2 8 zo;have q9:=q2 9 zo;have q11:=q2 11 zo;simp(disch:=omega) [f5,f8,f9] at q5 q8 q9 q11;have o:=(g1.ab Q).ab g2;have q7:∀q,q<=7->cg q f2=cg q u:=λq w=>by
    rw[q2 q zo]
    repeat rw[qA,atS zo]
   have fX:=(o.f _ lb id).trans hb;have lb2:=Hp.lt fX rfl;refine fY q8 q9 q11 D aY fX N aC.ca.eq_1 ?_;generalize hY:(Hp.am R _:Hp)=Y;have gY:ax R Y:=by rw[<-hY];exact aZ
   have hy:VX 40 3 Y (.c R.a 0 3 1 1 true) ([(⟨5,d.g,d.a⟩:Ty)].map Ty.ca):=⟨_,true,rfl,1,_,by rw[<-hY];exact Hp.ba rfl,by simp,λj C=>by
    obtain rfl:j=0:=by simp at C;omega
    simp[Ty.ca]⟩
   clear hY;refine aCi O (X:=[⟨5,d.g,d.a⟩]) (show 1<1073741824 by decide) hn hp (λx G=>by simp at G;subst G;exact o3 c) _ 0 Y _ _ (aue _) (y.g0 (o.ab gY)) hy (au q5) aa aa λf3 F l I=>?_;have U:=l 5 zo;have V:=l 8 zo;have r9:=l 9 zo;simp(disch:=omega) [q5,q8,q9] at U V r9;refine ag ?_;refine b8 f3 F U V r9 (λq w=>?_) ((o.ab gY).ab I);rw[l q zo,<-q7 q w]
   repeat rw[qA,atS zo]
end
section
variable {h:Hp}{k:aK->Prop}{lv:AV}{aq:List (List UInt8)}{bu:List UInt8->List aC}{lo t b:Nat}
def aDH(f:aA T)(m:∀H,tL 1 H v=.v (.i a.length)) (E:s.n<4294967296) (F:∀x,(s.c x).isSome=true->x.a=5) (hd:∀q,∀d∈bu q,aAQ s d):∀(n i:Nat)(h:Hp)(c:Fr)(K:aT->Prop),i+n=a.length->iE a fs aq bu us p h->iw lo p t fb b wb sb h s B->cg 0 c=v->cg 3 c=.a p 0->cg 5 c=.a t 0->cg 7 c=.i i->
 (∀j h',ax h h'->K (.a 0 j h' []))->W T (.d l3_3) c h [] K:=by
 intro n
 induction n with
 |zero=>
  intro i h c K hi x y f0 f3 f5 f7 l;simp only[aud] at hi;subst hi;rw[aP];refine aU f0 f7 (m h) ?_;exact l _ _ (ah.da _)
 |succ n G=>
  intro i h c K hi x y f0 f3 f5 f7 l;have g:i<a.length:=zo;have r:(i:Int)<a.length:=zo;have dl:=x.k;rw[aP];generalize C:CC.d l3_3=L;refine cq f0 f3 f7 (m h) g r ?_;refine aAC f x g ?_;refine ag ?_;refine aDF f x λw J g1 o=>?_;generalize D:CC.h (z q3 30)=Z;refine ag ?_;refine aDG f E F (x.n _) (hd _) _ 0 w _ _ (aue _) (y.g0 g1) o zA aa aa λI A q2 g2=>?_;have q0:=q2 0 zo;have q3:=q2 3 zo;have q5:=q2 5 zo;have q7:=q2 7 zo;simp(disch:=omega) [f0,f3,f5,f7] at q0 q3 q5 q7;subst D;refine aS q7 g ?_;subst C;have e:=g1.ab g2;exact G (i+1) A _ K zo (x.g0 e) (y.g0 e) (au q0) (au q3) (au q5) aa λj h' u=>l j h' (e.ab u)
end
def azE{N:Nat}:∀{ts:List Tree},kP N ts->∀t∈ts,m8 N t
 |t::ts,h,u,a=>by rcases atZ.1 a with rfl|q;exact h.1;exact azE h.2 u q
def azF{N:Nat}{t:Tree}(h:m8 N t):t.bv.length<=N/\kP N t.bv:=by cases t;exact h
def aDI{N:Nat}{q:Tree}(h:m8 N q):ayq q<=N+2:=by have:=azF h;unfold ayq;split;omega;split;rename_i r ps a e;have:=azF (azE this.2 ps (by rw[e];simp));omega;omega
def aCk{N:Nat}:∀{ts:List Tree},kP N ts->ayb ts<=ts.length*(N+2)
 |[],_=>by simp[ayb]
 |q::ts,h=>by
  have a:=aDI h.1;have b:=aCk h.2;have e:ayb (q::ts)=ayq q+ayb ts:=by simp[ayb]
  rw[e,atX,auC];omega
def aCl{N:Nat}{hi:Int}:∀{fs:List Tree},(∀t∈fs,rG N 0 hi t)->ax9 fs<=fs.length*(N*(N+2))
 |[],_=>by simp[ax9]
 |t::ts,h=>by
  have x:=h t zm;have a:=aCk x.b;have:t.bv.length*(N+2)<=N*(N+2):=at4 _ x.a;have b:=aCl (fs:=ts) λu c=>h u (by simp[c]);have e:ax9 (t::ts)=ayb t.bv+ax9 ts:=by simp[ax9]
  rw[e,atX,auC];omega
section
variable {aq:List (List UInt8)}
def aCm:∀(fs:List Tree)(j:Nat)(s:Q5),(ax3 us aq fs j s).n<=s.n+ax9 fs
 |[],_,s=>at2 _
 |t::ts,j,s=>by
  unfold ax3;have a:=aCm ts (j+1) (ayz us aq j t.bv s);have b:=azw (us:=us) (aq:=aq) (j:=j) t.bv s;have e:ax9 (t::ts)=ayb t.bv+ax9 ts:=by simp[ax9]
  rw[e];omega
end
def ayJ(o:AO):Prop:=rF o\/uw o\/ax1 o
abbrev iG:=DW ayJ λ_=>False
structure yQ(T:aM->Option CF)(h:Hp):Prop where
 g:Ax T h
 n:∀i,i<22->¬ayJ (h.ac i)
section
variable {h C:Hp}{k:aK->Prop}{A:List Doc}{rs:List (PR Tree)}{aq:List (List UInt8)}{s:Sc}{aG tb:Nat}{c0 c1 c2 c8:AV}
def iG.of(g:Fm h h'):iG h h':=⟨g.f,λi hi _ n=>g.d i hi (λq=>n (.inl q)) λq=>n (.inr (.inl q))⟩
def iG.mf(g:DW ax1 (λi=>h.a<=i) h h'):iG h h':=⟨g.j,λi hi _ n=>g.d i hi zo λq=>n (.inr (.inr q))⟩
def yQ.fm(x:yQ T h)(g:iG h h'):yQ T h':=by have n:=x.g.1;have e:∀i,i<22->h'.ac i=h.ac i:=λi hi=>g.d i zo id (x.n i hi);exact⟨⟨at1 n g.j,λC l a=>x.g.2 C (at1 g.j l) λi hi=>by rw[a i hi,e i hi]⟩,λi hi=>by rw[e i hi];exact x.n i hi⟩
def aCn(a:Ay A rs aq)(b:A.length<1073741824)(x:uC p aG tb c0 c1 c2 c8 h s)(y:TyP A rs aq p aG tb c0 c1 c2 c8 h)(e:s.b.length<1073741824):iE A (rs.map pB) aq (jG aq (rs.map pB) 0 l9).a s.b p h:=by obtain⟨f,d,c⟩:=x.a;refine⟨⟨c0,c1,c2,_,_,tb,c8,f,d,y.b,y.a.d,y.a.j,y.a.a,c⟩,b,by rw[avd];exact a.a,a.b,y.a.k,e⟩
structure PgK(fs:List Tree)(aq:List (List UInt8))(us:List dx):Prop where
 g:pq fs
 c:∀t∈fs,∀t'∈t.bv,ax8 t'
 d:ax9 fs<536870912
 a:ayg us aq (ax7 fs 0) (ax3 us aq fs 0 iF)
 b:UsI us (ax3 us aq fs 0 iF)
 f:(ax3 us aq fs 0 iF).n<536870912
def aCo(o:A.length<=6)(hd:∀d∈A,d.a.length<=9000) (b:Ay A rs aq) (ok:∀r∈rs,BF r) {f:cN}:PgK (rs.map pB) aq (Lw (rs.map pB) aq f).b:=by
 have n:=amx hd b ok;have l:=aC5 hd b ok;obtain⟨D,ow⟩:=Wb o hd b ok;have m:ax9 (rs.map pB)<536870912:=by have a:=aCl n;have:(rs.map pB).length*(9006*(9006+2))<=6*(9006*(9006+2)):=at4 _ (by have:=b.a;rw[avd];omega);omega
 have j:=aDC (us:=(Lw (rs.map pB) aq f).b) (aq:=aq) (rs.map pB) l;refine⟨alS λt y=>(D.w t y).2,l,m,j,λu z e g=>?_,?_⟩;obtain⟨q,w⟩:=((ow f).a u z).a e g;obtain⟨x,B,it,eq,i⟩:=(aCc (rs.map pB) q u.d).1 w;refine(j.o _).2 ⟨x,B,?_,?_⟩
 by_cases c:x.2.bi=3
 exact c;rw[i] at g;simp[ayE,c] at g;rw[i];rfl;have a:=aCm (us:=(Lw (rs.map pB) aq f).b) (aq:=aq) (rs.map pB) 0 iF;have:iF.n=0:=rfl;omega
def aDJ{fs:List Tree}{us:List dx}{hi:Int}(u:∀t∈fs,rG 9006 0 hi t) (x:PgK fs aq us) (nd:∀q,(((jG aq fs 0 l9).a q).map (·.a)).Nodup) (n:(ax3 us aq fs 0 iF).b=[]) {U:List Ty} (F:∀x,((ax3 us aq fs 0 iF).c x).isSome=true <-> x∈U) (w:WhP (ax3 us aq fs 0 iF) U []):∀q,∀d∈(jG aq fs 0 l9).a q,aAQ (ax3 us aq fs 0 iF) d:=by
 intro q d hd;have j:∀y∈ax7 fs 0,ax8 y.2 :=λy i=>by obtain⟨t,f,e⟩:=azy fs 0 i;exact x.c t f y.2 e
 have eT:∀{X:Ty},aye (ax3 us aq fs 0 iF) X->ayS (ax3 us aq fs 0 iF) X:=λE=>x.a.eT x.b j n F w E;obtain⟨G,l,H⟩:=x.a.nO x.b j n (aCc fs) nd hd;refine⟨λg B=>?_,?_,λe=>eT (H e)⟩;obtain⟨a,b,y,i,r,ps,ty,I,o,el⟩:=G g B;refine⟨?_,λm D=>eT (a m D),eT b⟩;obtain⟨t,f,e⟩:=azy fs 0 i;have z:=azF (azE (u t f).b _ e);have J:=azF (azE z.2 ps (by rw[o];simp));omega
 by_cases c:d.b=3
 rw[avf c];exact l.2 c;rw[auK c];cases e:((ax3 us aq fs 0 iF).d ⟨dP,d.g,d.a⟩).isSome with
 |false=>rfl
 |true=>exact absurd (l.1 e) c
def aDK(l:aA T)(hd:vV h v A)(G:A.length<1073741824)(hb:pC A<1073741824)(j:yQ T h)(u:∀(F:Hp)(k:aK->Prop),yQ T F->(∀h',iG F h'->k (.a (.d true) h'))->aE T (W T) ⟨5⟩ [] F k) (z:∀h',iG h h'->k (.a (.d true) h')):aE T (W T) ⟨3⟩ [v] h k:=by
 rw[ic l.t3];refine ag ?_;refine al1 l hd G hb ?_
 by_cases c:A.length<=6/\pC A<=9000
 obtain⟨c1,c2⟩:=c;have E:∀d∈A,d.a.length<=9000:=λd m=>by have:=We m;omega
 generalize hL:CC.d l3_3=L;refine aS c1 c2 ?_;refine acJ l hd G (λd m=>by have:=We m;omega) (λd m=>adn _ (by have:=E d m;omega)) j.g (λrs aq x ok=>(Wb c1 E x ok).1) (λC g2 Ie=>?_) (λrs aq f C D hF N g2=>?_) λrs aq s C p aG tb c0 S V c8 D hP N g2 ps R=>?_;refine ag ?_;refine u _ _ ((j.fm (iG.of g2)).fm (DW.of fZ)) λr b=>?_;refine ag ?_;exact z _ (((iG.of g2).ab (DW.of fZ)).ab b);refine aS cN.ca.eq_1 N ?_;refine u _ _ ((j.fm (iG.of g2)).fm (DW.of fZ)) λr b=>?_;refine ag ?_;exact z _ (((iG.of g2).ab (DW.of fZ)).ab b);refine ag ?_;generalize M:(Hp.bj (Hp.am _ _) _ _:Hp)=H;have K:ax C H:=by rw[<-M];exact fZ
 clear M;obtain⟨ok,f2,_,_,f3,_,J⟩:=hP;have x:=aCn D G ps R (by rw[J];exact((Wb c1 E D ok).1).a f3);have pk:PgK (rs.map pB) aq s.b:=by rw[J];exact aCo c1 E D ok
 have Q:=x.g0 K;have o:iG h H:=(iG.of g2).ab (DW.of K);refine aB3 l Q pk.c pk.g pk.d (pk.a.sA pk.b) pk.a.h5 (λr f ex U hf O w b=>?_) λr t fb pb wb sb B U oE O w b lt3 y=>?_;have ne:f.e≠0:=by rcases auj.1 hf with e|e;exact pk.a.A f e;exact w.e f e
 have a:=o.ab (iG.mf b);refine aS cN.ca.eq_1 ne ?_;refine u _ _ ((j.fm a).fm (DW.of fZ)) λh4 q=>?_;refine ag ?_;exact z _ ((a.ab (DW.of fZ)).ab q);have a:=o.ab (iG.mf b);have X:=pk.a.sA pk.b;have nt:=pk.f;have x3:=Q.rx b.j λi hi m _=>b.d i hi zo m;refine ag ?_;generalize P:(Hp.bj (Hp.am r _) _ _:Hp)=I;have q:ax r I:=by rw[<-P];exact fZ
 clear P;subst hL;refine aDH l (λH=>hd.px) zo X.c (aDJ (amx E D ok) pk R.c oE O w) A.length 0 I _ _ (aue _) (x3.g0 q) (y.g0 q) aa aa aa aa λf5 h5 Y=>?_;have n:=(a.ab (DW.of q)).ab (DW.of Y);refine ag ?_;refine u _ _ (j.fm n) λh6 Z=>?_;refine ag ?_;exact z _ (n.ab Z);refine aB c ?_;refine u _ _ j λh' g=>?_;refine ag ?_;exact z _ g
end
section
variable {h:Hp}
def amB(a:uU T)(L:xo h)(h5:aEO h 5)(i:aEO h 6)(f:Bi (h.ac 3))(g:Bj (h.ac 4))(g1:lO (h.ac 1)):Ax T h:=by
 refine⟨L.n,λh' l e=>?_⟩;have n:=L.n;have j:aEO h' 5:=⟨by omega,by rw[e 5 zo];exact h5.2⟩;have d:aEO h' 6:=⟨by omega,by rw[e 6 zo];exact i.2⟩;have b:Bi (h'.ac 3):=by rw[e 3 zo];exact f
 have c:Bj (h'.ac 4):=by rw[e 4 zo];exact g
 exact⟨aiT a.h d,ak2 a (L.kp e zo) j d,aiB a.h b c,aiK a.h b c,by rw[e 1 zo];exact g1⟩
end
section
open Go (IntKind)
open Go.Pinned (utf8FirstZ pow10Rows cheatRows)
def Wg(i:Nat):List AV:=[.s (if i=9\/i=10\/i=11\/i=12\/i=13\/i=32 then 1 else 0)]
def adB(i:Nat):List AV:=[.s (utf8FirstZ.getD i 0)]
def adC:List (Nat×Nat):=[(128,191),(160,191),(128,159),(144,191),(128,143)]
def adD(i:Nat):List AV:=[.s (adC.getD i (0,0)).1,.s (adC.getD i (0,0)).2]
def adE(i:Nat):List AV:=[.i (pw i)]
def Wh(i:Nat):List AV:=[.g .u64 (pow10Rows.getD i (0,0)).1,.g .u64 (pow10Rows.getD i (0,0)).2]
def Wi(i:Nat):List AV:=[.i (cheatRows.getD i (0,[])).1,S (cheatRows.getD i (0,[])).2]
def amC:Bi (.g 1 256 adB):=by
 refine⟨_,rfl,λi hi=>⟨_,rfl,?_⟩⟩;have:∀i,i<256->utf8FirstZ.getD i 0<256/\(utf8FirstZ.getD i 0<240->utf8FirstZ.getD i 0=2\/utf8FirstZ.getD i 0=3\/utf8FirstZ.getD i 0=4\/utf8FirstZ.getD i 0=19\/utf8FirstZ.getD i 0=35\/utf8FirstZ.getD i 0=52\/utf8FirstZ.getD i 0=68):=by decide+kernel
 exact this i hi
def amD:Bj (.g 2 16 adD):=⟨_,rfl,λ_ _=>⟨_,_,rfl⟩⟩
def amE:lO (.g 1 256 Wg):=by
 refine⟨_,rfl,λc=>?_⟩;have:∀i,i<256->(if i=9\/i=10\/i=11\/i=12\/i=13\/i=32 then 1 else 0)=(if uf (UInt8.ofNat i)=true then 1 else 0):=by decide+kernel
 have h:=this c.toNat c.toNat_lt;rw[UInt8.ofNat_toNat] at h;simp only[Wg,h]
def adF(s:Nat):Bool:=let C:=(cheatRows.getD s (0,[])).2
 decide (∀i,i<C.length->48<=Cn C i/\Cn C i<=57)&&decide (0<C.length/\C.length<100)&&decide (V (Cn C) C.length=5^s)&&decide (48<Cn C (C.length- 1))&&decide (((cheatRows.getD s (0,[])).1 :Int)=(s:Int)+1- C.length)&&decide (Cn C 0≠48)
def amF:∀s,s<61->s=0\/adF s=true:=by decide+kernel
def adG{vh k:Nat}{t:Nat->List AV}{x y:AV}(b:k<vh)(c:t k=[x,y]):cellsOf (.g 2 vh t) (k*2) 1=some [x]:=by have a:k+1<=vh:=b;simp[cellsOf,dY,a,c,gK,aEC,cond]
def adH{vh k:Nat}{t:Nat->List AV}{x y:AV}(d:k<vh)(e:t k=[x,y]):cellsOf (.g 2 vh t) (k*2+1) 1=some [y]:=by have a:k+1<=vh:=d;have b:(k*2+1)% 2=1:=zo;have c:(k*2+1)/2=k:=zo;simp[cellsOf,dY,b,c,a,e,gK,aEC,cond]
end
def Wj(s:List UInt8):Option (Int×Nat×Int):=
 if 0<gu s then
  if s.take (gu s)∈Cr then some (2,gu s,0) else if 40<gu s then none else if El (s.take (gu s))=false then none else some (1,gu s,0)
 else if 0<dU s then if zS s=true then none else if dU s=1 then some (3,1,0) else none
 else if s.head?=some 34 then if(ayj s).isSome=true then some (5,3,0) else none
 else if aEv s [59]=true then some (7,1,0) else if 0<aEH s then some (6,aEH s,0) else none
theorem amG{s:List UInt8}{r}(h:Wj s=some r)(o):fA o s=r/\r.2.2 =0:=by
 unfold Wj at h;unfold fA
 by_cases c1:0<gu s
 grind
 rw[atS c1] at h⊢
 by_cases c2:0<dU s
 grind
 rw[atS c2] at h⊢
 by_cases c3:s.head?=some 34
 rw[atV c3] at h;split at h<;>rename_i a;cases h;obtain⟨x,e⟩:=awk.1 a;obtain⟨r,c,_⟩:=azn e;have b:3<=s.length:=by grind
 rw[aBr e,atV ⟨c3,by omega⟩,awI b]
 grind
 grind
 grind
def Fk(s:List UInt8):Nat->Nat->Tk->List Tk->Option (List Tk)
 |0,_,_,_=>none
 |g+1,a,c,b=>
  if a<s.length then
   if s.getD a 0∈[32,9,13] then Fk s g (a+1) c b
   else if s.getD a 0=10 then Fk s g (a+1) t0 (b++vI c)
   else if aEv (s.drop a) [47,47]=true then none
   else match Wj (s.drop a) with
    |none=>none
    |some r=>Fk s g (a+r.2.1) ⟨r.1,(s.drop a).take r.2.1,a,a+r.2.1⟩ (b++[⟨r.1,(s.drop a).take r.2.1,a,a+r.2.1⟩])
  else some (b++vI c)
theorem PA(s:List UInt8):∀(g a:Nat)(d:Tk)(b l:List Tk),Fk s g a d b=some l->∀o,o9 s g o a d b=.c l 0
 |0,_,_,_,_,h,_=>by cases h
 |g+1,a,d,b,l,h,o=>by
  unfold Fk at h;unfold o9;split at h<;>rename_i c;rw[atV c];split at h<;>rename_i c1;rw[atV c1];exact PA s g _ _ _ _ h o;rw[atS c1];split at h<;>rename_i c2;rw[atV c2];exact PA s g _ _ _ _ h o;rw[atS c2];split at h<;>rename_i c3
  grind
  rw[atS c3];split at h
  grind
  rename_i r e;obtain⟨f,i⟩:=amG e (o 0);rw[f,atS zo];exact PA s g _ _ _ _ h _
  grind
def azG(l:List Tk):Bool:=(List.range l.length).all λn=> !bD (tk l n) [[105,109,112,111,114,116]]||((ayj (tk l (n+1)).b).isSome&&decide ((tk l (n+1)).b.length=3))
theorem aDL{l:List Tk}(h:azG l=true)(n:Nat)(e:bD (tk l n) [[105,109,112,111,114,116]]=true)(o o':List UInt8×Bool):ayk (tk l (n+1)).b o=ayk (tk l (n+1)).b o':=by
 have a:n<l.length:=by rcases avh n l.length with c|c;omega;rw[adi c] at e;exact absurd e zd
 have q:=auO.1 h n (aEj.2 a);rw[e] at q;simp at q;obtain⟨x,ex⟩:=awk.1 q.1;simp_all[ayk]
theorem amH{l:List Tk}(h:azG l=true):∀(f:Nat)(o o':Nat->List UInt8×Bool)(n:Nat)(a:List Tree),vH l f o n a=vH l f o' n a
 |0,_,_,_,_=>rfl
 |f+1,o,o',n,a=>by
  unfold vH;split<;>rename_i c;have e:Ac l (o 0) n=Ac l (o' 0) n:=by
   unfold Ac lR
   grind [PR.dk,aDL]
  rw[e];cases Ac l (o' 0) n with
  |c t m=>
   simp;cases mU l m with
   |c u q=>exact amH h f _ _ q _
   |i=>rfl
   |d=>rfl
  |i=>rfl
  |d=>rfl
  rfl
theorem amI{l:List Tk}(h:azG l=true)(sz:Nat)(o o':Nat->List UInt8×Bool):sj l sz o=sj l sz o':=by
 unfold sj Ad
 grind [amH]
def PD:Nat->List UInt8×Bool:=λ_=>([],false)
def Il(s:List UInt8):List Tk:=((Fk s (s.length+1) 0 t0 []).getD [])++[fD s]
def Im(s:List UInt8):Tree:=pB (sj (Il s) s.length PD)
def Io(s:List UInt8):Bool:=decide (s.length<=9000)&&(Fk s (s.length+1) 0 t0 []).isSome&&azG (Il s)&&(match sj (Il s) s.length PD with|.c _ _=>true|_=>false)&& !decide (yu (Im s) 64 (s.length+1)<=s.length)&&s.all λc=>decide (c.toNat<128)
theorem adJ{s:List UInt8}(h:Io s=true):s.length<=9000/\∀r,O4 s r->∃n,r=.c (Im s) n:=by
 simp only[Io,atW,auU,avT,awn,auO] at h;obtain⟨⟨⟨⟨⟨k,m⟩,p⟩,a⟩,h5⟩,u⟩:=h;refine⟨k,λr ⟨b,o,oi,f,e⟩=>?_⟩;have f:=f u;obtain⟨l,el⟩:=awk.1 m;have g:=PA s _ _ _ _ _ el o;have j:Il s=l++[fD s]:=by unfold Il;grind
 subst e;unfold Al tf;rw[atS zo,atS zo,g];show∃n,(sj (l++[fD s]) s.length oi).dk _=_;rw[<-j,amI p _ oi PD];unfold Im at h5⊢;revert a h5;generalize sj (Il s) s.length PD=q;intro h5 a;cases q with
 |c t n=>exact⟨n,atS h5⟩
 |i=>grind
 |d=>grind
def ayA(s:List UInt8):List UInt8:=[112,97,99,107,97,103,101,32,112,59,32]++s
def aza:List UInt8:=[112,97,99,107,97,103,101,32,113,59,32,116,121,112,101,32,85,32,115,116,114,117,99,116,32,123,32,78,32,105,110,116,59,32,109,32,98,111,111,108,32,125]
def ayi:List UInt8:=[105,109,112,111,114,116,32,34,113,34,59,32,116,121,112,101,32,84,32,115,116,114,117,99,116,32,123,32,97,32,113,46,85,59,32,98,32,84,50,32,125,59,32,116,121,112,101,32,84,50,32,115,116,114,117,99,116,32,123,125]
def ayr:List UInt8:=[116,121,112,101,32,84,32,115,116,114,117,99,116,32,123,32,97,32,85,32,125]
def aCp:Io aza=true:=by rfl
def aDM:Io (ayA ayi)=true:=by rfl
def aDN:Io (ayA ayr)=true:=by rfl
def ayw:List (List UInt8):=[[112],[113]]
def ayT:List UInt8:=[102,105,108,101,58,47,47,47,112,47,97,46,103,111]
def ayU:List UInt8:=[102,105,108,101,58,47,47,47,113,47,98,46,103,111]
def ayh(s:List UInt8):List Doc:=[⟨ayT,ayA s,0⟩,⟨ayU,aza,0⟩]
def ayB(s:List UInt8):List Tree:=[Im (ayA s),Im aza]
def scW(s:List UInt8):Sc:=Lw (ayB s) ayw vW
def oN(s:List UInt8):Q5:=ax3 (scW s).b ayw (ayB s) 0 iF
def aCq{s:List UInt8}{rs:List (PR Tree)}{aq:List (List UInt8)}(l:Io (ayA s)=true)(x:Ay (ayh s) rs aq):∃n m,rs=[.c (Im (ayA s)) n,.c (Im aza) m]/\aq=ayw:=by
 obtain⟨i,k,a,b⟩:=x
 match rs,aq,i,k,a,b with
 |[r,o],[d,g],_,_,a,b=>
  obtain⟨n,e⟩:=(adJ l).2 r (a 0 zm (by simp[ayh]));obtain⟨m,h⟩:=(adJ aCp).2 o (a 1 zm (by simp[ayh]));have c:rZ ayT=some d:=b 0 (by simp[ayh]);have f:rZ ayU=some g:=b 1 (by simp[ayh]);rw[show rZ ayT=some [112] by decide+kernel] at c;rw[show rZ ayU=some [113] by decide+kernel] at f;exact⟨n,m,by rw[e,h],by cases c;cases f;rfl⟩
section
variable {aq:List (List UInt8)}
def aAR(fs:List Tree)(aq:List (List UInt8))(a to:List UInt8):Bool:=decide (a=to)||(List.range fs.length).any λi=>decide (aq.getD i []=a)&&(fs.getD i zT).bv.any λt=>decide (t.bi=2)
def aDO{a to:List UInt8}(h:aAR fs aq a to=false):¬ayM fs aq a to:=by simp only[aAR,Bool.or_eq_false_iff,awn] at h;rintro(e|⟨i,hi,e,t,b,k⟩);exact h.1 e;have:=List.any_eq_false.1 h.2 i (aEj.2 hi);refine this ?_;rw[avf e,av8];exact awE.2 ⟨t,by simpa[List.getD,hi] using b,avf k⟩
def azH(fs:List Tree)(aq:List (List UInt8))(j:Nat):List Tree->Bool
 |[]=>true
 |t::ts=>if t.bi=2 then decide (t.bc∈aq)&& !aAR fs aq t.bc (aq.getD j [])&&ts.all λu=>decide (u.bi≠2) else azH fs aq j ts
def aCr:∀(ts:List Tree),azH fs aq j ts=true->aym fs aq j ts
 |[],_=>trivial
 |t::ts,h=>by unfold azH at h;unfold aym;split at h<;>rename_i c;rw[atV c];simp only[atW,auU,avT,auO] at h;exact⟨h.1.1,aDO h.1.2,h.2⟩;rw[atS c];exact aCr ts h
def ayV(aq:List (List UInt8))(L:List (Nat×Tree)):List (List UInt8):=L.flatMap λx=>[aq.getD x.1 [],aq.getD x.1 []++[32]++x.2.bc,aq.getD x.1 []++[32]++((x.2.bv.headD zT).bv.headD zT).bc]
def aAS(aq:List (List UInt8))(L:List (Nat×Tree))(s:jv):Prop:=∀q,q∉ayV aq L->s.a q=[]/\s.b (1,q)=[]/\s.b (2,q)=[]
def azI{B:Kk->List aC}{x:List aC}{c c':Nat}{k q:List UInt8}(h:c'≠c\/q≠k):iY B (c,k) x (c',q)=B (c',q):=E6 λe=>by cases e;rcases h with h|h<;>exact h rfl
def aCs{vm key q:List UInt8}(e:q≠key):∀(ts:List Tree)(s:jv),(yL vm key j ts s).b (1,q)=s.b (1,q)/\(yL vm key j ts s).b (2,q)=s.b (2,q)/\(yL vm key j ts s).a=s.a
 |[],_=>⟨rfl,rfl,rfl⟩
 |t::ts,s=>by unfold yL;obtain⟨a,b,c⟩:=aCs e ts {s with d:=⟨5,t.bc,j,t.at,vm⟩::s.d,b:=iY s.b (1,key) (s.b (1,key)++[⟨5,t.bc,j,t.at,vm⟩])};refine⟨a.trans ?_,b.trans ?_,c⟩;exact azI (B:=s.b) (x:=s.b (1,key)++[⟨5,t.bc,j,t.at,vm⟩]) (c:=1) (c':=1) (k:=key) (.inr e);exact azI (B:=s.b) (x:=s.b (1,key)++[⟨5,t.bc,j,t.at,vm⟩]) (c:=1) (c':=2) (k:=key) (.inl zd)
def aDP(L:List (Nat×Tree))(x:Nat×Tree)(s:jv)(h:aAS aq L s):aAS aq (L++[x]) (kX (aq.getD x.1 []) x.1 x.2 s):=by
 intro q e;have f:q∉ayV aq L/\q≠aq.getD x.1 []/\q≠aq.getD x.1 []++[32]++x.2.bc/\q≠aq.getD x.1 []++[32]++((x.2.bv.headD zT).bv.headD zT).bc:=by unfold ayV at e⊢;rw[List.flatMap_append,auj,aEi] at e;refine⟨e.1,?_⟩;have:=e.2;rw[List.flatMap_singleton] at this;simp only[atZ,awg,axx,aEi] at this;exact this
 obtain⟨q0,q1,q2,q3⟩:=f;obtain⟨a,b,c⟩:=h q q0;have nt:∀l,vQ s.a (aq.getD x.1 []) l q=[]:=λl=>by unfold vQ;rw[atS q1];exact a
 unfold kX;split;exact⟨a,b,c⟩;split;obtain⟨g,i,m⟩:=aCs (vm:=aq.getD x.1 []) (j:=x.1) q2 x.2.bv {s with a:=vQ s.a (aq.getD x.1 []) (s.a (aq.getD x.1 [])++[⟨2,x.2.bc,x.1,x.2.at,aq.getD x.1 []⟩]),d:=⟨2,x.2.bc,x.1,x.2.at,aq.getD x.1 []⟩::s.d};exact⟨by rw[m];exact nt _,g.trans b,i.trans c⟩;split;exact⟨nt _,b,c⟩;exact⟨a,(azI (B:=s.b) (x:=s.b (2,aq.getD x.1 []++[32]++((x.2.bv.headD zT).bv.headD zT).bc)++[⟨4,x.2.bc,x.1,x.2.at,aq.getD x.1 []⟩]) (k:=aq.getD x.1 []++[32]++((x.2.bv.headD zT).bv.headD zT).bc) (c:=2) (c':=1) (.inl zd)).trans b,(azI (B:=s.b) (x:=s.b (2,aq.getD x.1 []++[32]++((x.2.bv.headD zT).bv.headD zT).bc)++[⟨4,x.2.bc,x.1,x.2.at,aq.getD x.1 []⟩]) (c:=2) (c':=2) (.inr q3)).trans c⟩
def aCt:aAS aq (ax7 fs 0) (jG aq fs 0 l9):=by rw[aAP];exact azz (λ_=>True) (λL x s _=>aDP L x s) (ax7 fs 0) [] l9 (λ_ _=>trivial) (λq _=>⟨rfl,rfl,rfl⟩)
def azb(fs:List Tree)(aq:List (List UInt8)):Bool:=
 ((List.range fs.length).all λj=>decide ((fs.getD j zT).bc=aq.getD j [])&&azH fs aq j (fs.getD j zT).bv)&&
 ((ayV aq (ax7 fs 0)).all λq=>decide ((((jG aq fs 0 l9).b (1,q)++(jG aq fs 0 l9).b (2,q)).map (·.a)).Nodup)&&decide ((((jG aq fs 0 l9).a q).map (·.a)).Nodup))&&
 (jG aq fs 0 l9).c.all λd=>decide (uy ((jG aq fs 0 l9).a (aq.getD d.c.toNat [])) d.a=none)
def aDQ(h:azb fs aq=true):Ih fs aq/\Lv fs aq:=by
 simp only[azb,atW,auO,auU] at h;obtain⟨⟨f,i⟩,k⟩:=h;have g:∀j(a:j<fs.length),fs.getD j zT=fs[j]:=λj a=>by simp[List.getD,a]
 refine⟨⟨λj a=>by rw[<-g j a];exact(f j (aEj.2 a)).1,λj a=>by rw[<-g j a];exact aCr _ (f j (aEj.2 a)).2⟩,λq=>?_,λd hd l e=>?_,λq=>?_⟩
 by_cases c:q∈ayV aq (ax7 fs 0)
 exact(i q c).1;obtain⟨_,b,c⟩:=aCt (fs:=fs) q c;rw[b,c];exact aEe;have:=k d hd;rwa[e,awr] at this
 by_cases c:q∈ayV aq (ax7 fs 0)
 exact(i q c).2;rw[(aCt (fs:=fs) q c).1];exact aEe
end
section
variable {F:Ty->List Mem}
mutual
def ayW(F:Ty->List Mem):TT->Bool
 |.mk x a=>decide (0<=x.a/\x.a<=5)&&(decide (x.a=5)||(F x).isEmpty)&&decide (a.map TT.ty=(F x).map (·.t))&&azJ F a
def azJ(F:Ty->List Mem):List TT->Bool
 |[]=>true
 |t::ts=>ayW F t&&azJ F ts
end
mutual
theorem azK:∀D:TT,ayW F D=true->iA F D
 |.mk x f,h=>by unfold ayW at h;simp only[atW,awq,auU,List.isEmpty_iff] at h;obtain⟨⟨⟨a,b⟩,c⟩,d⟩:=h;exact⟨a,λe=>b.resolve_left e,c,aCu f d⟩
theorem aCu:∀a:List TT,azJ F a=true->aya F a
 |[],_=>trivial
 |t::ts,h=>by unfold azJ at h;simp only[atW] at h;exact⟨azK t h.1,aCu ts h.2⟩
end
def aCv:∀{a:List TT},aya F a->∀q∈a,iA F q
 |t::ts,h,q,b=>by rcases atZ.1 b with rfl|e;exact h.1;exact aCv h.2 q e
def aCw{D:TT}(u:iA F D){m:Mem}(c:m∈F D.ty):∃E:TT,E.ty=m.t/\iA F E/\sizeOf E<sizeOf D:=by
 cases D with
 |mk x d=>
  unfold iA at u;have a:m.t∈d.map TT.ty:=by rw[u.2.2.1];exact awJ c
  obtain⟨E,b,e⟩:=auR.1 a;refine⟨E,e,aCv u.2.2.2 E b,?_⟩;have:=aEm b;simp only[TT.mk.sizeOf_spec];omega
def aDR{x y:Ty}(r:gL F x y):∀D:TT,D.ty=x->iA F D->∃E:TT,E.ty=y/\iA F E/\sizeOf E<sizeOf D:=by
 induction r with
 |b c _=>intro D e u;subst e;exact aCw u c
 |a _ c _ g=>
  intro D e u;obtain⟨E,d,h,k⟩:=g D e u;subst d;obtain⟨G,f,i,l⟩:=aCw h c;exact⟨G,f,i,by omega⟩
def aDS{D:TT}(u:iA F D):¬gL F D.ty D.ty:=λr=>by obtain⟨E,e,a,l⟩:=aDR r D rfl u;rw[iA.AC a u e] at l;omega
def azL(F:Ty->List Mem)(aq:List (List UInt8))(L:List (Nat×Tree))(cs:List TT):Bool:=L.all λz=>decide (z.2.bi≠3)||cs.any λD=>decide (D.ty=ayo aq z)&&ayW F D&&decide (iD D<=256)
def aDT{us:List dx}{aq:List (List UInt8)}{L:List (Nat×Tree)}{s:Q5}{U:List Ty}{ex:List cN}{cs:List TT}(h:azL s.a aq L cs=true)(k:ayg us aq L s)(g:∀x,(s.c x).isSome=true <-> x∈U) (w:WhP s U ex):ex=[]:=by refine w.n λx d=>?_;obtain⟨z,f,i,rfl⟩:=(k.o x).1 ((g x).2 d);have a:=auO.1 h z f;simp only[awq,auU] at a;have b:=a.resolve_left (by simp[i]);obtain⟨D,m,c⟩:=awE.1 b;simp only[atW,auU] at c;obtain⟨⟨c1,c2⟩,c3⟩:=c;have u:=azK D c2;rw[<-c1];exact⟨aDS u,λE e l=>by rw[iA.AC l u e];exact c3⟩
end
def tT2:TT:=.mk ⟨5,[112],[84,50]⟩ []
def tU:TT:=.mk ⟨5,[113],[85]⟩ [.mk ⟨1,[],[]⟩ [],.mk ⟨2,[],[]⟩ []]
def tT:TT:=.mk ⟨5,[112],[84]⟩ [tU,tT2]
def tW:TT:=.mk ⟨5,[112],[84]⟩ [.mk ⟨0,[],[]⟩ []]
def aDU:azb (ayB ayi) ayw=true:=by decide+kernel
def aDV:azb (ayB ayr) ayw=true:=by decide+kernel
def OI:(scW ayi).a.e=0:=by decide+kernel
def aDW:(scW ayr).a.e=0:=by decide+kernel
def ct2:azL (oN ayi).a ayw (ax7 (ayB ayi) 0) [tT,tT2,tU]=true:=by decide+kernel
def ctW:azL (oN ayr).a ayw (ax7 (ayB ayr) 0) [tW,tU]=true:=by decide+kernel
def ft2:(oN ayi).b.isEmpty=true:=by decide+kernel
def ftW:(oN ayr).b.map (λf=>(f.b,f.a,f.e))=[(0,29,12)]:=by decide+kernel
def pl2:((oN ayi).c ⟨5,[112],[84]⟩).isSome=true/\((oN ayi).c ⟨5,[112],[84,50]⟩).isSome=true/\((oN ayi).a ⟨5,[112],[84]⟩).length=2/\iD tT=3/\iD tT2=1/\ayW (oN ayi).a tT=true/\ayW (oN ayi).a tT2=true:=by decide+kernel
section
variable {h:Hp}{k:aK->Prop}{s:List UInt8}
structure aDX(s:List UInt8)(cs:List TT):Prop where
 g:Io (ayA s)=true
 c:azb (ayB s) ayw=true
 e:(scW s).a.e=0
 t:azL (oN s).a ayw (ax7 (ayB s) 0) cs=true
theorem iG.bj{h':Hp}{i:Nat}{o:AO}(x:iG h h')(hi:h.a<=i):iG h (h'.bj i o):=⟨at1 x.j (by rw[Hp.ii];exact Nat.le_max_left _ _),λj a m n=>(Hp.du zo).trans (x.d j a m n)⟩
def al7(I:aA T)(hg:yQ T h){cs:List TT}(ev:aDX s cs)(hN:∀h' f,f∈(oN s).b->iG h h'->k (.a (.p [.w,.j f.ca]) h'))
 (hP:∀h' lo p t fb pb wb sb B,(oN s).b=[]->(oN s).n<536870912->iG h h'->iw lo p t fb pb wb sb h' (oN s) B->k (.a (.p [.a t 0,.j [.i 0,.i 0,.i 0]]) h')):aE T (W T) ⟨12⟩ [S s] h k:=by
 have O:=(adJ ev.g).1;have hls:s.length<=9000:=by simp only[ayA,auk] at O;omega
 have hc:=Tc (l:=[112,97,99,107,97,103,101,32,112,59,32]) (m:=s) (by simp only[atX,aup];omega);rw[ic I.t12];refine aB hc ?_;have eP:(112::97::99::107::97::103::101::32::112::59::32::s)=ayA s:=rfl;rw[eP];generalize C:(Hp.am (Hp.am _ _) _:Hp)=H;have P:ax h H:=by rw[<-C];exact aZ
 have F:H.ac h.a=.a 28 [.i 0,.i 0,.i 0]:=by rw[<-C];exact aa
 have hd:vV H (.c (h.a+1) 0 3 2 2 true) (ayh s):=by
  refine .inr ⟨h.a+1,2,true,2,_,rfl,.inl ⟨0,by rw[<-C];exact Hp.ba rfl⟩,by simp[ayh],λj hj=>?_⟩;have eY:j=0\/j=1:=by simp[ayh] at hj;omega
  rcases eY with rfl|rfl<;>simp[ayh,Doc.ca,ayT,ayU,aza]
 clear C;have E:∀d∈ayh s,d.a.length<=9000:=λd m=>by simp only[ayh,atZ,awg,axx] at m;rcases m with rfl|rfl;exact O;exact(adJ aCp).1
 have L:(ayh s).length<=6:=(show 2<=6 by decide);obtain⟨Y,Z⟩:=aDQ ev.c;have l3:=Hp.lt F rfl;refine acJ I hd (show 2<1073741824 by decide) (λd m=>?_) (λd m=>adn _ (by have:=E d m;omega)) (hg.fm (DW.of P)).g (λrs aq x ok=>(Wb L E x ok).1) (λA g2 Ie=>?_) (λrs aq f A i hF D g2=>?_) λrs aq s' A p aG tb c0 c1' c2' c8 i M D g2 ps yp=>?_;simp only[ayh,atZ,awg,axx] at m;rcases m with rfl|rfl<;>exact(show 14<1073741824 by decide);exfalso;rcases Ie with⟨m,hm,c⟩|⟨d,hd,c⟩;have yg:m=0:=by simp[ayh] at hm;omega
 subst yg;exact absurd c (show¬0<=ayN ayT ayU by decide+kernel);simp only[ayh,atZ,awg,axx] at hd;rcases hd with rfl|rfl;exact absurd c (show rZ ayT≠none by decide+kernel);exact absurd c (show rZ ayU≠none by decide+kernel);exfalso;obtain⟨n,m,rfl,rfl⟩:=aCq ev.g i;rcases hF with e|⟨_,f2,a,c⟩;have e:f=vW:=e;subst e;exact D rfl;have a:=a Y;subst a;rcases c with e|⟨_,f3,b,e⟩;subst e;exact D rfl;have b:=b Z;subst b;have e:f=(scW s).a:=e;subst e;exact D ev.e;obtain⟨n,m,rfl,rfl⟩:=aCq ev.g i;obtain⟨ok,f2,a,_,f3,b,J⟩:=M;have a:=a Y;subst a;have b:=b Z;subst b;have J:s'=scW s:=J;subst J;have K:iG h A:=(DW.of P).ab (iG.of g2);refine ag ?_;generalize N:(Hp.bj (Hp.am _ _) _ _:Hp)=G;have g:ax A G:=by rw[<-N];exact fZ
 clear N;have z:G.ac h.a=.a 28 [.i 0,.i 0,.i 0]:=by have e:=(g2.d _ l3 (by rw[F];rintro⟨_,_,q⟩;cases q) (by rw[F];rintro⟨_,_,q⟩;cases q)).trans F;exact(g.f _ (Hp.lt e rfl) id).trans e
 have x:=aCn i (show 2<1073741824 by decide) ps yp ((Wb L E i ok).1.a vW);have pk:PgK (ayB s) ayw (scW s).b:=aCo L E i ok;have xH:=x.g0 g;have r:iG h G:=K.ab (DW.of g);have v:∀l,¬ax1 (.a 28 l):=by rintro l (⟨_,_,q⟩|⟨_,_,q⟩)<;>cases q
 have X:=Hp.lt z rfl;refine aB3 I xH pk.c pk.g pk.d (pk.a.sA pk.b) pk.a.h5 (λQ f ex U R V w u=>?_) λQ t fb pb wb sb B U oE V w u lt3 y=>?_;have ee:=aDT ev.t pk.a V w;subst ee;rw[av5] at R;have o:=(u.d _ X zo (by rw[z];exact v _)).trans z;have lw:=Hp.lt o rfl;refine aS cN.ca.eq_1 o ?_;exact hN (Q.bj h.a (.a 28 f.ca)) f R (iG.bj (r.ab (iG.mf u)) zl);have o:=(u.d _ X zo (by rw[z];exact v _)).trans z;have lw:=Hp.lt o rfl;refine aB o ?_;exact hP _ _ _ _ _ _ _ _ _ oE pk.f (iG.bj (r.ab (iG.mf u)) zl) (y.g1 o zd)
end
section
variable {h:Hp}{k:aK->Prop}{s:List UInt8}{c:UInt8}
def aDY(a:aA T)(e:s.length<4294967296)(b:s≠[c])(d:k (.a (.i (rf s c)) h)):aE T (W T) ⟨44⟩ [S s,S [c]] h k:=by rw[ic a.t44];refine ag ?_;rw[ic a.t66];refine aS b (Ne.symm b) ?_;refine Z4 a ?_;refine ag ?_;exact d
def aDZ(a:aA T)(j:yQ T h)(l:∀h',iG h h'->k (.a (.d true) h')):aE T (W T) ⟨17⟩ [S ayr,S [85],.i 0,.i 12] h k:=by
 rw[ic a.t17];refine ag ?_;refine al7 a j (s:=ayr) ⟨aDN,aDV,aDW,ctW⟩ (λg f i g1=>?_) λg lo p t fb o wb sb B n _ g1 y=>?_;have e:f.ca=[.i 0,.i 29,.i 12]:=by
  have m:(f.b,f.a,f.e)∈[((0:Int),(29:Int),(12:Int))]:=by rw[<-ftW];exact auR.2 ⟨f,i,rfl⟩
  simp only[awQ,avj] at m;rw[cN.ca,m.1,m.2.1,m.2.2]
 refine aB e ?_;have b:(if((ayr.length:Nat):Int)<0 then((ayr.length:Nat):Int) else 0).toNat=0:=by decide
 rw[b,axq];refine aDY a zd zd ?_;rw[show rf ayr 85=18 by decide];have d:cJ (.b [.b .i64,.b .i64,.b .i64]) (.j [.i 0,.i 29,.i 12]) (.j [.i 0,.i 29,.i 12])=some true:=by simp[cJ,yX,aAy]
 refine aB d ?_;exact l _ (g1.ab (DW.of fZ));exfalso;have:=ftW;rw[n] at this;cases this
end
section
variable {h:Hp}{k:aK->Prop}{s nm:List UInt8}{c:UInt8}
def aAT(a:aA T)(b:∀h',ax h h'->k (.a (.j [.i 5,S [112],S nm]) h')):aE T (W T) ⟨15⟩ [S nm] h k:=by rw[ic a.t15];refine ag ?_;exact b _ fZ
def aD0(a:aA T)(v:yQ T h)(n:∀h',iG h h'->k (.a (.d true) h')):aE T (W T) ⟨5⟩ [] h k:=by
 rw[ic a.t5];have j:∀(h:Hp)(k:aK->Prop),k (.a (S ayi) h)->aE T (W T) ⟨13⟩ [] h k:=λh k n=>by rw[ic a.t13];refine ag ?_;exact n
 obtain⟨L,M,N,O,P,Q,R⟩:=pl2;refine ag ?_;refine j _ _ ?_;refine ag ?_;refine al7 a v (s:=ayi) ⟨aDM,aDU,OI,ct2⟩ (λq f u g1=>?_) λq lo p t fb pb wb sb B oE J g1 y=>?_;have:=ft2;rw[List.isEmpty_iff] at this;rw[this] at u;cases u;generalize oN ayi=s at*;have U:iA s.a tT:=azK _ Q;have o:iA s.a tT2:=azK _ R;refine ag ?_;generalize r:(Hp.bj (Hp.am _ _) _ _:Hp)=H;have G:ax q H:=by rw[<-r];exact fZ
 clear r;refine aAT a λV g2=>?_;have b:=G.ab g2;refine ag ?_;refine ay8 a (y.g0 b) zo (D:=tT) (.inl L) U λX w=>?_;rw[O];have l:=b.ab w;refine ag ?_;refine aAT a λY z=>?_;have d:=l.ab z;refine ag ?_;refine ay8 a (y.g0 d) zo (D:=tT2) (.inl M) o λh5 A=>?_;rw[P];have m:=d.ab A;refine ag ?_;refine aAT a λZ C=>?_;have e:=m.ab C;refine ag ?_;refine aDx a (x:=⟨5,[112],[84]⟩) (y.g0 e) J λI v7 E K=>?_;have g:=e.ab E;have i:=K.px (H:=I);rw[avd,N] at i;refine aB i ?_;refine aDZ a (v.fm (g1.ab (DW.of g))) λh8 F=>?_;refine ag ?_;exact n _ ((g1.ab (DW.of g)).ab F)
end
section
open Go (IntKind)
open Go.Pinned (utf8FirstZ pow10Rows cheatRows)
def bsZ:List Nat:=[4607182418800017408,4621819117588971520,4636737291354636288,4652007308841189376,4666723172467343360,4681608360884174848,4696837146684686336,4711630319722168320,4726483295884279808,4741671816366391296,4756540486875873280,4771362005757984768,4786511204640096256,4801453603149578240,4816244402031689728,4831355200913801216,4846369599423283200,4861130398305394688,4876203697187506176,4891288408196988160,4906019910204099648,4921056587992461136,4936209963552724370]
def adP(i:Nat):List AV:=[.u .f64 (bsZ.getD i 0)]
def amO(_:Nat):List AV:=[.g .u64 52,.g .u64 11,.i (-1023)]
def xB(t:Nat×Nat)(o:AO)(i:Nat):AO:=
 match i with
 |1=>.g 1 256 Wg
 |3=>.g 1 256 adB
 |4=>.g 2 16 adD
 |5=>.g 1 1 λ_=>[.r t.1 .B]
 |6=>.g 1 1 λ_=>[.r t.2 .B]
 |8=>.g 1 1 λ_=>[.d true]
 |9=>.g 3 1 amO
 |11=>.g 1 1 λ_=>[.c 19 0 1 9 9 true]
 |12=>.g 1 1 λ_=>[.c 21 0 1 23 23 true]
 |13=>.g 2 696 Wh
 |15=>.g 1 1 λ_=>[.c 20 0 2 61 61 true]
 |19=>.g 1 9 adE
 |20=>.g 2 61 Wi
 |21=>.g 1 23 adP
 |22=>o
 |n=>if n<22 then .f else .h
def nL(t:Nat×Nat)(o:AO):Hp:=⟨xB t o,23,[],λi hi=>by unfold xB;split<;>first|omega|(rw [atS zo])⟩
def adQ(t:Nat×Nat)(o:AO)(i:Nat):(nL t o).ac i=xB t o i:=rfl
def amP:∀i,i<23->Bn (bsZ.getD i 0)=true:=by decide+kernel
def amQ{t:Nat×Nat}{o:AO}:xo (nL t o) where
 n:=by show 22<=23;decide
 c:=⟨20,61,true,λs=>(cheatRows.getD s (0,[])).1,λs=>(cheatRows.getD s (0,[])).2,rfl,by decide,λs q r=>by refine⟨adG (t:=Wi) zo rfl,adH (t:=Wi) zo rfl,?_⟩;have h:=(amF s zo).resolve_left zo;simp only[adF,atW,auU] at h;obtain⟨⟨⟨⟨⟨e,g⟩,k⟩,l⟩,m⟩,p⟩:=h;exact⟨e,g,k,l,m,p⟩⟩
 j:=⟨19,9,true,rfl,by decide,λi hi=>sY (t:=adE) hi⟩
 b:=⟨rfl,rfl,rfl⟩
 a:=λi hi=>⟨_,_,adG (t:=Wh) hi rfl,adH (t:=Wh) hi rfl⟩
 f:=⟨21,23,true,rfl,by decide,λi hi=>⟨_,sY (t:=adP) hi,amP i hi⟩⟩
 d:=rfl
def LD{t:Nat×Nat}{o:AO}(a:¬ayJ o){i:Nat}(hi:i<23):¬ayJ ((nL t o).ac i):=by rw[adQ];intro x;unfold xB at x;split at x<;>first|exact a x|(rcases x with⟨r,f,e⟩|⟨r,f,e⟩|⟨r,f,e⟩|⟨r,f,e⟩<;>first|(cases e;done)|(split at e<;>cases e))
def adR(a:uU T){t:Nat×Nat}{o:AO}(b:¬ayJ o):yQ T (nL t o) where
 g:=amB a amQ ⟨by show 5<23;decide,_,_,rfl⟩ ⟨by show 6<23;decide,_,_,rfl⟩ amC amD amE
 n:=λi hi=>LD b zo
def aCx(d:aA T){h:Hp}{k:aK->Prop}{v:AV}{c:List Doc}(hd:vV h v c)(i:c.length<1073741824)(e:pC c<1073741824)(f:yQ T h)(g:∀h',iG h h'->k (.a (.d true) h')):aE T (W T) ⟨3⟩ [v] h k:=aDK d hd i e f (λ_ _ a b=>aD0 d a b) g
def aCy{r n:Nat}{t:N3 (List AV)}:¬ayJ (.g r n t):=by rintro(⟨_,_,e⟩|⟨_,_,e⟩|⟨_,_,e⟩|⟨_,_,e⟩)<;>cases e
def aCz:¬ayJ .f:=by rintro(⟨_,_,e⟩|⟨_,_,e⟩|⟨_,_,e⟩|⟨_,_,e⟩)<;>cases e
def amR(c:uU T){t:Nat×Nat}{a:List Doc}{r cap:Nat}{ex:Bool}{b:Nat->List AV}{k:aK->Prop}(h:a.length<=r)(l:∀j,(m:j<a.length)->b j=a[j].ca) (f:a.length<1073741824) (d:pC a<1073741824)
 (e:∀h',(∀i,i<23->h'.ac i=(nL t (.g 3 r b)).ac i)->k (.a (.d true) h')):aE T (W T) ⟨3⟩ [.c 22 0 3 a.length cap ex] (nL t (.g 3 r b)) k:=
 aCx c.h (.inr ⟨22,cap,ex,r,b,rfl,.inr rfl,h,l⟩) f d (adR c aCy) λh' g=>e h' λi hi=>g.d i hi id (LD aCy hi)
def amS(a:uU T){t:Nat×Nat}{k:aK->Prop}(b:∀h',(∀i,i<23->h'.ac i=(nL t .f).ac i)->k (.a (.d true) h')):aE T (W T) ⟨3⟩ [.o] (nL t .f) k:=
 aCx a.h (.inl ⟨rfl,rfl⟩) zd zd (adR a aCz) λh' g=>b h' λi hi=>g.d i hi id (LD aCz hi)
end
section
open Go
variable {P:Program}{B b:Nat->Nat}
noncomputable def mG(P:Program)(w:World)(B b:Nat->Nat):kf where
 f:=λi=>i<23
 a:=B
 c:=b
 g:=λi=>match w.heap[B i]? with|some (.cells d _ _)=>d.size|_=>0
 m:=λi=>(w.heap[B i]?).getD default
 l:=P
def aod(c:P.globals.size<=19)(hB:∀i,i<19->B i=i/\b i=0):jq (mG P w B b) P:=⟨rfl,λg a _=>
 ⟨show gid g<23 by show g<23;omega,(hB g zo).1,(hB g zo).2⟩⟩
def WX{i rw vh:Nat}{t:N3 (List AV)}{c:Array Value}{el:Nat}{g:Nat×Nat}(s:w.heap[B i]? =some (.cells c el g))(o:0<rw)(D:vh<=1152921504606846976)(y:∀k,k<vh->(dY t k).length=rw)
 (z:b i+vh*rw<=c.size) (u:∀k j,k<vh->j<rw->∃a v,(dY t k)[j]? =some a/\c[b i+(k*rw+j)]? =some v/\aj (mG P w B b) a v/\v.oneCell'=true):
 kM (mG P w B b) w i (.g rw vh t):=by
 have n:(mG P w B b).m i=.cells c el g:=by show(w.heap[B i]?).getD default=_;rw[s];rfl
 have split:∀j,j<vh*rw->j/rw<vh/\j% rw<rw/\j/rw*rw+j% rw=j:=λj f=>
  ⟨auw (by rw[auB];exact f),avn _ o,by rw[auB];exact awH _ _⟩
 refine⟨by rw[n];exact s,⟨o,D,y⟩,c,el,g,n,z,λj a e=>?_,λj v f C=>?_⟩;simp only[AO.iv] at e;split at e;rename_i f;obtain⟨h,l,m⟩:=split j f;obtain⟨x,v,p,d,q,_⟩:=u _ _ h l;rw[p] at e;cases e;rw[m] at d;exact⟨v,d,q⟩;cases e;obtain⟨h,l,m⟩:=split j f;obtain⟨x,E,p,d,q,A⟩:=u _ _ h l;rw[m] at d;have r:c[b i+j]? =some v:=C;rw[d] at r;cases r;exact A
def aFa{t:Nat×Nat}{o:AO}(a:o.PH=true\/o=.f)(i:Nat):dH (xB t o i)=true->(xB t o i).PH=true:=by
 intro h;unfold xB at h⊢;split at h<;>first|rfl|(split at h<;>cases h)|skip
 rcases a with x|rfl;exact x;cases h
def aez{t:Nat×Nat}{o:AO}(c:o.PH=true\/o=.f)(h:∀i,i<23->kM (mG P w B b) w i (xB t o i)):R (mG P w B b) (nL t o) w where
 k:=λi=>by
  rw[adQ];show i<23 <-> _;unfold xB;split<;>first|(constructor<;>intro _<;>first|rfl|omega)|skip
  rcases c with x|rfl;constructor;intro _;cases o<;>first|rfl|cases x
  intro _;omega;constructor<;>intro _<;>first|rfl|omega
  split;constructor<;>intro _<;>first|rfl|omega
  constructor;intro _;exfalso;have q:¬i=22:=by assumption
  omega;intro e;cases e
 f:=λi=>by
  by_cases hi:i<23
  exact h i hi;have e:(nL t o).ac i=.h:=(nL t o).b i (by show 23<=i;omega);rw[e];trivial
 inj:=λi j a m _=>.inr ⟨aFa c i a,aFa c j m⟩
 l:=λi a=>by
  have hi:i<23:=by have:=a;rcases avh i 23 with x|x;exact x;have e:(nL t o).ac i=.h:=(nL t o).b i x;rw[e] at this;cases this
  have d:=aFa c i a;have g:=h i hi;cases p:xB t o i<;>rw[p] at d g<;>first|cases d|skip
  obtain⟨h5,_,r,el,s,n,_⟩:=g;rw[n] at h5;exact(auc.1 h5).1
def aeA{T:aM->Option CF}(ok:Ed P T)(s:P.follows .mixedOrders=true){t:Nat×Nat}{o:AO}(E:o.PH=true\/o=.f)(r:R (mG P w B b) (nL t o) w)(g:jq (mG P w B b) P){a:List AV}{vs:Array Value}(hd:aEu (mG P w B b) a vs.toList){n:Nat}
 (D:aE T (W T) ⟨n⟩ a (nL t o) λco=>∃h',co=.a (.d true) h'/\∀i,i<23->h'.ac i=(nL t o).ac i):
 Calls P n vs w λe w'=>e=.returned (.bool true)/\w'.os=w.os/\w'.output=w.output/\∀i,i<w.heap.size->w'.heap[i]? =w.heap[i]? :=by
 obtain⟨_,h⟩:=aoc ok s ⟨n⟩ a (nL t o) _ (.a .B (nL t o)) _ w vs D r g hd;refine h.mono λe w' z=>?_;obtain⟨co,⟨h',rfl,same⟩,ψ,u,rfl,m,F,st⟩:=z;simp only[aj] at m;refine⟨by rw[m],st.p,st.d,λc y=>?_⟩
 by_cases p:∃i,dH ((nL t o).ac i)=true/\(mG P w B b).a i=c
 ·obtain⟨i,hi,rfl⟩:=p;have k:((nL t o).ac i).PH=true:=aFa E i hi;have q:=r.f i;have f:(mG P w B b).f i:=(r.k i).2 (uY hi);have d:=F.f i;rw[same i f] at d;cases A:(nL t o).ac i<;>rw[A] at k q d<;>first|cases k|skip
  have x:=q.1;have l:=d.1;rw[st.m.a _ f,st.m.j _ f] at l;rw[x,l]
 exact st.f c y λj C v=>p ⟨j,C,v⟩
end
section
open Go
variable {P:Program}{B f:Nat->Nat}
def yU(a:AV):Option Value:=
 match a with
 |.d b=>some (.bool b)
 |.i n=>some (.int .i64 n)
 |.s n=>some (.int .u8 n)
 |.g k n=>some (.int k n)
 |.u k b=>some (.float k b)
 |.A l n=>if n<256^l then some (.string ⟨((hO l n).map UInt8.ofNat).toArray⟩) else none
 |_=>none
def aoi:∀(l n:Nat),∀b∈hO l n,b<256
 |0,n,b,h=>by simp[hO] at h
 |l+1,n,b,h=>by
  have:=MV (l+1) n;obtain⟨i,hi⟩:=aum h;have a:i<l+1:=by have:=(at0.1 hi).1;rw[RK] at this;exact this
  rw[this i a] at hi;cases hi;exact avn _ zd
def aoj{a:AV}{v:Value}(h:yU a=some v)(φ:kf):aj φ a v/\v.oneCell'=true:=by
 cases a<;>simp only[yU,atU,reduceCtorEq] at h
 case A l n=>
  split at h;rename_i i;simp only[atU] at h;subst h;refine⟨?_,rfl⟩;simp only[aj];refine⟨_,rfl,?_,i⟩;simp only[av4];have:∀b∈hO l n,((λx:UInt8=>x.toNat)∘UInt8.ofNat) b=b:=λb d=>by have:=aoi l n b d;simp only[Function.comp_apply,axG];omega
  rw[avB this,List.map_id'];cases h
 all_goals
  subst h;exact⟨by simp only[aj];try rfl,rfl⟩
def Iw(w:World)(b s rw:Nat)(L:List (List Value)):Prop:=
 ∃a el c,w.heap[b]? =some (.cells a el c)/\s+L.length*rw<=a.size/\∀(k:Nat) l,L[k]? =some l->l.length=rw/\∀(j:Nat) v,l[j]? =some v->a[s+(k*rw+j)]? =some v
def Iw.Ha{b s i rw n:Nat}{L:List (List Value)}{t:N3 (List AV)}(h:Iw w b s rw L)(D:B i=b)(F:f i=s)(v:0<rw)(J:L.length=n)(E:n<=1152921504606846976)
 (G:∀(k:Nat) l,L[k]? =some l->(dY t k).map yU=l.map some):kM (mG P w B f) w i (.g rw n t):=by
 subst J;obtain⟨K,el,c,z,A,u⟩:=h;subst D F;have row:∀k,k<L.length->∃l,L[k]? =some l/\l.length=rw/\(dY t k).map yU=l.map some:=λk m=>⟨L[k],atT m,(u k _ (atT m)).1,G k _ (atT m)⟩;refine WX z v E (λk m=>?_) A λk j m M=>?_;obtain⟨l,_,y,q⟩:=row k m;have:=aui List.length q;simp only[avd] at this;omega;obtain⟨l,x,y,q⟩:=row k m;have r:((dY t k).map yU)[j]? =some (some l[j]):=by rw[q,auh,atT zo];rfl
 rw[auh] at r;obtain⟨a,C,I⟩:=au'.1 r;obtain⟨d,o⟩:=aoj I (mG P w B f);exact⟨a,_,C,(u k l x).2 j _ (atT zo),d,o⟩
def BM{L:List (List Value)}{t:N3 (List AV)}(h:(List.range L.length).map (λk=>(dY t k).map yU)=L.map λl=>l.map some) (k:Nat) (l:List Value) (d:L[k]? =some l):(dY t k).map yU=l.map some:=by have a:=aui (·[k]?) h;simp only[auh,d,au3] at a;rw[awh (at0.1 d).1] at a;simpa using a
section
variable {H:Type}{di:TypeId×Value->H}{base:Nat}{held:Bool}{g:Nat}{t e:TypeId}{cs:Array Value}{p:List MemPlace}{el:Nat}{c:Nat×Nat}{b:Nat}
def Ma(d:DataW H):List Value:=
 match d with
 |.lit l=>[l.value]
 |.agg ds=>ds.flatMap fun|.lit l=>[l.value]|_=>[]
 |_=>[]
def Mb(d:DataW H):Bool:=match d with|.lit .nil=>false|.lit _=>true|_=>false
def FB(P:Program)(e:TypeId)(rw:Nat)(d:DataW H):Bool:=
 match d with
 |.lit .nil=>false
 |.lit _=>rw==1
 |.agg ds=>P5 P e rw&&ds.all Mb&&ds.length==rw
 |_=>false
def aeF:∀{ds:List (DataW H)},ds.all Mb=true->∃a:List Lit,ds=a.map .lit/\(ds.flatMap fun|.lit l=>[l.value]|_=>[])=a.map WZ
 |[],_=>⟨[],rfl,rfl⟩
 |d::ds,h=>by simp only[aw2,atW] at h;obtain⟨a,rfl,e⟩:=aeF h.2;cases d<;>simp only[Mb,at3,false_and] at h;rename_i l;refine⟨l::a,rfl,?_⟩;rw[List.flatMap_cons,e];cases l<;>simp[Mb] at h<;>rfl
def W1{rw:Nat}{n:Nat->Bool}{l:List Value}{d:DataW H}(a:FB P e rw d=true)(h:DataW.trod di P w base n held g e l=some (d,p)):l=Ma d/\l.length=rw:=by
 cases d<;>simp only[FB,at3] at a
 case lit x=>
  have hh:=aeB h;cases x<;>simp at a<;>subst a<;>exact⟨hh,by rw[hh];rfl⟩
 case agg ds=>
  simp only[atW,av9] at a;obtain⟨⟨j,k⟩,m⟩:=a;obtain⟨o,rfl,i⟩:=aeF k;have hh:=aof j h;refine⟨hh.trans i.symm,?_⟩;rw[hh];simpa using m
def aeG{rw:Nat}{d:DataW H}(o:w.heap[b]? =some (.cells cs el c))(hd:FB P t rw d=true)(h:DataW.trod di P w base (λ_=>true) held g t cs.toList=some (d,p)):Iw w b 0 rw [Ma d]:=by
 obtain⟨i,m⟩:=W1 hd h;refine⟨cs,el,c,o,by simp only[atX,aup];rw[avc] at m;omega,λk l a=>?_⟩;cases k with
 |zero=>
  simp only[avk,atU] at a;subst a;refine⟨by rw[<-i];exact m,λj v n=>?_⟩;rw[<-i,at5] at n;simpa using n
 |succ k=>simp at a
def P7{n rw:Nat}{ds:List (DataW H)}(C:w.heap[b]? =some (.cells cs el c))(E:P.underlying t=some (.array n e))(D:P.cellsOf e=rw)(s:P.cellsOf t=n*rw)(hd:ds.all (FB P e rw)=true)
 (h:DataW.trod di P w base (λ_=>true) held g t cs.toList=some (.agg ds,p)):Iw w b 0 rw (ds.map Ma):=by
 obtain⟨y,z,A⟩:=aog E h;rw[avc,s] at z;refine⟨cs,el,c,C,by rw[avd,y];omega,λk l i=>?_⟩;rw[auh] at i;obtain⟨d,u,rfl⟩:=au'.1 i;replace i:=u;obtain⟨m,q,r⟩:=A k d i;rw[D] at r;obtain⟨o,x⟩:=W1 (auO.1 hd d (aua i)) r;refine⟨by rw[<-o];exact x,λj v a=>?_⟩;rw[<-o,awO] at a;split at a;rw[auF,at5] at a;simpa using a;cases a
def P8{rw:Nat}{ds rest:List (DataW H)}(J:P.underlying t=some (.slice e))(F:P.cellsOf e=rw)(y:0<rw)(hd:ds.all (FB P e rw)=true)
 (h:DataW.trod di P w base (λ_=>true) held g t cs.toList=some (.slice ds rest,p)):
 ∃a:Addr,cs.toList=[.slice (some a) ds.length (ds.length+rest.length)]/\(0<ds.length+rest.length->a.spot=none/\Iw w a.block a.off rw (ds.map Ma)/\∃n el c,w.heap[a.block]? =some (.cells n el c)/\a.off+(ds.length+rest.length)*rw<=n.size):=by
 subst F;obtain⟨a,D,E⟩:=aeD J y h;refine⟨a,D,λG=>?_⟩;obtain⟨I,n,el,c,r,x,K⟩:=E G;refine⟨I,⟨n,el,c,r,?_,λk l i=>?_⟩,n,el,c,r,x⟩;rw[avd];have:ds.length*P.cellsOf e<=(ds.length+rest.length)*P.cellsOf e:=at4 _ zo;omega;rw[auh] at i;obtain⟨d,u,rfl⟩:=au'.1 i;replace i:=u;obtain⟨l,m,q,z,A,C⟩:=K k d (by rw[aun (at0.1 i).1];exact i);obtain⟨o,_⟩:=W1 (auO.1 hd d (aua i)) z;refine⟨by rw[<-o];exact A,λj v s=>?_⟩;rw[<-o] at s;exact C j v s
end
def aeH{i b:Nat}{a:Array Value}{el:Nat}{c:Nat×Nat}(d:B i=b)(h:w.heap[b]? =some (.cells a el c)):(mG P w B f).g i=a.size:=by subst d;simp only[mG,h]
def W2{i q b rw n o:Nat}{cs:Array Value}{el:Nat}{c:Nat×Nat}{a:Array Value}{v:Nat}{l:Nat×Nat}(hi:w.heap[B i]? =some (.cells cs el c))(h:f i=0)(s:q<23)(d:B q=b)(x:f q=o)
 (m:w.heap[b]? =some (.cells a v l)) (y:o+n*rw<=a.size) (r:cs.toList=[.slice (some ⟨b,o,none⟩) n n]):kM (mG P w B f) w i (.g 1 1 λ_=>[.c q 0 rw n n true]):=by
 have u:cs=#[.slice (some ⟨b,o,none⟩) n n]:=by rw[<-axo (xs:=cs),r]
 subst u;refine WX hi zd zd (λ_ _=>rfl) (by rw[h];simp) λk j A z=>?_;obtain rfl:k=0:=zo;obtain rfl:j=0:=zo;refine⟨_,_,rfl,by rw[h];rfl,?_,rfl⟩;simp only[aj];refine⟨s,_,_,rfl,at2 _,at2 _,λ_=>rfl,λ_=>?_⟩;rw[aeH d m];show _=Addr.mk (B q) (f q+0) none/\f q+0+_<=_;rw[d,x];exact⟨rfl,by omega⟩
def aeI{i u:Nat}{cs:Array Value}{el:Nat}{c:Nat×Nat}{v:Value}(hi:w.heap[B i]? =some (.cells cs el c))(a:f i=0)(d:cs.toList=[.iface u v]):kM (mG P w B f) w i (.g 1 1 λ_=>[.r u .B]):=by
 have h:cs=#[.iface u v]:=by rw[<-axo (xs:=cs),d]
 subst h;refine WX hi zd zd (λ_ _=>rfl) (by rw[a];simp) λk j m l=>?_;obtain rfl:k=0:=zo;obtain rfl:j=0:=zo;refine⟨_,_,rfl,by rw[a];rfl,?_,rfl⟩;simp only[aj];exact⟨_,rfl,auW⟩
def aeJ{H:Type}{di:TypeId×Value->H}{base:Nat}{j:Nat->Bool}{g:Nat}{t:TypeId}{cs:List Value}{n:String}{d:DataW H}{p:List MemPlace}(a:(match P.underlying t with|some (.interface _)=>true|_=>false)=true)
 (h:DataW.trod di P w base j false g t cs=some (.iface n d,p)):∃u v,cs=[.iface u v]:=by
 split at a;rename_i ms i;cases g with
 |zero=>simp[DataW.trod] at h
 |succ m=>
  unfold DataW.trod at h;rw[i] at h;split at h<;>simp_all
 cases a
end
end Yv
namespace Go.Proofs.YtakmgamiepdiiaaGreatDoor
open Go.ChangeShapes Go.WideShapes Go.ChangeAt Go.RowKit
open Yv
set_option maxRecDepth 100000
def own:ownKnob Tryz.prog.godebug=none:=zk
def AF(d:DataW Unit):List (DataW Unit):=match d with|.agg ds=>ds|.slice ds _=>ds|_=>[]
def Bf(a b c d i:Nat):Nat:=match i with|19=>a|20=>b|21=>c|22=>d|n=>n
def Sf(a b c d i:Nat):Nat:=match i with|19=>a|20=>b|21=>c|22=>d|_=>0
def aeK{a b c d e f g j i:Nat}(h:i<19):Bf a b c d i=i/\Sf e f g j i=0:=by unfold Bf Sf;split<;>first|omega|exact⟨rfl,rfl⟩
def aok{W:World}(j:laidMetH Tryz.prog Rows.typesZeroUptoRow.laid W):∃r y s z u A t5 t6,(∃aO el fr,W.heap[1]? =some (.cells aO el fr))/\∀k l o,
 kM (mG Tryz.prog W (Bf r s u k) (Sf y z A l)) W 22 o->∀i,i<23->kM (mG Tryz.prog W (Bf r s u k) (Sf y z A l)) W i (xB (t5,t6) o i):=by
 obtain⟨c1,J3,Vu,fu1,p1,qW,iu⟩:=yT (n:= "strings.asciiSpace") (d:=Rows.laid_strings_asciiSpace) (g:=1) (t:=168) j zk zk zk zk;obtain⟨c3,el3,Fj,fu3,p3,rT,Py⟩:=yT (n:= "unicode/utf8.first") (d:=Rows.laid_unicode_utf8_first) (g:=3) (t:=168) j zk zk zk zk;obtain⟨c4,el4,fr4,fu4,p4,Ea,P⟩:=yT (n:= "unicode/utf8.acceptRanges") (d:=Rows.laid_unicode_utf8_acceptRanges) (g:=4) (t:=238) j zk zk zk zk;obtain⟨c5,el5,fr5,fu5,p5,K,Vw⟩:=yT (n:= "strconv.ErrSyntax") (d:=Rows.laid_strconv_ErrSyntax) (g:=5) (t:=207) j zk zk zk zk;obtain⟨c6,el6,fr6,fu6,p6,M,Q⟩:=yT (n:= "strconv.ErrRange") (d:=Rows.laid_strconv_ErrRange) (g:=6) (t:=207) j zk zk zk zk;obtain⟨c8,el8,fr8,fu8,p8,N,R⟩:=yT (n:= "internal/strconv.optimize") (d:=Rows.laid_internal_strconv_optimize) (g:=8) (t:=4) j zk zk zk zk;obtain⟨c9,el9,fr9,fu9,p9,O,S⟩:=yT (n:= "internal/strconv.float64info") (d:=Rows.laid_internal_strconv_float64info) (g:=9) (t:=309) j zk zk zk zk;obtain⟨c11,atv,atw,atx,p11,C,D⟩:=yT (n:= "internal/strconv.powtab") (d:=Rows.laid_internal_strconv_powtab) (g:=11) (t:=133) j zk zk zk zk;obtain⟨c12,aty,atz,atA,p12,E,F⟩:=yT (n:= "internal/strconv.float64pow10") (d:=Rows.laid_internal_strconv_float64pow10) (g:=12) (t:=341) j zk zk zk zk;obtain⟨c13,atB,atC,atD,p13,G,H⟩:=yT (n:= "internal/strconv.pow10Tab") (d:=Rows.laid_internal_strconv_pow10Tab) (g:=13) (t:=349) j zk zk zk zk;obtain⟨c15,atE,atF,atG,p15,I,J⟩:=yT (n:= "internal/strconv.leftcheats") (d:=Rows.laid_internal_strconv_leftcheats) (g:=15) (t:=358) j zk zk zk zk;have r1:=P7 (ds:=AF Rows.laid_strings_asciiSpace) (n:=256) (e:=5) (rw:=1) qW zk zk zk zk iu;have r3:=P7 (ds:=AF Rows.laid_unicode_utf8_first) (n:=256) (e:=5) (rw:=1) rT zk zk zk zk Py;have r4:=P7 (ds:=AF Rows.laid_unicode_utf8_acceptRanges) (n:=16) (e:=237) (rw:=2) Ea zk zk zk zk P;have r8:=aeG (rw:=1) N zk R;have r9:=aeG (rw:=3) O zk S;have X:=P7 (ds:=AF Rows.laid_internal_strconv_pow10Tab) (n:=696) (e:=348) (rw:=2) G zk zk zk zk H;obtain⟨u5,v5,e5⟩:=aeJ zk Vw;obtain⟨u6,v6,e6⟩:=aeJ zk Q;obtain⟨b,m,v⟩:=P8 (ds:=AF Rows.laid_internal_strconv_powtab) (rest:=[]) (e:=3) (rw:=1) zk zk zd zk D;obtain⟨c,p,w⟩:=P8 (ds:=AF Rows.laid_internal_strconv_float64pow10) (rest:=[]) (e:=97) (rw:=1) zk zk zd zk F;obtain⟨f,q,x⟩:=P8 (ds:=AF Rows.laid_internal_strconv_leftcheats) (rest:=[]) (e:=357) (rw:=2) zk zk zd zk J;have T:(AF Rows.laid_internal_strconv_powtab).length=9:=zk;have U:(AF Rows.laid_internal_strconv_float64pow10).length=23:=zk;have V:(AF Rows.laid_internal_strconv_leftcheats).length=61:=zk;rw[T,aup,aud] at v m;rw[U,aup,aud] at w p;rw[V,aup,aud] at x q;obtain⟨s11,Y,atH,atI,atJ,q19,z19⟩:=v zd;obtain⟨s12,r21,atK,atL,atM,q21,z21⟩:=w zd;obtain⟨s15,Z,atN,atO,atP,q20,z20⟩:=x zd;have B:∀a:Addr,a.spot=none->a=⟨a.block,a.off,none⟩:=λa h=>by cases a;simp only at h;subst h;rfl
 rw[B b s11] at m;rw[B c s12] at p;rw[B f s15] at q;refine⟨b.block,b.off,f.block,f.off,c.block,c.off,u5,u6,⟨_,_,_,qW⟩,λk l o ho i hi=>?_⟩;have L:=λi(h:i<19)=>@aeK b.block f.block c.block k b.off f.off c.off l i h
 match i,hi with
 |0,_=>trivial
 |1,_=>exact r1.Ha (L 1 zd).1 (L 1 zd).2 zd zk zd (BM zk)
 |2,_=>trivial
 |3,_=>exact r3.Ha (L 3 zd).1 (L 3 zd).2 zd zk zd (BM zk)
 |4,_=>exact r4.Ha (L 4 zd).1 (L 4 zd).2 zd zk zd (BM zk)
 |5,_=>exact aeI (by rw[(L 5 zd).1];exact K) (L 5 zd).2 e5
 |6,_=>exact aeI (by rw[(L 6 zd).1];exact M) (L 6 zd).2 e6
 |7,_=>trivial
 |8,_=>exact r8.Ha (L 8 zd).1 (L 8 zd).2 zd zk zd (BM zk)
 |9,_=>exact r9.Ha (L 9 zd).1 (L 9 zd).2 zd zk zd (BM zk)
 |10,_=>trivial
 |11,_=>exact W2 (by rw[(L 11 zd).1];exact C) (L 11 zd).2 zd rfl rfl q19 z19 m
 |12,_=>exact W2 (by rw[(L 12 zd).1];exact E) (L 12 zd).2 zd rfl rfl q21 z21 p
 |13,_=>exact X.Ha (L 13 zd).1 (L 13 zd).2 zd zk zd (BM zk)
 |14,_=>trivial
 |15,_=>exact W2 (by rw[(L 15 zd).1];exact I) (L 15 zd).2 zd rfl rfl q20 z20 q
 |16,_=>trivial
 |17,_=>trivial
 |18,_=>trivial
 |19,_=>exact Y.Ha rfl rfl zd zk zd (BM zk)
 |20,_=>exact Z.Ha rfl rfl zd zk zd (BM zk)
 |21,_=>exact r21.Ha rfl rfl zd zk zd (BM zk)
 |22,_=>exact ho
 |n+23,h=>exact absurd h zo
end Go.Proofs.YtakmgamiepdiiaaGreatDoor
namespace Go.Proofs.YtakmgamiepdiiaaGreatDoor
open Go.ChangeShapes Go.WideShapes Go.ChangeAt Go.RowKit
open Yv
set_option maxRecDepth 100000
def BN{H:Type}(d:Yv.Doc):DataW H:=.agg [.lit (.string d.b),.lit (.string d.a),.lit (.int .i64 d.c)]
def W3(d:Yv.Doc):List Value:=[.string ⟨d.b.toArray⟩,.string ⟨d.a.toArray⟩,.int .i64 d.c]
section
variable {H:Type}{di:TypeId×Value->H}{W:World}{base:Nat}{u:Nat->Bool}{held:Bool}{f:Nat}{cs:List Value}{p:List MemPlace}
def aot{d:DataW H}(h:DataW.trod di Tryz.prog W base u held f 51 cs=some (d,p)):∃doc,d=BN doc:=by
 obtain⟨xs,n,rfl,b,o,c,a⟩:=DataW.trod_struct (fs:=#[{name:= "URI",type:=9,offset:=0,embedded:=false,tag:= "",pkgPath:= "",byteOffset:=0},{name:= "Text",type:=9,offset:=1,embedded:=false,tag:= "",pkgPath:= "",byteOffset:=16},{name:= "Version",type:=2,offset:=2,embedded:=false,tag:= "",pkgPath:= "",byteOffset:=32}]) zk h;simp only[avj] at b;obtain⟨rfl,_⟩:=b
 match xs,c with
 |[x0,q,r],_=>
 obtain⟨j,_,e,_⟩:=DataW.trod_string zk (a 0 _ rfl);obtain⟨l,_,g,_⟩:=DataW.trod_string zk (a 1 _ rfl);obtain⟨m,_,i,_⟩:=DataW.trod_int (k:=.i64) zk (a 2 _ rfl);subst e g i;exact⟨⟨j.data.toList,l.data.toList,m⟩,rfl⟩
def aeL:∀{ds:List (DataW H)},(∀d∈ds,∃doc,d=BN doc)->∃a:List Yv.Doc,ds=a.map BN
 |[],_=>⟨[],rfl⟩
 |d::ds,h=>by obtain⟨x,rfl⟩:=h _ au0;obtain⟨l,rfl⟩:=aeL λd hd=>h d (aug _ hd);exact⟨x::l,rfl⟩
def aou:P5 Tryz.prog 51 3=true:=zk
def aov(a:List Yv.Doc):(a.map (BN (H:=H))).all (FB Tryz.prog 51 3)=true:=by simp[BN,FB,aou,Mb]
def aow(a:List Yv.Doc):(a.map (BN (H:=H))).map Ma=a.map W3:=by rw[av4];rfl
def aox(l:List UInt8):yU (S l)=some (.string ⟨l.toArray⟩):=by
 have h:=MW ⟨l.toArray⟩ (l.map (·.toNat)) zm;obtain⟨a,b⟩:=h;rw[avd] at a b;simp only[S,yU,atV b];rw[<-a];simp only[av4];congr 4;have:(UInt8.ofNat∘λx:UInt8=>x.toNat)=id:=by funext x;simp
 rw[this,axU]
def aoy(d:Yv.Doc):d.ca.map yU=(W3 d).map some:=by simp only[Doc.ca,aul,awx,aox,W3];rfl
def aoz(a:List Yv.Doc):a.length+pC a<=Rows.uptoBulkAll (a.map (BN (H:=H))):=by
 induction a with
 |nil=>simp[pC,Rows.uptoBulkAll]
 |cons d l b=>
  simp only[pC,aul,axF,atX,Rows.uptoBulkAll,BN,Rows.uptoBulk] at b⊢;omega
def aeM{r:Reach}{v:Value}{x:Option Addr}{l c:Nat}(a:Value.okWide Tryz.prog W r base 22 v)(h:v.cells.toList=[.slice x l c]):v=.slice x l c:=by have b:Tryz.prog.underlying 22=some (.slice 51):=zk;unfold Value.okWide Cell.okWide Cell.ok at a;rw[b] at a;cases v<;>first|(simpa[Value.cells] using h)|(simp at a;done)|skip
end
def aoA{H:Type}{di:TypeId×Value->H}{W:World}{v:Value}{d:DataW H}{p:List MemPlace}{r:Reach}{base:Nat}(hl:laidMetH Tryz.prog Rows.typesZeroUptoRow.laid W)(V:Value.okWide Tryz.prog W r base 22 v)
 (hd:DataW.Trod di Tryz.prog W 0 (λ_=>true) true 22 v d p) (S:Rows.uptoBulk d<=1048576):
 Calls Tryz.prog 3 #[v] W λe E=>e=.returned (.bool true)/\E.os=W.os/\E.output=W.output/\∀i,i<W.heap.size->E.heap[i]? =W.heap[i]? :=by
 obtain⟨x,A,y,B,z,C,t5,t6,⟨J,Y,Z,qW⟩,F⟩:=aok hl;obtain⟨f,h⟩:=hd;have g:∀w n,jq (mG Tryz.prog W (Bf x y z w) (Sf A B C n)) Tryz.prog:=λw n=>aod (avp zk) λi hi=>aeK hi;have O:Tryz.prog.underlying 22=some (.slice 51):=zk;have G:Tryz.prog.cellsOf 51=3:=zk;rcases DataW.trod_slice O h with⟨I,P⟩|⟨_,_,_,K,rest,_,_,_,P,_⟩;have:=aeM V I;subst this;refine aeA (T:=J8) (t:=(t5,t6)) (o:=.f) (a:=[.o]) ZM ZN (.inr rfl) (aez (.inr rfl) (F 0 0 .f trivial)) (g 0 0) (qS.2 ⟨by simp only[aj],sJ⟩) ?_;exact amS ZL λh' same=>⟨h',rfl,same⟩;simp only[avj] at P;obtain⟨rfl,_⟩:=P;obtain⟨_,_,Q⟩:=aeD O (by rw[G];decide) h;obtain⟨c,M⟩:∃c:List Yv.Doc,K.map (·.1)=c.map BN:=aeL λd hd=>by obtain⟨i,hi⟩:=aum hd;have ao:=(at0.1 hi).1;obtain⟨_,_,_,_,_,Q⟩:=(Q zo).2;obtain⟨l,m,q,e1,_⟩:=Q i d (by rw[aun ao];exact hi);exact aot e1
 rw[M] at h S;obtain⟨a,I,N⟩:=P8 O G zd (aov c) h;rw[avd] at I N;rw[aow] at N;have dA:=aoz (H:=H) c;simp only[Rows.uptoBulk] at S;have:=aeM V I;subst this;have R:∀w n(L:(mG Tryz.prog W (Bf x y z w) (Sf A B C n)).g 22=(mG Tryz.prog W (Bf x y z w) (Sf A B C n)).g 22),kM (mG Tryz.prog W (Bf x y z w) (Sf A B C n)) W 22 (.g 3 c.length λj=>match c[j]? with|some d=>d.ca|none=>[])->
  (c.length+(rest.map (·.1)).length≠0->a=⟨w,n+0,none⟩/\n+0+(c.length+(rest.map (·.1)).length)*3<=(mG Tryz.prog W (Bf x y z w) (Sf A B C n)).g 22)->
  Calls Tryz.prog 3 #[.slice (some a) c.length (c.length+(rest.map (·.1)).length)] W λe E=>e=.returned (.bool true)/\E.os=W.os/\E.output=W.output/\∀i,i<W.heap.size->E.heap[i]? =W.heap[i]? :=λw n _ ho ha=>by
  refine aeA (T:=J8) (t:=(t5,t6)) (a:=[.c 22 0 3 c.length (c.length+(rest.map (·.1)).length) true]) ZM ZN (.inl rfl) (aez (.inl rfl) (F w n _ ho)) (g w n) (qS.2 ⟨?_,sJ⟩) ?_;simp only[aj];exact⟨by show 22<23;decide,a,_,rfl,aEg _ _,at2 _,λ_=>rfl,ha⟩;exact amR ZL zl (λj hj=>by rw[atT hj]) zo zo λh' same=>⟨h',rfl,same⟩
 rcases auP (c.length+(rest.map (·.1)).length) with hz|X;have Wl:c=[]:=auv zo;subst Wl;refine R 1 0 rfl ?_ (λh=>absurd hz h);exact Iw.Ha (L:=[]) (b:=1) (s:=0) ⟨J,Y,Z,qW,by simp,λk l D=>by simp at D⟩ rfl rfl zd rfl zd λk l D=>by simp at D
 obtain⟨U,hr,aO,el,fr,Wy,cP⟩:=N X;refine R a.block a.off rfl ?_ (λ_=>⟨?_,?_⟩);refine hr.Ha rfl rfl zd zm zo λk l D=>?_;rw[auh] at D;obtain⟨d,bC,rfl⟩:=au'.1 D;replace D:=bC;show(match c[k]? with|some d=>d.ca|none=>[]).map yU=_;rw[D];exact aoy d;cases a;simp only at U;subst U;rfl;rw[aeH (i:=22) (b:=a.block) rfl Wy];simpa using cP
def aoE(H:Type)(di:TypeId×Value->H)(W:World)(base:Nat)(args:Array Value)(ds gs:List (DataW H))(a:List MemPlace)
 (z:∀(j:Nat) t v,Tryz.f3.params[j]? =some t->args[j]? =some v->Value.okWide Tryz.prog W .any base t v)
 (w:DataW.Whole di Tryz.prog Tryz.f3.params.toList Rows.typesZeroSpec.vars false W args.toList ds gs a) (k:Rows.uptoBulkAll (ds++gs)<=1048576) (B:laidMetH Tryz.prog Rows.typesZeroUptoRow.laid W):
 Calls Tryz.prog 3 args W λe c=>∃v,e=.returned v/\Rows.typesZeroSpec.post di Tryz.prog Tryz.f3 false true false false W args v c:=by
 have g:=w;obtain⟨p,q,n,C,rfl,_,_⟩:=w;have E:Tryz.f3.params=#[22]:=zk;have A:DataW.TrodAll di Tryz.prog W 0 (λ_=>true) true [22] args.toList ds p:=n;obtain⟨v,d,rfl,rfl,hd⟩:=trodAll_one A;obtain⟨rfl,rfl⟩:=trodVars_none C;have F:Rows.uptoBulk d<=1048576:=by simpa[Rows.uptoBulkAll] using k
 have r:∀x∈p,x.block<W.heap.size:=λx l=>by simpa using g.lt x (by simpa using l)
 refine(aoA B (z 0 22 v (by rw[E];rfl) rfl) hd F).mono λe c ⟨D,y,G,o⟩=>?_;subst D;have sz:W.heap.size<=c.heap.size:=by rcases auP W.heap.size with h0|h0;omega;have s:=o (W.heap.size- 1) zo;rw[au7 (show W.heap.size- 1<W.heap.size by omega)] at s;have:=(auc.1 s).1;omega
 have Vn:∀m:MemPlace->Prop,W.keptBut c m:=λm=>⟨y,G,λi hi=>by rw[o i hi];exact(World.keptBut_refl W m).2.2 i hi⟩
 have same:∀x∈p,W.sameAt c x:=λx l=>by
  have k:=o x.block (r x l);cases x with
  |cell b off=>simp only[MemPlace.block] at k;simp only[World.sameAt,World.cell?,k]
  |map b=>exact k
 refine⟨_,rfl,[d],[],_,[],p,[],g,trodAll_mk1 (shut_bool Tryz.underlying4 _),trodAll_mk1 (WideElems.Trod_stays zk zk (aw1 zk) hd same (λx l=>by simpa using r x l)),rfl,Vn _,λh=>by cases h⟩
end Go.Proofs.YtakmgamiepdiiaaGreatDoor
namespace Go.Proofs.YtakmgamiepdiiaaGreatDoor
open Yv Go.ChangeShapes Go.WideShapes Go.ChangeAt Go.RowKit
set_option maxRecDepth 100000
def aI{a b:Bool}(h:a=true)(g:b=true):(a&&b)=true:=by rw[h,g];rfl
def j0:(Rows.typesZeroUptoRow.wf (OpenSpec.ofChange (Rows.OpenSpec.upto Rows.typesZeroSpec).bare))=true:=zk
def j1:(laidOutB Tryz.prog)=true:=zk
def j2:(mapsRowed Tryz.prog)=true:=zk
def j3:(Tryz.f3.params.all (Tryz.prog.readableRec ·))=true:=zk
def j4:(namedTie Tryz.prog Rows.typesZeroUptoRow.named (Rows.OpenSpec.upto Rows.typesZeroSpec).bare.vars)=true:=zk
def j5:((Rows.typesZeroUptoRow.stops==[]))=true:=zk
def j6:((Tryz.prog.stops==[]))=true:=zk
def j7:((Rows.typesZeroUptoRow.knobs==[]))=true:=zk
def j8:((Tryz.prog.stopKnobs==[]))=true:=zk
def j9:((Rows.typesZeroUptoRow.inPlace==Tryz.prog.inPlace 3))=true:=zk
def j10:((Rows.typesZeroUptoRow.unfollowed==Tryz.prog.unfollowed 3))=true:=zk
def j11:((Rows.typesZeroUptoRow.recurses==Tryz.prog.recurses 3))=true:=zk
def j12:((Rows.typesZeroUptoRow.named==Tryz.prog.varsNamed 3))=true:=zk
def j13:((Rows.typesZeroUptoRow.maps==(Tryz.f3.params.toList++(Rows.OpenSpec.upto Rows.typesZeroSpec).bare.plain.varTypes Tryz.prog).any (Tryz.prog.mapsRec ·)))=true:=zk
def j14:((Rows.typesZeroUptoRow.ifaces==(Tryz.f3.params.toList++(Rows.OpenSpec.upto Rows.typesZeroSpec).bare.plain.varTypes Tryz.prog).any (Tryz.prog.ifacesRec ·)))=true:=zk
def j15:((Rows.typesZeroUptoRow.mapsOut==Tryz.prog.mapsAmong Tryz.f3.resultTypes.toList))=true:=zk
def j16:((Rows.typesZeroUptoRow.loops==(Tryz.f3.params.toList++(Rows.OpenSpec.upto Rows.typesZeroSpec).bare.plain.varTypes Tryz.prog).any (Tryz.prog.loopsFrom ·)))=true:=zk
def j17:((Rows.typesZeroUptoRow.wideKeys==(Tryz.f3.params.toList++(Rows.OpenSpec.upto Rows.typesZeroSpec).bare.plain.varTypes Tryz.prog++Tryz.f3.resultTypes.toList).any (Tryz.prog.wideKeysFrom ·)))=true:=zk
def j18:((Rows.OpenSpec.upto Rows.typesZeroSpec).bare.vars.all (Tryz.prog.varReadable ·))=true:=zk
def j19:(Tryz.f3.resultTypes.all (λt=>Tryz.prog.readableRec t&&decide (t<Tryz.prog.types.size)))=true:=zk
def j20:((Rows.typesZeroUptoRow.ifacesOut==Tryz.f3.resultTypes.toList.any (Tryz.prog.ifacesRec ·)))=true:=zk
def j21:((Rows.typesZeroUptoRow.loopsOut==Tryz.f3.resultTypes.toList.any (Tryz.prog.loopsFrom ·)))=true:=zk
def j22:((Rows.typesZeroUptoRow.plainKeys==Tryz.prog.plainKeys))=true:=zk
def j23:(Rows.typesZeroUptoRow.shortTexts.isNone)=true:=zk
def j24:(Tryz.prog.stopsHeard)=true:=zk
def j25:(Tryz.prog.mayEnter)=true:=zk
def j26:((Rows.typesZeroUptoRow.lifted==Tryz.prog.liftsFinal))=true:=zk
def j27:((Tryz.prog.make==some Rows.typesZeroUptoRow.make))=true:=zk
def j28:((Rows.typesZeroUptoRow.kinds==(if Rows.typesZeroUptoRow.domain.isEmpty then[] else Tryz.f3.params.toList.map λt=>match Tryz.prog.underlying t with|some (.int k)=>some k|_=>none)))=true:=zk
def j29:((Rows.typesZeroUptoRow.pinned==Rows.typesZeroUptoRow.pinnedBy))=true:=zk
def j30:((Rows.typesZeroUptoRow.veiled==(Tryz.f3.params.toList++(Rows.OpenSpec.upto Rows.typesZeroSpec).bare.plain.varTypes Tryz.prog++Tryz.f3.resultTypes.toList).any (Tryz.prog.veiledRec ·)))=true:=zk
def j31:(Rows.typesZeroUptoRow.veiledFits Tryz.prog Tryz.f3.params.toList (Tryz.f3.params.toList++(Rows.OpenSpec.upto Rows.typesZeroSpec).bare.plain.varTypes Tryz.prog++Tryz.f3.resultTypes.toList))=true:=zk
def aoF:joinedFacts Tryz.prog 3 Tryz.f3 (Rows.OpenSpec.upto Rows.typesZeroSpec).bare Rows.typesZeroUptoRow=true:=by unfold joinedFacts;exact(aI (aI (aI (aI (aI (aI (aI (aI (aI (aI (aI (aI (aI (aI (aI (aI (aI (aI (aI (aI (aI (aI (aI (aI (aI (aI (aI (aI (aI (aI (aI j0 j1) j2) j3) j4) j5) j6) j7) j8) j9) j10) j11) j12) j13) j14) j15) j16) j17) j18) j19) j20) j21) j22) j23) j24) j25) j26) j27) j28) j29) j30) j31)
end Go.Proofs.YtakmgamiepdiiaaGreatDoor
namespace Go.Proofs.YtakmgamiepdiiaaGreatDoor
open Yv Go.ChangeShapes Go.WideShapes Go.ChangeAt Go.RowKit
set_option maxRecDepth 100000
def aoG(os:Os):laidMet Tryz.prog Rows.typesZeroUptoRow.laid ((World.laidAll Tryz.prog os Rows.typesZeroUptoRow.laid).forCall (λ_ _=>0) ⟨#[],#[.slice none 0 0],[]⟩).memory:=
 laidMet_laidAll _ zk zk
def aoH{H:Type}{di:TypeId×Value->H}{C:Checked}{os:Os}{f:FuncId}{fn:Func}{s:OpenSpec}{a:List PathCond}{apart:Bool}{laid:List (String×DataW Unit)}(modest:Bool)(b:World)(args:Array Value)(e:b.os=os)
 (d:(b.forCall (λ_ _=>0) ⟨#[],args,[]⟩).Shaped C.prog)
 (c:Input.okWideB C.prog (b.forCall (λ_ _=>0) ⟨#[],args,[]⟩) f ⟨#[],args,[]⟩=true)
 (g:s.preRow di C.prog fn a apart laid (b.forCall (λ_ _=>0) ⟨#[],args,[]⟩).memory args):
 ∃(w:World) (tape:Tape) (i:Input),w.os=os/\(w.forCall tape i).Shaped C.prog/\i.vars=[]/\Input.okWide C.prog (w.forCall tape i) .any w.heap.size f i/\
  s.preRow di C.prog fn a apart laid (w.forCall tape i).memory i.args/\({modest:=modest}:Assume).holds C.prog (lone (Frame.enter C.prog f i.args .normal) [] (w.forCall tape i)):=
 ⟨b,λ_ _=>0,⟨#[],args,[]⟩,e,d,(Input.okWide_of_okWideB (base:=0) c).1,(Input.okWide_of_okWideB c).2,g,by simp only[Assume.holds];exact⟨by simp,by simp,λ_=>Modest.zero,by simp,by simp⟩⟩
def lifted(os:Os)(a:os.Started)(H:Type)(di:TypeId×Value->H)(F:Stop.Interp):
 ReturnsInHanded {} Tryz.checked os 3 .any ((Rows.OpenSpec.upto Rows.typesZeroSpec).preRow di Tryz.prog Tryz.f3 Rows.typesZeroUptoRow.domain false Rows.typesZeroUptoRow.laid) (((Rows.OpenSpec.upto Rows.typesZeroSpec).at F).post di Tryz.prog Tryz.f3 false true false false):=by
 refine returnsInHanded_of_row (C:=Tryz.checked) (s:=(Rows.OpenSpec.upto Rows.typesZeroSpec)) own a zk Tryz.func3
  (aoH (di:=di) (C:=Tryz.checked) false (World.laidAll Tryz.prog os Rows.typesZeroUptoRow.laid) #[.slice none 0 0] (World.laidAll_os _ _ _) (World.shaped_of_ZipB zk zk) zk
   (OpenSpec.preRow_of_cond 8 (show DataW.whole di Tryz.prog _ _ _ false _ 8=some ([.nil],[],[]) by kernel_rfl) zk (λk g=>by cases g;kernel_rfl) zk (aoG os))) ?_
 intro W base args ds gs b d f _ c _ e _ _;exact aoE H di W base args ds gs b d f (aw1 (c _ rfl)) e
def aoI:Rows.TypesZeroUptoSaid:=
 OpenClaim.holds_of_cond 3 Tryz.f3 rfl rfl rfl rfl rfl rfl rfl ⟨rfl,rfl,rfl,rfl,rfl⟩ rfl rfl rfl rfl rfl zk Tryz.func3 aoF
  (aw1 zk) (by unfold Func.isWrapper;first|(rw [atV qay];kernel_rfl)|(rw [atS qay];exact⟨rfl,rfl⟩))
  (λos a H di _ F=>by rw[OpenClaim.pre_eq_preRow];exact lifted os a H di F)
def plain(f:FuncId)(fn:Func)(b:Tryz.pinned.checked.prog.funcNamed "emend/emendlaw14.TypesZero"=some f)(d:Tryz.pinned.checked.prog.funcs[f]? =some fn):
 true=Tryz.pinned.checked.prog.looks []/\∀(j:Nat) t,fn.params[j]? =some t->Tryz.pinned.checked.prog.wantsStandIn t=false:=by
 obtain rfl:f=3:=auQ ((show Tryz.prog.funcNamed "emend/emendlaw14.TypesZero"=some 3 by kernel_rfl).symm.trans b)|>.symm;obtain rfl:fn=Tryz.f3:=(auQ (Tryz.func3.symm.trans d)).symm;refine⟨by kernel_rfl,λj t a=>?_⟩;have c:Tryz.f3.params=#[22]:=zk;rw[c] at a
 match j,a with
 |0,a=>
  have e:t=22:=(auQ (show some 22=some t from a)).symm;rw[e];exact(by kernel_rfl:Tryz.prog.wantsStandIn 22=false)
 |j+1,a=>simp at a
theorem typesZeroUpto_holds:Rows.TypesZeroUptoCardSaid:=
 Claim7.holds_tied_plain_at .later [] _ _ _ _ aoI (λ_ h=>by cases h) zk (λ_ h=>by cases h) typesZeroUpto_row_tie rfl ⟨rfl,rfl⟩ zk rfl plain zk
end Go.Proofs.YtakmgamiepdiiaaGreatDoor
