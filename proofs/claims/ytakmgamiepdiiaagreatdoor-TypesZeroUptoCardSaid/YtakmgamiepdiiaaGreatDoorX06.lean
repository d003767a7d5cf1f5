/- A part of the proof of 'TypesZeroUptoCardSaid'. No condition. -/
import Derived.Test.YtakmgamiepdiiaaGreatDoorX05
set_option maxHeartbeats 64000000
set_option maxRecDepth 100000
set_option linter.all false
namespace Yv
variable {a c v:AV}{ar:KM}{bb cap i kb lb n q r:Nat}{ex:Bool}{h h':Hp}{ms:List KM}{row:List AV}{s:List UInt8}
variable {T:aM->Option CF}
def lC(lo:Nat)(h:Hp)(v:AV)(ts:List Tree):Prop:=
 ts=[]/\v=.o\/ts≠[]/\∃b cap ex r f,v=.c b 0 6 ts.length cap ex/\h.ac b=.b 72 6 r 0 f/\ts.length<=r/\∀j,(a:j<ts.length)->ay lo h ts[j] (f j)
def EU(ms:List KM)(fs:List Tree)(aq:List (List UInt8))(bu:List UInt8->List aC)(j:Nat)(nm:List UInt8):Option aC:=
 match xk ms nm with
 |some d=>some d
 |none=>
  match((fs.getD j zT).bv.find? λx=>decide (x.bi=2)&&decide (x.bc=nm)) with
  |some x=>some ⟨1,nm,j,x.at,nm⟩
  |none=>uy (bu (aq.getD j [])) nm
section
variable {k:aK->Prop}{nm:List UInt8}{m:KM}{ds:List aC}{d:aC}{lo hi:Nat}
theorem dO.kv:∀{ts:List Tree}{v:AV},dO lo h ts v->lC lo h v ts
 |[],v,x=>.inl ⟨rfl,by grind [dO]⟩
 |t::ts,v,x=>by
  obtain⟨b,cap,ex,r,f,e,a,c,o,g,l⟩:=x;refine .inr ⟨by simp,b,cap,ex,r,f,e,a,c,λj n=>?_⟩
  grind [aaB]
def lC.nf{h':Hp}{ts}(x:lC lo h v ts)(g:NF 0 h h'):lC lo h' v ts:=by rcases x with x|⟨x,b,cap,ex,r,f,e,a,n,l⟩;exact .inl x;exact .inr ⟨x,b,cap,ex,r,f,e,g _ _ _ (auz _) a,n,λj c=>(l j c).nf (g.aw (auz _)) zl⟩
def ay.fx{t:Tree}{row:List AV}(x:ay lo h t row):∃kv,row=[.i t.bi,.i t.gl,.i t.to,.i t.at,S t.bc,kv]/\lC lo h kv t.bv:=by cases t;obtain⟨kv,e,a⟩:=x;exact⟨kv,e,a.kv⟩
def lC.lh{ts}(x:lC lo h v ts):bQ v=some [v]:=by rcases x with⟨_,rfl⟩|⟨_,b,cap,ex,r,f,rfl,_⟩<;>rfl
def lC.px{ts}(x:lC lo h v ts){H:Hp}:tL 1 H v=.v (.i ts.length):=by rcases x with⟨rfl,rfl⟩|⟨_,b,cap,ex,r,f,rfl,_⟩<;>rfl
def mY{h':Hp}(g:ax h h'):NF 0 h h':=NF.xn g λ_ _ _ h=>h.elim
theorem abJ(H:aA T){p tb j:Nat}{c0 c1 c2 c6 c8 c9:AV}{f:cN}{fs:List Tree}{aq:List (List UInt8)}{bu:List UInt8->List aC}(F:h.ac p=.a 67 (bS c0 c1 c2 f c6 (.h tb) c8 c9))(ht:Bu h tb bu)(hl:∀s,(bu s).length<1073741824)
 (hf:lC 0 h c1 fs) (hd:cY h c2 aq) (hj:j<fs.length) (O:j<aq.length) (hs:((fs.getD j zT).bv).length<4294967296) (hc:si lo hi h ms v)
 (t:∀h',ax h h'->k (.a (lA (EU ms fs aq bu j nm)) h')):aE T (W T) ⟨95⟩ [.a p 0,.i j,S nm,v] h k:=by
 rw[ic H.t95];have n1:=Hp.lt F rfl;have dj:=F;simp only[bS] at F;refine ag ?_;refine ajT H (si.aw (h:=h) (λq _ _ B=>?_) hc) λy g1=>?_;rcases B with⟨l,e⟩|⟨es,aD,e⟩<;>exact Hp.io (Hp.lt e rfl);have n2:=g1.g;simp only[Hp.dC] at n2;have c:ax h y:=ah.ab aZ g1;have u1:y.ac h.a=.a 38 [.i 0,S [],.i 0,.i 0,S []]:=by rw[g1.f _ aa id];simp
 cases e:xk ms nm with
 |some d=>
  simp[EU,e,lA,Option.getD,Option.isSome,aC.ca] at t;simp[lA,Option.getD,Option.isSome,aC.ca];refine aB u1 ?_
  grind [ah.bj,ah.am]
 |none=>
  simp only[EU,e] at t;rcases hf with⟨rfl,rfl⟩|⟨bg,b,cap,ex,r,ff,rfl,L,hr,X⟩
  grind
  obtain⟨kv,Z,C⟩:=(X j hj).fx;have J:fs.getD j zT=fs[j]:=by grind
  rw[J] at t hs;have U:y.ac p=_:=(c.f _ n1 id).trans F;have n3:=Hp.lt L rfl;have qW:y.ac b=_:=(c.f _ n3 id).trans L;have eY:(j:Int)<fs.length:=zo;simp only[lA,Option.getD,Option.isSome,aC.ca,qG];have CY:=C.nf (mY c);generalize hKD:fs[j].bv=kd at*;simp(disch:=omega) [U,qW,Z,C.px];clear L qW X Z;have key:∀(m i:Nat)(a:Fr)(n:Hp)(K:aT->Prop),m=kd.length- i->i<=kd.length->ax y n->cg 29 a=kv->cg 30 a=.i kd.length->cg 31 a=.i i->cg 2 a=S nm->cg 1 a=.i j->cg 0 a=.a p 0->cg 8 a=.a h.a 0->
   ((kd.drop i).find? (λx=>decide (x.bi=2)&&decide (x.bc=nm))=none->∀a n,ax y n->cg 2 a=S nm->cg 1 a=.i j->cg 0 a=.a p 0->cg 8 a=.a h.a 0->K (.a 0 a n []))->
   (∀x,(kd.drop i).find? (λx=>decide (x.bi=2)&&decide (x.bc=nm))=some x->∀a n,ah (·=h.a) y n->n.ac h.a=.a 38 [.i 1,S nm,.i j,.i x.at,S nm]->cg 8 a=.a h.a 0->cg 9 a=.d true->K (.b a n []))->W T (.d l95_0) a n [] K:=by
   intro m
   induction m with
   |zero=>
    intro i a n K hm hi g f29 f30 f31 w u f0 f8 k1 E;have e:¬i<kd.length:=zo;rw[aP];refine aU f30 f31 e ?_;exact k1 qaa _ _ g zA zA zA zA
   |succ m Y=>
    intro i a n K hm hi g f29 f30 f31 w u f0 f8 k1 E;have A:i<kd.length:=zo;rcases CY with⟨rfl,_⟩|⟨Nt,b2,aaw,Hf,r2,ff2,rfl,R,hr2,jB⟩
    grind
    have n4:=Hp.lt R rfl;have z:n.ac b2=_:=(g.f _ n4 id).trans R;obtain⟨zX,G,Q⟩:=(jB i A).fx;have P:n.ac h.a=.a 38 [.i 0,S [],.i 0,.i 0,S []]:=by rw[g.f _ zo id];omega
    have gn:=g.g;rw[aut A,awM] at k1 E;rw[aP]
    by_cases q1:kd[i].bi=2
    by_cases q2:kd[i].bc=nm
    refine kC f29 f30 f31 w u f0 f8 A z G Q.lh q1 (atQ q2 P) ?_;refine E kd[i] qaa _ _ ?_ ?_ ?_ ?_;refine ah.bj (ah.bj (ah.am (ah.ka g) _) _ (.inl zo)) _ (.inr rfl);simp;exact zA;rfl;refine kC f29 f30 f31 w u f0 f8 A z G Q.lh q1 (atQ q2 P) ?_;refine Y (i+1) _ _ K zo zo (ah.bj (ah.am g _) _ (.inl zo)) zA zA aa zA zA zA zA (λq=>k1 qaa) (λx q=>E x qaa);refine kC f29 f30 f31 w u f0 f8 A z G Q.lh q1 P ?_;refine Y (i+1) _ _ K zo zo (ah.bj (ah.am g _) _ (.inl zo)) zA zA aa zA zA zA zA (λq=>k1 qaa) (λx q=>E x qaa)
  refine key _ 0 _ _ _ rfl zo (ah.bj (ah.am (ah.da _) _) _ (.inl zo)) aa aa aa aa aa aa aa (λq a n g2 w u f0 f8=>?_) (λx q a n g2 u2 f8 f9=>?_);rw[axq] at q;rw[q] at t;have D:n.ac p=_:=(g2.f _ zo id).trans U;obtain⟨b3,as9,ex3,r3,t3,rfl,z,Tr,KH⟩:=hd;have n5:=Hp.lt z rfl;have Ea:n.ac b3=_:=((c.ab g2).f _ n5 id).trans z;have KI:=KH j O;have M:(j:Int)<aq.length:=zo;have I:aq.getD j []=aq[j]:=by simp[List.getD,O]
  rw[I] at t;refine mz w u f0 f8 D Ea KI O M ?_;refine UI H (f:=f) (tb:=tb) (by rw[D];rfl) (ht.aw λq N _=>(c.ab g2).f q N id) (hl _) λh3 V=>?_;have u3:h3.ac h.a=.a 38 [.i 0,S [],.i 0,.i 0,S []]:=by rw[V.f _ (by have:=g2.g;omega) id,g2.f _ zo id];exact u1
  generalize uy (bu aq[j]) nm=o at t⊢;simp only[lA,aC.ca] at t⊢;refine cC u3 f8 w u f0 ?_;exact t _ (ah.bj ((c.ab g2).ab V) _ (.inl zo));rw[axq] at q;rw[q] at t;simp only[lA,Option.getD,Option.isSome,aC.ca] at t;refine aU f8 f9 u2 ?_;refine t _ ⟨at1 c.g g2.g,λq N _=>?_⟩;rw[g2.f q zo zo,c.f q N id]
end
structure Sc where
 a:cN
 c:List aC
 b:List dx
structure WS where
 m:KM
 b:KM
 a:Sc
structure fM where
 p:Nat
 b:Nat
 d:Nat
 k:Nat
 g:Nat
 f:Nat
 j:Nat
 l:AV
 h:AV
 i:AV
 m:AV
 n:List Tree
 c:List (List UInt8)
 a:List UInt8->List aC
def kj(E:fM)(kind:Int)(nm:List UInt8)(a:Int):aC:=⟨kind,nm,E.j,a,if kind=1 then nm else E.c.getD E.j []⟩
def UM(f:cN)(m:KM)(d:aC):cN:=if(m d.a).isSome=true then Bp f ⟨d.c,d.f,13⟩ else f
def K4(d:aC)(s:Sc):Sc:={s with c:=d::s.c}
def HJ(m:KM)(d:aC)(s:Sc):Sc:={s with a:=UM s.a m d}
def lD(E:fM)(a:Int)(nm:List UInt8)(o:Option aC)(s:Sc):Sc:={s with b:=s.b++[⟨E.j,a,nm,o.isSome,o.getD qG⟩]}
def HK(d:aC)(s:WS):WS:=⟨rA s.m d.a d,s.b,HJ s.m d (K4 d s.a)⟩
def EW(d:aC)(s:WS):WS:=⟨s.m,rA s.b d.a d,HJ s.b d (K4 d s.a)⟩
def K5:List (List UInt8):=[[105,110,116],[98,111,111,108],[115,116,114,105,110,103],[102,108,111,97,116,54,52]]
def qH(E:fM)(ms:List KM)(nm:List UInt8):Option aC:=EU ms E.n E.c E.a E.j nm
def rC(aN:Bool)(ms:List KM)(m:KM):List KM:=if aN=true then m::ms else[]
def tj(E:fM)(t:Tree)(s:WS):WS:=if t.bi=0 then s else HK (kj E 6 t.bc t.at) s
mutual
def fU(E:fM)(ms:List KM)(aN:Bool)(ar:KM):Tree->WS->WS
 |.mk kind _ _ a nm c,s=>
  if kind=5 then
   match c with
   |[f,.mk _ _ _ _ _ ps,k,.mk _ _ _ _ _ i]=>
    let b:=oD E ps (tj E f ⟨aX,aX,(fU E [] false aX f ⟨aX,aX,s.a⟩).a⟩)
    let l:WS:=⟨b.m,b.b,(fU E [] false aX k ⟨aX,aX,b.a⟩).a⟩
    ⟨s.m,s.b,(jF E [aX] true aX i l).a⟩
   |_=>s
  else if kind=10\/kind=15 then
   let e:=jF E (s.m::ms) true ar c ⟨aX,s.b,s.a⟩
   ⟨s.m,e.b,e.a⟩
  else if kind=16 then
   jF E ms aN (rA ar nm (kj E 8 nm a)) c (EW (kj E 8 nm a) s)
  else
   let e:WS:=if(kind=17\/kind=18)/\nm≠[] then⟨s.m,s.b,lD E a nm (ar nm) s.a⟩
    else if(kind=25\/kind=8)/\nm∉K5 then⟨s.m,s.b,lD E a nm (qH E (rC aN ms s.m) nm) s.a⟩ else s
   let b:=jF E ms aN ar c e
   if kind=11\/kind=12 then HK (kj E 7 nm a) b
   else if kind=26\/kind=9 then
    match c with
    |.mk j _ _ _ g _::_=>
     if j=25 then
      match qH E (rC aN ms b.m) g with
      |some d=>if d.b=1 then⟨b.m,b.b,lD E a nm (uy (E.a d.g) nm) b.a⟩ else b
      |none=>b
     else b
    |[]=>b
   else b
def jF(E:fM)(ms:List KM)(aN:Bool)(ar:KM):List Tree->WS->WS
 |[],s=>s
 |t::ts,s=>jF E ms aN ar ts (fU E ms aN ar t s)
def oD(E:fM):List Tree->WS->WS
 |[],s=>s
 |t::ts,s=>oD E ts (tj E t ⟨s.m,s.b,(fU E [] false aX t ⟨aX,aX,s.a⟩).a⟩)
end
mutual
def fh(aN:Bool):Tree->Prop
 |.mk kind _ _ _ _ a=>
  if kind=5 then
   match a with
   |[c,.mk _ _ _ _ _ ps,d,.mk _ _ _ _ _ b]=>fh false c/\aEy false ps/\fh false d/\aEy true b
   |_=>False
  else if kind=10\/kind=15 then aN=true/\aEy true a
  else((kind=16\/kind=11\/kind=12)->aN=true)/\((kind=26\/kind=9)->a≠[])/\aEy aN a
def aEy(aN:Bool):List Tree->Prop
 |[]=>True
 |t::ts=>fh aN t/\aEy aN ts
end
structure CZ(E:fM)(h:Hp):Prop where
 u:h.ac E.k=.a 154 [.q ⟨91⟩ [] [.a E.k 0,.a E.g 0,.a E.f 0]]
 c:h.ac E.g=.a 25 [.a E.p 0]
 k:h.ac E.f=.a 3 [.i E.j]
 a:Bu h E.d E.a
 v:∀s,(E.a s).length<1073741824
 w:lC 0 h E.h E.n
 n:cY h E.i E.c
 y:E.j<E.n.length
 d:E.j<E.c.length
 A:(E.n.getD E.j zT).bv.length<4294967296
structure EX(E:fM)(h:Hp)(s:Sc):Prop where
 b:∃v,h.ac E.p=.a 67 (bS E.l E.h E.i s.a (.h E.b) (.h E.d) E.m v)/\pA h v s.b
 a:lX h E.b s.c
 c:E.b≠E.d
structure BkA(lo:Nat)(h:Hp)(bb kb lb:Nat)(ms:List KM)(s:WS):Prop where
 c:∃par,h.ac bb=.a 159 [par,.h kb,.h lb]/\si lb kb h ms par
 a:MK h kb s.m
 b:MK h lb s.b
 d:lo<=lb
 f:lb<kb
 g:kb<bb
section
variable {E:fM}{s:WS}{lo:Nat}
theorem CZ.aw{M:Nat->Prop}(x:CZ E h)(g:Wf M h h')(p:∀i,M i->i≠E.d/\(∀el l,h.ac i=.a el l->el=67)
 /\∀el rw r f,h.ac i≠.b el rw r 0 f):CZ E h':=by
 have key:∀i o,h.ac i=o->jN o=false->¬M i->¬uw o->h'.ac i=o:=λi o e H G J=>by rw[g.d i (Hp.lt e H) G qaa];omega
 have j:∀el l,¬uw (.a el l):=λel l ⟨_,_,e⟩=>by grind
 have nf:NF 0 h h':=λi r f _ e=>key i _ e rfl (λm=>(p i m).2.2 _ _ _ _ e) (λ⟨_,_,e⟩=>by grind);have z:∀i el l,h.ac i=.a el l->el≠67->¬M i:=λi el l e C m=>C ((p i m).2.1 _ _ e);obtain⟨L,I,N⟩:=x.a;refine⟨key _ _ x.u rfl (z _ _ _ x.u zm) (j _ _),key _ _ x.c rfl (z _ _ _ x.c zm) (j _ _),key _ _ x.k rfl (z _ _ _ x.k zm) (j _ _),x.a.aw λq K hh=>?_,x.v,x.w.nf nf,?_,x.y,x.d,x.A⟩;rcases hh with rfl|⟨r,f,e⟩;obtain⟨⟨aD,e⟩,_⟩:=I;exact(key _ _ e rfl (λm=>(p _ m).1 rfl) (λ⟨_,_,e⟩=>by grind)).trans e.symm;exact(key _ _ e rfl (λm=>(p _ m).2.2 _ _ _ _ e) (λ⟨_,_,e⟩=>by grind)).trans e.symm;obtain⟨b,cap,ex,r,t,D,B,F⟩:=x.n;exact⟨b,cap,ex,r,t,D,key _ _ B rfl (λm=>(p _ m).2.2 _ _ _ _ B) (λ⟨_,_,e⟩=>by grind),F⟩
def CZ.g0(x:CZ E h)(g:ax h h'):CZ E h':=x.aw (Wf.of g) λ_ m=>m.elim
end
def WM(E:fM)(aN:Bool)(kb lb:Nat)(i:Nat):Prop:=i=E.p\/i=E.b\/aN=true/\(i=kb\/i=lb)
def aj0(h:Hp)(lo:Nat)(aN:Bool)(kb lb:Nat)(d:AV)(ar:KM):Prop:=(d=.y/\aN=false/\ar=aX)\/∃ai,d=.h ai/\MK h ai ar/\lo<=ai/\(aN=true->ai≠kb/\ai≠lb)
def BkO(lo:Nat)(h:Hp)(aN:Bool)(bb kb lb:Nat)(ms:List KM)(s:WS)(v:AV):Prop:=(aN=false->v=.w)/\(aN=true->v=.a bb 0/\BkA lo h bb kb lb ms s)
structure gG(E:fM)(lo:Nat)(h:Hp)(aN:Bool)(bb kb lb:Nat)(ms:List KM)(ar:KM)(s:WS)(v d:AV):Prop where
 a:CZ E h
 b:EX E h s.a
 k:BkO lo h aN bb kb lb ms s v
 t:aj0 h lo aN kb lb d ar
 o:E.p<lo/\E.b<lo/\E.d<lo
def nE(E:fM)(h:Hp)(aN:Bool)(kb lb:Nat)(s:WS)(h':Hp):Prop:=Wf (WM E aN kb lb) h h'/\EX E h' s.a/\(aN=true->MK h' kb s.m/\MK h' lb s.b)
def tq(T:aM->Option CF)(E:fM)(t:Tree):Prop:=
 ∀(aN:Bool)(ms:List KM)(ar:KM)(s:WS)(h:Hp)(row:List AV)(v d:AV)(bb kb lb lo:Nat)(k:aK->Prop),
  gG E lo h aN bb kb lb ms ar s v d->ay 0 h t row->rY t->fh aN t->(fU E ms aN ar t s).a.b.length<1073741824->
  (∀h',nE E h aN kb lb (fU E ms aN ar t s) h'->k (.a (.p []) h'))->aE T (W T) ⟨91⟩ [.j row,v,d,.a E.k 0,.a E.g 0,.a E.f 0] h k
section
variable {E:fM}{s j:WS}{lo:Nat}{aN:Bool}{d:AV}
theorem MK.abK{i:Nat}{m:KM}(x:MK h i m){el l}:h.ac i≠.a el l:=by
 obtain⟨L,⟨⟨aD,q⟩,_⟩,_⟩:=x
 grind
theorem MK.yn{i:Nat}{m:KM}(x:MK h i m){el rw r z f}:h.ac i≠.b el rw r z f:=by
 obtain⟨L,⟨⟨aD,q⟩,_⟩,_⟩:=x
 grind
theorem gG.Hn(x:gG E lo h aN bb kb lb ms ar s v d):∀i,WM E aN kb lb i->i≠E.d/\(∀el l,h.ac i=.a el l->el=67)/\∀el rw r f,h.ac i≠.b el rw r 0 f:=by
 obtain⟨n,g,_⟩:=x.b.b;obtain⟨L,c,m⟩:=x.a.a;obtain⟨⟨aD,e⟩,_⟩:=c;rintro i (rfl|rfl|⟨hB,rfl|rfl⟩)
 grind
 obtain⟨L,aD,q,_⟩:=x.b.a;exact⟨x.b.c,λel l e=>qaa,λ_ _ _ _ e=>qaa⟩;obtain⟨_,y⟩:=x.k.2 hB;have:=y.d;have:=y.f;have:=x.o
 exact⟨by omega,λel l e=>(y.a.abK e).elim,λ_ _ _ _ e=>y.a.yn e⟩;obtain⟨_,y⟩:=x.k.2 hB;have:=y.d;have:=y.f;have:=x.o
 exact⟨by omega,λel l e=>(y.b.abK e).elim,λ_ _ _ _ e=>y.b.yn e⟩
theorem gG.nf(x:gG E lo h aN bb kb lb ms ar s v d)(g:Wf (WM E aN kb lb) h h'):NF 0 h h':=λi r f _ e=>by rw[g.d i (Hp.lt e rfl) (λm=>(x.Hn i m).2.2 _ _ _ _ e) qad];omega
theorem gG.ly(x:gG E lo h aN bb kb lb ms ar s v d)(g:Wf (WM E aN kb lb) h h'){i el l}(e:h.ac i=.a el l)(c:el≠67):h'.ac i=.a el l:=by rw[g.d i (Hp.lt e rfl) (λm=>c ((x.Hn i m).2.1 _ _ e)) qad];omega
theorem gG.lj(x:gG E lo h aN bb kb lb ms ar s v d)(p:nE E h aN kb lb j h'):gG E lo h' aN bb kb lb ms ar j v d:=by
 obtain⟨g,sc,u⟩:=p;refine⟨x.a.aw g x.Hn,sc,⟨x.k.1,λhB=>?_⟩,?_,x.o⟩;obtain⟨e,y⟩:=x.k.2 hB;obtain⟨i,r⟩:=u hB;obtain⟨par,c,f⟩:=y.c;refine⟨e,⟨par,x.ly g c zm,si.aw (λq z A hh=>?_) f⟩,i,r,y.d,y.f,y.g⟩;have:=y.d;have:=x.o
 rcases hh with⟨l,e⟩|⟨w,aD,e⟩;exact(x.ly g e zm).trans e.symm;refine g.d q (Hp.lt e rfl) ?_ qad;rintro(rfl|rfl|⟨_,rfl|rfl⟩)<;>omega;rcases x.t with y|⟨ai,e,m,l,n⟩;exact .inl y;refine .inr ⟨ai,e,m.aw (g.d ai m.lt ?_ ?_),l,n⟩;have:=x.o;rintro(rfl|rfl|⟨hB,hh⟩);omega;omega
 grind
 rintro⟨_,_,q⟩;exact m.yn q
def nE.ab{c:Hp}{e:WS}(a:nE E h aN kb lb j h')(b:nE E h' aN kb lb e c):nE E h aN kb lb e c:=⟨a.1.ab b.1,b.2⟩
def gG.sT(x:gG E lo h aN bb kb lb ms ar s v d):nE E h aN kb lb s h:=⟨Wf.da _,x.b,λhB=>⟨(x.k.2 hB).2.a,(x.k.2 hB).2.b⟩⟩
def EX.g0{s:Sc}(x:EX E h s)(g:ax h h'):EX E h' s:=by obtain⟨v,e,f⟩:=x.b;exact⟨⟨v,(g.f _ (Hp.lt e rfl) id).trans e,f.aw λq i _=>g.f q i id⟩,x.a.aw (g.f _ x.a.lt id),x.c⟩
def gG.g0(x:gG E lo h aN bb kb lb ms ar s v d)(g:ax h h'):nE E h aN kb lb s h':=
 ⟨Wf.of (ah.ka g),x.b.g0 g,λhB=>⟨(x.k.2 hB).2.a.aw (g.f _ (x.k.2 hB).2.a.lt id),(x.k.2 hB).2.b.aw (g.f _ (x.k.2 hB).2.b.lt id)⟩⟩
def UN(t:Tree)(s:WS):(tj E t s).a.b=s.a.b:=by unfold tj;split<;>rfl
mutual
theorem HL(E:fM):∀(t:Tree)(ms:List KM)(aN:Bool)(ar:KM)(s:WS),s.a.b.length<=(fU E ms aN ar t s).a.b.length
 |.mk kind _ _ a nm b,ms,aN,ar,s=>by
  unfold fU;split;split;rename_i c _ _ _ _ _ ps g _ _ _ _ _ i;have l:=HL E c [] false aX ⟨aX,aX,s.a⟩;have f:=UO E ps (tj E c ⟨aX,aX,(fU E [] false aX c ⟨aX,aX,s.a⟩).a⟩);rw[UN] at f;have m:=HL E g [] false aX ⟨aX,aX,(oD E ps (tj E c ⟨aX,aX,(fU E [] false aX c ⟨aX,aX,s.a⟩).a⟩)).a⟩;refine at1 l (at1 f (at1 m ?_));simp only;generalize(fU E [] false aX g _).a=q;exact Ao E i [aX] true aX ⟨_,_,q⟩;omega;split;exact Ao E b (s.m::ms) true ar ⟨aX,s.b,s.a⟩;split;exact Ao E b ms aN (rA ar nm (kj E 8 nm a)) (EW (kj E 8 nm a) s);have n:∀e:WS,s.a.b.length<=e.a.b.length->s.a.b.length<=(jF E ms aN ar b e).a.b.length:=λe h=>at1 h (Ao E b _ _ _ _);have k:s.a.b.length<=(jF E ms aN ar b (if(kind=17\/kind=18)/\nm≠[] then⟨s.m,s.b,lD E a nm (ar nm) s.a⟩
   else if(kind=25\/kind=8)/\nm∉K5 then⟨s.m,s.b,lD E a nm (qH E (rC aN ms s.m) nm) s.a⟩ else s)).a.b.length:=by
   grind [lD]
  simp only;split;exact k
  grind [lD]
theorem Ao(E:fM):∀(t:List Tree)(ms:List KM)(aN:Bool)(ar:KM)(s:WS),s.a.b.length<=(jF E ms aN ar t s).a.b.length
 |[],_,_,_,_=>at2 _
 |t::ts,ms,aN,ar,s=>by unfold jF;exact at1 (HL E t _ _ _ _) (Ao E ts _ _ _ _)
theorem UO(E:fM):∀(t:List Tree)(s:WS),s.a.b.length<=(oD E t s).a.b.length
 |[],_=>at2 _
 |t::ts,s=>by unfold oD;refine at1 ?_ (UO E ts _);rw[UN];exact HL E t _ _ _ ⟨aX,aX,s.a⟩
end
end
section
variable {E:fM}{lo:Nat}{aN:Bool}
def abL(J:aA T){n:Nat}{kv:AV}:∀(ts:List Tree)(i:Nat)(s:WS)(h:Hp)(f:Fr)(K:aT->Prop),(∀t∈ts,tq T E t)->i+ts.length=n->n<4294967296->gG E lo h aN bb kb lb ms ar s v a->
 (ts≠[]->∃b cap ex r ff,kv=.c b 0 6 n cap ex/\h.ac b=.b 72 6 r 0 ff/\n<=r/\∀j,(Q:j<ts.length)->ay 0 h ts[j] (ff (i+j)))->pq ts->aEy aN ts->(jF E ms aN ar ts s).a.b.length<1073741824->
 cg 171 f=kv->cg 172 f=.i n->cg 173 f=.i i->cg 1 f=v->cg 2 f=a->cg 3 f=.a E.k 0->
 (∀e h',(∀q,q<=6->cg q e=cg q f)->nE E h aN kb lb (jF E ms aN ar ts s) h'->K (.a 7 e h' []))->W T (.d l91_0) f h [] K
 |[],i,s,h,f,K,y,hi,D,x,c,k,ok,us,o,p,f3,g1,g2,u,g=>by simp only[aup,aud] at hi;subst hi;rw[aP];refine aU o p f3 ?_;exact g _ _ (λq F=>by repeat rw[eG (m:=7) zo zd]) x.sT
 |t::ts,i,s,h,f,K,y,hi,D,x,c,k,ok,us,o,p,f3,g1,g2,u,g=>by
  obtain⟨b,cap,ex,r,ff,rfl,c,R,G⟩:=c zm;simp only[atX] at hi;have C:i<n:=zo;have L:(i:Int)<n:=zo;have l:=G 0 zm;simp only[aus,aud] at l;obtain⟨kv,I,w⟩:=l.fx;unfold pq at k;unfold aEy at ok;unfold jF at us g;have lt:=Hp.lt c rfl;have B:=x.a.u;have X:=Hp.lt B rfl;rw[aP];refine pU o p f3 g1 g2 u C L c I w.lh B ?_;rw[<-I];generalize O:((h.am _).bj _ _:Hp)=H;have d:ax h H:=by rw[<-O];exact fZ
  have A:=x.lj (x.g0 d);refine y t zm aN ms ar s H _ v a bb kb lb lo _ A (l.nf (mY d) zl) k.1 ok.1 (auD (Ao E ts _ _ _ _) us) λM z=>?_;have V:=A.lj z;have nf:=A.nf z.1;refine aS f3 C ?_;refine abL J ts (i+1) _ M _ K (λt S=>y t (by simp[S])) zo D V (λ_=>⟨b,cap,ex,r,ff,rfl,nf _ _ _ (auz _) ((d.f _ lt id).trans c),R,λj Q=>?_⟩) k.2 ok.2 us zA zA aa (au g1) (au g2) (au u) λe N P U=>g e N (λq F=>?_) (((x.g0 d).ab z).ab U);have:=G (j+1) zn;simp only[auu,show i+(j+1)=i+1+j by omega] at this;exact(this.nf (mY d) zl).nf nf zl
  ·rw[P q F]
   repeat rw[eG (m:=7) zo zd]
def abM(J:aA T){n:Nat}{kv:AV}:∀(ts:List Tree)(i:Nat)(s:WS)(h:Hp)(f:Fr)(K:aT->Prop),(∀t∈ts,tq T E t)->i+ts.length=n->n<4294967296->gG E lo h aN bb kb lb ms ar s v a->
 (ts≠[]->∃b cap ex r ff,kv=.c b 0 6 n cap ex/\h.ac b=.b 72 6 r 0 ff/\n<=r/\∀j,(Q:j<ts.length)->ay 0 h ts[j] (ff (i+j)))->pq ts->aEy aN ts->(jF E ms aN ar ts s).a.b.length<1073741824->
 cg 82 f=kv->cg 83 f=.i n->cg 84 f=.i i->cg 1 f=v->cg 2 f=a->cg 3 f=.a E.k 0->
 (∀e h',(∀q,q<=6->cg q e=cg q f)->nE E h aN kb lb (jF E ms aN ar ts s) h'->K (.a 3 e h' []))->W T (.d l91_2) f h [] K
 |[],i,s,h,f,K,y,hi,D,x,c,k,ok,us,o,p,f3,g1,g2,u,g=>by simp only[aup,aud] at hi;subst hi;rw[aP];refine aU o p f3 ?_;exact g _ _ (λq F=>by repeat rw[eG (m:=7) zo zd]) x.sT
 |t::ts,i,s,h,f,K,y,hi,D,x,c,k,ok,us,o,p,f3,g1,g2,u,g=>by
  obtain⟨b,cap,ex,r,ff,rfl,c,R,G⟩:=c zm;simp only[atX] at hi;have C:i<n:=zo;have L:(i:Int)<n:=zo;have l:=G 0 zm;simp only[aus,aud] at l;obtain⟨kv,I,w⟩:=l.fx;unfold pq at k;unfold aEy at ok;unfold jF at us g;have lt:=Hp.lt c rfl;have B:=x.a.u;have X:=Hp.lt B rfl;rw[aP];refine pU o p f3 g1 g2 u C L c I w.lh B ?_;rw[<-I];generalize O:((h.am _).bj _ _:Hp)=H;have d:ax h H:=by rw[<-O];exact fZ
  have A:=x.lj (x.g0 d);refine y t zm aN ms ar s H _ v a bb kb lb lo _ A (l.nf (mY d) zl) k.1 ok.1 (auD (Ao E ts _ _ _ _) us) λM z=>?_;have V:=A.lj z;have nf:=A.nf z.1;refine aS f3 C ?_;refine abM J ts (i+1) _ M _ K (λt S=>y t (by simp[S])) zo D V (λ_=>⟨b,cap,ex,r,ff,rfl,nf _ _ _ (auz _) ((d.f _ lt id).trans c),R,λj Q=>?_⟩) k.2 ok.2 us zA zA aa (au g1) (au g2) (au u) λe N P U=>g e N (λq F=>?_) (((x.g0 d).ab z).ab U);have:=G (j+1) zn;simp only[auu,show i+(j+1)=i+1+j by omega] at this;exact(this.nf (mY d) zl).nf nf zl
  ·rw[P q F]
   repeat rw[eG (m:=7) zo zd]
end
section
variable {E:fM}{s f:WS}{lo:Nat}{aN:Bool}
def gG.fls(x:gG E lo h aN bb kb lb ms ar s v c):gG E lo h false 0 0 0 [] ar ⟨aX,aX,s.a⟩ .w c:=by refine⟨x.a,x.b,⟨λ_=>rfl,λe=>by cases e⟩,?_,x.o⟩;rcases x.t with⟨d,i,g⟩|⟨ai,d,i,g,j⟩;exact .inl ⟨d,rfl,g⟩;exact .inr ⟨ai,d,i,g,λe=>by cases e⟩
def gG.IH(x:gG E lo h aN bb kb lb ms ar s v c){i:Nat}(hi:lo<=i){m:KM}(d:MK h i m){M:Nat->Prop}(e:∀j,M j->j=E.p\/j=E.b) (g:Wf M h h'):MK h' i m:=
 d.aw (g.d i d.lt (λq=>by have:=x.o;rcases e _ q with rfl|rfl<;>omega) (by rintro⟨_,_,q⟩;exact d.yn q))
def gG.abN(x:gG E lo h aN bb kb lb ms ar s v c)(p:nE E h false 0 0 f h'):nE E h aN kb lb ⟨s.m,s.b,f.a⟩ h':=by
 obtain⟨g,sc,_⟩:=p;have d:∀j,WM E false 0 0 j->j=E.p\/j=E.b:=by rintro j (q|q|⟨q,_⟩);exact .inl q;exact .inr q;cases q
 refine⟨g.aw λj _ q=>?_,sc,λhB=>?_⟩;rcases d j q with q|q;exact .inl q;exact .inr (.inl q);obtain⟨e,y⟩:=x.k.2 hB;have:=y.d;have:=y.f
 exact⟨x.IH zo y.a d g,x.IH zo y.b d g⟩
def gG.If(x:gG E lo h aN bb kb lb ms ar s v c){d:aC}(g:ah (·=E.b) h h')(l:lX h' E.b (d::s.a.c)):nE E h aN kb lb ⟨s.m,s.b,K4 d s.a⟩ h':=by
 obtain⟨n,i,m⟩:=x.b.b;have j:E.p≠E.b:=by obtain⟨L,aD,q,_⟩:=x.b.a;intro e;rw[e,q] at i;cases i
 refine⟨Wf.of (g.aw λ_ _ q=>.inr (.inl q)),⟨⟨n,(g.f _ (Hp.lt i rfl) j).trans i,m.xn g ?_⟩,l,x.b.c⟩,λhB=>?_⟩;rintro q rfl ⟨_,_,e⟩;obtain⟨L,aD,q,_⟩:=x.b.a;rw[q] at e;cases e;obtain⟨e,y⟩:=x.k.2 hB;have:=y.d;have:=y.f
 exact⟨x.IH zo y.a (λ_ q=>.inr q) (Wf.of g),x.IH zo y.b (λ_ q=>.inr q) (Wf.of g)⟩
def gG.Ps(x:gG E lo h aN bb kb lb ms ar s v c)(hB:aN=true){d:aC}{i:AV}(l:h.ac E.p=.a 67 (bS E.l E.h E.i s.a.a (.h E.b) (.h E.d) E.m i))(p:pA h i s.a.b)(g:ah (λj=>j=E.p\/j=kb) h h')
 (n:h'.ac E.p=.a 67 (bS E.l E.h E.i (UM s.a.a s.m d) (.h E.b) (.h E.d) E.m i)) (m:MK h' kb (rA s.m d.a d)):nE E h aN kb lb ⟨rA s.m d.a d,s.b,HJ s.m d s.a⟩ h':=by
 obtain⟨e,y⟩:=x.k.2 hB;have:=y.d;have:=y.f;have r:=x.o
 refine⟨Wf.of (g.aw λ_ _ q=>?_),⟨⟨i,n,p.xn g ?_⟩,x.b.a.aw (g.f _ x.b.a.lt ?_),x.b.c⟩,λ_=>⟨m,y.b.aw (g.f _ y.b.lt ?_)⟩⟩;rcases q with q|q;exact .inl q;exact .inr (.inr ⟨hB,.inl q⟩);rintro q (rfl|rfl) ⟨_,_,e⟩;rw[l] at e;cases e;exact y.a.yn e;rintro(q|q);obtain⟨L,aD,w,_⟩:=x.b.a;rw[q] at w;rw[l] at w;cases w;omega;rintro(q|q)<;>omega
def gG.aj1(x:gG E lo h aN bb kb lb ms ar s v c)(hB:aN=true){d:aC}{i:AV}(l:h.ac E.p=.a 67 (bS E.l E.h E.i s.a.a (.h E.b) (.h E.d) E.m i))(p:pA h i s.a.b)(g:ah (λj=>j=E.p\/j=lb) h h')
 (n:h'.ac E.p=.a 67 (bS E.l E.h E.i (UM s.a.a s.b d) (.h E.b) (.h E.d) E.m i)) (m:MK h' lb (rA s.b d.a d)):nE E h aN kb lb ⟨s.m,rA s.b d.a d,HJ s.b d s.a⟩ h':=by
 obtain⟨e,y⟩:=x.k.2 hB;have:=y.d;have:=y.f;have r:=x.o
 refine⟨Wf.of (g.aw λ_ _ q=>?_),⟨⟨i,n,p.xn g ?_⟩,x.b.a.aw (g.f _ x.b.a.lt ?_),x.b.c⟩,λ_=>⟨y.a.aw (g.f _ y.a.lt ?_),m⟩⟩;rcases q with q|q;exact .inl q;exact .inr (.inr ⟨hB,.inr q⟩);rintro q (rfl|rfl) ⟨_,_,e⟩;rw[l] at e;cases e;exact y.b.yn e;rintro(q|q);obtain⟨L,aD,w,_⟩:=x.b.a;rw[q] at w;rw[l] at w;cases w;omega;rintro(q|q)<;>omega
def gG.WP(x:gG E lo h aN bb kb lb ms ar s v c){sc:Sc}{j:AV}(g:Wf (·=E.p) h h')(p:pA h' j sc.b)(m:sc.a=s.a.a)(n:sc.c=s.a.c)
 (d:h'.ac E.p=.a 67 (bS E.l E.h E.i s.a.a (.h E.b) (.h E.d) E.m j)):nE E h aN kb lb ⟨s.m,s.b,sc⟩ h':=by
 have l:E.b≠E.p:=by obtain⟨L,aD,q,_⟩:=x.b.a;obtain⟨u,d,r⟩:=x.b.b;intro e;rw[<-e,q] at d;cases d
 have i:¬uw (h.ac E.b):=by rintro⟨_,_,e⟩;obtain⟨L,aD,q,_⟩:=x.b.a;rw[q] at e;cases e
 refine⟨g.aw λ_ _ q=>.inl q,⟨⟨j,by rw[m];exact d,p⟩,by rw[n];exact x.b.a.aw (g.d _ x.b.a.lt l i),x.b.c⟩,λhB=>?_⟩;obtain⟨e,y⟩:=x.k.2 hB;have:=y.d;have:=y.f
 exact⟨x.IH zo y.a (λ_ q=>.inl q) g,x.IH zo y.b (λ_ q=>.inl q) g⟩
end
section
variable {E:fM}{lo:Nat}{aN:Bool}
def abP(O:aA T){n:Nat}{kv:AV}:∀(ts:List Tree)(i:Nat)(s:WS)(h:Hp)(f:Fr)(K:aT->Prop),(∀t∈ts,tq T E t)->i+ts.length=n->n<8589934592->gG E lo h true bb kb lb ms aX s v a->
 (ts≠[]->∃b cap ex r ff,kv=.c b 0 6 n cap ex/\h.ac b=.b 72 6 r 0 ff/\n<=r/\∀j,(hj:j<ts.length)->ay 0 h ts[j] (ff (i+j)))->pq ts->aEy false ts->(oD E ts s).a.b.length<1073741824->
 cg 47 f=kv->cg 48 f=.i n->cg 49 f=.i i->cg 1 f=v->cg 2 f=a->cg 3 f=.a E.k 0->cg 4 f=.a E.g 0->cg 5 f=.a E.f 0->
 (∀G h',(∀q,q<=6->cg q G=cg q f)->nE E h true kb lb (oD E ts s) h'->K (.a 1 G h' []))->W T (.d l91_3) f h [] K
 |[],i,s,h,f,K,ih,hi,hn,x,o,L,ok,us,U,X,f3,g1,g2,w,Z,g5,I=>by simp only[aup,aud] at hi;subst hi;rw[aP];refine aU U X f3 ?_;exact I _ _ (λq g=>by repeat rw[eG (m:=7) zo zd]) x.sT
 |t::ts,i,s,h,f,K,ih,hi,hn,x,o,L,ok,us,U,X,f3,g1,g2,w,Z,g5,I=>by
  obtain⟨b,cap,ex,r,ff,rfl,o,hr,iW⟩:=o zm;simp only[atX] at hi;have D:i<n:=zo;have aY:(i:Int)<n:=zo;have R:=iW 0 zm;simp only[aus,aud] at R;obtain⟨kv,J,hkv⟩:=R.fx;unfold pq at L;unfold aEy at ok;unfold oD at us I;have lt:=Hp.lt o rfl;have C0:=x.a.u;have lw:=Hp.lt C0 rfl;rw[aP];refine pU U X f3 g1 g2 w D aY o J hkv.lh C0 ?_;rw[<-J];generalize hH:((h.am _).bj _ _:Hp)=H;have z:ax h H:=by rw[<-hH];exact fZ
  have eN:H.ac h.a=.a 72 (ff i):=by rw[<-hH,Hp.dq rfl]
  have C:=x.lj (x.g0 z);have UR:(fU E [] false aX t ⟨aX,aX,s.a⟩).a.b.length<1073741824:=by refine auD ?_ us;refine at1 ?_ (UO E ts _);rw[UN];exact at2 _
  refine ih t zm false [] aX ⟨aX,aX,s.a⟩ H _ .w a 0 0 0 lo _ C.fls (R.nf (mY z) zl) L.1 ok.1 UR λh1 p1=>?_;have k:=C.abN p1;have c:=C.lj k;have nf:=C.nf k.1;have u:=C.ly k.1 eN zd;have qW:=nf _ _ _ (auz _) ((z.f _ lt id).trans o);have CG:∀(e:Fr)(A:Hp)(s2:WS),(∀q,q<=6->cg q e=cg q f)->nE E h1 true kb lb s2 A->s2=tj E t ⟨s.m,s.b,(fU E [] false aX t ⟨aX,aX,s.a⟩).a⟩->cg 47 e=.c b 0 6 n cap ex->cg 48 e=.i n->cg 49 e=.i (i+1)->W T (.d l91_3) e A [] K:=by rintro e A s2 g l rfl V Q Y;have Ex:=c.nf l.1;refine abP O ts (i+1) _ A _ K (λt ht=>ih t (by simp[ht])) zo hn (c.lj l) (λ_=>⟨b,cap,ex,r,ff,rfl,Ex _ _ _ (auz _) qW,hr,λj hj=>?_⟩) L.2 ok.2 us V Q (by rw[Y];rfl) ((g 1 zd).trans g1) ((g 2 zd).trans g2) ((g 3 zd).trans w) ((g 4 zd).trans Z) ((g 5 zd).trans g5) λG h3 hf p3=>I G h3 (λq Ci=>?_) ((((x.g0 z).ab k).ab l).ab p3);have:=iW (j+1) zn;simp only[auu,show i+(j+1)=i+1+j by omega] at this;exact((this.nf (mY z) zl).nf nf zl).nf Ex zl;rw[hf q Ci,g q Ci]
  by_cases F:t.bi=0
  ·refine cC f3 D u J F ?_;refine CG _ h1 _ (λq g=>?_) c.sT (by unfold tj;rw[atV F]) zA zA aa
   repeat rw[eG (m:=7) zo zd]
  ·obtain⟨ev,y⟩:=c.k.2 rfl;obtain⟨par,eb,ch⟩:=y.c;obtain⟨vv,hp,sk⟩:=c.b.b;have dj:=hp;simp only[bS] at dj;have sn:=c.a.c;have fR:=c.a.k;subst ev;refine pU f3 D u J F g1 g2 Z g5 eb sn fR ?_;refine CV O (p:=E.p) (aG:=E.b) (j:=E.j) (c0:=E.l) (c1:=E.h) (c2:=E.i) (c7:=.h E.d) (c8:=E.m) (c9:=vv) (N:=(fU E [] false aX t ⟨aX,aX,s.a⟩).a.c) hp c.b.a c.a.n c.a.d λA gn cZ=>?_;have en:kj E 6 t.bc t.at=⟨6,t.bc,E.j,t.at,if(6:Int)=1 then t.bc else E.c[E.j]'c.a.d⟩:=by simp[kj,List.getD,c.a.d]
   rw[<-en] at cZ⊢;have l:=c.If gn cZ;have M:=c.lj l;obtain⟨US,B,UT⟩:=M.b.b;have HM:=c.ly l.1 eb zd;have P:=M.a.c;have y3:=(M.k.2 rfl).2;have S:tj E t ⟨s.m,s.b,(fU E [] false aX t ⟨aX,aX,s.a⟩).a⟩=HK (kj E 6 t.bc t.at) ⟨s.m,s.b,(fU E [] false aX t ⟨aX,aX,s.a⟩).a⟩:=by unfold tj;rw[atS F]
   generalize kj E 6 t.bc t.at=d at*;simp only[aC.ca];refine aS HM P ?_;refine UF (d:=d) O (p:=E.p) (i:=kb) (m:=s.m) (c0:=E.l) (c1:=E.h) (c2:=E.i) (c6:=.h E.b) (c7:=.h E.d) (c8:=E.m) (c9:=US) (f:=(fU E [] false aX t ⟨aX,aX,s.a⟩).a.a) B y3.a λh3 w kF yl=>?_;have p3:=M.Ps rfl (d:=d) B UT w kF yl;refine aS f3 D ?_;refine CG _ h3 _ (λq g=>?_) (l.ab p3) (by rw[S];rfl) zA zA zA
   repeat rw[eG (m:=7) zo zd]
end
def abQ{c:Type}{S:c->AV}:∀(n:Nat)(l:List c){x:AV}{b:List AV},BU n (l.map S)=some (x,b)->∃e r,x=S e/\b=r.map S/\(e::r).Perm l
 |_,[],_,_,h=>by simp[BU] at h
 |0,a::l,x,b,h=>by simp only[aul,BU,atU,avj] at h;exact⟨a,l,h.1.symm,h.2.symm,awU _⟩
 |n+1,a::l,x,b,h=>by simp only[aul,BU] at h;split at h;rename_i y q i;obtain⟨e,r,rfl,rfl,d⟩:=abQ n l i;simp only[atU,avj] at h;refine⟨e,a::r,h.1.symm,h.2.symm.trans zm,?_⟩;exact(List.Perm.swap a e r).trans (d.cons a);cases h
def UU{d:Type}{S:d->AV}{b:EK}{h:Hp}{i m aD:Nat}{l:List d}:∀(n c:Nat){h':Hp},h'∈AK b h i m aD (l.map S) n c->∃e r,(e::r).Perm l/\h'=h.bj i (.c b m aD (r.map S) (some (S e)))
 |0,_,_,a=>by simp[AK] at a
 |n+1,c,h',a=>by simp only[AK] at a;split at a;rename_i e r o;rcases atZ.1 a with rfl|a;obtain⟨e,r,rfl,rfl,j⟩:=abQ c l o;exact⟨e,r,j,rfl⟩;exact UU n _ a;exact UU n _ a
section
variable {g:mj}{kp:aT->Prop}{ds:List Df}{dst:Option Nat}{f:Fr}{k:AR}
def C1{i:Type}{S:i->AV}{d:EK}{it m aD:Nat}{todo:List i}{j:Option AV}{n:List (AV×AV)}(o:h.ac it=.c d m aD (todo.map S) j)(p:h.ac m=.d n aD)
 (c:todo=[]->k ds (put dst (.p [.d false]) f) h)
 (k1:∀e r,(e::r).Perm todo->k ds (put dst wm f) (h.bj it (.c d m aD (r.map S) (some (S e))))):sG g kp ds dst f h (BV h (.a it 0) false) k:=by
 unfold BV;simp only[o,p,tZ,auS,cond]
 match todo,c,k1 with
 |[],c,_=>exact c rfl
 |[a],_,k1=>exact k1 a [] (awU _)
 |a::b::l,_,k1=>
  show Jg _ _;intro h' s;obtain⟨e,r,q,rfl⟩:=UU _ _ s;exact k1 e r q
def OC{it m aD:Nat}{todo:List AV}{e:List UInt8}{v:AV}{L:SL}(a:h.ac it=.c (.a .a) m aD todo (some (S e)))(b:h.ac m=.d (di L) aD)(c:(cD L).Nodup)(d:eV L e=some v):FU h (.a it 0)=.v (.p [S e,v]):=by unfold FU;simp only[a,b,tZ,auS,Qa,Bool.not_false,avl,cond,UB L c,d]
def abR:∀L:SL,FR (di L)=(cD L).map S
 |[]=>rfl
 |(a,v)::L=>by have:=abR L;simp only[di,cD] at this;simp only[di,aul,FR,cD,this]
def OD{m aD:Nat}{L:SL}(a:h.ac m=.d (di L) aD):FT (.a .a) h (.h m)=.b (.a h.a 0) (h.am (.c (.a .a) m aD ((cD L).map S) none)):=by unfold FT;simp only[Qb,cond,a,abR,alloc]
end
section
variable {ai:Nat}
def aj3(HT:aA T){L:SL}{it aD wi:Nat}(M:∀s,eV L s=(ar s).map λd=>.j d.ca) (hn:(cD L).Nodup) (R:ai≠wi):∀(n:Nat)(todo:List (List UInt8))(Q:SL)(h:Hp)(w:Option AV)(f:Fr)(K:aT->Prop),todo.length=n->
 h.ac ai=.d (di L) aD->h.ac it=.c (.a .a) ai aD (todo.map S) w->iV h wi Q->todo.Nodup->(∀s∈todo,(eV L s).isSome=true)->(∀s,eV Q s=if s∈todo then none else eV L s)->
 cg 114 f=.a it 0->cg 14 f=.h wi->
 (∀p h' l,(∀q,q<=14->cg q p=cg q f)->ah (λj=>j=it\/j=wi) h h'->iV h' wi l->(∀s,eV l s=eV L s)->K (.a 5 p h' []))->W T (.d l91_1) f h [] K:=by
 intro n
 induction n with
 |zero=>
  intro todo Q h w f K u a hi i G b A t J C;obtain rfl:=avW.1 u;rw[aP];refine aB t ?_;refine C1 hi a (λ_=>?_) (λe r c=>absurd c.length_eq zm);refine ag ?_;refine C _ h Q (λq N=>by repeat rw[eG (m:=15) zo zd]) (ah.da _) i λs=>by rw[A];simp
 |succ n ih=>
  intro todo Q h w f K u a hi i G b A t J C;rw[aP];refine aB t ?_;refine C1 hi a (λe=>by subst e;simp at u) (λe r c=>?_);have Y:e∈todo:=c.mem_iff.1 zm;have E:(e::r).Nodup:=c.nodup_iff.2 G;obtain⟨d,hd⟩:∃d,ar e=some d:=by
   have:=b e Y;rw[M] at this;cases q:ar e with
   |none=>rw[q] at this;cases this
   |some d=>exact⟨d,rfl⟩
  have O:eV L e=some (.j d.ca):=by rw[M,hd];rfl
  have l1:=Hp.lt a rfl;have l2:=Hp.lt hi rfl;have l3:=i.lt;have P:ai≠it:=by rintro rfl;rw[a] at hi;cases hi
  have F:it≠wi:=by rintro rfl;obtain⟨⟨_,q⟩,_⟩:=i;rw[hi] at q;cases q
  have U:=OC (h:=h.bj it (.c (.a .a) ai aD (r.map S) (some (S e)))) (it:=it) (e:=e) (v:=.j d.ca) (Hp.dq rfl) (by rw[Hp.du P];exact a) hn O;have ed:e.length=e.length:=rfl;simp only[wm];refine bK t J U aC.ca.eq_1 ?_;generalize y:(((h.bj _ _).am _).bj _ _:Hp)=H;have x:ah (·=it) h H:=by rw[<-y];exact aZ
  have u1:H.ac it=.c (.a .a) ai aD (r.map S) (some (S e)):=by rw[<-y];simp(disch:=first|exact bh|fail)
  have u2:H.ac h.a=.a 38 [.i d.b,S d.a,.i d.c,.i d.f,S d.g]:=by rw[<-y];simp(disch:=omega)
  have D:iV H wi Q:=i.aw (x.f _ l3 (Ne.symm F));have B:H.ac ai=.d (di L) aD:=(x.f _ l1 P).trans a;obtain⟨o,I,V⟩:=D.sf (s:=e) (v:=.j d.ca);simp only[aC.ca] at I;refine aS u2 I ?_;refine ih r (mA Q e (.j d.ca)) _ (some (S e)) _ K ?_ (by rw[Hp.du R];exact B) (by rw[Hp.du F];exact u1) (V _ (Hp.dq rfl)) (au6.1 E).2 (λs hs=>b s (c.mem_iff.1 (by simp[hs]))) (λs=>?_) zA zA λp h' l Z X mZ z=>C p h' l (λq N=>?_) ?_ mZ z;have:=c.length_eq;simp at this;omega;rw[Bq,A]
  by_cases q:s=e
  subst q;have:=(au6.1 E).1;rw[atV rfl,atS this,O];rw[atS q];have:s∈todo <-> s∈r:=by rw[<-c.mem_iff];simp[q]
  simp only[this]
  ·rw[Z q N]
   repeat rw[eG (m:=15) zo zd]
  exact((x.aw λ_ _ q=>.inl q).bj _ (.inr (.inr rfl))).ab X
end
def qI(E:fM)(ms:List KM)(aN:Bool)(kind a:Int)(nm:List UInt8)(c:List Tree)(b:WS):WS:=
 if kind=11\/kind=12 then HK (kj E 7 nm a) b
 else if kind=26\/kind=9 then
  match c with
  |.mk f _ _ _ e _::_=>
   if f=25 then
    match qH E (rC aN ms b.m) e with
    |some d=>if d.b=1 then⟨b.m,b.b,lD E a nm (uy (E.a d.g) nm) b.a⟩ else b
    |none=>b
   else b
  |[]=>b
 else b
section
variable {E:fM}{lo:Nat}{aN:Bool}{g:AV}
def gG.chn{s:WS}{h:Hp}(x:gG E lo h aN bb kb lb ms ar s v g):∃hi,si (if aN=true then lb else 0) hi h (rC aN ms s.m) v:=by
 cases aN with
 |false=>
  obtain rfl:=x.k.1 rfl;exact⟨0,rfl⟩
 |true=>
  obtain⟨rfl,y⟩:=x.k.2 rfl;obtain⟨par,e,c⟩:=y.c;have:=y.f;have:=y.g
  refine⟨bb+1,bb,par,.h kb,.h lb,rfl,e,by simp;omega,by omega,.inr ⟨kb,rfl,by simp;omega,by omega,y.a⟩,by simpa using c.up zo⟩
def aj4(J:aA T){k:aK->Prop}{t:Tree}{Y:Nat}{s:WS}{h:Hp}{f:Fr}{row:List AV}(x:gG E lo h aN bb kb lb ms ar s v g)(A:h.ac Y=.a 72 row)(hn:ay 0 h t row)(rB:rY t)
 (hB:(t.bi=11\/t.bi=12)->aN=true) (R:(t.bi=26\/t.bi=9)->t.bv≠[]) (us:(qI E ms aN t.bi t.at t.bc t.bv s).a.b.length<1073741824)
 (F:cg 1 f=v) (f4:cg 4 f=.a E.g 0) (f5:cg 5 f=.a E.f 0) (f6:cg 6 f=.a Y 0)
 (e:∀h',nE E h aN kb lb (qI E ms aN t.bi t.at t.bc t.bv s) h'->k (.a (.p []) h')):W T (CC.g (.h (z q91 46)) (.j 9 (.g (.g (.h (z q91 47)) (.i (.t 185) .k (.h (z q91 48)))) (.i (.t 185) (.f r91_49) (.g (.g (.h (z q91 50)) (.i (.t 198) .k (.h (z q91 51)))) (.i (.t 198) azT .k)))))) f h [] (finish T (W T) [] k):=by
 obtain⟨kv,rfl,hkv⟩:=hn.fx;have Z:=x.a.c;have V:=x.a.k
 by_cases c1:t.bi=11\/t.bi=12
 have hB:=hB c1;subst hB;unfold qI at e;rw[atV c1] at e;obtain⟨rfl,y⟩:=x.k.2 rfl;obtain⟨par,eb,ch⟩:=y.c;obtain⟨vv,hp,sk⟩:=x.b.b;have hd:t.bi=11\/¬t.bi=11/\t.bi=12:=zo;have go:∀n,cg 1 n=.a bb 0->cg 4 n=.a E.g 0->cg 5 n=.a E.f 0->cg 6 n=.a Y 0->W T (.f r91_49) n h [] (bY 9 (finish T (W T) [] k)):=λn F f4 f5 f6=>by
  refine fY F f4 f5 f6 A eb Z V ?_;refine CV J (p:=E.p) (aG:=E.b) (j:=E.j) (c0:=E.l) (c1:=E.h) (c2:=E.i) (c7:=.h E.d) (c8:=E.m) (c9:=vv) (N:=s.a.c) hp x.b.a x.a.n x.a.d λh2 gn cZ=>?_;have en:kj E 7 t.bc t.at=⟨7,t.bc,E.j,t.at,if(7:Int)=1 then t.bc else E.c[E.j]'x.a.d⟩:=by simp[kj,List.getD,x.a.d]
  rw[<-en] at cZ⊢;have C:=x.If gn cZ;have w:=x.lj C;obtain⟨US,O,UT⟩:=w.b.b;have HM:=x.ly C.1 eb zd;have B:=w.a.c;have y3:=(w.k.2 rfl).2;generalize kj E 7 t.bc t.at=d at*;simp only[aC.ca];refine aS HM B ?_;refine UF (d:=d) J (p:=E.p) (i:=kb) (m:=s.m) (c0:=E.l) (c1:=E.h) (c2:=E.i) (c6:=.h E.b) (c7:=.h E.d) (c8:=E.m) (c9:=US) (f:=s.a.a) O y3.a λh3 g3 kF yl=>?_;have Q:=w.Ps rfl (d:=d) O UT g3 kF yl;refine ag ?_;exact e _ (C.ab Q)
 generalize hD:CC.f r91_49=D at go⊢;rcases hd with c|⟨c,c'⟩;refine aU f6 A c ?_;exact go _ zA zA zA zA;refine bK f6 A c c' ?_;exact go _ zA zA zA zA
 by_cases c2:t.bi=26\/t.bi=9
 have R:=R c2;unfold qI at e us;rw[atS c1,atV c2] at e us;have hd:t.bi=26\/¬t.bi=26/\t.bi=9:=zo;have n1:¬t.bi=11:=zo;have n2:¬t.bi=12:=zo;generalize hD:azT=D;have go:∀n,cg 1 n=v->cg 4 n=.a E.g 0->cg 5 n=.a E.f 0->cg 6 n=.a Y 0->W T D n h [] (bY 9 (finish T (W T) [] k)):=λn F f4 f5 f6=>by
  subst hD;obtain⟨l,X,ek⟩:∃l X,t.bv=l::X:=by cases q:t.bv with|nil=>exact absurd q R|cons a b=>exact⟨a,b,rfl⟩
  rcases hkv with⟨q,_⟩|⟨_,b,cap,ex,r,ff,rfl,hb,Bg,iW⟩;exact absurd q R;rw[ek] at e us Bg iW;have eJ:=iW 0 zm;simp only[aus] at eJ;obtain⟨OE,e0,C2⟩:=eJ.fx;have lb0:=Hp.lt hb rfl;have lr:=Hp.lt A rfl;have OF:=Hp.lt Z rfl;have lic:=Hp.lt V rfl;have M:ff 0=[.i l.bi,.i l.gl,.i l.to,.i l.at,S l.bc,OE]:=e0;have bz:t.bv.length=X.length+1:=by rw[ek];simp
  simp only[atX] at Bg;have mO:(0:Int)<t.bv.length:=zo;have ata:0<t.bv.length:=zo;have oh:(match(l::X:List Tree) with
   |.mk k' _ _ _ An _::_=>if k'=25 then(match qH E (rC aN ms s.m) An with|some d=>if d.b=1 then⟨s.m,s.b,lD E t.at t.bc (uy (E.a d.g) t.bc) s.a⟩ else s|none=>s) else s
   |[]=>s:WS)=if l.bi=25 then(match qH E (rC aN ms s.m) l.bc with|some d=>if d.b=1 then⟨s.m,s.b,lD E t.at t.bc (uy (E.a d.g) t.bc) s.a⟩ else s|none=>s) else s:=by
   cases l;rfl
  rw[oh] at e us
  by_cases c3:l.bi=25
  rw[atV c3] at e us;refine pU F f4 f5 f6 A bz hb M C2.lh Z V c3 ?_;generalize hH:((h.am _).bj _ _:Hp)=H;have gH:ax h H:=by rw[<-hH];exact fZ
  have P:=x.g0 gH;have u:=x.lj P;obtain⟨Ki,UW⟩:=u.chn;obtain⟨vv,fu,K6⟩:=u.b.b;have UX:qH E (rC aN ms s.m) l.bc=EU (rC aN ms s.m) E.n E.c E.a E.j l.bc:=rfl;refine abJ J (p:=E.p) (tb:=E.d) (j:=E.j) (fs:=E.n) (aq:=E.c) (bu:=E.a) fu u.a.a u.a.v u.a.w u.a.n u.a.y u.a.d u.a.A UW λh2 g2=>?_;rw[<-UX];have C:=u.g0 g2;have I:=u.lj C;have G:=u.ly C.1 (x.ly P.1 A zd) zd;have B:=I.a.c;have K7:=I.a.k;cases GJ:qH E (rC aN ms s.m) l.bc with
  |none=>
   rw[GJ] at e;simp only[lA,Option.getD,Option.isSome,aC.ca];refine ag ?_;exact e _ ((P.ab C).ab (I.g0 fZ))
  |some d=>
   rw[GJ] at e us;simp only[lA,Option.getD,Option.isSome,aC.ca]
   by_cases U:d.b=1
   simp only[U,auo] at e us;have lr2:=Hp.lt G rfl;have abS:=Hp.lt B rfl;have aj5:=Hp.lt K7 rfl;refine fY U F f4 f5 f6 G B K7 ?_;generalize oF:((h2.am _).bj _ _:Hp)=H3;have uA:ax h2 H3:=by rw[<-oF];exact fZ
   have Q:=I.g0 uA;have w:=I.lj Q;obtain⟨UY,kF,OG⟩:=w.b.b;refine UI J (p:=E.p) (tb:=E.d) (bu:=E.a) kF w.a.a (w.a.v _) λh4 g4=>?_;have p4:=w.g0 g4;have x4:=w.lj p4;have CE:=w.ly p4.1 (I.ly Q.1 G zd) zd;have K:=x4.a.c;have L:=x4.a.k;have lr4:=Hp.lt CE rfl;have atb:=Hp.lt K rfl;have atc:=Hp.lt L rfl;generalize ho:uy (E.a d.g) t.bc=o at e us⊢;simp only[lA,aC.ca];refine iR F f4 f5 f6 CE K L ?_;generalize Ap:((h4.am _).bj _ _:Hp)=H5;have gH5:ax h4 H5:=by rw[<-Ap];exact fZ
   have p5:=x4.g0 gH5;have x5:=x4.lj p5;obtain⟨vv5,OH,aj6⟩:=x5.b.b;refine UH J (d:=o.getD qG) (p:=E.p) (doc:=E.j) OH aj6 (by simp[lD] at us;omega) λh6 v6 g6 K8 hp6=>?_;have p6:=x5.WP (sc:=lD E t.at t.bc o s.a) g6 K8 rfl rfl hp6;refine ag ?_;exact e _ (((((P.ab C).ab Q).ab p4).ab p5).ab p6);simp only[U,auM] at e;refine aB U ?_;exact e _ ((P.ab C).ab (I.g0 fZ))
  rw[atS c3] at e us;refine pU F f4 f5 f6 A bz hb M C2.lh Z V c3 ?_;exact e _ (x.g0 fZ)
 rcases hd with c|⟨c,c'⟩;refine aU f6 A c ?_;exact go _ zA zA zA zA;refine bK f6 A c c' ?_;exact go _ zA zA zA zA;unfold qI at e;rw[atS c1,atS c2] at e;have n1:¬t.bi=11:=zo;have n2:¬t.bi=12:=zo;have n3:¬t.bi=26:=zo;have n4:¬t.bi=9:=zo;refine cq f6 A n1 n2 n3 n4 ?_;exact e _ x.sT
end
def lC.pj{lo:Nat}{h:Hp}{v:AV}{ts:List Tree}(x:lC lo h v ts)(d:ts≠[]):∃b cap ex r ff,v=.c b 0 6 ts.length cap ex/\h.ac b=.b 72 6 r 0 ff/\ts.length<=r/\∀j,(a:j<ts.length)->ay lo h ts[j] (ff (0+j)):=by rcases x with⟨q,_⟩|⟨_,b,cap,ex,r,ff,e,f,i,g⟩;exact absurd q d;exact⟨b,cap,ex,r,ff,e,f,i,λj a=>by rw[aue];exact g j a⟩
theorem Aq{t:Tree}(h:rY t):t.bv.length<4294967296/\pq t.bv:=by cases t;unfold rY at h;exact h
def UZ{E:fM}{ms:List KM}{aN:Bool}{kind a:Int}{nm:List UInt8}{b:List Tree}{s:WS}:s.a.b.length<=(qI E ms aN kind a nm b s).a.b.length:=by unfold qI;split;exact at2 _;split;split;split;split;split;simp[lD];exact at2 _;exact at2 _;exact at2 _;exact at2 _;exact at2 _
section
variable {E:fM}{lo:Nat}{aN:Bool}
def U0(i:aA T){k:aK->Prop}{t:Tree}{q:Nat}{s:WS}{h:Hp}{f:Fr}{row:List AV}(C:∀t'∈t.bv,tq T E t') (x:gG E lo h aN bb kb lb ms ar s v c) (e:h.ac q=.a 72 row) (p:ay 0 h t row) (g:rY t)
 (hB:(t.bi=11\/t.bi=12)->aN=true) (r:(t.bi=26\/t.bi=9)->t.bv≠[]) (ok:aEy aN t.bv) (us:(qI E ms aN t.bi t.at t.bc t.bv (jF E ms aN ar t.bv s)).a.b.length<1073741824)
 (u:cg 1 f=v) (I:cg 2 f=c) (f3:cg 3 f=.a E.k 0) (f4:cg 4 f=.a E.g 0) (f5:cg 5 f=.a E.f 0) (f6:cg 6 f=.a q 0)
 (B:∀h',nE E h aN kb lb (qI E ms aN t.bi t.at t.bc t.bv (jF E ms aN ar t.bv s)) h'->k (.a (.p []) h')):W T (CC.g (.g (.h (z q91 41)) (.j 7 (.d l91_0))) azU) f h [] (finish T (W T) [] k):=by
 obtain⟨kv,rfl,a⟩:=p.fx;have J:=Hp.lt e rfl;generalize A:azU=G;generalize y:CC.d l91_0=L;simp(disch:=omega) [f6,e,a.px];subst y;refine abL i (n:=t.bv.length) (kv:=kv) t.bv 0 s h _ _ C zo (Aq g).1 x a.pj (Aq g).2 ok (auD UZ us) aa aa aa zA zA zA λH h' b d=>?_;refine ag ?_;subst A;have F:=x.lj d;have nf:=x.nf d.1;have j:=b 1 zd;have l:=b 4 zd;have m:=b 5 zd;have o:=b 6 zd
 simp(disch:=omega) [u,f4,f5,f6] at j l m o;exact aj4 i F (x.ly d.1 e zd) (p.nf nf zl) g hB r us j l m o λw D=>B w (d.ab D)
end
def oH(E:fM)(ms:List KM)(aN:Bool)(ar:KM)(kind a:Int)(nm:List UInt8)(s:WS):WS:=
 if(kind=17\/kind=18)/\nm≠[] then⟨s.m,s.b,lD E a nm (ar nm) s.a⟩
 else if(kind=25\/kind=8)/\nm∉K5 then⟨s.m,s.b,lD E a nm (qH E (rC aN ms s.m) nm) s.a⟩ else s
section
variable {E:fM}{s:WS}{lo:Nat}{aN:Bool}{f:AV}{t:Tree}{k:aK->Prop}
def abV(c:t.bi≠5)(a:¬(t.bi=10\/t.bi=15))(b:t.bi≠16):fU E ms aN ar t s=qI E ms aN t.bi t.at t.bc t.bv (jF E ms aN ar t.bv (oH E ms aN ar t.bi t.at t.bc s)):=by cases t;simp only[Tree.bi] at c a b;unfold fU;rw[atS c,atS a,atS b];rfl
def abW(b:t.bi≠5)(a:¬(t.bi=10\/t.bi=15))(ok:fh aN t):((t.bi=16\/t.bi=11\/t.bi=12)->aN=true)/\((t.bi=26\/t.bi=9)->t.bv≠[])/\aEy aN t.bv:=by cases t;simp only[Tree.bi] at b a;unfold fh at ok;rw[atS b,atS a] at ok;exact ok
theorem HN{t t':Tree}(h:t'∈t.bv):sizeOf t'<sizeOf t:=by
 cases t with
 |mk a b c d e g=>
  have:=aEm (show t'∈g from h);simp only[Tree.mk.sizeOf_spec];omega
theorem aj7(C:aA T)(ih:∀t'∈t.bv,tq T E t') (A:t.bi≠5) (X:¬(t.bi=10\/t.bi=15)) (F:t.bi≠16):tq T E t:=by
 intro aN ms ar s h row v f bb kb lb lo k x hn rB ok us hk;obtain⟨U1,ok2,K9⟩:=abW A X ok;rw[abV A X F] at us hk;obtain⟨kv,rfl,hkv⟩:=hn.fx;have i:¬t.bi=10:=λe=>X (.inl e);have l:¬t.bi=15:=λe=>X (.inr e);rw[ic C.t91];generalize hT:ayX=Z;have sn:=x.a.c;have fR:=x.a.k;have OF:=Hp.lt sn rfl;have lic:=Hp.lt fR rfl;have go:∀(s1:WS)(R:Hp)(a:Fr),s1=oH E ms aN ar t.bi t.at t.bc s->nE E h aN kb lb s1 R->R.ac h.a=.a 72 [.i t.bi,.i t.gl,.i t.to,.i t.at,S t.bc,kv]->cg 1 a=v->cg 2 a=f->cg 3 a=.a E.k 0->cg 4 a=.a E.g 0->cg 5 a=.a E.f 0->cg 6 a=.a h.a 0->
  W T Z a R [] (finish T (W T) [] k):=by
  rintro s1 R a rfl g hr n u f3 f4 f5 f6;subst hT;exact U0 C ih (x.lj g) hr (hn.nf (x.nf g.1) zl) rB (λq=>U1 (.inr q)) ok2 K9 us n u f3 f4 f5 f6 λU M=>hk U (g.ab M)
 have B:=x.g0 (ah.am (ah.da h) (.a 72 [.i t.bi,.i t.gl,.i t.to,.i t.at,S t.bc,kv]));have K:(h.am (.a 72 [.i t.bi,.i t.gl,.i t.to,.i t.at,S t.bc,kv])).ac h.a=.a 72 [.i t.bi,.i t.gl,.i t.to,.i t.at,S t.bc,kv]:=Hp.ba rfl;have x0:=x.lj B
 by_cases c1:t.bi=17\/t.bi=18
 have L:¬t.bi=25:=zo;have n8:¬t.bi=8:=zo;generalize hD:aAZ=D;have r:∀a,cg 1 a=v->cg 2 a=f->cg 3 a=.a E.k 0->cg 4 a=.a E.g 0->cg 5 a=.a E.f 0->cg 6 a=.a h.a 0->
  W T D a (h.am (.a 72 [.i t.bi,.i t.gl,.i t.to,.i t.at,S t.bc,kv])) [] (bY 0 (bF (W T Z) (finish T (W T) [] k))):=λa n u f3 f4 f5 f6=>by
  subst hD
  by_cases c2:t.bc=[]
  have hh:oH E ms aN ar t.bi t.at t.bc s=s:=by unfold oH;rw[atS (λq=>q.2 c2),atS (λq=>by rcases q.1 with q|q<;>omega)]
  refine aS f6 c2 ?_;rw[c2] at K B;refine go s _ _ hh.symm B (by rw[c2];exact K) ?_ ?_ ?_ ?_ ?_ ?_<;>simp(disch:=omega) [n,u,f3,f4,f5,f6];have hh:oH E ms aN ar t.bi t.at t.bc s=⟨s.m,s.b,lD E t.at t.bc (ar t.bc) s.a⟩:=by unfold oH;rw[atV ⟨c1,c2⟩]
  have fC:aEx (.a .a) (h.am (.a 72 [.i t.bi,.i t.gl,.i t.to,.i t.at,S t.bc,kv])) (.j [.i 0,S [],.i 0,.i 0,S []]) f (S t.bc) true=.v (lA (ar t.bc)):=by rcases x0.t with⟨rfl,_,rfl⟩|⟨ai,rfl,m,_⟩;rfl;rw[m.rg];cases ar t.bc<;>rfl
  generalize ho:ar t.bc=o at fC hh;simp only[lA,aC.ca] at fC;refine mz n u f4 f5 f6 c2 fC sn fR ?_;generalize V:(((h.am _).am _).bj _ _:Hp)=H;have gH:ax (h.am (.a 72 [.i t.bi,.i t.gl,.i t.to,.i t.at,S t.bc,kv])) H:=by rw[<-V];exact ah.bj (ah.am (ah.da _) _) _ (.inl zm)
  have g:=x0.g0 gH;have b:=x0.lj g;obtain⟨vv,fu,K6⟩:=b.b.b;have U2:s.a.b.length<1073741824:=auD (at1 (by rw[hh];simp[lD]) (at1 (Ao E t.bv ms aN ar (oH E ms aN ar t.bi t.at t.bc s)) UZ)) us;refine UH C (d:=o.getD qG) (p:=E.p) (doc:=E.j) fu K6 U2 λh6 v6 g6 Y w=>?_;have N:=b.WP (sc:=lD E t.at t.bc o s.a) g6 Y rfl rfl w;refine ag ?_;refine go _ h6 _ hh.symm ((B.ab g).ab N) (x0.ly (g.ab N).1 K zd) ?_ ?_ ?_ ?_ ?_ ?_<;>simp(disch:=omega) [n,u,f3,f4,f5,f6]
 rcases(show t.bi=17\/¬t.bi=17/\t.bi=18 by omega) with c|⟨c,c'⟩;refine cC A i l F c ?_;rw[c] at r;refine r _ ?_ ?_ ?_ ?_ ?_ ?_<;>simp(disch:=omega);refine cq A i l F c c' ?_;rw[c'] at r;refine r _ ?_ ?_ ?_ ?_ ?_ ?_<;>simp(disch:=omega);have y:¬t.bi=17:=λe=>c1 (.inl e);have z:¬t.bi=18:=λe=>c1 (.inr e)
 by_cases c3:t.bi=25\/t.bi=8
 generalize hD:aA0=D;have r:∀a,cg 1 a=v->cg 2 a=f->cg 3 a=.a E.k 0->cg 4 a=.a E.g 0->cg 5 a=.a E.f 0->cg 6 a=.a h.a 0->
  W T D a (h.am (.a 72 [.i t.bi,.i t.gl,.i t.to,.i t.at,S t.bc,kv])) [] (bY 0 (bF (W T Z) (finish T (W T) [] k))):=λa n u f3 f4 f5 f6=>by
  subst hD;refine aB f6 ?_;generalize V:((h.am _).am _:Hp)=H;have gH:ax (h.am (.a 72 [.i t.bi,.i t.gl,.i t.to,.i t.at,S t.bc,kv])) H:=by rw[<-V];exact ah.am (ah.da _) _
  have hS:cY H (.c (h.a+1) 0 1 4 4 true) K5:=by
   refine⟨h.a+1,4,true,4,_,rfl,by rw[<-V];exact Hp.ba rfl,by decide,λj hj=>?_⟩;exact match j,hj with
   |0,_=>rfl
   |1,_=>rfl
   |2,_=>rfl
   |3,_=>rfl
  have g:=x0.g0 gH;have b:=x0.lj g;have Q:=x0.ly g.1 K zd;have l1:=Hp.lt Q rfl;refine Ek C hS zd ?_
  by_cases P:t.bc∈K5
  have hh:oH E ms aN ar t.bi t.at t.bc s=s:=by unfold oH;rw[atS (λq=>c1 q.1),atS (λq=>q.2 P)]
  refine aB P ?_;refine go s _ _ hh.symm (B.ab g) Q ?_ ?_ ?_ ?_ ?_ ?_<;>simp(disch:=omega) [n,u,f3,f4,f5,f6];have hh:oH E ms aN ar t.bi t.at t.bc s=⟨s.m,s.b,lD E t.at t.bc (qH E (rC aN ms s.m) t.bc) s.a⟩:=by unfold oH;rw[atS (λq=>c1 q.1),atV ⟨c3,P⟩]
  have I:=b.a.c;have J:=b.a.k;have atd:=Hp.lt I rfl;have ate:=Hp.lt J rfl;refine fY P n f4 f5 f6 I J Q ?_;obtain⟨Ki,UW⟩:=b.chn;obtain⟨vv,fu,K6⟩:=b.b.b;have UX:qH E (rC aN ms s.m) t.bc=EU (rC aN ms s.m) E.n E.c E.a E.j t.bc:=rfl;refine abJ C (p:=E.p) (tb:=E.d) (j:=E.j) (fs:=E.n) (aq:=E.c) (bu:=E.a) fu b.a.a b.a.v b.a.w b.a.n b.a.y b.a.d b.a.A UW λU g2=>?_;rw[<-UX];have M:=b.g0 g2;have O:=b.lj M;have e2:=b.ly M.1 Q zd;have G:=O.a.c;have K7:=O.a.k;have l2:=Hp.lt e2 rfl;have abS:=Hp.lt G rfl;have aj5:=Hp.lt K7 rfl;generalize ho:qH E (rC aN ms s.m) t.bc=o at hh⊢;simp only[lA,aC.ca];refine iR n f4 f5 f6 e2 G K7 ?_;generalize oF:((U.am _).bj _ _:Hp)=H3;have uA:ax U H3:=by rw[<-oF];exact fZ
  have p3:=O.g0 uA;have x3:=O.lj p3;obtain⟨UY,kF,OG⟩:=x3.b.b;have U2:s.a.b.length<1073741824:=auD (at1 (by rw[hh];simp[lD]) (at1 (Ao E t.bv ms aN ar (oH E ms aN ar t.bi t.at t.bc s)) UZ)) us;refine UH C (d:=o.getD qG) (p:=E.p) (doc:=E.j) kF OG U2 λh6 v6 g6 Y w=>?_;have N:=x3.WP (sc:=lD E t.at t.bc o s.a) g6 Y rfl rfl w;refine ag ?_;refine go _ h6 _ hh.symm ((((B.ab g).ab M).ab p3).ab N) (O.ly (p3.ab N).1 e2 zd) ?_ ?_ ?_ ?_ ?_ ?_<;>simp(disch:=omega) [n,u,f3,f4,f5,f6]
 rcases(show t.bi=25\/¬t.bi=25/\t.bi=8 by omega) with c|⟨c,c'⟩;refine iR A i l F y z c ?_;rw[c] at r;refine r _ ?_ ?_ ?_ ?_ ?_ ?_<;>simp(disch:=omega);refine fY A i l F y z c c' ?_;rw[c'] at r;refine r _ ?_ ?_ ?_ ?_ ?_ ?_<;>simp(disch:=omega);have L:¬t.bi=25:=λe=>c3 (.inl e);have n8:¬t.bi=8:=λe=>c3 (.inr e);have hh:oH E ms aN ar t.bi t.at t.bc s=s:=by unfold oH;rw[atS (λq=>c1 q.1),atS (λq=>c3 q.1)]
 refine fY A i l F y z L n8 ?_;refine go s _ _ hh.symm B K ?_ ?_ ?_ ?_ ?_ ?_<;>simp(disch:=omega)
end
section
variable {E:fM}{s:WS}{lo:Nat}{aN:Bool}{t:Tree}{k:aK->Prop}
def abZ(b:t.bi=10\/t.bi=15):fU E ms aN ar t s=(let c:=jF E (s.m::ms) true ar t.bv ⟨aX,s.b,s.a⟩;⟨s.m,c.b,c.a⟩):=by cases t;simp only[Tree.bi] at b;unfold fU;rw[atS zo,atV b];rfl
def aj8(b:t.bi=10\/t.bi=15)(ok:fh aN t):aN=true/\aEy true t.bv:=by cases t;simp only[Tree.bi] at b;unfold fh at ok;rw[atS zo,atV b] at ok;exact ok
theorem aj9(j:aA T)(P:∀t'∈t.bv,tq T E t') (G:t.bi=10\/t.bi=15):tq T E t:=by
 intro aN ms ar s h row v a bb kb lb lo k x F X ok us z;obtain⟨rfl,J⟩:=aj8 G ok;rw[abZ G] at us z;simp only at us z;obtain⟨kv,rfl,O⟩:=F.fx;rw[ic j.t91];generalize D:ayX=K;obtain⟨rfl,y⟩:=x.k.2 rfl;obtain⟨par,r,ch⟩:=y.c;have R:=Hp.lt r rfl;have Q:=y.d;have l2:=y.f;have l3:=y.g
 have H:¬t.bi=5:=zo;have go:∀(b:Hp)(d:Fr),b=((h.am (.a 72 [.i t.bi,.i t.gl,.i t.to,.i t.at,S t.bc,kv])).am (.d [] 0)).am (.a 159 [.a bb 0,.h (h.a+1),.h lb])->cg 1 d=.a (h.a+1+1) 0->cg 2 d=a->cg 3 d=.a E.k 0->cg 4 d=.a E.g 0->cg 5 d=.a E.f 0->cg 6 d=.a h.a 0->
  W T K d b [] (finish T (W T) [] k):=by
  intro b d f L M f3 f4 f5 f6;have g:ax h b:=by rw[f];exact aZ
  have wI:b.a=h.a+1+1+1:=by rw[f];rfl
  have Y:b.ac h.a=.a 72 [.i t.bi,.i t.gl,.i t.to,.i t.at,S t.bc,kv]:=by rw[f];simp(disch:=first|exact bh|fail)
  have Z:b.ac (h.a+1)=.d [] 0:=by rw[f];simp(disch:=first|exact bh|fail)
  have u3:b.ac (h.a+1+1)=.a 159 [.a bb 0,.h (h.a+1),.h lb]:=by rw[f];simp(disch:=first|exact bh|fail)
  clear f;have V:=x.g0 g;have x0:=x.lj V;obtain⟨_,y0⟩:=x0.k.2 rfl;have x1:gG E lo b true (h.a+1+1) (h.a+1) lb (s.m::ms) ar ⟨aX,s.b,s.a⟩ (.a (h.a+1+1) 0) a:=by refine⟨x0.a,x0.b,⟨λe=>(by cases e),λ_=>⟨rfl,⟨_,u3,?_⟩,MK.ph Z,y0.b,Q,by omega,by omega⟩⟩,?_,x.o⟩;obtain⟨o,u,p⟩:=y0.c;exact⟨bb,o,.h kb,.h lb,rfl,u,by omega,by omega,.inr ⟨kb,rfl,by omega,by omega,y0.a⟩,p.up zo⟩;rcases x.t with⟨_,q,_⟩|⟨ai,e,m,l,n⟩;cases q;have:=n rfl;have:=m.lt;exact .inr ⟨ai,e,m.aw (g.f _ m.lt id),l,λ_=>by omega⟩
  have C:qI E (s.m::ms) true t.bi t.at t.bc t.bv (jF E (s.m::ms) true ar t.bv ⟨aX,s.b,s.a⟩)=jF E (s.m::ms) true ar t.bv ⟨aX,s.b,s.a⟩:=by unfold qI;rw[atS zo,atS zo]
  subst D;refine U0 j P x1 Y (F.nf (mY g) zl) X (λ_=>rfl) (λq=>by omega) J (by rw[C];exact us) L M f3 f4 f5 f6 λN I=>z N ?_;rw[C] at I;obtain⟨g2,OI,B⟩:=I;obtain⟨m1,U⟩:=B rfl;refine⟨⟨at1 g.g g2.f,λi hi A w=>?_⟩,OI,λ_=>⟨?_,U⟩⟩;rw[g2.d i zo ?_ (by rw[g.f i hi id];exact w),g.f i hi id];rintro(q|q|⟨_,q|q⟩);exact A (.inl q);exact A (.inr (.inl q));omega;exact A (.inr (.inr ⟨rfl,.inr q⟩));refine y0.a.aw (g2.d _ y0.a.lt ?_ ?_);have:=y.a.lt;have:=x.o
  rintro(q|q|⟨_,q|q⟩)<;>omega;rintro⟨_,_,q⟩;exact y0.a.yn q
 have f:=D;rcases(show t.bi=10\/¬t.bi=10/\t.bi=15 by omega) with c|⟨c,c'⟩;refine aS H c ?_;rw[ic j.t92];refine aB r ?_;rw[c] at go;refine go _ _ rfl ?_ ?_ ?_ ?_ ?_ ?_<;>simp(disch:=omega);refine aU H c c' ?_;rw[ic j.t92];refine aB r ?_;rw[c'] at go;refine go _ _ rfl ?_ ?_ ?_ ?_ ?_ ?_<;>simp(disch:=omega)
def ab0(b:t.bi=16):fU E ms aN ar t s=jF E ms aN (rA ar t.bc (kj E 8 t.bc t.at)) t.bv (EW (kj E 8 t.bc t.at) s):=by cases t;simp only[Tree.bi] at b;unfold fU;rw[atS zo,atS zo,atV b];rfl
theorem aka(w:aA T)(ih:∀t'∈t.bv,tq T E t') (D:t.bi=16):tq T E t:=by
 intro aN ms ar s h row v a bb kb lb lo k x hn rB ok us hk;obtain⟨U1,ok2,K9⟩:=abW zo zo ok;obtain rfl:=U1 (.inl D);rw[ab0 D] at us hk;obtain⟨kv,rfl,hkv⟩:=hn.fx;rw[ic w.t91];generalize hT:ayX=Tl;obtain⟨rfl,y⟩:=x.k.2 rfl;obtain⟨par,eb,ch⟩:=y.c;have lbb:=Hp.lt eb rfl;have l1:=y.d;have l2:=y.f;have l3:=y.g;have cK:=x.o
 have n5:¬t.bi=5:=zo;have n10:¬t.bi=10:=zo;have n15:¬t.bi=15:=zo;have sn:=x.a.c;have fR:=x.a.k;have OF:=Hp.lt sn rfl;have lic:=Hp.lt fR rfl;have n:=x.g0 (ah.am (ah.da h) (.a 72 [.i t.bi,.i t.gl,.i t.to,.i t.at,S t.bc,kv]));have e0:(h.am (.a 72 [.i t.bi,.i t.gl,.i t.to,.i t.at,S t.bc,kv])).ac h.a=.a 72 [.i t.bi,.i t.gl,.i t.to,.i t.at,S t.bc,kv]:=Hp.ba rfl;have x0:=x.lj n;obtain⟨vv,hp,sk⟩:=x0.b.b;obtain⟨ai,rfl,mar,lai,C⟩:∃ai,a=.h ai/\MK h ai ar/\lo<=ai/\(true=true->ai≠kb/\ai≠lb):=by rcases x.t with⟨_,q,_⟩|q;cases q;exact q
 have C:=C rfl;refine aU D sn fR ?_;rw[<-D];refine CV w (p:=E.p) (aG:=E.b) (j:=E.j) (c0:=E.l) (c1:=E.h) (c2:=E.i) (c7:=.h E.d) (c8:=E.m) (c9:=vv) (N:=s.a.c) hp x0.b.a x0.a.n x0.a.d λO gn cZ=>?_;have en:kj E 8 t.bc t.at=⟨8,t.bc,E.j,t.at,if(8:Int)=1 then t.bc else E.c[E.j]'x.a.d⟩:=by simp[kj,List.getD,x.a.d]
 rw[<-en] at cZ⊢;have dn:(kj E 8 t.bc t.at).a=t.bc:=rfl;have g:=x0.If gn cZ;have F:=x0.lj g;have z:=F.a.c;have Z:=x0.ly g.1 (x.ly n.1 eb zd) zd;have e2:=x0.ly g.1 e0 zd;have abS:=Hp.lt z rfl;have lb2:=Hp.lt Z rfl;have le2:=Hp.lt e2 rfl;generalize kj E 8 t.bc t.at=d at*;simp only[aC.ca];refine aS Z z ?_;generalize P:((O.am _).bj _ _:Hp)=H;have gH:ax O H:=by rw[<-P];exact fZ
 have u1:H.ac O.a=.a 38 [.i d.b,S d.a,.i d.c,.i d.f,S d.g]:=by rw[<-P];simp(disch:=omega)
 clear P;have r:=F.g0 gH;have u:=F.lj r;have y3:=(u.k.2 rfl).2;obtain⟨UY,kF,OG⟩:=u.b.b;refine UF (d:=d) w (p:=E.p) (i:=lb) (m:=s.b) (c0:=E.l) (c1:=E.h) (c2:=E.i) (c6:=.h E.b) (c7:=.h E.d) (c8:=E.m) (c9:=UY) (f:=s.a.a) kF y3.b λb g4 m7 tc=>?_;have l:=u.aj1 rfl (d:=d) kF OG g4 m7 tc;have X:=u.lj l;have u4:=u.ly l.1 u1 zd;have I:=u.ly l.1 (F.ly r.1 e2 zd) zd;have U:=Hp.lt u4 rfl;have Oq:=Hp.lt I rfl;obtain⟨_,_⟩|⟨ai',K,G,_⟩:=X.t;rename_i q _;cases q;cases K;obtain⟨L,⟨⟨aD,J⟩,dB⟩,hL⟩:=G;have la:=Hp.lt J rfl;generalize jg:CC.d l91_1=L1;simp(disch:=omega) [OD (h:=b.am (.d [] 0)) (m:=ai) (aD:=aD) (L:=L) (by rw[Hp.io la];exact J)];subst jg;refine aj3 w (ai:=ai) (ar:=ar) (it:=b.a+1) (wi:=b.a) (aD:=aD) hL dB zo _ (cD L) [] _ none _ _ rfl (au J) (Hp.ba rfl) ?_ dB (λq B=>?_) (λq=>?_) aa aa λf' h5 Q e g5 hQ R=>?_;exact(iV.ph (h:=b.am (.d [] 0)) (Hp.ba rfl)).aw (Hp.io zm);cases hv:eV L q with
 |none=>exact absurd B (Br.1 hv)
 |some v=>rfl
 by_cases B:q∈cD L
 rw[atV B];rfl;rw[atS B,Br.2 B];rfl;have c:ax b h5:=by refine ah.na (M:=λj=>j=b.a+1\/j=b.a) (ah.am (ah.am (ah.da b) (.d [] 0)) _) g5 λi hi=>zo
 have mQ:MK h5 b.a ar:=⟨Q,hQ,λq=>by rw[R,hL]⟩;obtain⟨o,eo,fo⟩:=mQ.sf (s:=t.bc) (d:=d);have lQ:=mQ.lt;simp only[aC.ca] at eo;have e5:=(c.f _ Oq id).trans I;have u5:=(c.f _ U id).trans u4;have f6:=e 6 zd;have f13:=e 13 zd;have f14:=e 14 zd;have q1:=e 1 zd;have q3:=e 3 zd;have q4:=e 4 zd;have q5:=e 5 zd;simp only[] at*;simp(disch:=omega) at f6 f13 f14 q1 q3 q4 q5;refine cq f6 f13 f14 e5 u5 eo ?_;have A:ax b (h5.bj b.a o):=c.bj _ (.inl zl);have V:=X.g0 A;have Y:=X.lj V;have e6:=(A.f _ Oq id).trans I;have m6:MK (h5.bj b.a o) b.a (rA ar t.bc d):=fo _ (Hp.dq rfl);have x7:gG E lo (h5.bj b.a o) true bb kb lb ms (rA ar t.bc d) (EW d s) (.a bb 0) (.h b.a):=by
  refine⟨Y.a,Y.b,Y.k,.inr ⟨b.a,rfl,m6,?_,λ_=>?_⟩,x.o⟩;have:=y.b.lt;have:=n.1.f;have:=g.1.f;have:=r.1.f;have:=l.1.f;simp only[Hp.dC] at*;omega
  have:=y.b.lt;have:=y.a.lt;have:=n.1.f;have:=g.1.f;have:=r.1.f;have:=l.1.f;simp only[Hp.dC] at*;omega
 have La:∀W,qI E ms true t.bi t.at t.bc t.bv W=W:=λW=>by unfold qI;rw[atS zo,atS zo]
 have nf:NF 0 h (h5.bj b.a o):=x.nf ((((n.ab g).ab r).ab l).ab V).1;subst hT;refine U0 w ih x7 e6 (hn.nf nf zl) rB (λ_=>rfl) (λq=>by omega) K9 (by rw[La];exact us) (au q1) aa (au q3) (au q4) (au q5) zA λh8 p8=>hk h8 ?_;rw[La] at p8;exact((((n.ab g).ab r).ab l).ab V).ab p8
theorem akc(e:t.bi=5)(ok:fh aN t):∃b k1 c d,t.bv=[b,k1,c,d]/\fh false b/\aEy false k1.bv/\fh false c/\aEy true d.bv:=by
 cases t;simp[Tree.bi] at e;unfold fh at ok;rw[atV e] at ok;split at ok;exact⟨_,_,_,_,rfl,ok⟩
 grind
def ab3{b k1 d c:Tree}(f:t.bi=5)(e:t.bv=[b,k1,d,c]):fU E ms aN ar t s=
 ⟨s.m,s.b,(jF E [aX] true aX c.bv ⟨(oD E (b::k1.bv) ⟨aX,aX,s.a⟩).m,(oD E (b::k1.bv) ⟨aX,aX,s.a⟩).b,(fU E [] false aX d ⟨aX,aX,(oD E (b::k1.bv) ⟨aX,aX,s.a⟩).a⟩).a⟩).a⟩:=by
 cases t;cases k1;cases c;simp_all[Tree.bi,Tree.bv,fU,oD]
def OJ{t t1 t2:Tree}(h:t1∈t.bv)(b:t2∈t1.bv):sizeOf t2<sizeOf t:=axP (HN b) (HN h)
theorem akd{H:Hp}{q0:Nat}{t1:Nat->List AV}{kv:AV}{ps:List Tree}(m:H.ac q0=.b 72 6 1 0 t1)(y:lC 0 H kv ps)(A:ps.length<4294967296):∃g cap ex o e c,(kJ H 72 6 72 (.c q0 0 6 1 1 true) kv=.v (.c g 0 6 (1+ps.length) cap ex)/\c=H\/kJ H 72 6 72 (.c q0 0 6 1 1 true) kv=.b (.c g 0 6 (1+ps.length) cap ex) c)/\
 ax H c/\c.ac g=.b 72 6 o 0 e/\1+ps.length<=o/\e 0=t1 0/\∀j,(d:j<ps.length)->ay 0 H ps[j] (e (j+1)):=by
 rcases y with⟨rfl,rfl⟩|⟨p,b,cap,ex,r,f,rfl,w,x,B⟩;exact⟨q0,1,true,1,t1,H,.inl ⟨NK (rs:=[]) rfl rfl,rfl⟩,ah.da _,m,by simp,rfl,λj d=>absurd d zm⟩;have h0:=auA.2 p;obtain⟨n,l⟩:∃n,ps.length=n+1:=⟨ps.length- 1,by omega⟩;have u:=G2 (h:=H) (el:=72) (rw:=6) (bytes:=72) (n:=n) (i:=q0) (len:=1) (vh:=1) (t:=t1) zm m zl (Ke (n:=ps.length) (b:=b) (cap:=cap) (ex:=ex) zm w x) (by simp[lenOf,l]) (rV zo zo);refine⟨H.a,1+ps.length,false,1+ps.length,jy fG 0 (aEt t1 1 0++aEt f ps.length 0),_,.inr (by rw[u,l]),ah.am (ah.da _) _,?_,at2 _,?_,λj d=>?_⟩;rw[Hp.ba rfl,jJ,l];rw[wO (by simp[aEt])];rfl;have q:j+1<(aEt t1 1 0++aEt f ps.length 0).length:=by grind [oZ]
 rw[wO q];have z:(aEt t1 1 0++aEt f ps.length 0)[j+1]=(aEt f ps.length 0)[j]'(by grind [oZ]):=by rfl
 have:=vw f ps.length 0 j d
 grind
theorem ake(Q:aA T)(V:∀t',sizeOf t'<sizeOf t->tq T E t') (X:t.bi=5):tq T E t:=by
 intro aN ms ar s h row v a bb0 kb0 lb0 lo k x hn rB ok us hk;obtain⟨N,k1,f,o,ek,o0,o1,o2,o3⟩:=akc X ok;rw[ab3 X ek] at us hk;obtain⟨kv,rfl,hkv⟩:=hn.fx;obtain⟨hl,u⟩:=Aq rB;rw[ek] at u;simp only[pq] at u;obtain⟨b,cap,ex,r,ff,rfl,hb,hr,iW⟩:=hkv.pj qaa;have bz:t.bv.length=4:=by grind
 have hr:4<=r:=bz▸hr;have I:∀j(hj:j<4),ay 0 h ([N,k1,f,o][j]) (ff j):=λj hj=>by grind
 have J:ay 0 h N (ff 0):=I 0 zm;have hN1:ay 0 h k1 (ff 1):=I 1 zm;have K:ay 0 h f (ff 2):=I 2 zm;have hN3:ay 0 h o (ff 3):=I 3 zm;clear I iW;obtain⟨OE,r0,C2⟩:=J.fx;obtain⟨kv1,r1,U3⟩:=hN1.fx;obtain⟨zX,r2,wW⟩:=K.fx;obtain⟨zW,r3,Hj⟩:=hN3.fx;have lb:=Hp.lt hb rfl;rw[ic Q.t91];generalize hT:ayX=Tl;have e11:cellsOf (.b 72 6 r 0 ff) 11 1=some [kv1]:=by have:=Kd (el:=72) (rw:=6) (vh:=r) (fz:=0) (t:=ff) (k:=1) (j:=5) (n:=1) zo zm zm;simp_all
 generalize hD:azR=D;generalize hP:CC.d l91_3=LP;refine aB X ?_;rw[ic Q.t92];refine cq bz hb r0 e11 C2.lh U3.lh ?_;rw[<-r0];generalize g:(((((((h.am _).am _).am _).am _).am _).am _).am _:Hp)=H;have gH:ax h H:=by rw[<-g];exact aZ
 have nH:H.a=h.a+1+1+1+1+1+1+1:=by rw[<-g];rfl
 have u0:H.ac h.a=.a 72 [.i t.bi,.i t.gl,.i t.to,.i t.at,S t.bc,.c b 0 6 4 cap ex]:=by rw[<-g];simp(disch:=first|exact bh|fail) [X]
 have u1:H.ac (h.a+1)=.d [] 0:=by rw[<-g];simp
 have u2:H.ac (h.a+1+1)=.a 159 [.w,.y,.h (h.a+1)]:=by rw[<-g];simp
 have u3:H.ac (h.a+1+1+1)=.d [] 0:=by rw[<-g];simp
 have u4:H.ac (h.a+1+1+1+1)=.a 159 [.a (h.a+1+1) 0,.h (h.a+1+1+1),.h (h.a+1)]:=by rw[<-g];simp
 have u5:H.ac (h.a+1+1+1+1+1)=.d [] 0:=by rw[<-g];simp
 obtain⟨t1,u6,u7⟩:∃t1,H.ac (h.a+1+1+1+1+1+1)=.b 72 6 1 0 t1/\t1 0=ff 0:=⟨_,by rw[<-g];exact Hp.ba rfl,by simp⟩;clear g;have nfH:=mY gH;have O:=Aq u.2.1;obtain⟨b',U4,Ey,r',Lb,l,tu,U5,oY,qY,hf0,hfj⟩:=akd (H:=H) u6 (U3.nf nfH) O.1;have d:ax h l:=gH.ab U5;have akf:E.p<h.a/\E.b<h.a/\E.d<h.a:=by obtain⟨vv,hp,_⟩:=x.b.b;obtain⟨L,tm,_⟩:=x.a.a;exact⟨Hp.lt hp rfl,x.b.a.lt,tm.lt⟩
 have p0:=x.g0 d;have x0:=x.lj p0;have w:=λi(hi:i<H.a)=>U5.f i hi id;have Y:gG E h.a l true (h.a+1+1+1+1) (h.a+1+1+1) (h.a+1) [aX] aX ⟨aX,aX,s.a⟩ (.a (h.a+1+1+1+1) 0) (.h (h.a+1+1+1+1+1)):=by exact⟨x0.a,x0.b,⟨λe=>qaa,λ_=>⟨rfl,⟨_,(w _ zo).trans u4,(⟨h.a+1+1,.w,.y,.h (h.a+1),rfl,(w _ zo).trans u2,by omega,by omega,.inl ⟨rfl,λ_=>rfl⟩,rfl⟩)⟩,MK.ph ((w _ zo).trans u3),MK.ph ((w _ zo).trans u1),by omega,by omega,by omega⟩⟩,.inr ⟨_,rfl,MK.ph ((w _ zo).trans u5),by omega,λ_=>by omega⟩,akf⟩
 have e0:l.ac h.a=.a 72 [.i t.bi,.i t.gl,.i t.to,.i t.at,S t.bc,.c b 0 6 4 cap ex]:=(w _ zo).trans u0;have fX:l.ac b=.b 72 6 r 0 ff:=(d.f _ lb id).trans hb;have U6:=mY d;have m0:N∈t.bv:=by grind
 have m1:k1∈t.bv:=by grind
 have m2:f∈t.bv:=by grind
 have m3:o∈t.bv:=by grind
 generalize mX:oD E (N::k1.bv) ⟨aX,aX,s.a⟩=B at hk us;have P:=auD (Ao E o.bv [aX] true aX ⟨B.m,B.b,(fU E [] false aX f ⟨aX,aX,B.a⟩).a⟩) us;have us3:=auD (HL E f [] false aX ⟨aX,aX,B.a⟩) P;have goD:∀(c:Fr)(z:Hp),nE E l true (h.a+1+1+1) (h.a+1) B z->cg 1 c=.a (h.a+1+1+1+1) 0->cg 2 c=.h (h.a+1+1+1+1+1)->cg 3 c=.a E.k 0->cg 4 c=.a E.g 0->cg 5 c=.a E.f 0->cg 6 c=.a h.a 0->
  W T D c z [] (bY 0 (bF (W T Tl) (finish T (W T) [] k))):=by
  intro c z p f1 R f3 f4 f5 f6;have C:=Y.lj p;have Z:=Y.nf p.1;have e2:=Y.ly p.1 e0 zm;have rT:=Z _ _ _ (auz _) fX;have akg:=C.a.u;have e12:cellsOf (.b 72 6 r 0 ff) 12 6=some [.i f.bi,.i f.gl,.i f.to,.i f.at,S f.bc,zX]:=by have:=Kd (el:=72) (rw:=6) (vh:=r) (fz:=0) (t:=ff) (k:=2) (j:=0) (n:=6) zo zm zm;simp_all
  have e23:cellsOf (.b 72 6 r 0 ff) 23 1=some [zW]:=by have:=Kd (el:=72) (rw:=6) (vh:=r) (fz:=0) (t:=ff) (k:=3) (j:=5) (n:=1) zo zm zm;simp_all
  generalize hB:CC.d l91_2=LB at hD;subst hD;unfold azR zt;refine fY R f3 f6 e2 rT akg e12 wW.lh ?_;rw[<-r2];refine V f (HN m2) false [] aX ⟨aX,aX,B.a⟩ z _ .w _ 0 0 0 _ _ C.fls ((K.nf U6 zl).nf Z zl) u.2.2.1 o2 P λh3 p3=>?_;have m:=C.abN p3;have x3:=C.lj m;have KF:=C.nf m.1;have e3:=C.ly m.1 e2 zm;have Ea:=KF _ _ _ (auz _) rT;have F:lC 0 h3 zW o.bv:=((Hj.nf U6).nf Z).nf KF;simp(disch:=omega) [f6,e3,Ea,e23,F.px];subst hB;refine abM Q (n:=o.bv.length) (kv:=zW) o.bv 0 _ h3 _ _ (λt' M=>V t' (OJ m3 M)) zo (Aq u.2.2.2.1).1 x3 F.pj (Aq u.2.2.2.1).2 o3 us aa aa aa zA zA zA λf5' h5 hf5 p5=>?_;refine ag ?_;have pp:=(p.ab m).ab p5;obtain⟨U,sc5,_⟩:=pp;refine hk h5 ⟨⟨at1 d.g U.f,λi hi hm h36=>?_⟩,sc5,λhB=>?_⟩;rw[U.d i (aur hi d.g) ?_ (by rw[d.f i hi id];omega),d.f i hi id];rintro(q|q|⟨_,q|q⟩);exact hm (.inl q);exact hm (.inr (.inl q));omega;omega;obtain⟨e,y⟩:=x.k.2 hB;have y1:=y.d;have y2:=y.f;have:=x.o
  have l1:=y.a.lt;have l2:=y.b.lt
  have q1:¬uw (l.ac kb0):=by rw[d.f _ l1 id];rintro⟨_,_,q⟩;exact y.a.yn q
  have q2:¬uw (l.ac lb0):=by rw[d.f _ l2 id];rintro⟨_,_,q⟩;exact y.b.yn q
  refine⟨y.a.aw ((U.d _ (aur l1 d.g) ?_ q1).trans (d.f _ l1 id)),y.b.aw ((U.d _ (aur l2 d.g) ?_ q2).trans (d.f _ l2 id))⟩;rintro(q|q|⟨_,q|q⟩)<;>omega;rintro(q|q|⟨_,q|q⟩)<;>omega
 have G:∀(c:Fr),cg 47 c=.c b' 0 6 (1+k1.bv.length) U4 Ey->cg 48 c=.i (1+k1.bv.length:Nat)->cg 49 c=.i 0->cg 1 c=.a (h.a+1+1+1+1) 0->cg 2 c=.h (h.a+1+1+1+1+1)->cg 3 c=.a E.k 0->cg 4 c=.a E.g 0->cg 5 c=.a E.f 0->cg 6 c=.a h.a 0->
  W T LP c l [] (bY 1 (bF (W T D) (bY 0 (bF (W T Tl) (finish T (W T) [] k))))):=by
  intro c q1 q2 q3 f1 R f3 f4 f5 f6;subst hP;refine abP Q (n:=1+k1.bv.length) (N::k1.bv) 0 ⟨aX,aX,s.a⟩ l c _ (λt' M=>?_) zn zo Y (λ_=>⟨b',U4,Ey,r',Lb,rfl,oY,qY,λj hj=>?_⟩) ?_ ?_ (by rw[mX];exact us3) q1 q2 (by rw[q3];rfl) f1 R f3 f4 f5 λf2' z A p=>?_;rcases atZ.1 M with rfl|M;exact V _ (HN m0);exact V _ (OJ m1 M);rcases j with _|j;simp only[aus,aud,hf0,u7];exact J.nf U6 zl;simp only[auu,aue];exact(hfj j (by simpa using hj)).nf (mY U5) zl;unfold pq;exact⟨u.1,O.2⟩;unfold aEy;exact⟨o0,o1⟩;rw[mX] at p;refine ag ?_;exact goD _ z p ((A 1 zd).trans f1) ((A 2 zd).trans R) ((A 3 zd).trans f3) ((A 4 zd).trans f4) ((A 5 zd).trans f5) ((A 6 zd).trans f6)
 rcases tu with⟨ea,rfl⟩|ea;rw[ea];refine ag ?_;refine G _ ?_ ?_ ?_ ?_ ?_ ?_ ?_ ?_ ?_<;>simp(disch:=omega);rw[ea];refine ag ?_;refine G _ ?_ ?_ ?_ ?_ ?_ ?_ ?_ ?_ ?_<;>simp(disch:=omega)
theorem akh(b:aA T)(E:fM)(t:Tree):tq T E t:=by
 generalize c:sizeOf t=n
 induction n using Nat.strongRecOn generalizing t with
 |_ n d=>
  grind [HN,ake,aj9,aka,aj7]
end
structure xm(E n:fM):Prop where
 j:E.j=n.j
 h:E.n=n.n
 g:E.c=n.c
 f:E.a=n.a
section
variable {E n:fM}
theorem xm.wl(x:xm E n):kj E=kj n:=by obtain⟨a,b,c,d⟩:=x;unfold kj;grind
def xm.use(x:xm E n):lD E=lD n:=by obtain⟨a,b,c,d⟩:=x;unfold lD;rw[a]
theorem xm.pl(x:xm E n):qH E=qH n:=by obtain⟨a,b,c,d⟩:=x;grind [qH]
def xm.par(x:xm E n):tj E=tj n:=by unfold tj;rw[x.wl]
mutual
theorem HO(x:xm E n):∀(t:Tree)(ms:List KM)(aN:Bool)(ar:KM)(s:WS),fU E ms aN ar t s=fU n ms aN ar t s
 |.mk kind i to a nm c,ms,aN,ar,s=>by
  have e:=λms aN ar s=>U8 x c ms aN ar s
  by_cases b:kind=5
  conv=>lhs;unfold fU
  conv=>rhs;unfold fU
  rw[atV b,atV b];split;rename_i f _ _ _ _ _ ps g _ _ _ _ _ d;simp only[HO x f,HO x g,x.par,ab5 x ps,U8 x d];rfl
  conv=>lhs;unfold fU
  conv=>rhs;unfold fU
  rw[atS b,atS b];simp only[e,x.wl,x.use,x.pl,x.f]
theorem U8(x:xm E n):∀(t:List Tree)(ms:List KM)(aN:Bool)(ar:KM)(s:WS),jF E ms aN ar t s=jF n ms aN ar t s
 |[],_,_,_,_=>by rfl
 |t::ts,ms,aN,ar,s=>by unfold jF;rw[HO x t,U8 x ts]
theorem ab5(x:xm E n):∀(t:List Tree)(s:WS),oD E t s=oD n t s
 |[],_=>by rfl
 |t::ts,s=>by unfold oD;rw[HO x t,x.par,ab5 x ts]
end
def C3(fs:List Tree)(aq:List (List UInt8))(bu:List UInt8->List aC)(j:Nat):fM:=⟨0,0,0,0,0,0,j,.B,.B,.B,.B,fs,aq,bu⟩
def uB(fs:List Tree)(aq:List (List UInt8))(bu:List UInt8->List aC):List Tree->Nat->Sc->Sc
 |[],_,s=>s
 |t::ts,j,s=>uB fs aq bu ts (j+1) (fU (C3 fs aq bu j) [] false aX t ⟨aX,aX,s⟩).a
def ab6{fs aq bu}:∀(ts:List Tree)(j:Nat)(s:Sc),s.b.length<=(uB fs aq bu ts j s).b.length
 |[],_,_=>at2 _
 |t::ts,j,s=>at1 (HL (C3 fs aq bu j) t [] false aX ⟨aX,aX,s⟩) (ab6 ts (j+1) _)
end
section
variable {k:aK->Prop}
structure HP(p aG tb:Nat)(c0 c1 c2 c8:AV)(fs:List Tree)(aq:List (List UInt8))(bu:List UInt8->List aC)(h:Hp):Prop where
 a:Bu h tb bu
 k:∀s,(bu s).length<1073741824
 d:lC 0 h c1 fs
 j:yb h c2 aq
 c:fs.length=aq.length
 l:fs.length<4294967296
theorem HP.aw{p aG tb:Nat}{c0 c1 c2 c8 fs aq bu}{h':Hp}{M:Nat->Prop}(x:HP p aG tb c0 c1 c2 c8 fs aq bu h)(g:Wf M h h')(s:∀i,M i->i≠tb/\∀el rw r f,h.ac i≠.b el rw r 0 f):HP p aG tb c0 c1 c2 c8 fs aq bu h':=by
 have key:∀i o,h.ac i=o->jN o=false->¬M i->¬uw o->h'.ac i=o:=λi o e z y B=>by rw[g.d i (Hp.lt e z) y qaa];omega
 have nf:NF 0 h h':=λi r f _ e=>key i _ e rfl (λm=>(s i m).2 _ _ _ _ e) (λ⟨_,_,e⟩=>by grind);obtain⟨L,A,D⟩:=x.a;refine⟨x.a.aw λq C hh=>?_,x.k,x.d.nf nf,λne=>?_,x.c,x.l⟩;rcases hh with rfl|⟨r,f,e⟩;obtain⟨⟨aD,e⟩,_⟩:=A;exact(key _ _ e rfl (λm=>(s _ m).1 rfl) (λ⟨_,_,e⟩=>by grind)).trans e.symm;exact(key _ _ e rfl (λm=>(s _ m).2 _ _ _ _ e) (λ⟨_,_,e⟩=>by grind)).trans e.symm;obtain⟨b,cap,ex,r,t,v,u,w⟩:=x.j ne;exact⟨b,cap,ex,r,t,v,key _ _ u rfl (λm=>(s _ m).2 _ _ _ _ u) (λ⟨_,_,e⟩=>by grind),w⟩
structure uC(p aG tb:Nat)(c0 c1 c2 c8:AV)(h:Hp)(s:Sc):Prop where
 a:∃v,h.ac p=.a 67 (bS c0 c1 c2 s.a (.h aG) (.h tb) c8 v)/\pA h v s.b
 b:lX h aG s.c
 c:aG≠tb
theorem aki(S:aA T){p aG tb:Nat}{c0 c1 c2 c8:AV}{fs:List Tree}{aq:List (List UInt8)}{bu:List UInt8->List aC}{s:Sc}(x:HP p aG tb c0 c1 c2 c8 fs aq bu h)(y:uC p aG tb c0 c1 c2 c8 h s)
 (ok:∀t∈fs,fh false t/\rY t) (us:(uB fs aq bu fs 0 s).b.length<1073741824)
 (w:∀h',Wf (λi=>i=p\/i=aG) h h'->uC p aG tb c0 c1 c2 c8 h' (uB fs aq bu fs 0 s)->k (.a (.p []) h')):aE T (W T) ⟨59⟩ [.a p 0] h k:=by
 rw[ic S.t59];obtain⟨vv,C,sk⟩:=y.a;have z:=Hp.lt C rfl;have U:=y.b.lt;have V:=C;simp only[bS] at V;generalize hL:CC.d l59_0=L;simp(disch:=omega) [V,x.d.px];subst hL;have kinds:∀(a:Hp)(c:Sc),HP p aG tb c0 c1 c2 c8 fs aq bu a->uC p aG tb c0 c1 c2 c8 a c->∀i,(i=p\/i=aG)->i≠tb/\∀el rw r f,a.ac i≠.b el rw r 0 f:=by
  rintro a c d y1 i (rfl|rfl);obtain⟨v,C,_⟩:=y1.a;obtain⟨L,⟨⟨aD,e⟩,_⟩,_⟩:=d.a
  grind
  obtain⟨L,aD,q,_⟩:=y1.b;exact⟨y1.c,λ_ _ _ _ e=>qaa⟩
 have key:∀(ts:List Tree)(j:Nat)(c:Sc)(a:Hp)(f:Fr)(K:aT->Prop),j+ts.length=fs.length->(∀i(hi:i<ts.length),fs[j+i]? =some ts[i])->HP p aG tb c0 c1 c2 c8 fs aq bu a->uC p aG tb c0 c1 c2 c8 a c->a.ac h.a=.a 25 [.a p 0]->p<h.a->aG<h.a->(uB fs aq bu ts j c).b.length<1073741824->
  cg 1 f=.a h.a 0->cg 8 f=c1->cg 9 f=.i fs.length->cg 10 f=.i j->(∀B h',Wf (λi=>i=p\/i=aG) a h'->uC p aG tb c0 c1 c2 c8 h' (uB fs aq bu ts j c)->K (.a 0 B h' []))->W T (.d l59_0) f a [] K:=by
  intro ts
  induction ts with
  |nil=>
   intro j c a f K J N d y1 Q z ln us X f8 f9 f10 w;subst J;rw[aP];exact aU f8 f9 f10 (w _ _ (Wf.da _) y1)
  |cons t ts ih=>
   intro j c a f K J N d y1 Q z ln us X f8 f9 f10 w;simp only[atX] at J;have nV:=d.l;have A:j<fs.length:=zo;have aY:(j:Int)<fs.length:=zo;have et:fs[j]=t:=by
    have:=N 0 zm
    grind
   obtain⟨OL,P⟩:=ok t qaa;obtain⟨b,cap,ex,r,ff,ec,Z,hr,hn⟩:=d.d.pj qaa;have G:=hn j A;simp only[aue,et] at G;obtain⟨kv,r0,M⟩:=G.fx;have lb:=Hp.lt Z rfl;have OF:=Hp.lt Q rfl;rw[aP];refine nA X f8 f9 f10 A aY ec Z r0 M.lh ?_;rw[<-r0];generalize u:((((((a.am _).am _).bj _ _).bj _ _).am _).bj _ _:Hp)=H;have m:ax a H:=by rw[<-u];exact fZ
   have nH:H.a=a.a+1+1+1:=by rw[<-u];simp(disch:=first|exact bh|fail)
   have u1:H.ac a.a=.a 3 [.i j]:=by rw[<-u];simp(disch:=first|exact bh|fail)
   have u3:H.ac (a.a+1+1)=.a 154 [.q ⟨91⟩ [] [.a (a.a+1+1) 0,.a h.a 0,.a a.a 0]]:=by rw[<-u];simp
   clear u;have U9:H.ac h.a=.a 25 [.a p 0]:=(m.f _ OF id).trans Q
   let E:fM:=⟨p,aG,tb,a.a+1+1,h.a,a.a,j,c0,c1,c2,c8,fs,aq,bu⟩
   have g:=d.aw (Wf.of m) (λ_ q=>q.elim);have F:CZ E H:=⟨u3,U9,u1,g.a,g.k,g.d,g.j (Cq (j:=j) (by rw[<-g.c];omega)),A,by rw[<-g.c];omega,by grind [Aq]⟩;obtain⟨v1,fu,K6⟩:=y1.a;have O:EX E H c:=(EX.g0 (E:=E) ⟨⟨v1,fu,K6⟩,y1.b,y1.c⟩ m);obtain⟨L,tm,_⟩:=g.a;have dW:=tm.lt;have pre:gG E H.a H false 0 0 0 [] aX ⟨aX,aX,c⟩ .w .y:=⟨F,O,⟨λ_=>rfl,λe=>by grind⟩,.inl ⟨rfl,rfl,rfl⟩,⟨by grind,by grind,dW⟩⟩;have same:xm E (C3 fs aq bu j):=⟨rfl,rfl,rfl,rfl⟩;have UR:(fU E [] false aX t ⟨aX,aX,c⟩).a.b.length<1073741824:=by rw[HO same];exact auD (ab6 ts (j+1) _) us
   refine akh S E t false [] aX ⟨aX,aX,c⟩ H (ff j) .w .y 0 0 0 H.a _ pre (G.nf (mY m) zl) P OL UR λo p2=>?_;rw[HO same] at p2;obtain⟨g2,OI,_⟩:=p2;have l:Wf (λi=>i=p\/i=aG) H o:=g2.aw λi _ q=>by
    rcases q with q|q|⟨q,_⟩
    grind
    grind
    grind
   have Y:Wf (λi=>i=p\/i=aG) a o:=(Wf.of (ah.ka m)).ab l;have y2:uC p aG tb c0 c1 c2 c8 o (fU (C3 fs aq bu j) [] false aX t ⟨aX,aX,c⟩).a:=⟨OI.b,OI.a,y1.c⟩;have x2:=d.aw Y (kinds a c d y1);have D:o.ac h.a=.a 25 [.a p 0]:=by rw[l.d _ zo zo qad];omega
   refine aS f10 A ?_;refine ih (j+1) _ o _ K zo (λi hi=>?_) x2 y2 D z ln us zA zA zA aa λB h' I R=>w B h' (Y.ab I) R;have:=N (i+1) qaa;simp only[auu] at this;rw[show j+1+i=j+(i+1) by omega];exact this
 have g0:ax h (h.am (.a 25 [.a p 0])):=aZ;have y0:uC p aG tb c0 c1 c2 c8 (h.am (.a 25 [.a p 0])) s:=⟨⟨vv,(g0.f _ z id).trans C,sk.aw λq hq _=>g0.f q hq id⟩,y.b.aw (g0.f _ U id),y.c⟩;refine key fs 0 s _ _ _ zo (λi hi=>by simp[hi]) (x.aw (Wf.of g0) λ_ q=>q.elim) y0 (Hp.ba rfl) z U us aa aa aa aa λB h' I R=>?_;refine ag ?_;exact w _ ((Wf.of (ah.ka g0)).ab I) R
end
structure DA(h:Hp)(q r n:Nat)(t:Nat->List AV):Prop where
 b:h.ac q=.b 38 5 r 0 t
 f:n<=r
 a:∀j,j<n->∃d:aC,t j=d.ca
def Pm(n:Nat)(t t':Nat->List AV):Prop:=(aEt t' n 0).Perm (aEt t n 0)
theorem Pm.da{n t}:Pm n t t:=awU _
def Pm.ab{n t t' c}(a:Pm n t t')(b:Pm n t' c):Pm n t c:=List.Perm.trans b a
def ab7{t:Nat->List AV}{r:List AV}{n i:Nat}(hi:i<n):aEt (cx t i r) n 0=(aEt t n 0).set i r:=by
 apply avs;intro j
 by_cases a:j<n
 rw[vw _ n 0 j a,aue,dZ,awt,oZ,vw t n 0 j a,aue]
 by_cases e:j=i
 subst e;simp[a];rw[atS e,atS (Ne.symm e)];rw[auI (by rw[oZ];omega),auI (by rw[List.length_set,oZ];omega)]
def akk{n i j:Nat}{t:Nat->List AV}(hi:i<n)(b:j<n):Pm n t (cx (cx t i (t j)) j (t i)):=by
 unfold Pm;rw[ab7 b,ab7 hi];have e:∀m,(a:m<n)->t m=(aEt t n 0)[m]'(by rw[oZ];exact a):=λm a=>by have:=vw t n 0 m a;rw[atT (by rw[oZ];exact a),aue] at this;exact(auQ this).symm
 rw[e i hi,e j b];exact List.set_set_perm _ _
def DA.swap{h h':Hp}{q r n i j:Nat}{t:Nat->List AV}(x:DA h q r n t)(hi:i<n)(c:j<n)(e:h'.ac q=.b 38 5 r 0 (cx (cx t i (t j)) j (t i))):DA h' q r n (cx (cx t i (t j)) j (t i)):=by refine⟨e,x.f,λm d=>?_⟩;simp only[dZ];split;exact x.a i hi;split;exact x.a j c;exact x.a m d
def DA.sw{h:Hp}{q r n i j:Nat}{t:Nat->List AV}(x:DA h q r n t)(hi:i<n)(g:j<n){d c:aC}(l:t i=d.ca)(m:t j=c.ca):
 ∃t' e,e=(h.bj q (.b 38 5 r 0 (cx t i [.i c.b,S c.a,.i c.c,.i c.f,S c.g]))).bj q (.b 38 5 r 0 (cx (cx t i [.i c.b,S c.a,.i c.c,.i c.f,S c.g]) j [.i d.b,S d.a,.i d.c,.i d.f,S d.g]))/\
  DA e q r n t'/\Pm n t t'/\ah (·=q) h e:=
 ⟨_,_,rfl,x.swap hi g (by rw[Hp.dq rfl,l,m];rfl),akk hi g,ah.bj (M:=(·=q)) (ah.bj (M:=(·=q)) (ah.da _) _ (.inr rfl)) _ (.inr rfl)⟩
def DA.aw{h h':Hp}{q r n:Nat}{t:Nat->List AV}(x:DA h q r n t)(e:h'.ac q=h.ac q):DA h' q r n t:=⟨e.trans x.b,x.f,x.a⟩
def DA.lt{h:Hp}{q r n:Nat}{t:Nat->List AV}(x:DA h q r n t):q<h.a:=Hp.lt x.b rfl
section
variable {k:aK->Prop}{t:Nat->List AV}
def aER(a:aA T){d e:aC}(c:∀(r:Int) h',ax h h'->k (.a (.i r) h')):aE T (W T) ⟨127⟩ [.j d.ca,.j e.ca] h k:=by
 rw[ic a.t127];simp only[aC.ca];refine ag ?_;refine Oz a ?_;refine ag ?_;refine Oz a ?_;refine ag ?_;refine abz a (L:=[xj d.c e.c,xj d.f e.f]) (Hp.ba rfl) zm (λj b=>?_) zm ?_;exact match j,b with
 |0,_=>rfl
 |1,_=>rfl
 refine ag ?_;exact c _ _ aZ
def SK(h:Hp)(q r n:Nat)(t:Nat->List AV)(k:aK->Prop)(v:AV):Prop:=∀h' t',ah (·=q) h h'->DA h' q r n t'->Pm n t t'->k (.a v h')
def akl(M:aA T){a b:Nat}(x:DA h q r n t)(ha:a<=n)(hb:b<=n)(hn:n<1073741824)(s:SK h q r n t k (.p [])):aE T (W T) ⟨179⟩ [.c q 0 5 n cap ex,.i a,.i b,.q ⟨127⟩ [] []] h k:=by
 rw[ic M.t179];have S:∀(j:Nat)(l:Hp)(t1:Nat->List AV)(f:Fr)(K:aT->Prop),j<n->DA l q r n t1->cg 0 f=.c q 0 5 n cap ex->cg 1 f=.i a->cg 3 f=.q ⟨127⟩ [] []->cg 9 f=.i j->
  (∀u h' t',(∀p,p<=8->cg p u=cg p f)->ah (·=q) l h'->DA h' q r n t'->Pm n t1 t'->K (.a 2 u h' []))->W T (.d l179_0) f l [] K:=by
  intro j
  induction j with
  |zero=>
   intro l t1 f K I g f0 o f3 f9 s;have e:¬(a:Int)<0:=zo;rw[aP];refine cC f0 o f3 f9 e ?_;exact s _ _ t1 (λp G=>by repeat rw[eG (m:=9) zo zd]) (ah.da _) g Pm.da
  |succ j J=>
   intro l t1 f K I g f0 o f3 f9 s;rw[aP]
   by_cases c:(a:Int)<j+1
   ·obtain⟨U,z⟩:=g.a (j+1) I;obtain⟨V,A⟩:=g.a j zo;have Z:=g.b;have dA:=g.f;have v:=z;have w:=A
    simp only[aC.ca] at v w;have lq:=g.lt;refine fY f0 o f3 f9 c Z v w ?_;refine aER (d:=U) (e:=V) M λrr Q g2=>?_;have E:=g.aw (g2.f _ lq id)
    by_cases c2:rr<0
    ·have nv:=E.b;refine fY f0 o f3 f9 c2 nv v w ?_;obtain⟨t2,H',X,x3,p3,Y⟩:=E.sw I (show j<n by omega) z A;rw[<-X];refine J _ t2 _ K zo x3 zA zA zA aa λu h' t' y B D C=>s u h' t' (λp G=>?_) ((ah.ka g2).ab (Y.ab B)) D (p3.ab C);rw[y p G]
     repeat rw[eG (m:=9) zo zd]
    ·refine cC f0 o f3 f9 c2 ?_;exact s _ _ t1 (λp G=>by repeat rw[eG (m:=9) zo zd]) (ah.ka g2) E Pm.da
   ·refine cC f0 o f3 f9 c ?_;exact s _ _ t1 (λp G=>by repeat rw[eG (m:=9) zo zd]) (ah.da _) g Pm.da
 have R:∀(m i:Nat)(l:Hp)(t1:Nat->List AV)(f:Fr)(K:aT->Prop),m=b- i->DA l q r n t1->cg 0 f=.c q 0 5 n cap ex->cg 1 f=.i a->cg 2 f=.i b->cg 3 f=.q ⟨127⟩ [] []->cg 8 f=.i i->
  (∀u h' t',ah (·=q) l h'->DA h' q r n t'->Pm n t1 t'->K (.a 0 u h' []))->i<2147483648->W T (.d l179_1) f l [] K:=by
  intro m
  induction m with
  |zero=>
   intro i l t1 f K hm g f0 o F f3 f8 s hi;have e:¬i<b:=zo;rw[aP];refine cq f0 o F f3 f8 e ?_;exact s _ _ t1 (ah.da _) g Pm.da
  |succ m J=>
   intro i l t1 f K hm g f0 o F f3 f8 s hi;have e:i<b:=zo;rw[aP];generalize H:CC.d l179_0=L;refine cq f0 o F f3 f8 e ?_;subst H;refine S i l t1 _ _ zo g zA zA zA aa λu Q t2 y g2 E p2=>?_;have N:=y 0 zd;have z:=y 1 zd;have A:=y 2 zd;have O:=y 3 zd;have P:=y 8 zd
   simp(disch:=omega) [f0,o,F,f3,f8] at N z A O P;refine aB P ?_;exact J (i+1) Q t2 _ K zo E (au N) (au z) (au A) (au O) aa (λvM h' t' B D C=>s vM h' t' (g2.ab B) D (p2.ab C)) zo
 generalize H:CC.d l179_1=L;refine ag ?_;subst H;refine R _ (a+1) h t _ _ rfl x aa aa aa aa aa (λu h' t' B D C=>?_) zo;refine ag ?_;exact s _ _ B D C
end
section
variable {k:aK->Prop}{t:Nat->List AV}
def ab8(E:aA T){lo hi fst:Nat}(x:DA h q r n t)(hb:fst+hi<=n)(hn:n<1073741824)(cK:lo<1073741824)(s:SK h q r n t k (.p [])):aE T (W T) ⟨209⟩ [.c q 0 5 n cap ex,.i lo,.i hi,.i fst,.q ⟨127⟩ [] []] h k:=by
 rw[ic E.t209];have key:∀(m root:Nat)(l:Hp)(t1:Nat->List AV)(f:Fr)(K:aT->Prop),m=hi- root->root<2147483648->DA l q r n t1->cg 0 f=.c q 0 5 n cap ex->cg 2 f=.i hi->cg 3 f=.i fst->cg 4 f=.q ⟨127⟩ [] []->cg 10 f=.i root->
  (∀g h' t',ah (·=q) l h'->DA h' q r n t'->Pm n t1 t'->K (.a 0 g h' [])/\K (.b g h' []))->W T (.d l209_0) f l [] K:=by
  intro m
  induction m using Nat.strongRecOn with
  |_ m V=>
   intro root l t1 f K hm O o f0 j f3 f4 f10 s;rw[aP];show W T az9 f l [] _;unfold az9 zt
   by_cases c:(hi:Int)<=2*root+1
   refine aU j f10 c ?_;exact(s _ _ t1 (ah.da _) o Pm.da).1;have c':2*root+1<hi:=zo;have U:=o.b;have dA:=o.f;have X:=o.lt;generalize R:aBa=D;have go:∀(i:Nat)(p:Hp)(g:Fr),ax l p->root<i->i<hi->cg 0 g=.c q 0 5 n cap ex->cg 2 g=.i hi->cg 3 g=.i fst->cg 4 g=.q ⟨127⟩ [] []->cg 10 g=.i root->cg 11 g=.i i->W T D g p [] (bY 1 (bF (W T (.d l209_0)) K)):=by
    intro i p g g2 mR eZ f0 j f3 f4 f10 f11;subst R;have u:=o.aw (g2.f _ X id);have Y:=u.b;obtain⟨F,v⟩:=u.a (fst+root) zo;obtain⟨G,w⟩:=u.a (fst+i) zo;have a:=v;have b:=w
    simp only[aC.ca] at a b;have i1:(fst:Int)+root<n:=zo;have i2:(fst:Int)+i<n:=zo;have B:((fst:Int)+root).toNat=fst+root:=zo;have C:((fst:Int)+i).toNat=fst+i:=zo;refine wM f0 j f3 f4 f10 f11 Y a b B C ?_;refine aER (d:=F) (e:=G) E λJ h3 H=>?_;have M:=u.aw (H.f _ u.lt id);have I:=M.b
    by_cases c2:J<0
    refine pU f0 j f3 f4 f10 f11 I a b B C c2 ?_;obtain⟨t2,N,P,x4,Z,Q⟩:=M.sw (show fst+root<n by omega) (show fst+i<n by omega) v w;rw[<-P];exact V (hi- i) zo i N t2 _ K rfl zo x4 zA zA zA zA aa λvM h' t' y A z=>s vM h' t' ((ah.ka (g2.ab H)).ab (Q.ab y)) A (Z.ab z);refine iR f0 j f3 f4 f10 f11 c2 ?_;exact(s _ _ t1 (ah.ka (g2.ab H)) M Pm.da).2
   by_cases c3:(2*(root:Int)+1+1<hi)
   obtain⟨F,v⟩:=o.a (fst+(2*root+1)) zo;obtain⟨G,w⟩:=o.a (fst+(2*root+1)+1) zo;have a:=v;have b:=w
   simp only[aC.ca] at a b;have B:((fst:Int)+(2*root+1)).toNat=fst+(2*root+1):=zo;have C:((fst:Int)+(2*root+1)+1).toNat=fst+(2*root+1)+1:=zo;refine pU f0 j f3 f4 f10 c c3 U a b B C ?_;refine aER (d:=F) (e:=G) E λJ p g2=>?_
   by_cases c2:J<0
   refine cq f0 j f3 f4 f10 c2 ?_;exact go (2*root+1+1) p _ g2 zo zo zA zA zA zA zA aa;refine cq f0 j f3 f4 f10 c2 ?_;exact go (2*root+1) p _ g2 zo zo zA zA zA zA zA aa;refine iR f0 j f3 f4 f10 c c3 ?_;exact go (2*root+1) l _ (ah.da _) zo zo zA zA zA zA zA aa
 generalize S:CC.d l209_0=L;refine ag ?_;subst S;refine key _ lo h t _ _ rfl zo x aa aa aa aa aa λg h' t' y A z=>⟨?_,?_⟩;refine ag ?_;exact s _ _ y A z;refine ag ?_;exact s _ _ y A z
def akm(C:aA T){a b:Nat}(x:DA h q r n t)(qU:a<=b)(hb:b<=n)(Q:n<1073741824)(o:SK h q r n t k (.p [])):aE T (W T) ⟨180⟩ [.c q 0 5 n cap ex,.i a,.i b,.q ⟨127⟩ [] []] h k:=by
 rw[ic C.t180];have build:∀(i:Nat)(d:Hp)(t1:Nat->List AV)(f:Fr)(K:aT->Prop),i<1073741824->DA d q r n t1->cg 0 f=.c q 0 5 n cap ex->cg 8 f=.i a->cg 10 f=.i ((b:Int)- a)->cg 3 f=.q ⟨127⟩ [] []->cg 11 f=.i ((i:Int)- 1)->
  (∀s h' t',(∀p,p<=10->cg p s=cg p f)->ah (·=q) d h'->DA h' q r n t'->Pm n t1 t'->K (.a 0 s h' []))->W T (.d l180_1) f d [] K:=by
  intro i
  induction i with
  |zero=>
   intro d t1 f K hi g f0 f8 f10 f3 f11 o;rw[aP];refine aB f11 ?_;exact o _ _ t1 (λp R=>by repeat rw[eG (m:=11) zo zd]) (ah.da _) g Pm.da
  |succ i F=>
   intro d t1 f K hi g f0 f8 f10 f3 f11 o;have f11:cg 11 f=.i i:=by rw[f11];congr 1;omega
   rw[aP];have l:((b:Int)- a)=((b- a:Nat):Int):=zo;rw[l] at f10;refine cC f0 f8 f10 f3 f11 ?_;refine ab8 C g zo Q zo λP t2 g2 z y=>?_;refine aB f11 ?_;refine F P t2 _ K zo z zA zA (by refine aB f10 ?_;omega) zA aa λs h' t' v D I G=>o s h' t' (λp R=>?_) (g2.ab D) I (y.ab G);rw[v p R]
   repeat rw[eG (m:=11) zo zd]
 have H:∀(i:Nat)(d:Hp)(t1:Nat->List AV)(f:Fr)(K:aT->Prop),i<=b- a->DA d q r n t1->cg 0 f=.c q 0 5 n cap ex->cg 8 f=.i a->cg 9 f=.i 0->cg 3 f=.q ⟨127⟩ [] []->cg 12 f=.i ((i:Int)- 1)->
  (∀s h' t',ah (·=q) d h'->DA h' q r n t'->Pm n t1 t'->K (.a 2 s h' []))->W T (.d l180_0) f d [] K:=by
  intro i
  induction i with
  |zero=>
   intro d t1 f K hi g f0 f8 f9 f3 f12 o;rw[aP];refine aB f12 ?_;exact o _ _ t1 (ah.da _) g Pm.da
  |succ i F=>
   intro d t1 f K hi g f0 f8 f9 f3 f12 o;have f12:cg 12 f=.i i:=by rw[f12];congr 1;omega
   rw[aP];obtain⟨j,L⟩:=g.a a zo;obtain⟨c,M⟩:=g.a (a+i) zo;have w:=L;have u:=M
   simp only[aC.ca] at w u;have Z:=g.b;have dA:=g.f;have i1:(a:Int)+i<n:=zo;have z1:((a:Int)+i).toNat=a+i:=zo;have A:cx t1 a [.i c.b,S c.a,.i c.c,.i c.f,S c.g] (a+i)=if a+i=a then[.i c.b,S c.a,.i c.c,.i c.f,S c.g] else t1 (a+i):=by rw[dZ]
   have e4:mK 0 [.i j.b,S j.a,.i j.c,.i j.f,S j.g] (cx t1 a [.i c.b,S c.a,.i c.c,.i c.f,S c.g] (a+i))=some [.i j.b,S j.a,.i j.c,.i j.f,S j.g]:=by rw[A];split;rfl;rw[u];rfl
   refine mz f0 f8 f9 f3 f12 Z w u z1 ?_;obtain⟨t2,H',V,z,y,g2⟩:=g.sw (show a<n by omega) (show a+i<n by omega) L M;rw[<-V];refine ab8 (lo:=0) C z zo Q zo λY t3 X x3 p3=>?_;refine aB f12 ?_;exact F Y t3 _ K zo x3 zA zA zA zA aa λs h' t' D I G=>o s h' t' ((g2.ab X).ab D) I ((y.ab p3).ab G)
 generalize jg:CC.d l180_1=L1;generalize pz:CC.d l180_0=L0;obtain⟨B,U,E⟩:∃B:Nat,B<1073741824/\((b:Int)- a- 1).tdiv 2=(B:Int)- 1:=by
  by_cases e:b- a=0
  exact⟨1,by decide,by rw[show((b:Int)- a- 1)=-1 by omega];decide⟩;refine⟨(b- a- 1)/2+1,by omega,?_⟩;rw[avr zo];omega
 refine aB E ?_;subst jg;refine build B h t _ _ U x aa aa aa aa aa λf1 d t1 v g1 g p1=>?_;have J:=v 0 zd;have A:=v 3 zd;have N:=v 8 zd;have O:=v 9 zd;have l:=v 10 zd
 simp(disch:=omega) at J A N O l;refine aB l ?_;subst pz;refine H (b- a) d t1 _ _ zl g (au J) (au N) (au O) (au A) qan λf2 P t2 g2 z y=>?_;refine ag ?_;exact o _ _ (g1.ab g2) z (p1.ab y)
def akn(B:aA T){a b:Nat}(x:DA h q r n t)(S:a<=b)(O:b<=n)(R:n<1073741824)(s:SK h q r n t k (.p [])):aE T (W T) ⟨183⟩ [.c q 0 5 n cap ex,.i a,.i b,.q ⟨127⟩ [] []] h k:=by
 rw[ic B.t183];have key:∀(m i:Nat)(j:Int)(p:Hp)(t1:Nat->List AV)(f:Fr)(K:aT->Prop),(j- i).toNat=m->j<n->-1<=j->i<1073741824->DA p q r n t1->cg 0 f=.c q 0 5 n cap ex->cg 8 f=.i i->cg 9 f=.i j->
  (∀o h' t',ah (·=q) p h'->DA h' q r n t'->Pm n t1 t'->K (.a 0 o h' []))->W T (.d l183_0) f p [] K:=by
  intro m
  induction m using Nat.strongRecOn with
  |_ m F=>
   intro i j p t1 f K Q P I hi d f0 f8 f9 s;rw[aP]
   by_cases c:(i:Int)<j
   obtain⟨l,rfl⟩:=at6 (show 0<=j by omega);obtain⟨J,y⟩:=d.a i zo;obtain⟨M,z⟩:=d.a l zo;have e:=y;have g:=z
   simp only[aC.ca] at e g;have E:=d.b;have N:=d.f;have cc:i<l:=zo;refine fY f0 f8 f9 c cc E e g ?_;obtain⟨t2,A,C,H,G,g2⟩:=d.sw (show i<n by omega) (show l<n by omega) y z;rw[<-C];exact F (((l:Int)- 1- (i+1:Nat)).toNat) zo (i+1) ((l:Int)- 1) A t2 _ K rfl zo zo zo H zA aa aa λo h' t' u w v=>s o h' t' (g2.ab u) w (G.ab v);refine aU f8 f9 c ?_;exact s _ _ t1 (ah.da _) d Pm.da
 generalize D:CC.d l183_0=L;refine ag ?_;subst D;refine key _ a ((b:Int)- 1) h t _ _ rfl zo zo zo x aa aa aa λo h' t' u w v=>?_;refine ag ?_;exact s _ _ u w v
def ako(C:aA T){a:Nat}(z:a<n)(S:n<1073741824):∀(m i:Nat)(j:Int)(v:Hp)(t1:Nat->List AV)(f:Fr)(K:aT->Prop),(j+1- i).toNat=m->j<n->i<=n->DA v q r n t1->cg 0 f=.c q 0 5 n cap ex->cg 1 f=.i a->cg 4 f=.q ⟨127⟩ [] []->cg 12 f=.i i->cg 13 f=.i j->
 (∀g h'(i':Nat),(∀p,p<=4->cg p g=cg p f)->ax v h'->i<=i'->((i':Int)<=j+1\/i'=i)->cg 12 g=.i i'->cg 13 g=.i j->K (.a 0 g h' []))->W T (.d l186_4) f v [] K:=by
 intro m
 induction m with
 |zero=>
  intro i j v t1 f K M A hi b f0 w f4 s u x;have e:¬(i:Int)<=j:=zo;rw[aP];refine aU s u e ?_;exact x _ _ i (λp y=>by repeat rw[eG (m:=5) zo zm]) (ah.da _) zl (.inr rfl) zA zA
 |succ m N=>
  intro i j v t1 f K M A hi b f0 w f4 s u x;have e:(i:Int)<=j:=zo;have B:i<n:=zo;obtain⟨D,F⟩:=b.a a z;obtain⟨E,G⟩:=b.a i B;have l:=F;have o:=G
  simp only[aC.ca] at l o;have L:=b.b;have P:=b.f;rw[aP];refine wM f0 w f4 s u e L l o B z ?_;refine aER (d:=E) (e:=D) C λO I g2=>?_
  by_cases c:O<0
  ·refine cq f0 w f4 s u c ?_;refine N (i+1) j I t1 _ K zo A zo (b.aw (g2.f _ b.lt id)) zA zA zA aa zA λg h' i' J H Q R=>x g h' i' (λp y=>?_) (g2.ab H) zo zo;rw[J p y]
   repeat rw[eG (m:=5) zo zm]
  ·refine cq f0 w f4 s u c ?_;exact x _ _ i (λp y=>by repeat rw[eG (m:=5) zo zm]) g2 zl (.inr rfl) zA zA
def akp(E:aA T){a:Nat}(B:a<n)(Y:n<1073741824):∀(m i:Nat)(j:Int)(w:Hp)(t1:Nat->List AV)(f:Fr)(K:aT->Prop),(j+1- i).toNat=m->j<n->i<=n->-1<=j->DA w q r n t1->cg 0 f=.c q 0 5 n cap ex->cg 1 f=.i a->cg 4 f=.q ⟨127⟩ [] []->cg 12 f=.i i->cg 13 f=.i j->
 (∀g h'(l:Int),(∀p,p<=4->cg p g=cg p f)->ax w h'->l<=j->((i:Int)<=l+1\/l=j)->cg 12 g=.i i->cg 13 g=.i l->K (.a 2 g h' []))->W T (.d l186_3) f w [] K:=by
 intro m
 induction m with
 |zero=>
  intro i j w t1 f K Q P hi D b f0 y f4 u v z;have e:¬(i:Int)<=j:=zo;rw[aP];refine aU u v e ?_;exact z _ _ j (λp A=>by repeat rw[eG (m:=5) zo zm]) (ah.da _) (atY _) (.inr rfl) zA zA
 |succ m R=>
  intro i j w t1 f K Q P hi D b f0 y f4 u v z;have e:(i:Int)<=j:=zo;obtain⟨x,rfl⟩:=at6 (show 0<=j by omega);have C:x<n:=zo;have H:i<=x:=zo;obtain⟨F,I⟩:=b.a a B;obtain⟨G,J⟩:=b.a x C;have o:=I;have s:=J
  simp only[aC.ca] at o s;have O:=b.b;have U:=b.f;rw[aP];refine pU f0 y f4 u v e H O o s C B ?_;refine aER (d:=G) (e:=F) E λS M g2=>?_
  by_cases c:S<0
  ·refine cq f0 y f4 u v c ?_;exact z _ _ x (λp A=>by repeat rw[eG (m:=5) zo zm]) g2 (atY _) (.inr rfl) zA zA
  ·refine cq f0 y f4 u v c ?_;refine R i ((x:Int)- 1) M t1 _ K zo zo zo zo (b.aw (g2.f _ b.lt id)) zA zA zA zA aa λg h' l N L V X=>z g h' l (λp A=>?_) (g2.ab L) zo zo;rw[N p A]
   repeat rw[eG (m:=5) zo zm]
def akq(C:aA T){a:Nat}(z:a<n)(S:n<1073741824):∀(m i:Nat)(j:Int)(v:Hp)(t1:Nat->List AV)(f:Fr)(K:aT->Prop),(j+1- i).toNat=m->j<n->i<=n->DA v q r n t1->cg 0 f=.c q 0 5 n cap ex->cg 1 f=.i a->cg 4 f=.q ⟨127⟩ [] []->cg 12 f=.i i->cg 13 f=.i j->
 (∀g h'(i':Nat),(∀p,p<=4->cg p g=cg p f)->ax v h'->i<=i'->((i':Int)<=j+1\/i'=i)->cg 12 g=.i i'->cg 13 g=.i j->K (.a 6 g h' []))->W T (.d l186_1) f v [] K:=by
 intro m
 induction m with
 |zero=>
  intro i j v t1 f K M A hi b f0 w f4 s u x;have e:¬(i:Int)<=j:=zo;rw[aP];refine aU s u e ?_;exact x _ _ i (λp y=>by repeat rw[eG (m:=5) zo zm]) (ah.da _) zl (.inr rfl) zA zA
 |succ m N=>
  intro i j v t1 f K M A hi b f0 w f4 s u x;have e:(i:Int)<=j:=zo;have B:i<n:=zo;obtain⟨D,F⟩:=b.a a z;obtain⟨E,G⟩:=b.a i B;have l:=F;have o:=G
  simp only[aC.ca] at l o;have L:=b.b;have P:=b.f;rw[aP];refine wM f0 w f4 s u e L l o B z ?_;refine aER (d:=E) (e:=D) C λO I g2=>?_
  by_cases c:O<0
  ·refine cq f0 w f4 s u c ?_;refine N (i+1) j I t1 _ K zo A zo (b.aw (g2.f _ b.lt id)) zA zA zA aa zA λg h' i' J H Q R=>x g h' i' (λp y=>?_) (g2.ab H) zo zo;rw[J p y]
   repeat rw[eG (m:=5) zo zm]
  ·refine cq f0 w f4 s u c ?_;exact x _ _ i (λp y=>by repeat rw[eG (m:=5) zo zm]) g2 zl (.inr rfl) zA zA
def akr(E:aA T){a:Nat}(B:a<n)(Y:n<1073741824):∀(m i:Nat)(j:Int)(w:Hp)(t1:Nat->List AV)(f:Fr)(K:aT->Prop),(j+1- i).toNat=m->j<n->i<=n->-1<=j->DA w q r n t1->cg 0 f=.c q 0 5 n cap ex->cg 1 f=.i a->cg 4 f=.q ⟨127⟩ [] []->cg 12 f=.i i->cg 13 f=.i j->
 (∀g h'(l:Int),(∀p,p<=4->cg p g=cg p f)->ax w h'->l<=j->((i:Int)<=l+1\/l=j)->cg 12 g=.i i->cg 13 g=.i l->K (.a 8 g h' []))->W T (.d l186_0) f w [] K:=by
 intro m
 induction m with
 |zero=>
  intro i j w t1 f K Q P hi D b f0 y f4 u v z;have e:¬(i:Int)<=j:=zo;rw[aP];refine aU u v e ?_;exact z _ _ j (λp A=>by repeat rw[eG (m:=5) zo zm]) (ah.da _) (atY _) (.inr rfl) zA zA
 |succ m R=>
  intro i j w t1 f K Q P hi D b f0 y f4 u v z;have e:(i:Int)<=j:=zo;obtain⟨x,rfl⟩:=at6 (show 0<=j by omega);have C:x<n:=zo;have H:i<=x:=zo;obtain⟨F,I⟩:=b.a a B;obtain⟨G,J⟩:=b.a x C;have o:=I;have s:=J
  simp only[aC.ca] at o s;have O:=b.b;have U:=b.f;rw[aP];refine pU f0 y f4 u v e H O o s C B ?_;refine aER (d:=G) (e:=F) E λS M g2=>?_
  by_cases c:S<0
  ·refine cq f0 y f4 u v c ?_;exact z _ _ x (λp A=>by repeat rw[eG (m:=5) zo zm]) g2 (atY _) (.inr rfl) zA zA
  ·refine cq f0 y f4 u v c ?_;refine R i ((x:Int)- 1) M t1 _ K zo zo zo zo (b.aw (g2.f _ b.lt id)) zA zA zA zA aa λg h' l N L V X=>z g h' l (λp A=>?_) (g2.ab L) zo zo;rw[N p A]
   repeat rw[eG (m:=5) zo zm]
def aks(C:aA T){a:Nat}(z:a<n)(S:n<1073741824):∀(m i:Nat)(j:Int)(v:Hp)(t1:Nat->List AV)(f:Fr)(K:aT->Prop),(j+1- i).toNat=m->j<n->i<=n->DA v q r n t1->cg 0 f=.c q 0 5 n cap ex->cg 1 f=.i a->cg 4 f=.q ⟨127⟩ [] []->cg 11 f=.i i->cg 12 f=.i j->
 (∀g h'(i':Nat),(∀p,p<=4->cg p g=cg p f)->ax v h'->i<=i'->((i':Int)<=j+1\/i'=i)->cg 11 g=.i i'->cg 12 g=.i j->K (.a 2 g h' []))->W T (.d l185_1) f v [] K:=by
 intro m
 induction m with
 |zero=>
  intro i j v t1 f K M A hi b f0 w f4 s u x;have e:¬(i:Int)<=j:=zo;rw[aP];refine aU s u e ?_;exact x _ _ i (λp y=>by repeat rw[eG (m:=5) zo zm]) (ah.da _) zl (.inr rfl) zA zA
 |succ m N=>
  intro i j v t1 f K M A hi b f0 w f4 s u x;have e:(i:Int)<=j:=zo;have B:i<n:=zo;obtain⟨D,F⟩:=b.a a z;obtain⟨E,G⟩:=b.a i B;have l:=F;have o:=G
  simp only[aC.ca] at l o;have L:=b.b;have P:=b.f;rw[aP];refine wM f0 w f4 s u e L l o B z ?_;refine aER (d:=D) (e:=E) C λO I g2=>?_
  by_cases c:O<0
  ·refine cq f0 w f4 s u c ?_;exact x _ _ i (λp y=>by repeat rw[eG (m:=5) zo zm]) g2 zl (.inr rfl) zA zA
  ·refine cq f0 w f4 s u c ?_;refine N (i+1) j I t1 _ K zo A zo (b.aw (g2.f _ b.lt id)) zA zA zA aa zA λg h' i' J H Q R=>x g h' i' (λp y=>?_) (g2.ab H) zo zo;rw[J p y]
   repeat rw[eG (m:=5) zo zm]
def akt(E:aA T){a:Nat}(B:a<n)(Y:n<1073741824):∀(m i:Nat)(j:Int)(w:Hp)(t1:Nat->List AV)(f:Fr)(K:aT->Prop),(j+1- i).toNat=m->j<n->i<=n->-1<=j->DA w q r n t1->cg 0 f=.c q 0 5 n cap ex->cg 1 f=.i a->cg 4 f=.q ⟨127⟩ [] []->cg 11 f=.i i->cg 12 f=.i j->
 (∀g h'(l:Int),(∀p,p<=4->cg p g=cg p f)->ax w h'->l<=j->((i:Int)<=l+1\/l=j)->cg 11 g=.i i->cg 12 g=.i l->K (.a 4 g h' []))->W T (.d l185_0) f w [] K:=by
 intro m
 induction m with
 |zero=>
  intro i j w t1 f K Q P hi D b f0 y f4 u v z;have e:¬(i:Int)<=j:=zo;rw[aP];refine aU u v e ?_;exact z _ _ j (λp A=>by repeat rw[eG (m:=5) zo zd]) (ah.da _) (atY _) (.inr rfl) zA zA
 |succ m R=>
  intro i j w t1 f K Q P hi D b f0 y f4 u v z;have e:(i:Int)<=j:=zo;obtain⟨x,rfl⟩:=at6 (show 0<=j by omega);have C:x<n:=zo;have H:i<=x:=zo;obtain⟨F,I⟩:=b.a a B;obtain⟨G,J⟩:=b.a x C;have o:=I;have s:=J
  simp only[aC.ca] at o s;have O:=b.b;have U:=b.f;rw[aP];refine pU f0 y f4 u v e H O o s C B ?_;refine aER (d:=F) (e:=G) E λS M g2=>?_
  by_cases c:S<0
  ·refine cq f0 y f4 u v c ?_;refine R i ((x:Int)- 1) M t1 _ K zo zo zo zo (b.aw (g2.f _ b.lt id)) zA zA zA zA aa λg h' l N L V X=>z g h' l (λp A=>?_) (g2.ab L) zo zo;rw[N p A]
   repeat rw[eG (m:=5) zo zd]
  ·refine cq f0 y f4 u v c ?_;exact z _ _ x (λp A=>by repeat rw[eG (m:=5) zo zd]) g2 (atY _) (.inr rfl) zA zA
def aku(C:aA T){a b Q:Nat}(x:DA h q r n t)(qU:a<b)(hb:b<=n)(G:Q<n)(hn:n<1073741824)
 (z:∀h' t'(i:Nat),a<i->i<=b->ah (·=q) h h'->DA h' q r n t'->Pm n t t'->k (.a (.i i) h')):aE T (W T) ⟨185⟩ [.c q 0 5 n cap ex,.i a,.i b,.i Q,.q ⟨127⟩ [] []] h k:=by
 rw[ic C.t185];have key:∀(m i:Nat)(j:Int)(o:Hp)(t1:Nat->List AV)(f:Fr)(K:aT->Prop),(j+2- i).toNat=m->j<b->a<i->i<=b->(i:Int)<=j+2->DA o q r n t1->cg 0 f=.c q 0 5 n cap ex->cg 1 f=.i a->cg 4 f=.q ⟨127⟩ [] []->cg 11 f=.i i->cg 12 f=.i j->
  (∀v h' t'(i':Nat),a<i'->i'<=b->cg 11 v=.i i'->ah (·=q) o h'->DA h' q r n t'->Pm n t1 t'->K (.a 0 v h' []))->W T (.d l185_2) f o [] K:=by
  intro m
  induction m using Nat.strongRecOn with
  |_ m ih=>
   intro i j o t1 f K hm hj hi ue DV X f0 Z f4 F fj z;rw[aP];generalize hU:CC.d l185_1=U;generalize hD:CC.d l185_0=D;show W T (CC.j 1 ((CC.j 2 (CC.d l185_1)).g ((CC.j 4 (CC.d l185_0)).g aA8))) f o [] _;rw[hU,hD];refine ag ?_;subst hU;refine aks C (show a<n by omega) hn _ i j o t1 _ _ rfl zo zo X f0 Z f4 F fj λf2 h2 l O g2 l1 l2 tv Va=>?_;have q0:=O 0 zd;have q1:=O 1 zd;have q4:=O 4 zd
   rw[f0] at q0;rw[Z] at q1;rw[f4] at q4;have y:=X.aw (g2.f _ X.lt id);refine ag ?_;subst hD;refine akt C (show a<n by omega) hn _ l j h2 t1 _ _ rfl zo zo zo y q0 q1 q4 tv Va λf3 h3 j3 S g3 l3 l4 vP Y=>?_;have R:=S 0 zd;have r1:=S 1 zd;have r4:=S 4 zd
   rw[q0] at R;rw[q1] at r1;rw[q4] at r4;have p:=y.aw (g3.f _ y.lt id);have w:=g2.ab g3
   by_cases c:j3<(l:Int)
   refine aU vP Y c ?_;exact z _ _ t1 l zo zo zA (ah.ka w) p Pm.da;obtain⟨A,rfl⟩:=at6 (show 0<=j3 by omega);have g:l<n:=zo;have j1:A<n:=zo;have c':¬A<l:=zo;obtain⟨d1,s⟩:=p.a l g;obtain⟨d2,u⟩:=p.a A j1;have d:=s;have e:=u
   simp only[aC.ca] at d e;have N:=p.b;have dA:=p.f;refine nA vP Y c c' R N d e g j1 ?_;obtain⟨t4,B,E,x4,p4,g4⟩:=p.sw g j1 s u;rw[<-E];exact ih _ zo (l+1) ((A:Int)- 1) B t4 _ K rfl zo zo zo zo x4 (au R) (au r1) (au r4) aa aa λv h' t' i' I J M H V P=>z v h' t' i' I J M ((ah.ka w).ab (g4.ab H)) V (p4.ab P)
 generalize hL:CC.d l185_2=L;have g:a<n:=zo;obtain⟨d1,s⟩:=x.a a g;obtain⟨d2,u⟩:=x.a Q G;have d:=s;have e:=u
 simp only[aC.ca] at d e;have N:=x.b;have dA:=x.f;refine cC N d e g G ?_;obtain⟨t2,B,E,y,p2,g2⟩:=x.sw g G s u;rw[<-E];subst hL;refine key _ (a+1) ((b:Int)- 1) B t2 _ _ rfl zo zo zo zo y aa aa aa aa aa λv h' t' i' l1 l2 F H V P=>?_;refine aB F ?_;exact z _ _ i' l1 l2 (g2.ab H) V (p2.ab P)
def akv(E:aA T){a b pv:Nat}(x:DA h q r n t)(qU:a<b)(hb:b<=n)(fu:pv<n)(hn:n<1073741824)
 (S:∀h' t'(j:Nat)(c:Bool),a<=j->j<b->ah (·=q) h h'->DA h' q r n t'->Pm n t t'->k (.a (.p [.i j,.d c]) h')):aE T (W T) ⟨186⟩ [.c q 0 5 n cap ex,.i a,.i b,.i pv,.q ⟨127⟩ [] []] h k:=by
 rw[ic E.t186];have d:a<n:=zo;have key:∀(m i:Nat)(j:Int)(C:Hp)(t1:Nat->List AV)(f:Fr)(K:aT->Prop),(j+2- i).toNat=m->j<b->a<i->i<=b->(i:Int)<=j+2->(a:Int)<=j->DA C q r n t1->cg 0 f=.c q 0 5 n cap ex->cg 1 f=.i a->cg 4 f=.q ⟨127⟩ [] []->cg 12 f=.i i->cg 13 f=.i j->
  (∀B h' t'(V:Nat),a<=V->V<b->cg 0 B=.c q 0 5 n cap ex->cg 1 B=.i a->cg 13 B=.i V->ah (·=q) C h'->DA h' q r n t'->Pm n t1 t'->K (.a 4 B h' []))->W T (.d l186_2) f C [] K:=by
  intro m
  induction m using Nat.strongRecOn with
  |_ m ih=>
   intro i j C t1 f K hm hj hi ue DV haj x1 f0 f1 f4 fi fj S;rw[aP];generalize hU:CC.d l186_1=U;generalize hD:CC.d l186_0=D;show W T (CC.j 5 ((CC.j 6 (CC.d l186_1)).g ((CC.j 8 (CC.d l186_0)).g aA9))) f C [] _;rw[hU,hD];refine ag ?_;subst hU;refine akq E d hn _ i j C t1 _ _ rfl zo zo x1 f0 f1 f4 fi fj λf2 h2 w mC g2 l1 l2 tv Va=>?_;have q0:=mC 0 zd;have q1:=mC 1 zd;have q4:=mC 4 zd
   rw[f0] at q0;rw[f1] at q1;rw[f4] at q4;have A:=x1.aw (g2.f _ x1.lt id);refine ag ?_;subst hD;refine akr E d hn _ w j h2 t1 _ _ rfl zo zo zo A q0 q1 q4 tv Va λf3 h3 j3 z Q l3 l4 vP Z=>?_;have p:=z 0 zd;have u:=z 1 zd;have X:=z 4 zd
   rw[q0] at p;rw[q1] at u;rw[q4] at X;have o:=A.aw (Q.f _ A.lt id);have O:=g2.ab Q;obtain⟨e,rfl⟩:=at6 (show 0<=j3 by omega)
   by_cases c:(e:Int)<(w:Int)
   have c':e<w:=zo;refine bK vP Z c c' ?_;exact S _ _ t1 e zo zo (au p) (au u) zA (ah.ka O) o Pm.da;have d:w<n:=zo;have j1:e<n:=zo;have c':¬e<w:=zo;obtain⟨d1,F⟩:=o.a w d;obtain⟨d2,G⟩:=o.a e j1;have g:=F;have l:=G
   simp only[aC.ca] at g l;have hg:=o.b;have dA:=o.f;refine nA vP Z c c' p hg g l d j1 ?_;obtain⟨t4,H',eH,s,p4,g4⟩:=o.sw d j1 F G;rw[<-eH];exact ih _ zo (w+1) ((e:Int)- 1) H' t4 _ K rfl zo zo zo zo zo s (au p) (au u) (au X) aa aa λB h' t' V h1' h2' h0 akw h3' g' x' p'=>S B h' t' V h1' h2' h0 akw h3' ((ah.ka O).ab (g4.ab g')) x' (p4.ab p')
 generalize hU:CC.d l186_4=U;generalize hD:CC.d l186_3=D;generalize hM:CC.d l186_2=M;obtain⟨d1,F⟩:=x.a a d;obtain⟨d2,G⟩:=x.a pv fu;have g:=F;have l:=G
 simp only[aC.ca] at g l;have hg:=x.b;have dA:=x.f;refine cC hg g l d fu ?_;obtain⟨t2,H',eH,A,p2,g2⟩:=x.sw d fu F G;rw[<-eH];subst hU;refine ako (cap:=cap) (ex:=ex) E d hn _ (a+1) ((b:Int)- 1) H' t2 _ _ rfl zo zo A aa aa aa aa aa λf3 h3 y z Q l1 l2 vP Z=>?_;have q0:=z 0 zd;have q1:=z 1 zd;have q4:=z 4 zd
 simp(disch:=omega) at q0 q1 q4;have o:=A.aw (Q.f _ A.lt id);refine ag ?_;subst hD;refine akp E d hn _ y ((b:Int)- 1) h3 t2 _ _ rfl zo zo zo o q0 q1 q4 vP Z λf4 h4 j4 Ld g4 l3 l4 OM N=>?_;have p:=Ld 0 zd;have u:=Ld 1 zd;have X:=Ld 4 zd
 rw[q0] at p;rw[q1] at u;rw[q4] at X;have s:=o.aw (g4.f _ o.lt id);have P:ah (·=q) h h4:=g2.ab (ah.ka (Q.ab g4));obtain⟨e,rfl⟩:=at6 (show 0<=j4 by omega);have j1:e<n:=zo;obtain⟨d3,e3⟩:=s.a e j1;obtain⟨d4,e4⟩:=s.a a d;have v:=e3;have H:=e4
 simp only[aC.ca] at v H;have R:=s.b;have atg:=s.f
 by_cases c:(e:Int)<(y:Int)
 have c':e<y:=zo;refine wM OM N c c' p u R v H d j1 ?_;obtain⟨t5,H5,Vb,x5,p5,g5⟩:=s.sw j1 d e3 e4;rw[<-Vb];exact S _ _ e true zo zo (P.ab g5) x5 (p2.ab p5);have c':¬e<y:=zo;have HR:y<n:=zo;obtain⟨d5,e5⟩:=s.a y HR;have I:=e5;simp only[aC.ca] at I;refine wM OM N c c' p u R v I HR j1 ?_;obtain⟨t5,H5,Vb,x5,p5,g5⟩:=s.sw HR j1 e5 e3;rw[<-Vb];subst hM;refine key _ (y+1) ((e:Int)- 1) H5 t5 _ _ rfl zo zo zo zo zo x5 (au p) (au u) (au X) aa aa λf6 h6 t6 j6 l5 l6 s0 s1 s13 g6 Y p6=>?_;have Vc:j6<n:=zo;obtain⟨d6,e6⟩:=Y.a j6 Vc;obtain⟨d7,e7⟩:=Y.a a d;have J:=e6;have L:=e7
 simp only[aC.ca] at J L;have hg6:=Y.b;have ath:=Y.f;refine fY s0 s1 s13 hg6 J L d Vc ?_;obtain⟨t7,H7,eH7,x7,p7,g7⟩:=Y.sw Vc d e6 e7;rw[<-eH7];exact S _ _ j6 false zo zo (((P.ab g5).ab g6).ab g7) x7 (((p2.ab p5).ab p6).ab p7)
def akx(HT:aA T){a b:Nat}(x:DA h q r n t)(qU:a<b)(hb:b<=n)(hn:n<1073741824)
 (v:∀h' t'(c:Bool),ah (·=q) h h'->DA h' q r n t'->Pm n t t'->k (.a (.d c) h')):aE T (W T) ⟨184⟩ [.c q 0 5 n cap ex,.i a,.i b,.q ⟨127⟩ [] []] h k:=by
 rw[ic HT.t184];have aky:∀(m i:Nat)(s:Hp)(t1:Nat->List AV)(f:Fr)(K:aT->Prop),b- i=m->0<i->i<=b->DA s q r n t1->cg 0 f=.c q 0 5 n cap ex->cg 2 f=.i b->cg 3 f=.q ⟨127⟩ [] []->cg 9 f=.i i->
  (∀u h'(i':Nat),(∀p,p<=8\/p=10->cg p u=cg p f)->ax s h'->i<=i'->i'<=b->cg 9 u=.i i'->K (.a 2 u h' []))->W T (.d l184_2) f s [] K:=by
  intro m
  induction m with
  |zero=>
   intro i s t1 f K hm h0 hi g f0 J f3 f9 v;have e:¬i<b:=zo;rw[aP];refine aU J f9 e ?_;exact v _ _ i (λp w=>by rcases w with w|rfl;repeat rw[eG (m:=9) zo zd]
                                                                                                               exact aa) (ah.da _) zl hi zA
  |succ m P=>
   intro i s t1 f K hm h0 hi g f0 J f3 f9 v;obtain⟨i,rfl⟩:∃q,i=q+1:=⟨i- 1,by omega⟩;have e:(i:Int)+1<b:=zo;obtain⟨R,H⟩:=g.a (i+1) zo;obtain⟨S,I⟩:=g.a i zo;have l:=H;have o:=I
   simp only[aC.ca] at l o;have O:=g.b;have dA:=g.f;rw[aP];refine fY f0 J f3 f9 e O l o ?_;refine aER (d:=R) (e:=S) HT λrr h2 g2=>?_
   by_cases c:rr<0
   ·refine aS f9 c ?_;exact v _ _ (i+1) (λp w=>by rcases w with w|rfl;repeat rw[eG (m:=9) zo zd]
                                                  exact aa) g2 zl hi zA
   ·refine aS f9 c ?_;refine P (i+1+1) h2 t1 _ K zo zo zo (g.aw (g2.f _ g.lt id)) zA zA zA aa λu h' i' hf B h3 M h9=>v u h' i' (λp w=>?_) (g2.ab B) zo M h9;rw[hf p w];rcases w with w|rfl
    ·repeat rw[eG (m:=9) zo zd]
    exact aa
 have left:∀(j:Nat)(s:Hp)(t1:Nat->List AV)(f:Fr)(K:aT->Prop),j<n->DA s q r n t1->cg 0 f=.c q 0 5 n cap ex->cg 3 f=.q ⟨127⟩ [] []->cg 11 f=.i j->
  (∀u h' t',(∀p,p<=10->cg p u=cg p f)->ah (·=q) s h'->DA h' q r n t'->Pm n t1 t'->K (.a 4 u h' []))->W T (.d l184_1) f s [] K:=by
  intro j
  induction j with
  |zero=>
   intro s t1 f K hj g f0 f3 f11 v;rw[aP];refine aB f11 ?_;exact v _ _ t1 (λp w=>by repeat rw[eG (m:=11) zo zd]) (ah.da _) g Pm.da
  |succ j P=>
   intro s t1 f K hj g f0 f3 f11 v;obtain⟨R,H⟩:=g.a (j+1) hj;obtain⟨S,I⟩:=g.a j zo;have l:=H;have o:=I
   simp only[aC.ca] at l o;have O:=g.b;have dA:=g.f;have e:(1:Int)<=j+1:=zo;rw[aP];refine iR f0 f3 f11 O l o e ?_;refine aER (d:=R) (e:=S) HT λrr h2 g2=>?_;have y:=g.aw (g2.f _ g.lt id);have nv:=y.b
   by_cases c:rr<0
   ·refine cq f0 f11 c nv l o ?_;obtain⟨t3,Q,U,Y,X,V⟩:=y.sw hj (show j<n by omega) H I;rw[<-U];refine P Q t3 _ K zo Y zA zA aa λu h' t' hf B G E=>v u h' t' (λp w=>?_) ((ah.ka g2).ab (V.ab B)) G (X.ab E);rw[hf p w]
    repeat rw[eG (m:=11) zo zd]
   ·refine aS f11 c ?_;exact v _ _ t1 (λp w=>by repeat rw[eG (m:=11) zo zd]) (ah.ka g2) y Pm.da
 have right:∀(m j:Nat)(s:Hp)(t1:Nat->List AV)(f:Fr)(K:aT->Prop),b- j=m->0<j->j<2147483648->DA s q r n t1->cg 0 f=.c q 0 5 n cap ex->cg 2 f=.i b->cg 3 f=.q ⟨127⟩ [] []->cg 12 f=.i j->
  (∀u h' t',(∀p,p<=10->cg p u=cg p f)->ah (·=q) s h'->DA h' q r n t'->Pm n t1 t'->K (.a 6 u h' []))->W T (.d l184_0) f s [] K:=by
  intro m
  induction m with
  |zero=>
   intro j s t1 f K hm h0 hj g f0 J f3 f12 v;have e:¬j<b:=zo;rw[aP];refine aU J f12 e ?_;exact v _ _ t1 (λp w=>by repeat rw[eG (m:=11) zo zd]) (ah.da _) g Pm.da
  |succ m P=>
   intro j s t1 f K hm h0 hj g f0 J f3 f12 v;obtain⟨j,rfl⟩:∃q,j=q+1:=⟨j- 1,by omega⟩;have jn:j+1<n:=zo;obtain⟨R,H⟩:=g.a (j+1) jn;obtain⟨S,I⟩:=g.a j zo;have l:=H;have o:=I
   simp only[aC.ca] at l o;have O:=g.b;have dA:=g.f;have e:(j:Int)+1<b:=zo;rw[aP];refine fY f0 J f3 f12 O l o e ?_;refine aER (d:=R) (e:=S) HT λrr h2 g2=>?_;have y:=g.aw (g2.f _ g.lt id);have nv:=y.b
   by_cases c:rr<0
   ·refine cq f0 f12 c nv l o ?_;obtain⟨t3,Q,U,Y,X,V⟩:=y.sw jn (show j<n by omega) H I;rw[<-U];refine P (j+1+1) Q t3 _ K zo zo zo Y zA zA zA aa λu h' t' hf B G E=>v u h' t' (λp w=>?_) ((ah.ka g2).ab (V.ab B)) G (X.ab E);rw[hf p w]
    repeat rw[eG (m:=11) zo zd]
   ·refine aS f12 c ?_;exact v _ _ t1 (λp w=>by repeat rw[eG (m:=11) zo zd]) (ah.ka g2) y Pm.da
 have Lc:∀(m c i:Nat)(s:Hp)(t1:Nat->List AV)(f:Fr)(K:aT->Prop),5- c=m->c<=5->0<i->i<=b->DA s q r n t1->cg 0 f=.c q 0 5 n cap ex->cg 1 f=.i a->cg 2 f=.i b->cg 3 f=.q ⟨127⟩ [] []->cg 9 f=.i i->cg 10 f=.i c->
  (∀u h' t',ah (·=q) s h'->DA h' q r n t'->Pm n t1 t'->K (.a 0 u h' []))->(∀u h' t' cc,ah (·=q) s h'->DA h' q r n t'->Pm n t1 t'->cg 8 u=.d cc->K (.b u h' []))->W T (.d l184_3) f s [] K:=by
  intro m
  induction m with
  |zero=>
   intro c i s t1 f K hm hc h0 hi g f0 f1 J f3 f9 f10 k1 k2;have e:¬(c:Int)<5:=zo;have e':¬c<5:=zo;rw[aP];refine aU f10 e e' ?_;exact k1 _ _ t1 (ah.da _) g Pm.da
  |succ m P=>
   intro c i s t1 f K hm hc h0 hi g f0 f1 J f3 f9 f10 k1 k2;have e:(c:Int)<5:=zo;have e':c<5:=zo;rw[aP];show W T az6 f s [] _;unfold az6 zt;generalize hS:CC.d l184_2=SL;generalize hF:CC.d l184_1=LF;generalize pV:az5=T1;refine aU f10 e e' ?_;subst hS;refine aky _ i s t1 _ _ rfl h0 hi g zA zA zA zA λf2' h2 i2 mC g2 l1 l2 tv=>?_;have q0:=mC 0 (.inl zd);have q1:=mC 1 (.inl zd);have q2:=mC 2 (.inl zd);have q3:=mC 3 (.inl zd);have q10:=mC 10 (.inr rfl)
   simp(disch:=omega) [f0,f1,J,f3,f10] at q0 q1 q2 q3 q10;have y:=g.aw (g2.f _ g.lt id)
   by_cases c1:i2=b
   have A:(i2:Int)=b:=zo;refine bK tv q2 c1 A ?_;exact k2 _ _ t1 true (ah.ka g2) y Pm.da aa;have A:¬(i2:Int)=b:=zo
   by_cases c2:(b:Int)- a<50
   refine cq tv q1 q2 c1 A c2 ?_;exact k2 _ _ t1 false (ah.ka g2) y Pm.da aa;obtain⟨D,rfl⟩:∃q,i2=q+1:=⟨i2- 1,by omega⟩;have A:¬(D:Int)+1=b:=zo;have HR:D+1<n:=zo;have Vd:D<n:=zo;obtain⟨R,H⟩:=y.a (D+1) HR;obtain⟨S,I⟩:=y.a D Vd;have l:=H;have o:=I
   simp only[aC.ca] at l o;have O:=y.b;have dA:=y.f;have Z:∀(f4:Fr)(M:Hp)(t4:Nat->List AV),ah (·=q) s M->DA M q r n t4->Pm n t1 t4->cg 0 f4=.c q 0 5 n cap ex->cg 1 f4=.i a->cg 2 f4=.i b->cg 3 f4=.q ⟨127⟩ [] []->cg 9 f4=.i (D+1)->cg 10 f4=.i c->
    W T T1 f4 M [] (bY 1 (bF (W T (.h (z q184 23))) (bF (W T (.d l184_3)) K))):=by
    intro f4 M t4 g4 x4 p4 s0 s1 s2 s3 s9 s10;subst pV;unfold az5 zt;generalize hR:CC.d l184_0=LR;have nx:∀(f5:Fr)(h5:Hp)(t5:Nat->List AV),ah (·=q) s h5->DA h5 q r n t5->Pm n t1 t5->cg 0 f5=.c q 0 5 n cap ex->cg 1 f5=.i a->cg 2 f5=.i b->cg 3 f5=.q ⟨127⟩ [] []->cg 9 f5=.i (D+1)->cg 10 f5=.i c->W T (.h (z q184 23)) f5 h5 [] (bF (W T (.d l184_3)) K):=by intro f5 h5 t5 g5 x5 p5 u0 u1 u2 u3 u9 u10;refine aB u10 ?_;exact P (c+1) (D+1) h5 t5 _ K zo zo zo zo x5 (au u0) (au u1) (au u2) (au u3) (au u9) aa (λu h' t' B G E=>k1 u h' t' (g5.ab B) G (p5.ab E)) (λu h' t' cc B G E e8=>k2 u h' t' cc (g5.ab B) G (p5.ab E) e8)
    generalize hN:CC.h (z q184 23)=N at nx⊢
    by_cases c3:(2:Int)<=b- (D+1)
    refine aU s2 s9 c3 ?_;subst hR;refine right _ (D+1+1) M t4 _ _ rfl zo zo x4 (au s0) (au s2) (au s3) aa λf6 h6 t6 C g6 x6 p6=>?_;have w0:=C 0 zd;have w1:=C 1 zd;have w2:=C 2 zd;have w3:=C 3 zd;have w9:=C 9 zd;have F:=C 10 zd
    simp(disch:=omega) [s0,s1,s2,s3,s9,s10] at w0 w1 w2 w3 w9 F;refine ag ?_;exact nx _ h6 t6 (g4.ab g6) x6 (p4.ab p6) w0 w1 w2 w3 w9 F;refine aU s2 s9 c3 ?_;exact nx _ M t4 g4 x4 p4 (au s0) (au s1) (au s2) (au s3) (au s9) (au s10)
   obtain⟨t3,Q,U,Y,X,V⟩:=y.sw HR Vd H I
   by_cases c4:(2:Int)<=(D:Int)+1- a
   refine wM tv q0 q1 q2 c1 A c2 O l o c4 ?_;rw[<-U];subst hF;refine left D Q t3 _ _ Vd Y (au q0) (au q3) aa λf6 h6 t6 C g6 x6 p6=>?_;have w0:=C 0 zd;have w1:=C 1 zd;have w2:=C 2 zd;have w3:=C 3 zd;have w9:=C 9 zd;have F:=C 10 zd
   simp(disch:=omega) [q0,q1,q2,q3,tv,q10] at w0 w1 w2 w3 w9 F;refine ag ?_;exact Z _ h6 t6 ((ah.ka g2).ab (V.ab g6)) x6 (X.ab p6) w0 w1 w2 w3 w9 F;refine wM tv q0 q1 q2 c1 A c2 O l o c4 ?_;rw[<-U];exact Z _ Q t3 ((ah.ka g2).ab V) Y X (au q0) (au q1) (au q2) (au q3) zA (au q10)
 generalize hL:CC.d l184_3=L;refine ag ?_;subst hL;refine Lc 5 0 (a+1) h t _ _ rfl zo zo zo x aa aa aa aa aa aa (λu h' t' B G E=>?_) (λu h' t' cc B G E e8=>?_);refine ag ?_;exact v _ _ false B G E;refine aB e8 ?_;exact v _ _ cc B G E
end
section
open Go (IntKind)
variable {k:aK->Prop}{t:Nat->List AV}
def As(h:Hp)(sb:Nat):Prop:=∃c:Int,h.ac sb=.a 3 [.i c]
def Ve(i:aA T){a b sb:Nat}(x:DA h q r n t)(C:As h sb)(l:a<n)(m:b<n)(G:n<1073741824)
 (p:∀(u v:Nat) h',(u=a\/u=b)->(v=a\/v=b)->ah (·=sb) h h'->As h' sb->k (.a (.p [.i u,.i v]) h')):aE T (W T) ⟨227⟩ [.c q 0 5 n cap ex,.i a,.i b,.a sb 0,.q ⟨127⟩ [] []] h k:=by
 rw[ic i.t227];obtain⟨s,y⟩:=x.a a l;obtain⟨w,z⟩:=x.a b m;have f:=y;have g:=z
 simp only[aC.ca] at f g;have B:=x.b;have F:=x.f;obtain⟨c,o⟩:=C;have D:=Hp.lt o rfl;refine cC B f g l m ?_;refine aER (d:=w) (e:=s) i λE A g2=>?_;have j:A.ac sb=.a 3 [.i c]:=(g2.f _ D id).trans o
 by_cases c1:E<0
 refine aS c1 j ?_;exact p b a _ (.inr rfl) (.inl rfl) (ah.bj (M:=(·=sb)) (ah.ka g2) _ (.inr rfl)) ⟨_,Hp.dq rfl⟩;refine aB c1 ?_;exact p a b _ (.inl rfl) (.inr rfl) (ah.ka g2) ⟨c,j⟩
def DA.ne{sb:Nat}(x:DA h q r n t)(e:As h sb):q≠sb:=by rintro rfl;obtain⟨c,d⟩:=e;rw[x.b] at d;cases d
def ab9(d:aA T){a b c sb:Nat}(x:DA h q r n t)(g:As h sb)(s:a<n)(u:b<n)(w:c<n)(f:n<1073741824)
 (y:∀(v:Nat) h',(v=a\/v=b\/v=c)->ah (·=sb) h h'->As h' sb->k (.a (.i v) h')):aE T (W T) ⟨213⟩ [.c q 0 5 n cap ex,.i a,.i b,.i c,.a sb 0,.q ⟨127⟩ [] []] h k:=by
 rw[ic d.t213];refine ag ?_;refine Ve d x g s u f λj l D G J g1 i=>?_;have e:=x.aw (g1.f _ x.lt (x.ne g));refine ag ?_;refine Ve d e i (show l<n by omega) w f λm c2 E H K g2 z=>?_;have B:=e.aw (g2.f _ e.lt (e.ne i));refine ag ?_;refine Ve d B z (show j<n by omega) (show m<n by omega) f λC o F I L p A=>?_;refine ag ?_;exact y o _ zo ((g1.ab g2).ab p) A
def Vf(d:aA T){a sb:Nat}(x:DA h q r n t)(g:As h sb)(h0:0<a)(l:a+1<n)(f:n<1073741824)
 (e:∀(v:Nat) h',a- 1<=v->v<=a+1->ah (·=sb) h h'->As h' sb->k (.a (.i v) h')):aE T (W T) ⟨212⟩ [.c q 0 5 n cap ex,.i a,.a sb 0,.q ⟨127⟩ [] []] h k:=by
 rw[ic d.t212];obtain⟨a,rfl⟩:∃z,a=z+1:=⟨a- 1,by omega⟩;refine ag ?_;refine ab9 (a:=a) (b:=a+1) (c:=a+1+1) d x g zo zo zo f λv j m g1 i=>?_;refine ag ?_;exact e v _ zo zo g1 i
def akz(e:aA T){a b:Nat}(x:DA h q r n t)(qU:a+12<b)(Y:b<=n)(l:n<1073741824)
 (C:∀(v:Nat)(w:Int) h',a<=v->v<b->ax h h'->k (.a (.p [.i v,.i w]) h')):aE T (W T) ⟨182⟩ [.c q 0 5 n cap ex,.i a,.i b,.q ⟨127⟩ [] []] h k:=by
 rw[ic e.t182];have A:((b:Int)- a).tdiv 4=(((b- a)/4:Nat):Int):=by rw[avr zo];omega
 have F:(8:Int)<=b- a:=zo;generalize L:aA6=H;generalize N:aA7=E;have I:∀(d:Fr)(h':Hp)(v:Nat),a<=v->v<b->ax h h'->As h' h.a->cg 13 d=.i v->cg 11 d=.a h.a 0->W T E d h' [] (finish T (W T) [.a 8,.a 9] k):=by
  intro d h' v o p g s f13 f11;subst N;obtain⟨c,B⟩:=s
  by_cases c1:c=0
  refine bK f11 f13 B c1 ?_;exact C v _ _ o p g
  by_cases c2:c=12
  refine cC f11 f13 B c1 c2 ?_;exact C v _ _ o p g;refine cC f11 f13 B c1 c2 ?_;exact C v _ _ o p g
 have f:∀(d:Fr)(h':Hp)(i j m:Nat),a<=i->i<b->a<=j->j<b->a<=m->m<b->ax h h'->As h' h.a->cg 0 d=.c q 0 5 n cap ex->cg 3 d=.q ⟨127⟩ [] []->cg 12 d=.i i->cg 13 d=.i j->cg 14 d=.i m->cg 11 d=.a h.a 0->
  W T H d h' [] (bF (W T E) (finish T (W T) [.a 8,.a 9] k)):=by
  intro d h' i j m i1 i2 j1 j2 m1 m2 g s f0 f3 f12 f13 f14 f11;subst L;refine cq f0 f3 f11 f12 f13 f14 ?_;refine ab9 e (x.aw (g.f _ x.lt id)) s (show i<n by omega) (show j<n by omega) (show m<n by omega) l λv G Z g1 u=>?_;refine ag ?_;exact I _ G v zo zo (ah.na g g1 λz M=>by omega) u aa zA
 have g0:ax h (h.am (.a 3 [.i 0])):=aZ;have D:As (h.am (.a 3 [.i 0])) h.a:=⟨0,Hp.ba rfl⟩;have x0:=x.aw (g0.f _ x.lt id);generalize V:(b- a)/4=z at A
 by_cases c:(50:Int)<=b- a
 refine aU A F c ?_;refine Vf (a:=a+z) e x0 D zo zo l λQ G o p g1 u=>?_;have y:=x0.aw (g1.f _ x0.lt (x0.ne D));refine ag ?_;refine Vf (a:=a+z*2) e y u zo zo l λR X l3 l4 g2 O=>?_;have U:=y.aw (g2.f _ y.lt (y.ne u));refine ag ?_;refine Vf (a:=a+z*3) e U O zo zo l λS K l5 l6 J P=>?_;refine ag ?_;exact f _ K Q R S zo zo zo zo zo zo (ah.na g0 ((g1.ab g2).ab J) λz M=>by omega) P aa aa aa aa aa aa;refine aU A F c ?_;exact f _ _ (a+z) (a+z*2) (a+z*3) zo zo zo zo zo zo g0 D aa aa aa aa aa aa
def EZ:List UInt8:=[0,1,2,2,3,3,3,3,4,4,4,4,4,4,4,4,5,5,5,5,5,5,5,5,5,5,5,5,5,5,5,5,6,6,6,6,6,6,6,6,6,6,6,6,6,6,6,6,6,6,6,6,6,6,6,6,6,6,6,6,6,6,6,6,7,7,7,7,7,7,7,7,7,7,7,7,7,7,7,7,7,7,7,7,7,7,7,7,7,7,7,7,7,7,7,7,7,7,7,7,7,7,7,7,7,7,7,7,7,7,7,7,7,7,7,7,7,7,7,7,7,7,7,7,7,7,7,7,8,8,8,8,8,8,8,8,8,8,8,8,8,8,8,8,8,8,8,8,8,8,8,8,8,8,8,8,8,8,8,8,8,8,8,8,8,8,8,8,8,8,8,8,8,8,8,8,8,8,8,8,8,8,8,8,8,8,8,8,8,8,8,8,8,8,8,8,8,8,8,8,8,8,8,8,8,8,8,8,8,8,8,8,8,8,8,8,8,8,8,8,8,8,8,8,8,8,8,8,8,8,8,8,8,8,8,8,8,8,8,8,8,8,8,8,8,8,8,8,8,8,8,8,8,8,8,8]
def yI(m:Nat):Nat:=(EZ.getD m 0).toNat
def Le:∀m,m<256->m<2^yI m/\(0<m->2^yI m<=2*m)/\yI m<=8:=by decide+kernel
def acd{l:List UInt8}{m:Nat}(b:m<l.length):nh (S l) (.s m)=.v (.s (l.getD m 0).toNat):=by have:=dQ (l:=l) (a:=(m:Int)) zo zo;have e:nh (S l) (.s m)=nh (S l) (.i m):=rfl;rw[e,this];simp[List.getD,b]
def Lf{a:Int}:ko .u8 (.g .u64 a)=.v (.s (a% 256).toNat):=by simp only[ko,intOf,aEG,Go.IntKind.wrap_u8]
def ace{a b:Nat}:((a:Int).fdiv (b:Int))=((a/b:Nat):Int):=by rw[avH _ zo];rfl
def Vg(o:aA T){x:Nat}(u:x<4294967296)(i:∀m:Nat,m<=32->x<2^m->(0<x->2^m<=2*x)->k (.a (.i m) h)):aE T (W T) ⟨155⟩ [.g .u64 x] h k:=by
 rw[ic o.t155];refine ag ?_;rw[ic o.t188];have c0:¬(4294967296:Int)<=x:=zo;have f:∀m,m<256->nh (S EZ) (.s m)=.v (.s (yI m)):=λm a=>acd (by rw[show EZ.length=256 from by decide+kernel];exact a);have g:((x:Int).fdiv 65536)=((x/65536:Nat):Int):=ace (b:=65536);have p:∀y:Nat,((y:Int).fdiv 256)=((y/256:Nat):Int):=λy=>ace (b:=256);unfold EZ at f
 by_cases c1:(65536:Int)<=x
 by_cases c2:(256:Int)<=((x/65536:Nat):Int)
 have a:x/65536/256<256:=zo;have z:(((x/65536/256:Nat):Int)% 256).toNat=x/65536/256:=zo;obtain⟨c,d,j⟩:=Le _ a;have e:=f _ a;generalize yI (x/65536/256)=L at*;generalize l:x/65536=y at*;generalize s:y/256=w at*;simp(disch:=omega) [c0,c1,g,p,c2,s,Lf,z,e];refine i (16+8+L) zo ?_ λ_=>?_;rw[auT];have:w+1<=2^L:=c;have:=au2 (2^(16+8)) this;omega
 rw[auT];have:=au2 (2^(16+8)) (d zo);omega
 have a:x/65536<256:=zo;have z:(((x/65536:Nat):Int)% 256).toNat=x/65536:=zo;obtain⟨c,d,j⟩:=Le _ a;have e:=f _ a;generalize yI (x/65536)=L at*;generalize l:x/65536=y at*;simp(disch:=omega) [c0,c1,g,c2,Lf,z,e];refine i (16+L) zo ?_ λ_=>?_;rw[auT];have:y+1<=2^L:=c;have:=au2 (2^16) this;omega
 rw[auT];have:=au2 (2^16) (d zo);omega
 by_cases c2:(256:Int)<=x
 have a:x/256<256:=zo;have z:(((x/256:Nat):Int)% 256).toNat=x/256:=zo;obtain⟨c,d,j⟩:=Le _ a;have e:=f _ a;generalize yI (x/256)=L at*;generalize l:x/256=y at*;simp(disch:=omega) [c0,c1,p,l,c2,Lf,z,e];refine i (8+L) zo ?_ λ_=>?_;rw[auT];have:y+1<=2^L:=c;have:=au2 (2^8) this;omega
 rw[auT];have:=au2 (2^8) (d zo);omega
 have a:x<256:=zo;have z:((x:Int)% 256).toNat=x:=zo;obtain⟨c,d,j⟩:=Le _ a;have e:=f _ a;generalize yI x=L at*;simp(disch:=omega) [c0,c1,c2,Lf,z,e];exact i L zo c d
end
section
open Go (IntKind FloatKind)
variable {k:aK->Prop}
def Vh(a:aA T){b:Bool}(c:∀v:Int,k (.a (.g .u64 v) h)):aE T (W T) ⟨239⟩ [.d b] h k:=by rw[ic a.t239];cases b<;>simp(disch:=omega)<;>exact c _
def akA(c:aA T){b:Bool}(a:∀v:Nat,v<=1->k (.a (.i v) h)):aE T (W T) ⟨250⟩ [.d b] h k:=by rw[ic c.t250];cases b;refine ag ?_;exact a 0 zd;refine ag ?_;exact a 1 zd
def akB(b:aA T){p:Int}(f:-1000<p/\p<1000)(e:∀v:Int,-4000<v->v<4000->k (.a (.i v) h)):aE T (W T) ⟨247⟩ [.i p] h k:=by rw[ic b.t247];have c:w64 (p*108853)=p*108853:=gf zo zo;have a:sC (.i (p*108853)) (.g .u64 15)=.v (.i ((p*108853).fdiv 32768)):=rfl;have d:(p*108853).fdiv 32768=(p*108853)/32768:=avH _ zd;rw[d] at a;refine aS c a ?_;exact e _ zo zo
def akC(b:aA T){v:Int}(d:∀v:Int,k (.a (.g .u64 v) h)):aE T (W T) ⟨251⟩ [.g .u64 v] h k:=by rw[ic b.t251];obtain⟨a,c⟩:∃a,oQ pF (.g .u64 v) (.g .u64 2)=.v (.g .u64 a):=⟨_,rfl⟩;refine aB c ?_;exact d _
def akD(a:aA T){v:Int}(b:∀v:Int,k (.a (.g .u64 v) h)):aE T (W T) ⟨253⟩ [.g .u64 v] h k:=by rw[ic a.t253];refine ag ?_;exact b _
def acf(c:aA T){a b:Int}(d:∀x y:Int,k (.a (.p [.g .u64 x,.g .u64 y]) h)):aE T (W T) ⟨261⟩ [.g .u64 a,.g .u64 b] h k:=by rw[ic c.t261];refine ag ?_;exact d _ _
def akE(i:aA T){v e:Int}(f:∀n x,x=.x\/x=.r 264 (.i 1)->k (.a (.p [.u .f64 n,x]) h)):aE T (W T) ⟨256⟩ [.g .u64 v,.i e] h k:=by
 rw[ic i.t256];obtain⟨j,d⟩:∃a,jI (λ_ a b=>a&&&b) (.g .u64 v) (.g .u64 4503599627370496)=.v (.g .u64 a):=⟨_,rfl⟩;obtain⟨l,r⟩:∃a,jI (λ_ a b=>a&&&b) (.g .u64 v) (.g .u64 9223372036854775808)=.v (.g .u64 a):=⟨_,rfl⟩;obtain⟨B,s⟩:∃a,jI (λ_ a b=>a|||b) (.g .u64 l) (.g .u64 9218868437227405312)=.v (.g .u64 a):=⟨_,rfl⟩;have g:∀n:Int,qo .a [.g .u64 n]=.v (.u .f64 n.toNat):=λn=>rfl
 by_cases z:j=0
 subst z;simp(disch:=omega) [-oy,d,g];exact f _ _ (.inl rfl)
 by_cases c:972<=e
 simp(disch:=omega) [-oy,d,r,s,g,z,c];exact f _ _ (.inr rfl);obtain⟨m,t⟩:∃a,jI (λ_ a b=>a&&&~~~b) (.g .u64 v) (.g .u64 4503599627370496)=.v (.g .u64 a):=⟨_,rfl⟩;obtain⟨o,u⟩:∃a,lG (.i 1075) (.i e)=.v (.i a):=⟨_,rfl⟩;obtain⟨p,w⟩:∃a,ko .u64 (.i o)=.v (.g .u64 a):=⟨_,rfl⟩;obtain⟨q,y⟩:∃a,oQ pF (.g .u64 p) (.g .u64 52)=.v (.g .u64 a):=⟨_,rfl⟩;obtain⟨C,A⟩:∃a,jI (λ_ a b=>a|||b) (.g .u64 m) (.g .u64 q)=.v (.g .u64 a):=⟨_,rfl⟩;simp(disch:=omega) [-oy,-zR,-vL,d,t,u,w,y,A,g,z,c];exact f _ _ (.inl rfl)
def akF:∀m,m<256->yI m<=8:=λm a=>(Le m a).2.2
def akG(u:aA T){v:Int}(C:∀m:Nat,m<=64->k (.a (.i m) h)):aE T (W T) ⟨188⟩ [.g .u64 v] h k:=by
 rw[ic u.t188];have p:∀m,m<256->nh (S EZ) (.s m)=.v (.s (yI m)):=λm D=>acd (by rw[show EZ.length=256 from by decide+kernel];exact D);unfold EZ at p;obtain⟨y,t⟩:∃X,az8=X:=⟨_,rfl⟩;rw[t];obtain⟨A,l⟩:∃X,az7=X:=⟨_,rfl⟩;obtain⟨x,j⟩:∃X,aA'=X:=⟨_,rfl⟩;have leaf:∀(f:Fr)(w:Int)(n:Nat),n<=56->cg 0 f=.g .u64 w->cg 2 f=.i n->W T x f h [] (finish T (W T) [.a 2] k):=by
  intro f w n q f0 d;rw[<-j];have z:(w% 256).toNat<256:=zo;have i:=p _ z;have o:=akF _ z;have b:ko .u8 (.g .u64 w)=.v (.s (w% 256).toNat):=Lf;generalize(w% 256).toNat=m at i o b;generalize yI m=L at i o;have B:ko .i64 (.s L)=.v (.i (L:Int)):=by show OR.v (.i (w64 (Int.ofNat L)))=_;rw[show Int.ofNat L=(L:Int) from rfl,gf zo zo]
  refine cC f0 d b i B ?_;exact C (n+L) zo
 have g:=l.symm;unfold az7 zt at g;rw[j] at g;have s:∀(f:Fr)(w:Int)(n:Nat),n<=48->cg 0 f=.g .u64 w->cg 2 f=.i n->W T A f h [] (finish T (W T) [.a 2] k):=by
  intro f w n q f0 d;rw[g];obtain⟨a,b⟩:∃a,sC (.g .u64 w) (.g .u64 8)=.v (.g .u64 a):=⟨_,rfl⟩
  by_cases c:256<=w
  simp(disch:=omega) [-aED,f0,d,b,c];refine leaf _ a (n+8) zo ?_ ?_;exact aa;exact aa;simp(maxSteps:=400000) (disch:=first|exact bh|fail) [-aED,f0,c];refine leaf _ w n zo ?_ ?_;exact zA;exact zA
 have e:=t.symm;unfold az8 zt at e;rw[l] at e;have r:∀(f:Fr)(w:Int)(n:Nat),n<=32->cg 0 f=.g .u64 w->cg 2 f=.i n->W T y f h [] (finish T (W T) [.a 2] k):=by
  intro f w n q f0 d;rw[e];obtain⟨a,b⟩:∃a,sC (.g .u64 w) (.g .u64 16)=.v (.g .u64 a):=⟨_,rfl⟩
  by_cases c:65536<=w
  simp(disch:=omega) [-aED,f0,d,b,c];refine s _ a (n+16) zo ?_ ?_;exact aa;exact aa;simp(disch:=omega) [-aED,f0,c];refine s _ w n zo ?_ ?_;exact zA;exact zA
 obtain⟨a,b⟩:∃a,sC (.g .u64 v) (.g .u64 32)=.v (.g .u64 a):=⟨_,rfl⟩
 by_cases c:4294967296<=v
 simp(disch:=omega) [-aED,b,c];refine r _ a 32 zd ?_ ?_;exact aa;exact aa;simp(disch:=omega) [-aED,c];refine r _ v 0 zd ?_ ?_;exact aa;exact aa
def E0(h:Hp):Prop:=∀i,i<696->∃a b:Int,cellsOf (h.ac 13) (i*2) 1=some [.g .u64 a]/\cellsOf (h.ac 13) (i*2+1) 1=some [.g .u64 b]
def E0.kp{h':Hp}(x:E0 h)(g:xe h h'):E0 h':=by unfold E0;rw[g 13 zd];exact x
def akH{b n:Nat}{a:Nat}(c:a<n):yY 2 n (.a b 0) (.i (a:Int))=.v (.a b (a*2)):=by have c:a+1<=n:=c;simp[yY,c]
def ON(h:Hp)(b:Nat)(s:Int):Prop:=∃x y:Int,h.ac b=.a 331 [.g .u64 x,.g .u64 y,.i s]
def akI(f:aA T)(o:E0 h)(A:22<=h.a){b:Nat}{s:Int}(w:22<=b)(x:ON h b s){e p d:Int}(y:-10000<e/\e<10000)(B:-345<=p/\p<=310)(l:-4000<d/\d<4000)
 (j:∀h',ah (·=b) h h'->ON h' b (-(e+d+3))->k (.a (.p []) h')):aE T (W T) ⟨248⟩ [.a b 0,.i e,.i p,.i d] h k:=by
 rw[ic f.t248];obtain⟨E,F,v⟩:=x;obtain⟨q,eq⟩:=at6 (by omega:0<=p- -348);obtain⟨a,c,g,i⟩:=o q zo;have r:jb (.i p) (.i (-348))=.v (.i (q:Int)):=by rw[kD,gf zo zo,eq]
 have t:=akH (b:=13) (n:=696) (a:=q) zo;have C:w64 (e+d)=e+d:=gf zo zo;have D:w64 (e+d+3)=e+d+3:=gf zo zo;have u:uR (.i (e+d+3))=.v (.i (-(e+d+3))):=by show OR.v (.i (w64 (0- (e+d+3))))=_;rw[gf zo zo];exact aui (λz=>OR.v (.i z)) zo
 have nb:¬13=b:=zo;have m:(13:Nat)<h.a:=zo;simp(disch:=omega) [-kD,v,r,t,u,g,i];exact j _ aZ ⟨a,c,Hp.dq rfl⟩
end
section
open Go (IntKind FloatKind)
variable {k:aK->Prop}{b:Nat}{s:Int}
def akJ:∃n:Nat,n<64/\jI (λ_ a b=>a&&&b) (.i s) (.i 63)=.v (.i (n:Int)):=by
 have c:(BitVec.ofInt IntKind.i64.bits s&&&BitVec.ofInt IntKind.i64.bits 63).toNat<=63:=by rw[aw6];exact at1 Nat.and_le_right zd
 refine⟨(BitVec.ofInt IntKind.i64.bits s&&&BitVec.ofInt IntKind.i64.bits 63).toNat,by omega,?_⟩;show OR.v (aEG .i64 (Int.ofNat (BitVec.ofInt IntKind.i64.bits s&&&BitVec.ofInt IntKind.i64.bits 63).toNat))=_;generalize(BitVec.ofInt IntKind.i64.bits s&&&BitVec.ofInt IntKind.i64.bits 63).toNat=z at c;show OR.v (.i (w64 (Int.ofNat z)))=_;rw[show Int.ofNat z=(z:Int) from rfl,gf zo zo]
def Vi{a:Int}{n:Nat}:∃r,sC (.g .u64 a) (.i (n:Int))=.v (.g .u64 r):=⟨_,rfl⟩
def acg{a:Int}{n:Nat}:∃r,oQ pF (.g .u64 a) (.i (n:Int))=.v (.g .u64 r):=⟨_,rfl⟩
def akK(d:aA T)(x:ON h b s){v:Int}(i:∀r:Int,k (.a (.g .u64 r) h)):aE T (W T) ⟨249⟩ [.g .u64 v,.a b 0] h k:=by
 rw[ic d.t249];obtain⟨I,J,e⟩:=x;obtain⟨n,H,g⟩:=akJ (s:=s);generalize t:aAn=D;refine aB e ?_;refine acf d λhi mid=>?_;obtain⟨f,j⟩:=Vi (a:=hi) (n:=n);obtain⟨m,l⟩:=acg (a:=f) (n:=n);obtain⟨E,u⟩:∃a,jI (λ_ a b=>a|||b) (.g .u64 f) (.g .u64 1)=.v (.g .u64 a):=⟨_,rfl⟩;subst t;unfold aAn zt;generalize p:CC.f r249_7=C
 by_cases c:m=hi
 simp(disch:=omega) [-G5,e,g,j,l,c];refine acf d λq lo=>?_;refine ag ?_;refine Vh d λw=>?_;obtain⟨o,y⟩:∃a,jb (.g .u64 hi) (.g .u64 w)=.v (.g .u64 a):=⟨_,rfl⟩;simp(disch:=omega) [-ru,y];subst p;rw[lI,mu];generalize ku _ _=fm;obtain⟨F,A⟩:=Vi (a:=o) (n:=n);obtain⟨G,B⟩:∃a,jb (.g .u64 mid) (.g .u64 q)=.v (.g .u64 a):=⟨_,rfl⟩;simp(disch:=omega) [-ru,A,B,-Cp];rw[Cp,ZS,ZQ];refine ag ?_;refine Vh d λz=>?_;refine ag ?_;exact i _;simp(disch:=omega) [-oy,-G5,e,g,j,l,u,c];exact i _
def ach(d:aA T)(Q:E0 h)(N:22<=h.a){v p B:Int}(O:-345<=p/\p<=310)(A:∀h' n x,ax h h'->x=.x\/x=.r 264 (.i 1)->k (.a (.p [.u .f64 n,x]) h')):aE T (W T) ⟨242⟩ [.g .u64 v,.i p,.g .u64 B] h k:=by
 rw[ic d.t242];generalize R:aAm=T3;refine ag ?_;refine akG d λb hb=>?_;refine ag ?_;refine akB d zo λf l1 l2=>?_;refine ag ?_;subst R;unfold aAm zt;generalize J:aAl=T6;have C:jb (.i 53) (.i (b:Int))=.v (.i (53- b)):=by rw[kD,gf zo zo]
 have D:jb (.i (53- b)) (.i f)=.v (.i (53- b- f)):=by rw[kD,gf zo zo]
 have F:jb (.i 64) (.i (b:Int))=.v (.i ((64- b:Nat):Int)):=by rw[kD,gf zo zo];exact aui (λz=>OR.v (.i z)) zo
 simp(disch:=omega) [-kD,C,D,F];generalize y:(if 53- (b:Int)- f<1074 then 53- (b:Int)- f else 1074)=E;have bE:-6000<E/\E<=1074:=by rw[<-y];split<;>omega
 clear y C D;have w4:jb (.i E) (.i ((64- b:Nat):Int))=.v (.i (E- (64- b:Nat))):=by rw[kD,gf zo zo]
 simp(disch:=omega) [-kD,w4];generalize g:(Hp.am h _:Hp)=H;have xH:ON H h.a 0:=by rw[<-g];exact⟨0,0,Hp.ba rfl⟩
 have w:ax h H:=by rw[<-g];exact aZ
 have nH:H.a=h.a+1:=by rw[<-g];rfl
 have kp:xe h H:=λi hi=>w.f i zo id;clear g;refine akI d (Q.kp kp) zo N xH zo O zo λj g2 l=>?_;have e:ax h j:=⟨by have:=g2.g;omega,λi hi _=>(g2.f i zo zo).trans (w.f i hi id)⟩;have o:=l;obtain⟨y1,y2,t⟩:=o;generalize hS:-(E- (64- b:Nat)+f+3)=I at l t;refine ag ?_;subst J;unfold aAl zt;generalize G:aBi=T8
 by_cases c:64<=I
 have x1:∀n:Int,qo .a [.g .u64 n]=.v (.u .f64 n.toNat):=λn=>rfl;refine aU t c x1 ?_;exact A j _ _ e (.inl rfl);obtain⟨a1,S⟩:=acg (a:=v) (n:=64- b);refine aS t c ?_;subst G;simp(disch:=omega) [-kD,F,S];refine akK d l λu=>?_;refine ag ?_;refine akC d λm=>?_;refine ag ?_;refine akA d λq hq=>?_;obtain⟨K,U⟩:=Vi (a:=u) (n:=q);obtain⟨L,V⟩:∃a,jI (λ_ a b=>a&&&b) (.g .u64 u) (.g .u64 1)=.v (.g .u64 a):=⟨_,rfl⟩;obtain⟨a4,X⟩:∃a,jI (λ_ a b=>a|||b) (.g .u64 K) (.g .u64 L)=.v (.g .u64 a):=⟨_,rfl⟩;obtain⟨M,Y⟩:∃a,jb (.i E) (.i (q:Int))=.v (.i a):=⟨_,rfl⟩;simp(disch:=omega) [-kD,-oy,U,V,X,Y];refine akD d λr=>?_;obtain⟨a6,Z⟩:∃a,jI (λ_ a b=>a|||b) (.g .u64 B) (.g .u64 r)=.v (.g .u64 a):=⟨_,rfl⟩;obtain⟨a7,s7⟩:∃a,uR (.i M)=.v (.i a):=⟨_,rfl⟩;simp(disch:=omega) [-oy,Z,s7];refine akE d λn x P=>?_;refine ag ?_;exact A j n x e P
def Lg(h:Hp):Prop:=∃q cap ex,cellsOf (h.ac 12) 0 1=some [.c q 0 1 23 cap ex]/\q<22/\∀i,i<23->∃b,cellsOf (h.ac q) i 1=some [.u .f64 b]/\Bn b=true
def Lg.kp{h':Hp}(x:Lg h)(g:xe h h'):Lg h':=by obtain⟨q,cap,ex,e,c,a⟩:=x;exact⟨q,cap,ex,by rw[g 12 zd];exact e,c,λi hi=>by rw[g q c];exact a i hi⟩
def aci{b:Nat}(h:Bn b=true):lW b:=by obtain⟨s,n,p,e,_⟩:=Ux h;intro s t;rw[e];simp
def akL:lW 4831355200913801216:=aci zd
def akM:lW 14054727237768577024:=aci zd
def akN{a b:Nat}(c:lW a)(d:lW b):∃r,uc (.u .f64 a) (.u .f64 b)=.v (.d r):=abu c d
def akO{a b:Nat}(c:lW a)(d:lW b):∃r,ua (.u .f64 a) (.u .f64 b)=.v (.d r):=abu c d
def akP(G:aA T)(I:Bm h)(J:Lg h){v p:Int}(L:-1000<p/\p<1000)(c:∀(n:Nat)(r:Bool),k (.a (.p [.u .f64 n,.d r]) h)):aE T (W T) ⟨241⟩ [.g .u64 v,.i p,.d false] h k:=by
 rw[ic G.t241];obtain⟨t1,t2,t3⟩:=I;obtain⟨q,cap,ex,D,M,C⟩:=J;obtain⟨H,d⟩:∃a,sC (.g .u64 v) (.g .u64 52)=.v (.g .u64 a):=⟨_,rfl⟩
 by_cases z:H=0
 obtain⟨f0,e,n0⟩:=ajJ (n:=v)
 by_cases c0:p=0
 simp(disch:=omega) [-aED,t1,d,z,e,c0];exact c _ _
 by_cases c1:0<p
 by_cases c2:p<=37
 generalize t:aBh=o;have rest:∀(f:Fr)(i:Nat)(w:Nat),i<23->lW w->cg 1 f=.i i->cg 6 f=.u .f64 w->cg 7 f=.d false->W T o f h [] (bY 0 (bF (W T CC.m) (finish T (W T) [.a 6,.a 7] k))):=by
  intro f i w hi x y A B;obtain⟨bb,g,fb⟩:=C i hi;obtain⟨K,g1⟩:=akN x akL;obtain⟨r2,g2⟩:=akO x akM;obtain⟨m,em,_⟩:=abt x fb;have u:(i:Int)<23:=zo;subst t;cases K with
  |true=>
   refine bK y A B g1 ?_;exact c _ _
  |false=>
   cases r2 with
   |true=>
    refine cC y A B g1 g2 ?_;exact c _ _
   |false=>
    refine nA y A B g1 g2 D hi u g em ?_;exact c _ _
 by_cases c3:22<p
 obtain⟨i,l⟩:=at6 (by omega:0<=p- 22);have E:jb (.i p) (.i 22)=.v (.i (i:Int)):=by rw[kD,gf zo zo,l]
 have hi:i<23:=zo;have u:(i:Int)<23:=zo;obtain⟨bb,g,fb⟩:=C i hi;obtain⟨m,em,nm⟩:=abt n0 fb;simp(disch:=omega) [-aED,-kD,t1,d,z,e,c0,c1,c2,c3,E,D,g,em];refine rest _ 22 m zd nm ?_ ?_ ?_;exact aa;exact aa;exact aa;obtain⟨i,l⟩:=at6 (by omega:0<=p);have hi:i<23:=zo;simp(disch:=omega) [-aED,t1,d,z,e,c0,c1,c2,c3];refine rest _ i f0 hi n0 ?_ ?_ ?_;exact au l;exact aa;exact aa;have j:¬p<0:=zo;simp(disch:=omega) [-aED,t1,d,z,e,c0,c1,c2,j];exact c _ _;have j:p<0:=zo
 by_cases F:-22<=p
 obtain⟨i,l⟩:=at6 (by omega:0<=-p);have E:uR (.i p)=.v (.i (i:Int)):=by show OR.v (.i (w64 (0- p)))=_;rw[gf zo zo];exact aui (λz=>OR.v (.i z)) zo
 have hi:i<23:=zo;have u:(i:Int)<23:=zo;obtain⟨bb,g,fb⟩:=C i hi;obtain⟨m,em⟩:=ajH n0 fb;simp(disch:=omega) [-aED,t1,d,z,e,c0,c1,j,F,E,D,g,em];exact c _ _;simp(disch:=omega) [-aED,t1,d,z,e,c0,c1,j,F];exact c _ _;simp(disch:=omega) [-aED,t1,d,z];exact c _ _
end
section
open Go (IntKind FloatKind)
variable {k:aK->Prop}
def akR(b:FlA s):∃u,nh (S s) (.i 0)=.v (.s u)/\48<=u/\u<=57:=by
 have d:0<s.length:=auA.2 b.d;have a:=Ov b.b;refine⟨(s.headD 0).toNat,?_,a⟩;rw[dQ zd (by simpa using d)];cases s with
 |nil=>simp at d
 |cons c r=>rfl
def akS(a:FlA s){n:Nat}(h:s.take n≠[]):FlA (s.take n):=by
 refine⟨h,?_,λc b=>a.a c (axk b)⟩;have:=a.b;cases s with
 |nil=>simp at h
 |cons c r=>
  cases n with
  |zero=>simp at h
  |succ n=>exact this
def akT(b:uU T)(a:FlA s)(f:k (.a (.p [.u .f64 0,.i 0,.d false]) h)):aE T (W T) ⟨230⟩ [S s] h k:=by rw[ic b.t230];have i:0<s.length:=auA.2 a.d;obtain⟨u,g,l,m⟩:=akR a;have c:¬s.length=0:=zo;have j:¬(s.length:Int)=0:=zo;have c1:¬u=43:=zo;have c2:¬u=45:=zo;have c3:¬u=105:=zo;have d:¬u=73:=zo;have e:¬u=110:=zo;have c6:¬u=78:=zo;simp(disch:=omega) [-dQ,g,c,c1,c2,c3,d,e,c6];exact f
def akU(c:aA T){b:Nat}(x:asc h b (λ_=>0) 0 0 false false) (d:∀h',ah (·=b) h h'->k (.a (.d false) h')):aE T (W T) ⟨237⟩ [.a b 0,S []] h k:=by rw[ic c.t237];have a:=x;unfold asc at a;refine aB a ?_;exact d _ aZ
def ErX(x:AV):Prop:=x=.x\/x=.r 264 (.i 1)\/x=.r 264 (.i 2)
structure xo(h:Hp):Prop where
 n:22<=h.a
 c:CS h
 j:EO h
 b:Bm h
 a:E0 h
 f:Lg h
 d:cellsOf (h.ac 8) 0 1=some [.d true]
def xo.kp{h':Hp}(x:xo h)(g:xe h h')(e:22<=h'.a):xo h':=⟨e,x.c.kp g,x.j.kp g,x.b.kp g,x.a.kp g,x.f.kp g,by rw[g 8 zd];exact x.d⟩
def xo.g0{h':Hp}(x:xo h)(g:ax h h'):xo h':=x.kp (λi hi=>g.f i (by have:=x.n;omega) id) (at1 x.n g.g)
def akV{H:Hp}{b:Nat}(e:H.ac b=.a 318 (List.replicate 800 (.s 0)++[.i 0,.i 0,.d false,.d false])):asc H b (λ_=>0) 0 0 false false:=by unfold asc;rw[e];unfold kO;rw[List.map_const',List.length_range];rfl
def akW(I:uU T)(L:xo h)(U:FlA s)(hl:s.length<=60)(l:∀h' v(n:Int) x,ax h h'->ErX x->k (.a (.p [v,.i n,x]) h')):aE T (W T) ⟨221⟩ [S s] h k:=by
 have p:=I.h;rw[ic p.t221];have n19:=L.n;have y:∀n:Int,qo .a [.g .u64 n]=.v (.u .f64 n.toNat):=λn=>rfl;generalize P:aBc=A;refine ag ?_;refine akT I U ?_;refine ag ?_;refine ajC I U hl λm e tr ok i hi e1 e2=>?_;have Nq:∀(f:Fr)(d:Hp),ax h d->cg 0 f=S s->cg 3 f=.i i->cg 4 f=.x->W T A f d [] (finish T (W T) [.a 2,.a 3,.a 4] k):=by
  intro f d g1 f0 f3 f4;subst P;have L1:=L.g0 g1;have n1:=L1.n;have sl:wh (S s) none (some (.i (i:Int)))=.v (S (s.take i)):=by rw[Z2 zo zo];rfl
  simp(maxSteps:=400000) (disch:=first|exact bh|fail) [-List.reduceReplicate,-Z2,f0,f3,sl];generalize K:(Hp.am d _:Hp)=H;have xH:asc H d.a (λ_=>0) 0 0 false false:=akV (by rw[<-K];exact Hp.ba rfl);have Z:ax d H:=by rw[<-K];exact aZ
  have nH:H.a=d.a+1:=by rw[<-K];rfl
  have N:=L1.g0 Z;clear K;have up:∀{o:Hp},ah (·=d.a) H o->ax h o:=λ{o} g=>⟨by have:=g.g;have:=g1.g;omega,λj hj _=>(g.f j qar qar).trans ((Z.f j qar id).trans (g1.f j hj id))⟩
  by_cases c:s.take i=[]
  rw[c];refine akU p xH λo g2=>?_;refine aB f3 ?_;exact l o _ _ _ (up g2) (.inr (.inr rfl));refine ajo I xH (akS U c) zn λr o D nd dp ng fT g2 x2 yx d1 d2=>?_;cases r with
  |false=>
   refine aB f3 ?_;exact l o _ _ _ (up g2) (.inr (.inr rfl))
  |true=>
   have kp:xe H o:=.of g2 n1 N.n;have t:=N.kp kp (at1 N.n g2.g);refine ag ?_;refine ajx p x2 yx ⟨d1,d2⟩ t.c t.j t.b n1 t.n λv r F J=>?_;cases r with
   |true=>
    refine aU y f3 f4 ?_;exact l F _ _ _ (up (g2.ab J)) (.inr (.inl rfl))
   |false=>
    refine aU y f3 f4 ?_;exact l F _ _ _ (up (g2.ab J)) (.inl rfl)
 cases ok with
 |false=>
  refine ag ?_;exact l h _ _ _ (ah.da _) (.inr (.inr rfl))
 |true=>
  refine aB L.d ?_;refine Vh p λw=>?_;obtain⟨V,M⟩:∃a,oQ pF (.g .u64 w) (.g .u64 63)=.v (.g .u64 a):=⟨_,rfl⟩;obtain⟨Q,s2⟩:∃a,jI (λ_ a b=>a|||b) (.g .u64 V) (.g .u64 0)=.v (.g .u64 a):=⟨_,rfl⟩;obtain⟨R,s3⟩:∃a,jI (λ_ a b=>a|||b) (.g .u64 V) (.g .u64 9218868437227405312)=.v (.g .u64 a):=⟨_,rfl⟩;obtain⟨T18,Y⟩:∃X,az'=X:=⟨_,rfl⟩;rw[Y];obtain⟨O,B⟩:∃X,aBb=X:=⟨_,rfl⟩;have u:=Y.symm;unfold az' zt at u;rw[B] at u;have G:∀(f:Fr)(d:Hp),ax h d->-345<=e->e<=310->cg 0 f=S s->cg 3 f=.i i->cg 4 f=.x->cg 8 f=.g .u64 m->cg 9 f=.i e->cg 11 f=.d tr->cg 16 f=.g .u64 V->W T O f d [] (bF (W T A) (finish T (W T) [.a 2,.a 3,.a 4] k)):=by
   intro f d g1 Q R f0 f3 f4 f8 f9 f11 f16;rw[<-B];have L1:=L.g0 g1;refine aU f8 f9 f16 ?_;refine ach p L1.a L1.n ⟨Q,R⟩ λo r1 y g2 mV=>?_;have C:=g1.ab g2;cases tr with
   |false=>
    refine aS f3 f11 ?_;refine l o _ _ _ C ?_;rcases mV with q|q;exact .inl q;exact .inr (.inl q)
   |true=>
    have t:=L1.g0 g2;obtain⟨m2,s4⟩:∃a,lG (.g .u64 m) (.g .u64 1)=.v (.g .u64 a):=⟨_,rfl⟩;simp(disch:=omega) [-vJ,f8,f9,f11,f16,s4];refine ach p t.a t.n ⟨Q,R⟩ λF r2 x2 J kT=>?_;have E:=C.ab J;obtain⟨r,s5⟩:=ajI (a:=r1) (b:=r2);cases r with
    |true=>
     simp(disch:=omega) [-Dv,s5,f3];refine l F _ _ _ E ?_;rcases mV with q|q;exact .inl q;exact .inr (.inl q)
    |false=>
     simp(disch:=omega) [-Dv,s5];refine Nq _ F E ?_ ?_ ?_;exact zA;exact zA;exact zA
  by_cases z:m=0
  subst z;simp(disch:=omega) [-oy,M,s2,y];exact l h _ _ _ (ah.da _) (.inl rfl)
  ·by_cases c1:310<e
   simp(disch:=omega) [-oy,M,s3,y,z,c1];exact l h _ _ _ (ah.da _) (.inr (.inl rfl))
   ·by_cases c2:e< -345
    simp(disch:=omega) [-oy,M,s2,y,z,c1,c2];exact l h _ _ _ (ah.da _) (.inl rfl)
    ·simp(disch:=omega) [-oy,M,z,c1,c2];rw[u];cases tr with
     |true=>
      refine ag ?_;refine G _ h (ah.da _) zo zo ?_ ?_ ?_ ?_ ?_ ?_ ?_
      all_goals simp(disch:=omega)
     |false=>
      refine ag ?_;refine akP p L.b L.f zo λn r=>?_;cases r with
      |true=>
       refine ag ?_;exact l h _ _ _ (ah.da _) (.inl rfl)
      |false=>
       refine ag ?_;refine G _ h (ah.da _) zo zo ?_ ?_ ?_ ?_ ?_ ?_ ?_
       all_goals simp(disch:=omega)
def akY(a:aA T){p:List UInt8}(f:s.length<1073741824)(h5:aEO h 5)(e:∀v h',ax h h'->k (.a v h')):aE T (W T) ⟨193⟩ [S p,S s] h k:=by
 rw[ic a.t193];obtain⟨h5,t,v,b⟩:=h5;refine aB b ?_;refine aa2 a f λw w' d g1=>?_;have c:cellsOf (d.ac 5) 0 1=some [.r t v]:=by rw[g1.f _ h5 id];exact b
 refine aB c ?_;exact e _ _ aZ
def akZ(a:aA T){p:List UInt8}{b z:Int}(d:s.length<1073741824)(h5:aEO h 5)(c:∀v h',ax h h'->k (.a (.r 267 v) h')):aE T (W T) ⟨167⟩ [S p,S s,.i b,.i z,.r 264 (.i 2)] h k:=by rw[ic a.t167];refine ag ?_;refine akY a d h5 λv e g1=>?_;refine ag ?_;exact c _ _ aZ
def ak0(a:uU T)(L:xo h)(d:FlA s)(e:s.length<=60)(b:∀h' v x,ax h h'->ErX x->k (.a (.p [v,x]) h')):aE T (W T) ⟨168⟩ [S s,.i 64] h k:=by
 rw[ic a.h.t168];refine ag ?_;rw[ic a.h.t197];refine ag ?_;refine akW a L d e λh' v n x g f=>?_;refine ag ?_
 by_cases c:n=s.length
 refine aB c ?_;exact b h' _ _ g f;refine aB c ?_;exact b h' _ _ g (.inr (.inr rfl))
def ak1(a:uU T)(L:xo h)(h5:aEO h 5)(f:aEO h 6)(d:FlA s)(i:s.length<=60)(c:∀h' v x,ax h h'->(x=.x\/∃w,x=.r 267 w)->k (.a (.p [v,x]) h')):aE T (W T) ⟨143⟩ [S s,.i 64] h k:=by rw[ic a.h.t143];refine ag ?_;refine ak0 a L d i λe v x g j=>?_;rcases j with rfl|rfl|rfl;refine ag ?_;exact c e _ _ g (.inl rfl);refine ag ?_;refine aa3 a.h zo (f.aw g) λw b g2=>?_;refine ag ?_;exact c b _ _ (g.ab g2) (.inr ⟨_,rfl⟩);refine ag ?_;refine akZ a.h zo (h5.aw g) λw b g2=>?_;refine ag ?_;exact c b _ _ (g.ab g2) (.inr ⟨_,rfl⟩)
def ak2(d:uU T)(L:xo h)(h5:aEO h 5)(e:aEO h 6):CA T h:=by
 intro s k i a;rw[ic d.h.t112]
 by_cases c:60<s.length
 have c':(60:Int)<s.length:=zo;refine aS c c' ?_;exact a _ _ _ (ah.da _);have c':¬(60:Int)<s.length:=zo;refine aS c c' ?_;refine aiV d.h i λb f=>?_;cases b with
 |false=>
  refine ag ?_;exact a _ _ _ (ah.da _)
 |true=>
  refine ag ?_;refine ak1 d L h5 e (f rfl) zo λl v x g j=>?_;rcases j with rfl|⟨w,rfl⟩;refine ag ?_;exact a _ _ _ g;refine ag ?_;exact a _ _ _ g
end
structure DW(I:AO->Prop)(M:Nat->Prop)(h h':Hp):Prop where
 j:h.a<=h'.a
 d:∀i,i<h.a->¬M i->¬I (h.ac i)->h'.ac i=h.ac i
section
variable {I J:AO->Prop}{M N:Nat->Prop}{a b c:Hp}
theorem DW.da(h:Hp):DW I M h h:=⟨at2 _,λ_ _ _ _=>rfl⟩
theorem DW.ab(x:DW I M a b)(y:DW I M b c):DW I M a c:=⟨at1 x.j y.j,λi hi f g=>by have e:=x.d i hi f g;rw[y.d i (aur hi x.j) f qaa,e]⟩
def DW.of(x:ah M a b):DW I M a b:=⟨x.g,λi hi e _=>x.f i hi e⟩
def DW.aw(x:DW I M a b)(f:∀o,I o->J o) (g:∀i,i<a.a->M i->N i):DW J N a b:=⟨x.j,λi hi k e=>x.d i hi (λm=>k (g i hi m)) λq=>e (f _ q)⟩
end
section
variable {el w b q0 AM:Nat}{L:List (List AV)}{t1:N3 (List AV)}
def Rw(el w:Nat)(h:Hp)(b:Nat)(L:List (List AV)):Prop:=∃r t,h.ac b=.b el w r 0 t/\L.length<=r/\∀j,(d:j<L.length)->t j=L[j]
def iN(w b:Nat)(L:List (List AV)):AV:=.c b 0 w L.length L.length false
def VL(el w:Nat)(h:Hp)(v:AV)(L:List (List AV)):Prop:=L=[]/\v=.o\/L≠[]/\∃b,v=iN w b L/\Rw el w h b L
def Rw.lt(x:Rw el w h b L):b<h.a:=by obtain⟨r,t,e,_⟩:=x;exact Hp.lt e rfl
def Rw.aw(x:Rw el w h b L)(e:h'.ac b=h.ac b):Rw el w h' b L:=by obtain⟨r,t,q,w⟩:=x;exact⟨r,t,e.trans q,w⟩
def VL.aw(x:VL el w h v L)(e:∀i r t,i<h.a->h.ac i=.b el w r 0 t->h'.ac i=h.ac i):VL el w h' v L:=by rcases x with x|⟨n,b,ev,x⟩;exact .inl x;have l:=x.lt;obtain⟨r,t,q,w⟩:=x;exact .inr ⟨n,b,ev,r,t,(e b r t l q).trans q,w⟩
def VL.px(x:VL el w h v L){H:Hp}:tL 1 H v=.v (.i L.length):=by rcases x with⟨rfl,rfl⟩|⟨_,b,rfl,_⟩<;>rfl
def VL.fx(x:VL el w h v L):bQ v=some [v]:=by rcases x with⟨rfl,rfl⟩|⟨_,b,rfl,_⟩<;>rfl
theorem VL.at(x:VL el w h v L){j:Nat}(d:j<L.length):∃b r t,v=.c b 0 w L.length L.length false/\h.ac b=.b el w r 0 t/\L.length<=r/\t j=L[j]:=by
 rcases x with⟨rfl,_⟩|⟨_,b,e,r,t,q,f,g⟩
 grind
 exact⟨b,r,t,e,q,f,g j d⟩
def aL(v:AV):Option Nat:=match v with|.c b _ _ _ _ _=>some b|_=>none
def kI(el w:Nat)(o:AO):Prop:=∃r t,o=.b el w r 0 t
def VL.is{i:Nat}(x:VL el w h v L)(e:aL v=some i):kI el w (h.ac i)/\i<h.a:=by rcases x with⟨_,rfl⟩|⟨_,b,rfl,x⟩;cases e;have l:=x.lt;obtain⟨r,t,q,_⟩:=x;cases e;exact⟨⟨r,t,q⟩,l⟩
theorem VL.nb{i d:Nat}{l:List AV}(x:VL el w h v L)(e:h.ac i=.a d l):aL v≠some i:=λq=>by
 obtain⟨⟨r,t,f⟩,_⟩:=x.is q
 grind
theorem VL.va(x:VL el w h v L)(C:0<w)(B:L.length<4294967296)(p:AM<=128)(A:h.ac q0=.b el w r 0 t1)(s:1<=r)(u:t1 0=row):
 ∃d,kJ h el w AM v (.c q0 0 w 1 cap ex)=.b (iN w h.a (L++[row])) d/\Rw el w d h.a (L++[row])/\d.a=h.a+1/\∀i,i<h.a->aL v≠some i->d.ac i=h.ac i:=by
 have g:=wN (h:=h) (rw:=w) (cap:=cap) (ex:=ex) A s;rw[u] at g;have z:room AM (L.length+(0+1))=true:=rV (by have:(2*(L.length+(0+1))+1024)*AM<=(2*(L.length+(0+1))+1024)*128:=au2 _ p;omega) zo
 rcases x with⟨rfl,rfl⟩|⟨k,b,rfl,r2,t2,m,e,f⟩;have l:=A7 (h:=h) (el:=el) (rw:=w) (bytes:=AM) (n:=0) (y:=.c q0 0 w 1 cap ex) g rfl zo;refine⟨_,by rw[l];rfl,⟨1,cx fG 0 row,by simp,by simp,λj o=>?_⟩,rfl,λi hi _=>Hp.io hi⟩;obtain rfl:j=0:=by grind
 simp;have lb:=Hp.lt m rfl;have l:=A8 (h:=h) (el:=el) (rw:=w) (bytes:=AM) (n:=0) (i:=b) (len:=L.length) (vh:=r2) (t:=t2) (y:=.c q0 0 w 1 cap ex) m e g rfl z;refine⟨(h.bj b .f).am (.b el w (L.length+1) 0 (cx t2 L.length row)),by simp_all[iN],⟨L.length+1,cx t2 L.length row,by simp_all,by simp,λj o=>?_⟩,by simp_all,λi hi k=>?_⟩;simp at o
 by_cases c:j=L.length
 simp_all;rw[ava zo,dZ,atS c,f j zo];have D:i≠b:=λq=>k (by rw[q];rfl);simp_all
def Rw.vl(x:Rw el w h b L)(d:L≠[]):VL el w h (iN w b L) L:=.inr ⟨d,b,rfl,x⟩
end
structure ayL(K:Type)[DecidableEq K] where
 c:K->AV
 d:EK
 g:∀a b,cJ d (c a) (c b)=some (decide (a=b))
 f:∀a,BS d (c a)=true
section
variable {K:Type}[DecidableEq K]{κ:ayL K}{s a:K}{L:List (K×AV)}{z:AV}
def ax4(κ:ayL K)(L:List (K×AV)):List (AV×AV):=L.map λp=>(κ.c p.1,p.2)
def gF:List (K×AV)->K->Option AV
 |[],_=>none
 |(a,v)::L,s=>if s=a then some v else gF L s
def iT:List (K×AV)->K->AV->List (K×AV)
 |[],s,v=>[(s,v)]
 |(a,w)::L,s,v=>if s=a then(a,v)::L else(a,w)::iT L s v
def ou(L:List (K×AV)):List K:=L.map (·.1)
def ixK:List (K×AV)->K->Nat
 |[],_=>0
 |(a,_)::L,s=>if s=a then 0 else ixK L s+1
def azo:∀L:List (K×AV),s∉ou L->yZ κ.d (κ.c s) (ax4 κ L)=true
 |[],_=>rfl
 |(a,v)::L,h=>by simp only[ou,aul,atZ,aEi] at h;simp[ax4,aul,yZ,κ.g,auK h.1];exact azo L h.2
theorem aAv:∀L:List (K×AV),(ou L).Nodup->wj κ.d (κ.c s) (ax4 κ L)=some (gF L s)
 |[],_=>rfl
 |(a,v)::L,h=>by
  simp only[ou,aul,au6] at h;simp[ax4,aul,wj,κ.g,gF]
  by_cases e:s=a
  have:=azo (κ:=κ) L h.1
  grind [ax4]
  have:=aAv L h.2
  grind [ax4]
theorem aBu:∀L:List (K×AV),(ou L).Nodup->AJ κ.d (κ.c s) v (ax4 κ L)=some (!decide (s∈ou L),ax4 κ (iT L s v))
 |[],_=>by rfl
 |(a,w)::L,h=>by
  simp only[ou,aul,au6] at h;simp[ax4,aul,AJ,κ.g,iT]
  by_cases e:s=a
  have:=azo (κ:=κ) L h.1
  grind [ax4,ou]
  have:=aBu L h.2;simp[ax4,ou] at this⊢
  grind
theorem aAw:∀L:List (K×AV),ou (iT L s v)=if s∈ou L then ou L else ou L++[s]
 |[]=>rfl
 |(a,w)::L=>by
  have:=aAw L
  grind [iT,ou]
theorem azp:∀L:List (K×AV),(iT L s v).length=if s∈ou L then L.length else L.length+1:=λL=>by
 have:=aui List.length (aAw (s:=s) (v:=v) L)
 grind [ou]
theorem azq(h:(ou L).Nodup):(ou (iT L s v)).Nodup:=by grind [aAw]
theorem ayl:∀L:List (K×AV),gF (iT L s v) a=if a=s then some v else gF L a
 |[]=>rfl
 |(b,w)::L=>by
  simp[iT]
  by_cases e:s=b
  simp_all[gF];simp[e,auM,gF,ayl L]
  grind
theorem ayC:∀{L:List (K×AV)},gF L s=none <-> s∉ou L
 |[]=>by simp[gF,ou]
 |(a,v)::L=>by
  have:=ayC (L:=L);simp[ou] at this;simp[gF,ou,aul,atZ,aEi]
  grind
theorem aBv:∀(L:List (K×AV))(n:Nat),(ou L).Nodup->aeQ κ.d (κ.c s) n (ax4 κ L)=some ((gF L s).map λv=>(n+ixK L s,v))
 |[],_,_=>rfl
 |(a,v)::L,n,h=>by
  simp only[ou,aul,au6] at h;simp[ax4,aul,aeQ,κ.g,gF,ixK]
  by_cases e:s=a
  have:=azo (κ:=κ) L h.1
  grind [ax4]
  have:=aBv L (Nat.succ n) h.2;simp[ax4] at this
  grind
theorem aAx:∀L:List (K×AV),s∈ou L->aeR v (ixK L s) (ax4 κ L)=some (ax4 κ (iT L s v))
 |[],h=>by cases h
 |(a,w)::L,h=>by
  simp[ixK,iT]
  by_cases e:s=a
  grind [ax4,aeR]
  have:=aAx L (by grind [ou])
  grind [ax4,aeR]
def aBw:∀{L:List (K×AV)},s∉ou L->iT L s v=L++[(s,v)]
 |[],_=>rfl
 |(a,w)::L,h=>by simp only[ou,aul,atZ,aEi] at h;have:=aBw h.2;simp[iT,h.1,this]
theorem aBx:∀{L:List (K×AV)},s∉ou L->ixK (L++[(s,v)]) s=L.length
 |[],_=>by simp[ixK]
 |(a,w)::L,h=>by simp only[ou,aul,atZ,aEi] at h;have:=aBx h.2;simp[ixK,h.1,this]
theorem aBy:∀{L:List (K×AV)},s∉ou L->iT (L++[(s,z)]) s v=iT L s v
 |[],_=>by simp[iT]
 |(a,w)::L,h=>by simp only[ou,aul,atZ,aEi] at h;have:=aBy h.2;simp[iT,h.1,this]
def ax0(κ:ayL K)(h:Hp)(i:Nat)(L:List (K×AV)):Prop:=h.ac i=.d (ax4 κ L) L.length/\(ou L).Nodup
def ax0.lt(x:ax0 κ h i L):i<h.a:=Hp.lt x.1 rfl
def ax0.aw{h':Hp}(x:ax0 κ h i L)(e:h'.ac i=h.ac i):ax0 κ h' i L:=⟨e.trans x.1,x.2⟩
def ax0.ph(e:h.ac i=.d [] 0):ax0 κ h i []:=⟨e,by simp[ou]⟩
theorem ax0.rg(x:ax0 κ h i L){ok:Bool}:aEx κ.d h z (.h i) (κ.c s) ok=y7 ok ((gF L s).getD z) (gF L s).isSome:=by
 simp[aEx,κ.f,cond,x.1,aAv L x.2]
 grind
theorem ax0.sf(x:ax0 κ h i L):∃o,wk κ.d h (.h i) (κ.c s) v=.b undef (h.bj i o)/\∀h':Hp,h'.ac i=o->ax0 κ h' i (iT L s v):=by
 refine⟨.d (ax4 κ (iT L s v)) (iT L s v).length,?_,λh' e=>⟨e,azq x.2⟩⟩;simp[wk,κ.f,cond,x.1,aBu L x.2,azp]
 grind
theorem ax0.ayF(x:ax0 κ h i L):∃(h':Hp) (j:Nat),ays κ.d h z (.h i) (κ.c s)=.b (.p [(gF L s).getD z,.i j]) h'/\ah (·=i) h h'/\h'.a=h.a/\aEx κ.d h' z (.h i) (κ.c s) false=.v ((gF L s).getD z)/\
 ∀(H:Hp)(w:AV),H.ac i=h'.ac i->∃o,ayt H (.h i) (.i j) w=.b undef (H.bj i o)/\∀b:Hp,b.ac i=o->ax0 κ b i (iT L s w):=by
 have f:=aBv (κ:=κ) (s:=s) L 0 x.2;cases c:gF L s with
 |some l=>
  have d:s∈ou L:=avu λq=>by grind [ayC]
  refine⟨h,ixK L s,?_,ah.da _,rfl,by rw[x.rg,c];rfl,λH w e=>⟨.d (ax4 κ (iT L s w)) L.length,?_,λb g=>⟨?_,azq x.2⟩⟩⟩;simp only[ays,κ.f,cond,x.1,f,c,au3,aue];rfl;simp[ayt,e,x.1];simp_all[aAx];simp_all[azp]
 |none=>
  have d:=ayC.1 c;refine⟨h.bj i (.d (ax4 κ (L++[(s,z)])) (L.length+1)),L.length,?_,ah.bj (ah.da _) _ (.inr rfl),Hp.jp x.lt,?_,λH w e=>⟨.d (ax4 κ (iT L s w)) (L.length+1),?_,λb g=>⟨?_,azq x.2⟩⟩⟩;simp[ays,κ.f,cond,x.1,f,c,awF];simp[ax4,XW];have y:ax0 κ (h.bj i (.d (ax4 κ (L++[(s,z)])) (L.length+1))) i (iT L s z):=⟨by rw[Hp.dq rfl,aBw d];simp,azq x.2⟩;rw[y.rg,ayl,atV rfl];rfl;simp[ayt,e];have:mM (.i ((L.length:Nat):Int))=some L.length:=by rfl
  have k:=aAx (κ:=κ) (s:=s) (v:=w) (L++[(s,z)]) (by simp[ou])
  grind [aBx,aBy]
  grind [azp]
theorem aBz:∀L:List (K×AV),FR (ax4 κ L)=(ou L).map κ.c
 |[]=>rfl
 |(a,v)::L=>by
  have:=aBz L
  grind [ax4,ou,FR]
def ax0.Mj(x:ax0 κ h i L)(b:Qb κ.d=false):FT κ.d h (.h i)=.b (.a h.a 0) (h.am (.c κ.d i L.length ((ou L).map κ.c) none)):=by unfold FT;simp only[b,cond,x.1,aBz,alloc]
def ax0.Hb(x:ax0 κ h i L)(c:Qa κ.d=false){it:Nat}{todo:List AV}(b:h.ac it=.c κ.d i L.length todo (some (κ.c s)))(d:gF L s=some v):FU h (.a it 0)=.v (.p [κ.c s,v]):=by unfold FU;simp only[b,x.1,tZ,auS,c,Bool.not_false,avl,cond,aAv L x.2,d]
end
structure Ty where
 a:Int
 c:List UInt8
 b:List UInt8
deriving DecidableEq
def Ty.ca(t:Ty):List AV:=[.i t.a,S t.c,S t.b]
def dP:Ty:=⟨0,[],[]⟩
structure Ky where
 a:Ty
 c:List UInt8
 b:List UInt8
deriving DecidableEq
def Ky.ca(t:Ky):List AV:=[.i t.a.a,S t.a.c,S t.a.b,S t.c,S t.b]
theorem aAy(a b:Int):sD (.b .i64) (.i a) (.i b)=some (decide (a=b)):=by simp[sD,A6]
theorem aAz{a b:Ty}:cJ (.b [.b .i64,.a,.a]) (.j a.ca) (.j b.ca)=some (decide (a=b)):=by
 obtain⟨c,d,e⟩:=a;obtain⟨f,g,h⟩:=b
 grind [cJ,Ty.ca,yX,aAy,Z1,Ty.mk.injEq]
theorem aBA{a b:Ky}:cJ (.b [.b .i64,.a,.a,.a,.a]) (.j a.ca) (.j b.ca)=some (decide (a=b)):=by
 obtain⟨⟨c,d,e⟩,f,g⟩:=a;obtain⟨⟨h,i,j⟩,k,l⟩:=b;simp[cJ,Ky.ca,yX,aAy,Z1,Ky.mk.injEq,Ty.mk.injEq]
 grind
def dM:ayL Ty:=⟨λt=>.j t.ca,.b [.b .i64,.a,.a],λ_ _=>aAz,λa=>by grind [BS,aAz]⟩
def kKy:ayL Ky:=⟨λt=>.j t.ca,.b [.b .i64,.a,.a,.a,.a],λ_ _=>aBA,λa=>by grind [BS,aBA]⟩
structure Mem where
 d:aC
 t:Ty
deriving DecidableEq
def Mem.ca(m:Mem):List AV:=[.i m.d.b,S m.d.a,.i m.d.c,.i m.d.f,S m.d.g,.i m.t.a,S m.t.c,S m.t.b]
structure oS where
 d:aC
 c:Ty
 b:List Mem
 a:Ty
deriving DecidableEq
def oS.ca(s:oS)(v:AV):List AV:=[.i s.d.b,S s.d.a,.i s.d.c,.i s.d.f,S s.d.g,.i s.c.a,S s.c.c,S s.c.b,v,.i s.a.a,S s.a.c,S s.a.b]
inductive TT where
 |mk (x:Ty) (ks:List TT)
def TT.ty:TT->Ty|.mk x _=>x
def TT.bv:TT->List TT|.mk _ a=>a
def mn(a b:Int):Int:=if b<a then b else a
def mx(a b:Int):Int:=if a<b then b else a
mutual
def iA(F:Ty->List Mem):TT->Prop
 |.mk x a=>(0<=x.a/\x.a<=5)/\(x.a≠5->F x=[])/\a.map TT.ty=(F x).map (·.t)/\aya F a
def aya(F:Ty->List Mem):List TT->Prop
 |[]=>True
 |t::ts=>iA F t/\aya F ts
end
mutual
def iD:TT->Int
 |.mk x a=>if x.a=5 then mx (iP a 0) 1 else mn x.a 1
def iP:List TT->Int->Int
 |[],n=>n
 |t::ts,n=>iP ts (mn (n+iD t) 257)
end
mutual
def oT:TT->Int
 |.mk x a=>if x.a≠5\/a=[] then 1 else R9 a 0
def R9:List TT->Int->Int
 |[],n=>n
 |t::ts,n=>R9 ts (n+oT t)
end
mutual
def kdT:TT->Prop
 |.mk x a=>x.a≠0/\kdL a
def kdL:List TT->Prop
 |[]=>True
 |t::ts=>kdT t/\kdL ts
end
section
variable {F:Ty->List Mem}
mutual
theorem iA.AC:∀{a b:TT},iA F a->iA F b->a.ty=b.ty->a=b
 |.mk x f,.mk y g,c,d,e=>by have e:x=y:=e;subst e;rw[aya.AC c.2.2.2 d.2.2.2 (c.2.2.1.trans d.2.2.1.symm)]
theorem aya.AC:∀{a b:List TT},aya F a->aya F b->a.map TT.ty=b.map TT.ty->a=b
 |[],[],_,_,_=>rfl
 |[],_::_,_,_,e=>by grind
 |_::_,[],_,_,e=>by grind
 |_::_,_::_,c,d,e=>by simp only[aul,awm] at e;rw[iA.AC c.1 d.1 e.1,aya.AC c.2 d.2 e.2]
end
mutual
theorem ay5:∀{a:TT},iA F a->0<=iD a/\iD a<=257
 |.mk x b,h=>by
  have:=aBB h.2.2.2 (n:=0) zo zo;have:=h.1
  grind [iD,mx,mn]
theorem aBB:∀{a:List TT}{n:Int},aya F a->0<=n->n<=257->0<=iP a n/\iP a n<=257
 |[],_,_,b,c=>⟨b,c⟩
 |t::ts,n,h,b,c=>by have:=ay5 h.1;unfold iP;exact aBB h.2 qas qas
end
mutual
theorem aCK:∀{a:TT},iA F a->kdT a->1<=iD a
 |.mk x b,h,k=>by
  have:=h.1;have:=k.1
  grind [iD,mx,mn]
end
theorem aAA:∀{a:List TT}{n:Int},aya F a->n<=257->n<=iP a n
 |[],_,_,_=>atY _
 |t::ts,n,h,b=>by have:=ay5 h.1;unfold iP;exact avU qas (aAA h.2 qas)
mutual
theorem aBC:∀{a:TT},iA F a->kdT a->iD a<=256->iD a=oT a
 |.mk x f,h,k,d=>by
  have:=h.1;have:=k.1;unfold iD at d⊢;unfold oT
  by_cases c:x.a=5
  rw[atV c] at d⊢;cases f with
  |nil=>simp[iP,mx]
  |cons t ts=>
   rw[atS qaa];have b:=h.2.2.2;have p:=aCK b.1 k.2.1;have u:1<=iP (t::ts) 0:=by unfold iP;exact avU qas (aAA b.2 qas)
   have e:iP (t::ts) 0<=256:=by grind [mx]
   rw[show mx (iP (t::ts) 0) 1=iP (t::ts) 0 by grind [mx]];exact aBD b k.2 (atY _) e
  grind [mn]
theorem aBD:∀{a:List TT}{n:Int},aya F a->kdL a->0<=n->iP a n<=256->iP a n=R9 a n
 |[],_,_,_,_,_=>rfl
 |t::ts,n,h,k,n0,b=>by
  unfold iP at b⊢;have u:=aAA (n:=mn (n+iD t) 257) h.2 qas;have e:mn (n+iD t) 257=n+iD t:=by grind [mn]
  rw[e] at b u⊢;have p:=ay5 h.1;have c:=aBC h.1 k.1 zo;rw[c] at b⊢;exact aBD h.2 k.2 zo b
end
end
inductive gL(F:Ty->List Mem):Ty->Ty->Prop where
 |b {x:Ty} {m:Mem} (h:m∈F x) (k:m.t.a=5):gL F x m.t
 |a {x y:Ty} {m:Mem} (r:gL F x y) (h:m∈F y) (k:m.t.a=5):gL F x m.t
section
variable {F:Ty->List Mem}{U:List Ty}
def gL.Hm{x y:Ty}{m:Mem}(h:m∈F x)(k:m.t.a=5)(r:gL F m.t y):gL F x y:=by
 induction r with
 |b c d=>exact .a (.b h k) c d
 |a _ c d e=>exact .a e c d
theorem gL.ne{x y:Ty}(r:gL F x y):F x≠[]:=by
 induction r with
 |b c _=>grind
 |a _ _ _ d=>omega
theorem aBE{c:Type}[DecidableEq c]:∀{l U:List c},l.Nodup->(∀a∈l,a∈U)->l.length<=U.length
 |[],_,_,_=>auz _
 |a::l,U,h,s=>by
  have:=aBE (l:=l) (U:=U.erase a) (au6.1 h).2 λb d=>(List.mem_erase_of_ne qaa).2 (s b qaa)
  grind
theorem aAB(k:∀x m,m∈F x->m.t.a=5->m.t∈U) (i:∀x m,m∈F x->0<=m.t.a/\m.t.a<=5) (h5:∀x,x.a≠5->F x=[]):∀(n:Nat)(x:Ty)(path:List Ty),U.length<path.length+n->path.Nodup->(∀a∈path,a∈U/\gL F a x)->(0<=x.a/\x.a<=5)->(x.a=5->x∈U)->¬gL F x x->(∀y,gL F x y->¬gL F y y)->∃T:TT,T.ty=x/\iA F T
 |0,x,path,p,j,g,_,_,_,_=>by have:=aBE j λa h=>(g a h).1;omega
 |n+1,x,path,p,j,g,h0,A,r,l=>by
  by_cases c:x.a=5
  have key:∀ms:List Mem,(∀m∈ms,m∈F x)->∃f:List TT,f.map TT.ty=ms.map (·.t)/\aya F f:=by
   intro ms
   induction ms with
   |nil=>exact λ_=>⟨[],rfl,auW⟩
   |cons m ms s=>
    intro o;obtain⟨f,e,u⟩:=s λm h=>o m qaa;have b:=o m zm;obtain⟨T,z,w⟩:∃T:TT,T.ty=m.t/\iA F T:=by
     by_cases d:m.t.a=5
     have t:gL F x m.t:=.b b d;refine aAB k i h5 n m.t (x::path) qaa (au6.2 ⟨λq=>r (g x q).2,j⟩) (λa q=>?_) (i x m b) (λ_=>k x m b d) (l _ t) λy v=>l y (gL.Hm b d v);rcases atZ.1 q with rfl|q
     grind
     exact⟨(g a q).1,.a (g a q).2 b d⟩;exact⟨.mk m.t [],rfl,i x m b,h5 _,by grind,auW⟩
    exact⟨T::f,by grind,w,u⟩
  obtain⟨f,e,u⟩:=key (F x) λ_ h=>h;exact⟨.mk x f,rfl,h0,λq=>absurd c q,e,u⟩;exact⟨.mk x [],rfl,h0,h5 x,by grind,auW⟩
end
end Yv
