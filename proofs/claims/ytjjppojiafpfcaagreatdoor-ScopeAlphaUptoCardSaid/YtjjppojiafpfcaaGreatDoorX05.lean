/- A part of the proof of 'ScopeAlphaUptoCardSaid'. No condition. -/
import Derived.Test.YtjjppojiafpfcaaGreatDoorX04
import Derived.Shelf.SlSortCmp.NoneTotal
set_option maxHeartbeats 64000000
set_option maxRecDepth 100000
set_option linter.all false
namespace Yv
variable {ar m:KM}{bb c hi i lb:Nat}{ds:List aC}{f v:AV}{h h':Hp}{ms:List KM}{row:List AV}{s:List UInt8}
variable {T:aM->Option CF}
structure dx where
 a:Int
 c:Int
 b:List UInt8
 f:Bool
 d:aC
deriving DecidableEq
def dx.fj(u:dx):List AV:=[.i u.a,.i u.c,S u.b,.g u.f,.i u.d.b,S u.d.a,.i u.d.c,.i u.d.f,S u.d.g]
def pA(h:Hp)(v:AV)(a:List dx):Prop:=
 a=[]/\v=.h\/a≠[]/\∃q t,v=.c q 0 9 a.length a.length false/\h.ab q=.b 37 9 a.length 0 t/\∀j,(hj:j<a.length)->t j=a[j].fj
def uw(o:AO):Prop:=∃r f,o=.b 37 9 r 0 f
structure Wf(lo:Nat)(M:Nat->Prop)(h h':Hp):Prop where
 d:h.a<=h'.a
 f:∀i,i<h.a->¬M i->¬(uw (h.ab i)/\lo<=i)->h'.ab i=h.ab i
theorem Wf.ab{lo:Nat}{M:Nat->Prop}{h h':Hp}(x:Wf lo M h h')(i:Nat)(hi:i<h.a)(a:¬M i)(n:¬uw (h.ab i)):h'.ab i=h.ab i:=x.f i hi a λc=>n c.1
def NmL(lo:Nat)(h:Hp)(v:AV)(a:List dx):Prop:=
 a=[]/\v=.h\/a≠[]/\∃q t,lo<=q/\v=.c q 0 9 a.length a.length false/\h.ab q=.b 37 9 a.length 0 t/\∀j,(hj:j<a.length)->t j=a[j].fj
section
variable {k:aK->Prop}{nm:List UInt8}{d:aC}{lo:Nat}
theorem Wf.cg{M}(h:Hp):Wf lo M h h:=⟨at2 _,λ_ _ _ _=>rfl⟩
theorem Wf.ba{M}{a b c:Hp}(x:Wf lo M a b)(y:Wf lo M b c):Wf lo M a c:=⟨at1 x.d y.d,λi hi j g=>by have e:=x.f i hi j g;rw[y.f i (aur hi x.d) j qaa,e]⟩
def Wf.bc{M N}{a b:Hp}(x:Wf lo M a b)(le:∀i,i<a.a->M i->N i):Wf lo N a b:=⟨x.d,λi hi e=>x.f i hi λc=>e (le i hi c)⟩
def Wf.of{M}{a b:Hp}(x:ah M a b):Wf lo M a b:=⟨x.g,λi hi c _=>x.f i hi c⟩
def pA.bc{h':Hp}{b}(x:pA h v b)(e:∀q,q<h.a->uw (h.ab q)->h'.ab q=h.ab q):pA h' v b:=by rcases x with x|⟨x,q,t,c,a,f⟩;exact .inl x;exact .inr ⟨x,q,t,c,by rw[e q (Hp.lt a rfl) ⟨_,_,a⟩];omega,f⟩
def NmL.a{c}(x:NmL lo h v c):pA h v c:=x.imp id λ⟨a,q,t,_,b⟩=>⟨a,q,t,b⟩
def NmL.bc{h':Hp}{b}(x:NmL lo h v b)(e:∀q,q<h.a->uw (h.ab q)->h'.ab q=h.ab q):NmL lo h' v b:=by rcases x with x|⟨x,q,t,l,c,a,f⟩;exact .inl x;exact .inr ⟨x,q,t,l,c,by rw[e q (Hp.lt a rfl) ⟨_,_,a⟩];omega,f⟩
def NmL.vm{M}{h':Hp}{b}(x:NmL lo h v b)(g:ah M h h')(c:∀q,M q->¬uw (h.ab q)):NmL lo h' v b:=
 x.bc λq e a=>g.f q e λm=>c q m a
def pA.vm{M}{h':Hp}{b}(x:pA h v b)(g:ah M h h')(c:∀q,M q->¬uw (h.ab q)):pA h' v b:=
 x.bc λq e a=>g.f q e λm=>c q m a
theorem UF(u:aA T){p:Nat}{c0 c1 c2 c6 c7 c8 c9:AV}{f:cN}(t:h.ab p=.a 57 (bS c0 c1 c2 f c6 c7 c8 c9))(c:MK h i m)
 (z:∀h',ah (λj=>j=p\/j=i) h h'->h'.ab p=.a 57 (bS c0 c1 c2 (if(m d.a).isSome=true then Bp f ⟨d.c,d.f,13⟩ else f) c6 c7 c8 c9)->MK h' i (rA m d.a d)->k (.a (.o []) h')):
 aE T (W T) ⟨69⟩ [.a p 0,.j i,.p d.fj] h k:=by
 rw[aJ u.t69];have A:=Hp.lt t rfl;have B:=c.lt;have w:p≠i:=by rintro rfl;obtain⟨L,⟨⟨aD,q6⟩,_⟩,_⟩:=c;grind
 have a:∀o,me (.a .a) (h.am o) (.p [.i 0,S [],.i 0,.i 0,S []]) (.j i) (S d.a) true=.v (lA (m d.a)):=λo=>by rw[(c.bc (h':=h.am o) (Hp.jp B)).wa];cases m d.a<;>rfl
 cases e:m d.a with
 |none=>
  rw[e] at a;simp[lA,Option.getD,Option.isSome,aC.fj,qG] at a;simp[aC.fj];refine aB a ?_;generalize y:(((h.am _).am _).dT _ _:Hp)=H;have n:MK H i m:=c.bc (by rw[<-y];exact aa);obtain⟨o,b,r⟩:=n.ti (s:=d.a) (d:=d);simp[aC.fj] at b;have l:ax h H:=by grind[ah.dT,ah.am,ah.cg]
  have q:H.ab h.a=.a 35 [.i d.b,S d.a,.i d.c,.i d.f,S d.g]:=by rw[<-y];simp
  refine aS q b ?_;refine z _ ((ah.mr l).dT _ (.inr (.inr rfl))) ?_ (r _ (Hp.fp rfl));rw[Hp.fv w,l.f _ A id,t];grind
 |some C=>
  rw[e] at a;simp[lA,Option.getD,Option.isSome,aC.fj] at a;simp[aC.fj];refine aB a ?_;refine ES u (x:=⟨d.c,d.f,13⟩) (f:=f) (c0:=c0) (c1:=c1) (c2:=c2) (c6:=c6) (c7:=c7) (c8:=c8) (c9:=c9) (au t) λH g D=>?_;have q:H.ab h.a=.a 35 [.i d.b,S d.a,.i d.c,.i d.f,S d.g]:=by rw[g.f _ (by simp(disch:=first|exact bh|fail);omega) zo];simp
  have n:=c.bc (by rw[g.f _ (by refine ag ?_;omega) (Ne.symm w)];exact aa);obtain⟨o,b,r⟩:=n.ti (s:=d.a) (d:=d);simp[aC.fj] at b;have l:ah (λj=>j=p\/j=i) h H:=by exact ah.ba fZ (g.bc λ_ _ h=>.inl h)
  refine aS q b ?_;refine z _ (l.dT _ (.inr (.inr rfl))) ?_ (r _ (Hp.fp rfl));simp_all
end
section
variable {k:aK->Prop}{nm:List UInt8}{d:aC}{lo:Nat}
def CV(I:aA T){p aG j:Nat}{c0 c1 c2 c7 c8 c9:AV}{f:cN}{N:List aC}{ds:List (List UInt8)}{kind e:Int}{x0 C D kv:AV}(u:h.ab p=.a 57 (bS c0 c1 c2 f (.j aG) c7 c8 c9))(y:lX h aG N)(hd:cY h c2 ds)(hj:j<ds.length)
 (q:∀h',ah (·=aG) h h'->lX h' aG (⟨kind,nm,j,e,if kind=1 then nm else ds[j]⟩::N)->k (.a (.p (aC.fj ⟨kind,nm,j,e,if kind=1 then nm else ds[j]⟩)) h')):
 aE T (W T) ⟨63⟩ [.a p 0,.i kind,.i j,.p [x0,C,D,.i e,S nm,kv]] h k:=by
 rw[aJ I.t63];obtain⟨b,cap,ex,r,t,rfl,x,hr,J⟩:=hd;have K:=Hp.lt u rfl;have G:=y.lt;have L:=Hp.lt x rfl;have F:=J j hj;simp[bS] at u;have E:(j:Int)<ds.length:=zo;by_cases c:kind=1;subst c;simp only[auo] at q;refine cC u x F hj E ?_;generalize g:(((((h.am _).am _).am _).dT _ _).dT _ _:Hp)=H;have n:ax h H:=by rw[<-g];exact fZ
 obtain⟨o,l,w⟩:=(y.bc (h':=H) (n.f _ G id)).ti (d:=⟨1,nm,j,e,nm⟩) (a:=x0) (b:=C) (c:=D) (f:=.i e) (kv:=kv);simp only[aC.fj] at l;have z:H.ab (h.a+1+1)=.a 35 [.i 1,S nm,.i j,.i e,S nm]:=by rw[<-g];simp
 have A:H.ab (h.a+1)=.a 35 [.i 0,S [],.i 0,.i 0,S []]:=by rw[<-g];simp
 have B:H.a=h.a+1+1+1:=by rw[<-g];simp
 refine bK l z A B ?_;refine q _ ?_ (w _ ?_);refine ah.dT ?_ _ (.inl ?_);exact ah.dT (ah.mr n) _ (.inr rfl);omega;exact aa;simp[c,auM] at q;refine cq u x F hj E c ?_;generalize g:((((h.am _).am _).am _).dT _ _:Hp)=H;have n:ax h H:=by rw[<-g];exact fZ
 obtain⟨o,l,w⟩:=(y.bc (h':=H) (n.f _ G id)).ti (d:=⟨kind,nm,j,e,ds[j]⟩) (a:=x0) (b:=C) (c:=D) (f:=.i e) (kv:=kv);simp[aC.fj] at l;have z:H.ab (h.a+1+1)=.a 35 [.i kind,S nm,.i j,.i e,S ds[j]]:=by rw[<-g];simp
 have A:H.ab (h.a+1)=.a 35 [.i 0,S [],.i 0,.i 0,S []]:=by rw[<-g];simp
 have B:H.a=h.a+1+1+1:=by rw[<-g];simp
 refine bK l z A B ?_;refine q _ ?_ (w _ ?_);refine ah.dT ?_ _ (.inl ?_);exact ah.dT (ah.mr n) _ (.inr rfl);omega;exact aa
theorem UH(D:aA T){p doc:Nat}{c0 c1 c2 c6 c7 c8 v:AV}{f:cN}{b:List dx}{a:Int}{is:Bool}{x0 L M kv:AV}(o:h.ab p=.a 57 (bS c0 c1 c2 f c6 c7 c8 v))(F:NmL p h v b)(O:b.length<1073741824)
 (z:∀h' v',Wf p (·=p) h h'->NmL p h' v' (b++[⟨doc,a,nm,is,d⟩])->h'.ab p=.a 57 (bS c0 c1 c2 f c6 c7 c8 v')->k (.a (.o []) h')):
 aE T (W T) ⟨70⟩ [.a p 0,.i doc,.p [x0,L,M,.i a,S nm,kv],.p d.fj,.g is] h k:=by
 rw[aJ D.t70];have A:=Hp.lt o rfl;simp[bS] at o;simp[aC.fj];rcases F with⟨rfl,rfl⟩|⟨N,q,t,E,rfl,w,I⟩;refine aB o ?_;generalize c:(((h.am _).am _).am _:Hp)=H;have g:∃t,H.ab (h.a+1+1)=.b 37 9 1 0 t/\t 0=[.i doc,.i a,S nm,.g is,.i d.b,S d.a,.i d.c,.i d.f,S d.g]:=⟨_,by rw[<-c];exact Hp.bv rfl,by simp⟩;have K:H.a=h.a+1+1+1:=by rw[<-c];rfl
 have l:ax h H:=by rw[<-c];exact aZ
 obtain⟨t,g,B⟩:=g;have r:=A7 (h:=H) (el:=37) (rw:=9) (bytes:=96) (n:=0) (wN g zl) (y:=.c (h.a+1+1) 0 9 1 1 true) rfl qab;rw[r];have x:=(l.f _ A id).trans o;refine aB x ?_;refine z _ (.c H.a 0 9 1 1 false) (Wf.of (ah.dT ((ah.mr l).am _) _ (.inr rfl))) (.inr ⟨by simp,H.a,cx fG 0 (t 0),by omega,rfl,?_,λj hj=>?_⟩) ?_;exact aa;obtain rfl:j=0:=by grind
 simp[dx.fj,B];simp_all[bS];have J:=Hp.lt w rfl;have G:q≠p:=by grind
 refine aB o ?_;generalize c:(((h.am _).am _).am _:Hp)=H;have g:∃t,H.ab (h.a+1+1)=.b 37 9 1 0 t/\t 0=[.i doc,.i a,S nm,.g is,.i d.b,S d.a,.i d.c,.i d.f,S d.g]:=⟨_,by rw[<-c];exact Hp.bv rfl,by simp⟩;have K:H.a=h.a+1+1+1:=by rw[<-c];rfl
 have l:ax h H:=by rw[<-c];exact aZ
 obtain⟨t1,g,B⟩:=g;have x:=(l.f _ A id).trans o;have C:=(l.f _ J id).trans w;have r:=A8 (h:=H) (el:=37) (rw:=9) (bytes:=96) (n:=0) (i:=q) (len:=b.length) (l5:=b.length) (t:=t) C zl (wN g zl) (y:=.c (h.a+1+1) 0 9 1 1 true) rfl (rV zo zo);rw[r];refine aB x ?_;refine z _ (.c H.a 0 9 (b.length+1) (b.length+1) false) ⟨?_,λi hi P u=>?_⟩ (.inr ⟨by simp,H.a,cx t b.length (t1 0),by omega,by grind,?_,λj hj=>?_⟩) ?_;refine ag ?_;omega;have:i≠q:=by rintro rfl;exact u ⟨⟨_,_,w⟩,E⟩
 simp(maxSteps:=400000) (disch:=first|exact bh|fail) [l.f _ hi id];exact aa;simp at hj;by_cases e:j=b.length;simp_all[dx.fj];rw[ava zo];simp[e,I j zo];simp_all[bS]
end
def yG(h:Hp)(v:AV)(ds:List aC):Prop:=
 ds=[]/\v=.h\/ds≠[]/\∃q t cap ex r,v=.c q 0 5 ds.length cap ex/\h.ab q=.b 35 5 r 0 t/\ds.length<=r/\∀j,(hj:j<ds.length)->t j=ds[j].fj
def Bu(h:Hp)(i:Nat)(bu:List UInt8->List aC):Prop:=∃L,iV h i L/\∀s,yG h ((eV L s).getD .h) (bu s)
section
variable {k:aK->Prop}{nm:List UInt8}{d:aC}{lo:Nat}
def yG.bc{h':Hp}(x:yG h v ds)(e:∀q,q<h.a->(∃r f,h.ab q=.b 35 5 r 0 f)->h'.ab q=h.ab q):yG h' v ds:=by rcases x with x|⟨x,q,t,cap,ex,r,b,a,c⟩;exact .inl x;exact .inr ⟨x,q,t,cap,ex,r,b,by rw[e q (Hp.lt a rfl) ⟨_,_,a⟩];omega,c⟩
def ajU(b:aA T){c:Nat}(a:h.ab c=.a 9 [S nm])(e:∀h',ax h h'->k (.a (.g (decide (d.a=nm))) h')):aE T (W T) ⟨132⟩ [.p d.fj,.a c 0] h k:=by rw[aJ b.t132];have f:=Hp.lt a rfl;refine aS aC.fj.eq_1 a ?_;exact e _ aZ
theorem ajV(j:aA T){c:Nat}(y:h.ab c=.a 9 [S nm])(hd:yG h v ds)(H:ds.length<1073741824)(p:∀h',ax h h'->k (.a (.i (if ds.findIdx (λd=>decide (d.a=nm))<ds.length then(ds.findIdx λd=>decide (d.a=nm):Nat) else-1)) h')):
 aE T (W T) ⟨131⟩ [v,.r ⟨132⟩ [] [.a c 0]] h k:=by
 rw[aJ j.t131];rcases hd with⟨rfl,rfl⟩|⟨F,q,t,cap,ex,r,rfl,u,hr,A⟩;refine ag ?_;rw[aP];exact ag (p _ aZ);have D:=Hp.lt y rfl;have J:=Hp.lt u rfl;refine ag ?_;generalize x:ds.findIdx (λd=>decide (d.a=nm))=I at p;have key:∀(m i:Nat)(f:Fr)(a:Hp)(K:aT->Prop),m=ds.length- i->i<=ds.length->ax h a->i<=I->an 0 f=.c q 0 5 ds.length cap ex->an 1 f=.r ⟨132⟩ [] [.a c 0]->an 7 f=.i ds.length->an 8 f=.i i->
  (¬I<ds.length->∀f' h',ax h h'->K (.a 0 f' h' []))->(I<ds.length->∀f' h',ax h h'->an 4 f'=.i I->K (.b f' h' []))->W T (.d l131_0) f a [] K:=by
  intro m;induction m with
  |zero=>
   intro i f a K z hi g x f0 o f7 f8 w b;have e:¬i<ds.length:=zo;rw[aP];refine aU f7 f8 e ?_;grind
  |succ m B=>
   intro i f a K z hi g E f0 o f7 f8 w b;have l:i<ds.length:=zo;have C:=A i l;have n:=g0 g;rw[aP];refine mz f0 o f7 f8 l n u C aC.fj.eq_1 ?_;refine ajU (d:=ds[i]) j (by rw[n c D];omega) λG g2=>?_;by_cases e:ds[i].a=nm;have:I=i:=by grind
   refine aU e f7 f8 ?_;exact b zo _ _ (g.ba g2) qae;have:I≠i:=by grind
   refine aU e f7 f8 ?_;exact B (i+1) _ _ K zo zo (g.ba g2) zo zA zA zA aa w b
 refine key _ 0 _ _ _ rfl zo aZ zo aa aa aa aa (λe f' h' g=>?_) (λe f' h' g f4=>?_);simp_all;simp_all
theorem abE(y:aA T)(hd:yG h v ds)(D:ds.length<1073741824)(p:∀h' v',ax h h'->yG h' v' ds->(∀q a b c e x,v'=.c q a b c e x->h.a<=q)->k (.a v' h')):aE T (W T) ⟨100⟩ [v] h k:=by
 rw[aJ y.t100];rcases hd with⟨rfl,rfl⟩|⟨l,q,t,cap,ex,r,rfl,u,hr,E⟩;simp(disch:=omega) [cJ];exact p _ _ aZ (.inl ⟨rfl,rfl⟩) (λ_ _ _ _ _ _ e=>by grind);have C:=Hp.lt u rfl;have h0:=auA.2 l;obtain⟨n,B⟩:∃n,ds.length=n+1:=⟨ds.length- 1,by omega⟩;simp(disch:=omega) [cJ];generalize f:(h.am _:Hp)=H;have g:∃t,H.ab h.a=.b 35 5 0 0 t:=⟨_,by rw[<-f];exact Hp.bv rfl⟩;have G:H.a=h.a+1:=by rw[<-f];rfl
 have o:ax h H:=by rw[<-f];exact aZ
 obtain⟨t1,g⟩:=g;have w:=(o.f _ C id).trans u;have A:=G2 (h:=H) (el:=35) (rw:=5) (bytes:=56) (n:=n) (i:=h.a) (len:=0) (l5:=0) (t:=t1) zm g zl (Ke (n:=ds.length) (b:=q) (cap:=cap) (ex:=ex) zm w hr) (by simp[lenOf,B]) (rV zo zo);rw[A];refine ag ?_;refine p _ _ (o.am _) (.inr ⟨l,H.a,jy fG 0 ([]++dw t ds.length 0),n+1,false,n+1,by grind,?_,by omega,λj hj=>?_⟩) (λF _ _ _ _ _ e=>by grind);rw[Hp.bv rfl,jJ];rfl;have z:j<(dw t ds.length 0).length:=by grind[oZ]
 rw[au5,wO z];have:=vw t ds.length 0 j hj;grind
def uy(ds:List aC)(nm:List UInt8):Option aC:=ds.find? λd=>decide (d.a=nm)
def abF{p:aC->Bool}:∀(l:List aC),l.find? p=l[l.findIdx p]?
 |[]=>rfl
 |a::l=>by
  rw[awM,List.findIdx_cons];cases p a with
  |true=>rfl
  |false=>rw[abF l];rfl
theorem ajW(f:aA T)(hd:yG h v ds)(o:ds.length<1073741824)(a:∀h',ax h h'->k (.a (lA (uy ds nm)) h')):aE T (W T) ⟨103⟩ [v,S nm] h k:=by
 rw[aJ f.t103];refine ag ?_;refine ajV f (nm:=nm) (ds:=ds) aa (hd.bc λq c _=>aa) o λg g1=>?_;have n:=g0 g1;have b:uy ds nm=_:=abF ds;generalize ds.findIdx (λd=>decide (d.a=nm))=I at b|-;have j:g.ab (h.a+1)=.a 35 [.i 0,S [],.i 0,.i 0,S []]:=by simp_all
 by_cases e:I<ds.length;rw[b,atT e] at a;rcases hd with⟨rfl,rfl⟩|⟨x,q,t,cap,ex,r,rfl,c,hr,p⟩;grind;have y:=Hp.lt c rfl;have w:g.ab q=.b 35 5 r 0 t:=(n q (by refine ag ?_;omega)).trans (au c);have u:=p I e;have l:¬((I:Int)<0):=zo;refine cq e l w u aC.fj.eq_1 j ?_;exact a _ (ah.dT (ah.ba aZ g1) _ (.inl zo));rw[b,auI zo] at a;refine aS e j ?_;exact a _ (ah.dT (ah.ba aZ g1) _ (.inl zo))
def Bu.bc{h':Hp}{bu}(x:Bu h i bu)(e:∀q,q<h.a->q=i\/(∃r f,h.ab q=.b 35 5 r 0 f)->h'.ab q=h.ab q):Bu h' i bu:=by obtain⟨L,x,y⟩:=x;exact⟨L,x.bc (e i x.lt (.inl rfl)),λs=>(y s).bc λq a h=>e q a (.inr h)⟩
def UI(a:aA T){p tb:Nat}{c0 c1 c2 c6 c8 c9:AV}{f:cN}{bu:List UInt8->List aC}(e:h.ab p=.a 57 (bS c0 c1 c2 f c6 (.j tb) c8 c9))(u:Bu h tb bu)(j:(bu s).length<1073741824)
 (g:∀h',ax h h'->k (.a (lA (uy (bu s) nm)) h')):aE T (W T) ⟨66⟩ [.a p 0,S s,S nm] h k:=by
 rw[aJ a.t66];have x:=Hp.lt e rfl;simp[bS] at e;refine ag ?_;rw[aJ a.t104];obtain⟨L,l,hd⟩:=u;have y:=l.lt;generalize c:(h.am _:Hp)=H;have b:ax h H:=by rw[<-c];exact aZ
 have C:H.ab h.a=.a 35 [.i 0,S [],.i 0,.i 0,S []]:=by rw[<-c];simp
 have D:H.a=h.a+1:=by rw[<-c];rfl
 have w:=(b.f _ x id).trans e;have o:=(l.bc (h':=H) (b.f _ y id)).wa (s:=s) (z:=.h) (ok:=false);simp(disch:=omega) [w,o,y7];refine abE a ((hd s).bc λq t _=>b.f q t id) j λB E g1 n _=>?_;refine ag ?_;refine ajW a n j λr g2=>?_;have A:r.ab h.a=.a 35 [.i 0,S [],.i 0,.i 0,S []]:=by rw[g2.f _ qan id,g1.f _ zo id];omega
 simp[lA,aC.fj] at g|-;refine aB A ?_;exact g _ (ah.dT ((b.ba g1).ba g2) _ (.inl zo))
end
def lY(l:List Tk):Nat:=l.length+2
def sj(l:List Tk)(size:Nat)(a:List UInt8->List UInt8×Bool):PR Tree:=
 Ad l (lY l) (Hw l (lY l) (zU l (lY l) (lY l)) (lY l)) size a 0
def fD(s:List UInt8):Tk:=⟨0,[],s.length,s.length⟩
def Al(O:Orc)(s:List UInt8):PR Tree:=
 (aE0 O s).dC λl _=>(sj (l++[fD s]) s.length (aET O)).dC λt n=>if yu t 64 (s.length+1)<=s.length then .d (yu t 64 (s.length+1)) 3 else .b t n
@[simp] def as8{g:aM}{cs:List AV}:Mt (.r g [] cs) []=.j (.a g cs):=rfl
section
variable {O:Orc}{hh:Hp}{k:aK->Prop}{p:List UInt8}{c:UInt8}
def UJ(hh:Hp)(k:aK->Prop)(r:PR Tree):Prop:=
 match r with
 |.b t _=>∀h' row,ax hh h'->ay hh.a h' t row->k (.a (.o [.p row,.i 0,.i 0]) h')
 |.d p e=>∀h',ax hh h'->k (.a (.o [.p vh,.i p,.i e]) h')
 |.c=>False
def lv(T:aM->Option CF)(X:fJ)(rs:List CR)(f:Fr)(k:aK->Prop)(ds:List Df)(o:aT)(m:Md):Prop:=
 match o with
 |.c _ h' []=>pJ T X rs f k ds (B7 m) h'
 |.b _ h' []=>pJ T X rs f k ds (B7 m) h'
 |_=>False
def abG{X:fJ}{rs:List CR}{f:Fr}{n:Nat}{b:Bool}{c:CC}{args:List AV}{ds:List Df}{m:Md}(a:T ⟨n⟩=some ⟨n,b,c,[]⟩):pJ T X rs f k (.a ⟨n⟩ args::ds) m h=B6 X c m (nQ args) h (lv T X rs f k ds):=by show(match T ⟨n⟩ with|some c=>_|none=>_)=_;rw[a];simp;rfl
def abH{X:fJ}{l:List CI}{b:CC}{m:Md}{f:Fr}{k:aT->Md->Prop}:B6 X (.f (.g l) b) m f h k=uT (λm f h=>X b f h [] λo=>k o m) l m f h:=rfl
theorem ajX(o:aA T){rs:List CR}{f:Fr}{g i j:Nat}{p e:Int}{r2:List AV}{x y:AV}(l:h.ab g=.a 61 r2)(r:r2.length=6)(m:h.ab i=.a 3 [x])(n:h.ab j=.a 27 [y])(t:g≠i)(u:g≠j)(v:i≠j)
 (q:wz (((((h.am (.a 77 [.i 0,.i 0])).dT h.a (.a 77 [.i p,.i e])).dT g (.a 61 vh)).dT i (.a 3 [.i p])).dT j (.a 27 [.i e])) f rs k):pJ T (W T) rs f k [.a ⟨30⟩ [.a g 0,.a i 0,.a j 0]] (.b (qD p e)) h:=by
 rw[abG o.t30,abH];have w:=Hp.lt l rfl;have z:=Hp.lt m rfl;have A:=Hp.lt n rfl;obtain⟨B,C,z3,z4,z5,D,rfl⟩:∃a b c d e f,r2=[a,b,c,d,e,f]:=by
  match r2,r with
  |[a,b,c,d,e,f],_=>grind
 simp[uT,jO,Md.px];simp(disch:=omega) [qD,cJ,IU,l,m,n,lv,B7,pJ];exact q
def abI(a:aA T){rs:List CR}{f:Fr}{b d e:Nat}(g:wz h f rs k):pJ T (W T) rs f k [.a ⟨30⟩ [.a b 0,.a d 0,.a e 0]] .a h:=by rw[abG a.t30,abH];simp_all[uT,jO,Md.px,cJ,lv,B7,pJ]
theorem ajY(u:aA T)(IC:∀h',ax h h'->Cz T O h') (FC:∀h',ax h h'->CA T O h') (BC:∀h',ax h h'->KG T h') (VC:∀h',ax h h'->Od T O h') (hl:s.length<16777216) (hg:lO (h.ab 1))
 (UK:∀l n,aE0 O s=.b l n->fc (l++[fD s])/\(∀n,n<(l++[fD s]).length->(tk (l++[fD s]) n).b.length<1073741824)/\l.length<1073741824)
 (UL:∀p e,aE0 O s=.d p e->e≠0)
 (A:∀l n t m,aE0 O s=.b l n->sj (l++[fD s]) s.length (aET O)=.b t m->rY t)
 (a:UJ h k (Al O s)):aE T (W T) ⟨16⟩ [S s] h k:=by
 rw[aJ u.t16];have yd:1<h.a:=by obtain⟨t,e,_⟩:=hg;exact Hp.lt e rfl
 generalize qE:Xp=T4;refine ag ?_;refine aiw u (λh' g=>IC h' (ah.ba aZ g)) (λh' g=>FC h' (ah.ba aZ g)) (λh' g=>BC h' (ah.ba aZ g)) zo (au hg) ?_;unfold Al at a;generalize aE0 O s=R at*;cases R with
 |c=>exact a.elim
 |d p e=>
  intro f g1;have x:=g0 g1;have he:=UL p e rfl;have q2:f.ab h.a=.a 61 vh:=au x;have q3:f.ab (h.a+1)=.a 3 [.i 0]:=au x;have q4:f.ab (h.a+1+1)=.a 27 [.i 0]:=au x;refine bK he q2 q3 q4 ?_;have g01:ax h f:=ah.ba aZ g1;refine a _ ?_;grind[ah.dT]
 |b l n=>
  intro f v g1 hv;have x:=g0 g1;have n1:=g1.g;simp only[Hp.ii] at n1;have a:UJ h k ((sj (l++[fD s]) s.length (aET O)).dC λt n=>if yu t 64 (s.length+1)<=s.length then .d (yu t 64 (s.length+1)) 3 else .b t n):=a;obtain⟨Q,CM,Tj⟩:=UK l n rfl;have A:=λt m=>A l n t m rfl;have q2:f.ab h.a=.a 61 vh:=au x;have q3:f.ab (h.a+1)=.a 3 [.i 0]:=au x;have q4:f.ab (h.a+1+1)=.a 27 [.i 0]:=au x;refine bK q2 q3 q4 hv.ip ?_;subst qE;unfold Xp zt;refine ag ?_;obtain⟨o,H⟩:∃o,o=(f.dT (h.a+1) (.a 3 [.i 0])).dT (h.a+1+1) (.a 27 [.i 0]):=⟨_,rfl⟩;have TW:o.a=f.a:=by grind[Hp.ka]
  have r2:o.ab h.a=.a 61 vh:=by rw[H];simp(disch:=omega) [q2]
  have r3:o.ab (h.a+1)=.a 3 [.i 0]:=by simp_all
  have r4:o.ab (h.a+1+1)=.a 27 [.i 0]:=by simp_all
  have gH:ah (λi=>i=h.a+1\/i=h.a+1+1) f o:=by rw[H];exact ah.dT (ah.dT (ah.cg _) _ (.inr (.inl rfl))) _ (.inr (.inr rfl))
  have gg:ax h o:=(ah.ba aZ g1:ax h f).na gH λi hi=>zo;rw[<-H];clear H;obtain⟨w,B,ha,hw,u1,V⟩:=TV (h:=o) (lo:=h.a+1+1+1) (t:=fD s) (fB:=cx (cx fG 0 aE7) 0 [.i 0,S [],.i s.length,.i s.length]) ((hv.lo (at2 (h.a+1+1+1))).vm gH λi hi=>by omega) Tj zo qab;rw[TW] at ha;rw[ha];have u1n:=u1.g;have w2:=V _ _ _ r2;have w3:=V _ _ _ r3;have w4:=V _ _ _ r4;rcases hw with⟨e,_⟩|⟨tb,r,t,K3,rfl,_,ht,hr,kz⟩;grind;have htl:=Hp.lt ht rfl;have N:ax h B:=gg.na u1 λi hi=>zo;have J:bp (B.am (.a 82 [.c tb 0 4 (l.length+1) (l.length+1) false,.i 0,.i 0,.g false])) B.a tb (l++[fD s]) 0 0 false:=by
   have vz:(l++[fD s]).length=l.length+1:=by simp
   refine⟨⟨l.length+1,false,?_⟩,⟨r,t,?_,?_,λq hq=>?_⟩,by omega⟩;simp;simp_all;omega;grind[tk]
  have N6:lY (l++[fD s])<4294967296:=by grind[lY]
  generalize HA:QH=T7;refine ag ?_;have E:=aaG (c:=B.a) (tb:=tb) u Q (F:=lY (l++[fD s])) zo (lY (l++[fD s]));have S1:=aaN u Q E (F:=lY (l++[fD s])) zo (lY (l++[fD s]));have M:ax h (B.am (.a 82 [.c tb 0 4 (l.length+1) (l.length+1) false,.i 0,.i 0,.g false])):=N.am _;refine aiE u Q (λh' g=>VC h' (M.na g λi hi=>by omega)) CM S1 N6 J zm ?_;unfold sj at a A;revert a A;generalize Ad (l++[fD s]) (lY (l++[fD s])) (Hw (l++[fD s]) (lY (l++[fD s])) (zU (l++[fD s]) (lY (l++[fD s])) (lY (l++[fD s]))) (lY (l++[fD s]))) s.length (aET O) 0=R;intro a A;cases R with
  |c=>exact a.elim
  |d p e=>
   intro j z;have y:=gp z;have U:=z.g;simp at U;have I:j.ab h.a=.a 61 vh:=bV y w2;have X:j.ab (h.a+1)=.a 3 [.i 0]:=bV y w3;have Y:j.ab (h.a+1+1)=.a 27 [.i 0]:=bV y w4;have K:=M.na z λi hi=>zo;refine ag ?_;refine ajX u (r2:=vh) I rfl X Y zo zo zo ?_;refine ag ?_;exact a _ ((((((K.am _).dT _ (.inl zo)).dT _ (.inl zo)).dT _ (.inl zo)).dT _ (.inl zo)))
  |b t m=>
   intro j row z nd;have rB:=A t m rfl;have a:UJ h k (if yu t 64 (s.length+1)<=s.length then .d (yu t 64 (s.length+1)) 3 else .b t m):=a;have y:=gp z;have U:=z.g;simp only[Hp.ii] at U;have I:j.ab h.a=.a 61 vh:=bV y w2;have X:j.ab (h.a+1)=.a 3 [.i 0]:=bV y w3;have Y:j.ab (h.a+1+1)=.a 27 [.i 0]:=bV y w4;have K:ax h j:=M.na z λi hi=>zo;obtain⟨kv,rfl,P,nk⟩:=nd.gc;subst HA;have Z:ay (B.a+1) (j.dT h.a (.a 61 [.i t.bi,.i t.ib,.i t.toz,.i t.at,S t.bj,kv])) t _:=ay.nf ((NF.cg j).dT _ I) zl _ _ nd;refine aB I ?_;refine aaW u t _ _ _ _ _ _ Z rB zm zm λG D=>?_;have L:=g0 D;have n4:=D.g;simp only[Hp.ka] at n4;have y2:G.ab h.a=.a 61 [.i t.bi,.i t.ib,.i t.toz,.i t.at,S t.bj,kv]:=au L;have y3:G.ab (h.a+1)=.a 3 [.i 0]:=bV L X;have y4:G.ab (h.a+1+1)=.a 27 [.i 0]:=bV L Y;have uh:ax h G:=(K.dT _ (.inl zl)).ba D;by_cases C:yu t 64 (s.length+1)<=s.length;rw[if_pos C] at a;refine bK C y2 y3 y4 ?_;refine abI u ?_;refine ag ?_;exact a _ (((uh.dT _ (.inl zo)).dT _ (.inl zo)).dT _ (.inl zo));rw[if_neg C] at a;refine cC C y2 y3 y4 P ?_;refine abI u ?_;refine ag ?_;refine a _ _ (((uh.dT _ (.inl zo)).dT _ (.inl zo)).dT _ (.inl zo)) ?_;exact ay.nf (((((NF.cg _).g0 D).dT _ y2).dT _ (el:=3) (l:=[.i 0]) (au y3)).dT _ (el:=27) (l:=[.i 0]) (au y4)) zo _ _ Z
end
def lC(lo:Nat)(h:Hp)(v:AV)(ts:List Tree):Prop:=
 ts=[]/\v=.h\/ts≠[]/\∃b cap ex r f,v=.c b 0 6 ts.length cap ex/\h.ab b=.b 61 6 r 0 f/\ts.length<=r/\∀j,(hj:j<ts.length)->ay lo h ts[j] (f j)
def EU(ms:List KM)(fs:List Tree)(aq:List (List UInt8))(bu:List UInt8->List aC)(j:Nat)(nm:List UInt8):Option aC:=
 match aEC ms nm with
 |some d=>some d
 |none=>
  match((fs.getD j zT).fg.find? λx=>decide (x.bi=2)&&decide (x.bj=nm)) with
  |some x=>some ⟨1,nm,j,x.at,nm⟩
  |none=>uy (bu (aq.getD j [])) nm
section
variable {k:aK->Prop}{nm:List UInt8}{d:aC}{lo:Nat}
theorem dO.kv:∀{ts:List Tree}{v:AV},dO lo h ts v->lC lo h v ts
 |[],v,x=>.inl ⟨rfl,by grind[dO]⟩
 |t::ts,v,x=>by obtain⟨b,cap,ex,r,f,e,a,hr,l,c,g⟩:=x;refine .inr ⟨by simp,b,cap,ex,r,f,e,a,hr,λj hj=>?_⟩;grind[aaB]
def lC.nf{h':Hp}{ts}(x:lC lo h v ts)(g:NF 0 h h'):lC lo h' v ts:=by rcases x with x|⟨x,b,cap,ex,r,f,e,a,hr,c⟩;exact .inl x;exact .inr ⟨x,b,cap,ex,r,f,e,g _ _ _ (auz _) a,hr,λj hj=>(c j hj).nf (g.bc (auz _)) zl⟩
def ay.il{t:Tree}{row:List AV}(x:ay lo h t row):∃kv,row=[.i t.bi,.i t.ib,.i t.toz,.i t.at,S t.bj,kv]/\lC lo h kv t.fg:=by cases t;obtain⟨kv,e,a⟩:=x;exact⟨kv,e,a.kv⟩
def lC.iU{ts}(x:lC lo h v ts):bQ v=some [v]:=by rcases x with⟨_,rfl⟩|⟨_,b,cap,ex,r,f,rfl,_⟩<;>rfl
def lC.pi{ts}(x:lC lo h v ts){H:Hp}:aEW 1 H v=.v (.i ts.length):=by rcases x with⟨rfl,rfl⟩|⟨_,b,cap,ex,r,f,rfl,_⟩<;>rfl
def mY{h':Hp}(g:ax h h'):NF 0 h h':=NF.vm g λ_ _ _ h=>h.elim
theorem abJ(G:aA T){p tb j:Nat}{c0 c1 c2 c6 c8 c9:AV}{f:cN}{fs:List Tree}{aq:List (List UInt8)}{bu:List UInt8->List aC}(E:h.ab p=.a 57 (bS c0 c1 c2 f c6 (.j tb) c8 c9))(ht:Bu h tb bu)(hl:∀s,(bu s).length<1073741824)
 (hf:lC 0 h c1 fs) (hd:cY h c2 aq) (hj:j<fs.length) (N:j<aq.length) (hs:((fs.getD j zT).fg).length<4294967296) (hc:si lo hi h ms v)
 (n:∀h',ax h h'->k (.a (lA (EU ms fs aq bu j nm)) h')):aE T (W T) ⟨71⟩ [.a p 0,.i j,S nm,v] h k:=by
 rw[aJ G.t71];have n1:=Hp.lt E rfl;have dj:=E;simp only[bS] at E;refine ag ?_;refine ajT G (si.bc (h:=h) (λq _ _ A=>?_) hc) λw g1=>?_;rcases A with⟨l,e⟩|⟨es,aD,e⟩<;>exact Hp.jp (Hp.lt e rfl);have n2:=g1.g;simp only[Hp.ii] at n2;have a:ax h w:=ah.ba aZ g1;have u1:w.ab h.a=.a 35 [.i 0,S [],.i 0,.i 0,S []]:=by rw[g1.f _ aa id];simp
 cases e:aEC ms nm with
 |some d=>
  simp[EU,e,lA,Option.getD,Option.isSome,aC.fj] at n;simp[lA,Option.getD,Option.isSome,aC.fj];refine aB u1 ?_;grind[ah.dT,ah.am]
 |none=>
  simp only[EU,e] at n;rcases hf with⟨rfl,rfl⟩|⟨bg,b,cap,ex,r,ff,rfl,J,hr,X⟩;grind;obtain⟨kv,Z,B⟩:=(X j hj).il;have I:fs.getD j zT=fs[j]:=by grind
  rw[I] at n hs;have U:w.ab p=_:=(a.f _ n1 id).trans E;have n3:=Hp.lt J rfl;have qW:w.ab b=_:=(a.f _ n3 id).trans J;have eY:(j:Int)<fs.length:=zo;simp only[lA,Option.getD,Option.isSome,aC.fj,qG];have CY:=B.nf (mY a);generalize hKD:fs[j].fg=kd at*;simp(disch:=omega) [U,qW,Z,B.pi];clear J qW X Z;have key:∀(m i:Nat)(f':Fr)(c:Hp)(K:aT->Prop),m=kd.length- i->i<=kd.length->ax w c->an 29 f'=kv->an 30 f'=.i kd.length->an 31 f'=.i i->an 2 f'=S nm->an 1 f'=.i j->an 0 f'=.a p 0->an 8 f'=.a h.a 0->
   ((kd.drop i).find? (λx=>decide (x.bi=2)&&decide (x.bj=nm))=none->∀f' c,ax w c->an 2 f'=S nm->an 1 f'=.i j->an 0 f'=.a p 0->an 8 f'=.a h.a 0->K (.a 0 f' c []))->
   (∀x,(kd.drop i).find? (λx=>decide (x.bi=2)&&decide (x.bj=nm))=some x->∀f' c,ah (·=h.a) w c->c.ab h.a=.a 35 [.i 1,S nm,.i j,.i x.at,S nm]->an 8 f'=.a h.a 0->an 9 f'=.g true->K (.b f' c []))->W T (.d l71_0) f' c [] K:=by
   intro m;induction m with
   |zero=>
    intro i f' c K hm hi g f29 f30 f31 u t f0 f8 C D;have e:¬i<kd.length:=zo;rw[aP];refine aU f30 f31 e ?_;exact C qaa _ _ g zA zA zA zA
   |succ m Y=>
    intro i f' c K hm hi g f29 f30 f31 u t f0 f8 C D;have z:i<kd.length:=zo;rcases CY with⟨rfl,_⟩|⟨Nt,b2,aaw,Hf,r2,ff2,rfl,R,lU,jB⟩;grind;have n4:=Hp.lt R rfl;have y:c.ab b2=_:=(g.f _ n4 id).trans R;obtain⟨zX,F,P⟩:=(jB i z).il;have O:c.ab h.a=.a 35 [.i 0,S [],.i 0,.i 0,S []]:=by rw[g.f _ zo id];omega
    have gn:=g.g;rw[aut z,awM] at C D;rw[aP];by_cases q1:kd[i].bi=2;by_cases q2:kd[i].bj=nm;refine kC f29 f30 f31 u t f0 f8 z y F P.iU q1 (atQ q2 O) ?_;refine D kd[i] qaa _ _ ?_ ?_ ?_ ?_;refine ah.dT (ah.dT (ah.am (ah.mr g) _) _ (.inl zo)) _ (.inr rfl);simp;exact zA;rfl;refine kC f29 f30 f31 u t f0 f8 z y F P.iU q1 (atQ q2 O) ?_;refine Y (i+1) _ _ K zo zo (ah.dT (ah.am g _) _ (.inl zo)) zA zA aa zA zA zA zA (λq=>C qaa) (λx q=>D x qaa);refine kC f29 f30 f31 u t f0 f8 z y F P.iU q1 O ?_;refine Y (i+1) _ _ K zo zo (ah.dT (ah.am g _) _ (.inl zo)) zA zA aa zA zA zA zA (λq=>C qaa) (λx q=>D x qaa)
  refine key _ 0 _ _ _ rfl zo (ah.dT (ah.am (ah.cg _) _) _ (.inl zo)) aa aa aa aa aa aa aa (λq f' c g2 u t f0 f8=>?_) (λx q f' c g2 u2 f8 f9=>?_);rw[axq] at q;rw[q] at n;have Q:c.ab p=_:=(g2.f _ zo id).trans U;obtain⟨b3,as9,ex3,r3,t3,rfl,y,Tr,KH⟩:=hd;have n5:=Hp.lt y rfl;have Ea:c.ab b3=_:=((a.ba g2).f _ n5 id).trans y;have KI:=KH j N;have L:(j:Int)<aq.length:=zo;have H:aq.getD j []=aq[j]:=by simp[List.getD,N]
  rw[H] at n;refine mz u t f0 f8 Q Ea KI N L ?_;refine UI G (f:=f) (tb:=tb) (by rw[Q];rfl) (ht.bc λq M _=>(a.ba g2).f q M id) (hl _) λh3 V=>?_;have u3:h3.ab h.a=.a 35 [.i 0,S [],.i 0,.i 0,S []]:=by rw[V.f _ (by have:=g2.g;omega) id,g2.f _ zo id];exact u1
  generalize uy (bu aq[j]) nm=o at n|-;simp only[lA,aC.fj] at n|-;refine cC u3 f8 u t f0 ?_;exact n _ (ah.dT ((a.ba g2).ba V) _ (.inl zo));rw[axq] at q;rw[q] at n;simp only[lA,Option.getD,Option.isSome,aC.fj] at n;refine aU f8 f9 u2 ?_;refine n _ ⟨at1 a.g g2.g,λq M _=>?_⟩;rw[g2.f q zo zo,a.f q M id]
end
structure Sc where
 a:cN
 c:List aC
 b:List dx
structure WS where
 m:KM
 b:KM
 a:Sc
structure fM where
 p:Nat
 c:Nat
 d:Nat
 l:Nat
 h:Nat
 g:Nat
 j:Nat
 m:AV
 i:AV
 k:AV
 n:AV
 f:List Tree
 b:List (List UInt8)
 a:List UInt8->List aC
def kj(E:fM)(kind:Int)(nm:List UInt8)(a:Int):aC:=⟨kind,nm,E.j,a,if kind=1 then nm else E.b.getD E.j []⟩
def UM(f:cN)(m:KM)(d:aC):cN:=if(m d.a).isSome=true then Bp f ⟨d.c,d.f,13⟩ else f
def K4(d:aC)(s:Sc):Sc:={s with c:=d::s.c}
def HJ(m:KM)(d:aC)(s:Sc):Sc:={s with a:=UM s.a m d}
def lD(E:fM)(a:Int)(nm:List UInt8)(o:Option aC)(s:Sc):Sc:={s with b:=s.b++[⟨E.j,a,nm,o.isSome,o.getD qG⟩]}
def HK(d:aC)(s:WS):WS:=⟨rA s.m d.a d,s.b,HJ s.m d (K4 d s.a)⟩
def EW(d:aC)(s:WS):WS:=⟨s.m,rA s.b d.a d,HJ s.b d (K4 d s.a)⟩
def K5:List (List UInt8):=[[105,110,116],[98,111,111,108],[115,116,114,105,110,103],[102,108,111,97,116,54,52]]
def qH(E:fM)(ms:List KM)(nm:List UInt8):Option aC:=EU ms E.f E.b E.a E.j nm
def rC(aN:Bool)(ms:List KM)(m:KM):List KM:=if aN=true then m::ms else[]
def tj(E:fM)(t:Tree)(s:WS):WS:=if t.bi=0 then s else HK (kj E 6 t.bj t.at) s
mutual
def fU(E:fM)(ms:List KM)(aN:Bool)(ar:KM):Tree->WS->WS
 |.mk kind _ _ a nm kids,s=>
  if kind=5 then
   match kids with
   |[e,.mk _ _ _ _ _ ps,j,.mk _ _ _ _ _ g]=>
    let b:=oD E ps (tj E e ⟨aX,aX,(fU E [] false aX e ⟨aX,aX,s.a⟩).a⟩)
    let k:WS:=⟨b.m,b.b,(fU E [] false aX j ⟨aX,aX,b.a⟩).a⟩
    ⟨s.m,s.b,(jF E [aX] true aX g k).a⟩
   |_=>s
  else if kind=10\/kind=15 then
   let c:=jF E (s.m::ms) true ar kids ⟨aX,s.b,s.a⟩
   ⟨s.m,c.b,c.a⟩
  else if kind=16 then
   jF E ms aN (rA ar nm (kj E 8 nm a)) kids (EW (kj E 8 nm a) s)
  else
   let c:WS:=if(kind=17\/kind=18)/\nm≠[] then⟨s.m,s.b,lD E a nm (ar nm) s.a⟩
    else if(kind=25\/kind=8)/\nm∉K5 then⟨s.m,s.b,lD E a nm (qH E (rC aN ms s.m) nm) s.a⟩ else s
   let b:=jF E ms aN ar kids c
   if kind=11\/kind=12 then HK (kj E 7 nm a) b
   else if kind=26\/kind=9 then
    match kids with
    |.mk i _ _ _ f _::_=>
     if i=25 then
      match qH E (rC aN ms b.m) f with
      |some d=>if d.b=1 then⟨b.m,b.b,lD E a nm (uy (E.a d.g) nm) b.a⟩ else b
      |none=>b
     else b
    |[]=>b
   else b
def jF(E:fM)(ms:List KM)(aN:Bool)(ar:KM):List Tree->WS->WS
 |[],s=>s
 |t::ts,s=>jF E ms aN ar ts (fU E ms aN ar t s)
def oD(E:fM):List Tree->WS->WS
 |[],s=>s
 |t::ts,s=>oD E ts (tj E t ⟨s.m,s.b,(fU E [] false aX t ⟨aX,aX,s.a⟩).a⟩)
end
mutual
def fh(aN:Bool):Tree->Prop
 |.mk kind _ _ _ _ kids=>
  if kind=5 then
   match kids with
   |[b,.mk _ _ _ _ _ ps,c,.mk _ _ _ _ _ a]=>fh false b/\aEu false ps/\fh false c/\aEu true a
   |_=>False
  else if kind=10\/kind=15 then aN=true/\aEu true kids
  else((kind=16\/kind=11\/kind=12)->aN=true)/\((kind=26\/kind=9)->kids≠[])/\aEu aN kids
def aEu(aN:Bool):List Tree->Prop
 |[]=>True
 |t::ts=>fh aN t/\aEu aN ts
end
structure CZ(E:fM)(h:Hp):Prop where
 u:h.ab E.l=.a 112 [.r ⟨67⟩ [] [.a E.l 0,.a E.h 0,.a E.g 0]]
 c:h.ab E.h=.a 26 [.a E.p 0]
 d:h.ab E.g=.a 3 [.i E.j]
 a:Bu h E.d E.a
 v:∀s,(E.a s).length<1073741824
 w:lC 0 h E.i E.f
 n:cY h E.k E.b
 y:E.j<E.f.length
 k:E.j<E.b.length
 A:(E.f.getD E.j zT).fg.length<4294967296
structure EX(E:fM)(h:Hp)(s:Sc):Prop where
 b:∃v,h.ab E.p=.a 57 (bS E.m E.i E.k s.a (.j E.c) (.j E.d) E.n v)/\NmL E.p h v s.b
 a:lX h E.c s.c
 c:E.c≠E.d
structure BkA(lo:Nat)(h:Hp)(bb z lb:Nat)(ms:List KM)(s:WS):Prop where
 c:∃par,h.ab bb=.a 117 [par,.j z,.j lb]/\si lb z h ms par
 a:MK h z s.m
 b:MK h lb s.b
 d:lo<=lb
 f:lb<z
 g:z<bb
section
variable {E:fM}{s:WS}{lo z:Nat}
theorem CZ.bc{M:Nat->Prop}(x:CZ E h)(g:Wf E.p M h h')(p:∀i,M i->i≠E.d/\(∀el l,h.ab i=.a el l->el=57)
 /\∀el rw r f,h.ab i≠.b el rw r 0 f):CZ E h':=by
 have key:∀i o,h.ab i=o->jN o=false->¬M i->¬uw o->h'.ab i=o:=λi o e I H K=>by rw[g.ab i (Hp.lt e I) H qaa];omega
 have j:∀el l,¬uw (.a el l):=λel l ⟨_,_,e⟩=>by grind
 have nf:NF 0 h h':=λi r f _ e=>key i _ e rfl (λm=>(p i m).2.2 _ _ _ _ e) (λ⟨_,_,e⟩=>by grind);have B:∀i el l,h.ab i=.a el l->el≠57->¬M i:=λi el l e D m=>D ((p i m).2.1 _ _ e);obtain⟨L,J,O⟩:=x.a;refine⟨key _ _ x.u rfl (B _ _ _ x.u zm) (j _ _),key _ _ x.c rfl (B _ _ _ x.c zm) (j _ _),key _ _ x.d rfl (B _ _ _ x.d zm) (j _ _),x.a.bc λq N hh=>?_,x.v,x.w.nf nf,?_,x.y,x.k,x.A⟩;rcases hh with rfl|⟨r,f,e⟩;obtain⟨⟨aD,e⟩,_⟩:=J;exact(key _ _ e rfl (λm=>(p _ m).1 rfl) (λ⟨_,_,e⟩=>by grind)).trans e.symm;exact(key _ _ e rfl (λm=>(p _ m).2.2 _ _ _ _ e) (λ⟨_,_,e⟩=>by grind)).trans e.symm;obtain⟨b,cap,ex,r,t,F,C,G⟩:=x.n;exact⟨b,cap,ex,r,t,F,key _ _ C rfl (λm=>(p _ m).2.2 _ _ _ _ C) (λ⟨_,_,e⟩=>by grind),G⟩
def CZ.g0(x:CZ E h)(g:ax h h'):CZ E h':=x.bc (Wf.of g) λ_ m=>m.elim
end
def WM(E:fM)(aN:Bool)(d lb:Nat)(i:Nat):Prop:=i=E.p\/i=E.c\/aN=true/\(i=d\/i=lb)
def aj0(h:Hp)(lo:Nat)(aN:Bool)(d lb:Nat)(j:AV)(ar:KM):Prop:=(j=.A/\aN=false/\ar=aX)\/∃ai,j=.j ai/\MK h ai ar/\lo<=ai/\(aN=true->ai≠d/\ai≠lb)
def BkO(lo:Nat)(h:Hp)(aN:Bool)(bb d lb:Nat)(ms:List KM)(s:WS)(v:AV):Prop:=(aN=false->v=.u)/\(aN=true->v=.a bb 0/\BkA lo h bb d lb ms s)
structure gG(E:fM)(lo:Nat)(h:Hp)(aN:Bool)(bb d lb:Nat)(ms:List KM)(ar:KM)(s:WS)(v j:AV):Prop where
 a:CZ E h
 b:EX E h s.a
 k:BkO lo h aN bb d lb ms s v
 t:aj0 h lo aN d lb j ar
 o:E.p<lo/\E.c<lo/\E.d<lo
def aEI(E:fM)(h:Hp)(aN:Bool)(d lb:Nat)(s:WS)(h':Hp):Prop:=Wf E.p (WM E aN d lb) h h'/\EX E h' s.a/\(aN=true->MK h' d s.m/\MK h' lb s.b)
def tq(T:aM->Option CF)(E:fM)(t:Tree):Prop:=
 ∀(aN:Bool)(ms:List KM)(ar:KM)(s:WS)(h:Hp)(row:List AV)(v j:AV)(bb d lb lo:Nat)(k:aK->Prop),
  gG E lo h aN bb d lb ms ar s v j->ay 0 h t row->rY t->fh aN t->(fU E ms aN ar t s).a.b.length<1073741824->
  (∀h',aEI E h aN d lb (fU E ms aN ar t s) h'->k (.a (.o []) h'))->aE T (W T) ⟨67⟩ [.p row,v,j,.a E.l 0,.a E.h 0,.a E.g 0] h k
section
variable {E:fM}{s s':WS}{lo d:Nat}{aN:Bool}{j:AV}
theorem MK.abK{i:Nat}{m:KM}(x:MK h i m){el l}:h.ab i≠.a el l:=by obtain⟨L,⟨⟨aD,q⟩,_⟩,_⟩:=x;grind
theorem MK.zn{i:Nat}{m:KM}(x:MK h i m){el rw r z f}:h.ab i≠.b el rw r z f:=by obtain⟨L,⟨⟨aD,q⟩,_⟩,_⟩:=x;grind
theorem gG.LR(x:gG E lo h aN bb d lb ms ar s v j):∀i,WM E aN d lb i->i≠E.d/\(∀el l,h.ab i=.a el l->el=57)/\∀el rw r f,h.ab i≠.b el rw r 0 f:=by
 obtain⟨p,m,_⟩:=x.b.b;obtain⟨L,g,n⟩:=x.a.a;obtain⟨⟨aD,e⟩,_⟩:=g;rintro i (rfl|rfl|⟨c,rfl|rfl⟩);grind;obtain⟨L,aD,q,_⟩:=x.b.a;exact⟨x.b.c,λel l e=>qaa,λ_ _ _ _ e=>qaa⟩;obtain⟨_,y⟩:=x.k.2 c;have:=y.d;have:=y.f;have:=x.o
 exact⟨by omega,λel l e=>(y.a.abK e).elim,λ_ _ _ _ e=>y.a.zn e⟩;obtain⟨_,y⟩:=x.k.2 c;have:=y.d;have:=y.f;have:=x.o
 exact⟨by omega,λel l e=>(y.b.abK e).elim,λ_ _ _ _ e=>y.b.zn e⟩
theorem gG.nf(x:gG E lo h aN bb d lb ms ar s v j)(g:Wf E.p (WM E aN d lb) h h'):NF 0 h h':=λi r f _ e=>by rw[g.ab i (Hp.lt e rfl) (λm=>(x.LR i m).2.2 _ _ _ _ e) qac];omega
theorem gG.kw(x:gG E lo h aN bb d lb ms ar s v j)(g:Wf E.p (WM E aN d lb) h h'){i el l}(e:h.ab i=.a el l)(c:el≠57):h'.ab i=.a el l:=by rw[g.ab i (Hp.lt e rfl) (λm=>c ((x.LR i m).2.1 _ _ e)) qac];omega
theorem gG.km(x:gG E lo h aN bb d lb ms ar s v j)(p:aEI E h aN d lb s' h'):gG E lo h' aN bb d lb ms ar s' v j:=by
 obtain⟨g,sc,w⟩:=p;refine⟨x.a.bc g x.LR,sc,⟨x.k.1,λc=>?_⟩,?_,x.o⟩;obtain⟨e,y⟩:=x.k.2 c;obtain⟨r,u⟩:=w c;obtain⟨par,f,i⟩:=y.c;refine⟨e,⟨par,x.kw g f zm,si.bc (λq A B hh=>?_) i⟩,r,u,y.d,y.f,y.g⟩;have:=y.d;have:=x.o
 rcases hh with⟨l,e⟩|⟨z,aD,e⟩;exact(x.kw g e zm).trans e.symm;refine g.ab q (Hp.lt e rfl) ?_ qac;rintro(rfl|rfl|⟨_,rfl|rfl⟩)<;>omega;rcases x.t with y|⟨ai,e,m,l,n⟩;exact .inl y;refine .inr ⟨ai,e,m.bc (g.ab ai m.lt ?_ ?_),l,n⟩;have:=x.o;rintro(rfl|rfl|⟨c,hh⟩);omega;omega;grind;rintro⟨_,_,q⟩;exact m.zn q
def aEI.ba{c:Hp}{e:WS}(a:aEI E h aN d lb s' h')(b:aEI E h' aN d lb e c):aEI E h aN d lb e c:=⟨a.1.ba b.1,b.2⟩
def gG.rp(x:gG E lo h aN bb d lb ms ar s v j):aEI E h aN d lb s h:=⟨Wf.cg _,x.b,λc=>⟨(x.k.2 c).2.a,(x.k.2 c).2.b⟩⟩
def EX.g0{s:Sc}(x:EX E h s)(g:ax h h'):EX E h' s:=by obtain⟨v,e,f⟩:=x.b;exact⟨⟨v,(g.f _ (Hp.lt e rfl) id).trans e,f.bc λq i _=>g.f q i id⟩,x.a.bc (g.f _ x.a.lt id),x.c⟩
def gG.g0(x:gG E lo h aN bb d lb ms ar s v j)(g:ax h h'):aEI E h aN d lb s h':=
 ⟨Wf.of (ah.mr g),x.b.g0 g,λc=>⟨(x.k.2 c).2.a.bc (g.f _ (x.k.2 c).2.a.lt id),(x.k.2 c).2.b.bc (g.f _ (x.k.2 c).2.b.lt id)⟩⟩
def UN(t:Tree)(s:WS):(tj E t s).a.b=s.a.b:=by unfold tj;split<;>rfl
mutual
theorem HL(E:fM):∀(t:Tree)(ms:List KM)(aN:Bool)(ar:KM)(s:WS),s.a.b.length<=(fU E ms aN ar t s).a.b.length
 |.mk kind _ _ a nm kids,ms,aN,ar,s=>by
  unfold fU;split;split;rename_i b _ _ _ _ _ ps f _ _ _ _ _ g;have k:=HL E b [] false aX ⟨aX,aX,s.a⟩;have e:=UO E ps (tj E b ⟨aX,aX,(fU E [] false aX b ⟨aX,aX,s.a⟩).a⟩);rw[UN] at e;have l:=HL E f [] false aX ⟨aX,aX,(oD E ps (tj E b ⟨aX,aX,(fU E [] false aX b ⟨aX,aX,s.a⟩).a⟩)).a⟩;refine at1 k (at1 e (at1 l ?_));simp only;generalize(fU E [] false aX f _).a=q;exact Ao E g [aX] true aX ⟨_,_,q⟩;omega;split;exact Ao E kids (s.m::ms) true ar ⟨aX,s.b,s.a⟩;split;exact Ao E kids ms aN (rA ar nm (kj E 8 nm a)) (EW (kj E 8 nm a) s);have m:∀c:WS,s.a.b.length<=c.a.b.length->s.a.b.length<=(jF E ms aN ar kids c).a.b.length:=λc h=>at1 h (Ao E kids _ _ _ _);have i:s.a.b.length<=(jF E ms aN ar kids (if(kind=17\/kind=18)/\nm≠[] then⟨s.m,s.b,lD E a nm (ar nm) s.a⟩
   else if(kind=25\/kind=8)/\nm∉K5 then⟨s.m,s.b,lD E a nm (qH E (rC aN ms s.m) nm) s.a⟩ else s)).a.b.length:=by
   grind[lD]
  simp only;split;exact i;grind[lD]
theorem Ao(E:fM):∀(t:List Tree)(ms:List KM)(aN:Bool)(ar:KM)(s:WS),s.a.b.length<=(jF E ms aN ar t s).a.b.length
 |[],_,_,_,_=>at2 _
 |t::ts,ms,aN,ar,s=>by unfold jF;exact at1 (HL E t _ _ _ _) (Ao E ts _ _ _ _)
theorem UO(E:fM):∀(t:List Tree)(s:WS),s.a.b.length<=(oD E t s).a.b.length
 |[],_=>at2 _
 |t::ts,s=>by unfold oD;refine at1 ?_ (UO E ts _);rw[UN];exact HL E t _ _ _ ⟨aX,aX,s.a⟩
end
end
section
variable {E:fM}{lo a:Nat}{aN:Bool}{c:AV}
theorem abL(L:aA T){n:Nat}{kv:AV}:∀(ts:List Tree)(i:Nat)(s:WS)(h:Hp)(f:Fr)(K:aT->Prop),(∀t∈ts,tq T E t)->i+ts.length=n->n<4294967296->gG E lo h aN bb a lb ms ar s v c->
 (ts≠[]->∃b cap ex r ff,kv=.c b 0 6 n cap ex/\h.ab b=.b 61 6 r 0 ff/\n<=r/\∀j,(hj:j<ts.length)->ay 0 h ts[j] (ff (i+j)))->aEU ts->aEu aN ts->(jF E ms aN ar ts s).a.b.length<1073741824->
 an 171 f=kv->an 172 f=.i n->an 173 f=.i i->an 1 f=v->an 2 f=c->an 3 f=.a E.l 0->
 (∀f' h',(∀q,q<=6->an q f'=an q f)->aEI E h aN a lb (jF E ms aN ar ts s) h'->K (.a 7 f' h' []))->W T (.d l67_0) f h [] K
 |[],i,s,h,f,K,w,hi,F,x,d,z,ok,A,k,l,f3,g1,g2,o,p=>by subst hi;rw[aP];refine aU k l f3 ?_;exact p _ _ (λq G=>by repeat rw[aFg (m:=7) zo zm]) x.rp
 |t::ts,i,s,h,f,K,w,hi,F,x,d,z,ok,A,k,l,f3,g1,g2,o,p=>by
  obtain⟨b,cap,ex,r,ff,rfl,d,hr,I⟩:=d zm;simp at hi;have D:i<n:=zo;have M:(i:Int)<n:=zo;have g:=I 0 zm;simp at g;obtain⟨kv,J,u⟩:=g.il;have lt:=Hp.lt d rfl;have C:=x.a.u;have V:=Hp.lt C rfl;rw[aP];refine pU k l f3 g1 g2 o D M d J u.iU C ?_;rw[<-J];generalize P:((h.am _).dT _ _:Hp)=H;have e:ax h H:=by rw[<-P];exact fZ
  have B:=x.km (x.g0 e);refine w t zm aN ms ar s H _ v c bb a lb lo _ B (g.nf (mY e) zl) z.1 ok.1 (auD (Ao E ts _ _ _ _) A) λN y=>?_;have S:=B.km y;have nf:=B.nf y.1;refine aS f3 D ?_;refine abL L ts (i+1) _ N _ K (λt U=>w t qaa) zo F S (λ_=>⟨b,cap,ex,r,ff,rfl,nf _ _ _ (auz _) ((e.f _ lt id).trans d),hr,λj hj=>?_⟩) z.2 ok.2 A zA zA aa (au g1) (au g2) (au o) λf' O Q R=>p f' O (λq G=>?_) (((x.g0 e).ba y).ba R);have:=I (j+1) qaa;simp[auu,show i+(j+1)=i+1+j by omega] at this;exact(this.nf (mY e) zl).nf nf zl
  ·rw[Q q G]
   repeat rw[aFg (m:=7) zo zm]
theorem abM(L:aA T){n:Nat}{kv:AV}:∀(ts:List Tree)(i:Nat)(s:WS)(h:Hp)(f:Fr)(K:aT->Prop),(∀t∈ts,tq T E t)->i+ts.length=n->n<4294967296->gG E lo h aN bb a lb ms ar s v c->
 (ts≠[]->∃b cap ex r ff,kv=.c b 0 6 n cap ex/\h.ab b=.b 61 6 r 0 ff/\n<=r/\∀j,(hj:j<ts.length)->ay 0 h ts[j] (ff (i+j)))->aEU ts->aEu aN ts->(jF E ms aN ar ts s).a.b.length<1073741824->
 an 82 f=kv->an 83 f=.i n->an 84 f=.i i->an 1 f=v->an 2 f=c->an 3 f=.a E.l 0->
 (∀f' h',(∀q,q<=6->an q f'=an q f)->aEI E h aN a lb (jF E ms aN ar ts s) h'->K (.a 3 f' h' []))->W T (.d l67_2) f h [] K
 |[],i,s,h,f,K,y,hi,F,x,d,g,ok,A,l,o,f3,g1,g2,p,u=>by subst hi;rw[aP];refine aU l o f3 ?_;exact u _ _ (λq G=>by repeat rw[aFg (m:=7) zo zm]) x.rp
 |t::ts,i,s,h,f,K,y,hi,F,x,d,g,ok,A,l,o,f3,g1,g2,p,u=>by
  obtain⟨b,cap,ex,r,ff,rfl,d,hr,I⟩:=d zm;simp only[atX] at hi;have D:i<n:=zo;have M:(i:Int)<n:=zo;have k:=I 0 zm;simp only[aus,aud] at k;obtain⟨kv,J,w⟩:=k.il;unfold aEU at g;have lt:=Hp.lt d rfl;have C:=x.a.u;have V:=Hp.lt C rfl;rw[aP];refine pU l o f3 g1 g2 p D M d J w.iU C ?_;rw[<-J];generalize P:((h.am _).dT _ _:Hp)=H;have e:ax h H:=by rw[<-P];exact fZ
  have B:=x.km (x.g0 e);refine y t zm aN ms ar s H _ v c bb a lb lo _ B (k.nf (mY e) zl) g.1 ok.1 (auD (Ao E ts _ _ _ _) A) λN z=>?_;have S:=B.km z;have nf:=B.nf z.1;refine aS f3 D ?_;refine abM L ts (i+1) _ N _ K (λt U=>y t qaa) zo F S (λ_=>⟨b,cap,ex,r,ff,rfl,nf _ _ _ (auz _) ((e.f _ lt id).trans d),hr,λj hj=>?_⟩) g.2 ok.2 A zA zA aa (au g1) (au g2) (au p) λf' O Q R=>u f' O (λq G=>?_) (((x.g0 e).ba z).ba R);have:=I (j+1) qaa;simp[auu,show i+(j+1)=i+1+j by omega] at this;exact(this.nf (mY e) zl).nf nf zl
  ·rw[Q q G]
   repeat rw[aFg (m:=7) zo zm]
end
section
variable {E:fM}{s s':WS}{lo:Nat}{aN:Bool}
theorem gG.fls(x:gG E lo h aN bb c lb ms ar s v f):gG E lo h false 0 0 0 [] ar ⟨aX,aX,s.a⟩ .u f:=by refine⟨x.a,x.b,⟨λ_=>rfl,λe=>by grind⟩,?_,x.o⟩;rcases x.t with⟨d,i,g⟩|⟨ai,d,i,g,j⟩;exact .inl ⟨d,rfl,g⟩;exact .inr ⟨ai,d,i,g,λe=>by grind⟩
theorem gG.QP(x:gG E lo h aN bb c lb ms ar s v f){i:Nat}(hi:lo<=i){m:KM}(d:MK h i m){M:Nat->Prop}(e:∀j,M j->j=E.p\/j=E.c) (g:Wf E.p M h h'):MK h' i m:=
 d.bc (g.ab i d.lt (λq=>by have:=x.o;grind) (by rintro⟨_,_,q⟩;exact d.zn q))
theorem gG.abN(x:gG E lo h aN bb c lb ms ar s v f)(p:aEI E h false 0 0 s' h'):aEI E h aN c lb ⟨s.m,s.b,s'.a⟩ h':=by
 obtain⟨g,sc,_⟩:=p;have d:∀j,WM E false 0 0 j->j=E.p\/j=E.c:=by rintro j (q|q|⟨q,_⟩);omega;omega;grind
 refine⟨g.bc λj _ q=>?_,sc,λi=>?_⟩;rcases d j q with q|q;exact .inl q;exact .inr (.inl q);obtain⟨e,y⟩:=x.k.2 i;have:=y.d;have:=y.f
 exact⟨x.QP zo y.a d g,x.QP zo y.b d g⟩
theorem gG.Pi(x:gG E lo h aN bb c lb ms ar s v f){d:aC}(g:ah (·=E.c) h h')(n:lX h' E.c (d::s.a.c)):aEI E h aN c lb ⟨s.m,s.b,K4 d s.a⟩ h':=by
 obtain⟨p,j,i⟩:=x.b.b;have l:E.p≠E.c:=by obtain⟨L,aD,q,_⟩:=x.b.a;grind
 refine⟨Wf.of (g.bc λ_ _ q=>.inr (.inl q)),⟨⟨p,(g.f _ (Hp.lt j rfl) l).trans j,i.vm g ?_⟩,n,x.b.c⟩,λm=>?_⟩;rintro q rfl ⟨_,_,e⟩;obtain⟨L,aD,q,_⟩:=x.b.a;grind;obtain⟨e,y⟩:=x.k.2 m;have:=y.d;have:=y.f
 exact⟨x.QP zo y.a (λ_ q=>.inr q) (Wf.of g),x.QP zo y.b (λ_ q=>.inr q) (Wf.of g)⟩
theorem gG.abO(x:gG E lo h aN bb c lb ms ar s v f)(m:aN=true){d:aC}{i:AV}(r:h.ab E.p=.a 57 (bS E.m E.i E.k s.a.a (.j E.c) (.j E.d) E.n i))(l:NmL E.p h i s.a.b)(g:ah (λj=>j=E.p\/j=c) h h')
 (p:h'.ab E.p=.a 57 (bS E.m E.i E.k (UM s.a.a s.m d) (.j E.c) (.j E.d) E.n i)) (n:MK h' c (rA s.m d.a d)):aEI E h aN c lb ⟨rA s.m d.a d,s.b,HJ s.m d s.a⟩ h':=by
 obtain⟨e,y⟩:=x.k.2 m;have:=y.d;have:=y.f;have u:=x.o
 refine⟨Wf.of (g.bc λ_ _ q=>?_),⟨⟨i,p,l.vm g ?_⟩,x.b.a.bc (g.f _ x.b.a.lt ?_),x.b.c⟩,λ_=>⟨n,y.b.bc (g.f _ y.b.lt ?_)⟩⟩;rcases q with q|q;exact .inl q;exact .inr (.inr ⟨m,.inl q⟩);rintro q (rfl|rfl) ⟨_,_,e⟩;grind;exact y.a.zn e;rintro(q|q);obtain⟨L,aD,w,_⟩:=x.b.a;grind;omega;omega
theorem gG.aj1(x:gG E lo h aN bb c lb ms ar s v f)(m:aN=true){d:aC}{i:AV}(r:h.ab E.p=.a 57 (bS E.m E.i E.k s.a.a (.j E.c) (.j E.d) E.n i))(l:NmL E.p h i s.a.b)(g:ah (λj=>j=E.p\/j=lb) h h')
 (p:h'.ab E.p=.a 57 (bS E.m E.i E.k (UM s.a.a s.b d) (.j E.c) (.j E.d) E.n i)) (n:MK h' lb (rA s.b d.a d)):aEI E h aN c lb ⟨s.m,rA s.b d.a d,HJ s.b d s.a⟩ h':=by
 obtain⟨e,y⟩:=x.k.2 m;have:=y.d;have:=y.f;have u:=x.o
 refine⟨Wf.of (g.bc λ_ _ q=>?_),⟨⟨i,p,l.vm g ?_⟩,x.b.a.bc (g.f _ x.b.a.lt ?_),x.b.c⟩,λ_=>⟨y.a.bc (g.f _ y.a.lt ?_),n⟩⟩;rcases q with q|q;exact .inl q;exact .inr (.inr ⟨m,.inr q⟩);rintro q (rfl|rfl) ⟨_,_,e⟩;grind;exact y.b.zn e;rintro(q|q);obtain⟨L,aD,w,_⟩:=x.b.a;grind;omega;omega
theorem gG.UQ(x:gG E lo h aN bb c lb ms ar s v f){sc:Sc}{v':AV}(g:Wf E.p (·=E.p) h h')(m:NmL E.p h' v' sc.b)(r:sc.a=s.a.a)(j:sc.c=s.a.c)
 (p:h'.ab E.p=.a 57 (bS E.m E.i E.k s.a.a (.j E.c) (.j E.d) E.n v')):aEI E h aN c lb ⟨s.m,s.b,sc⟩ h':=by
 have i:E.c≠E.p:=by obtain⟨L,aD,q,_⟩:=x.b.a;obtain⟨u,p,n⟩:=x.b.b;grind
 have d:¬uw (h.ab E.c):=by rintro⟨_,_,e⟩;obtain⟨L,aD,q,_⟩:=x.b.a;grind
 refine⟨g.bc λ_ _ q=>.inl q,⟨⟨v',by grind,m⟩,by rw[j];exact x.b.a.bc (g.ab _ x.b.a.lt i d),x.b.c⟩,λl=>?_⟩;obtain⟨e,y⟩:=x.k.2 l;have:=y.d;have:=y.f
 exact⟨x.QP zo y.a (λ_ q=>.inl q) g,x.QP zo y.b (λ_ q=>.inl q) g⟩
end
section
variable {E:fM}{lo a:Nat}{aN:Bool}{c:AV}
theorem abP(M:aA T){n:Nat}{kv:AV}:∀(ts:List Tree)(i:Nat)(s:WS)(h:Hp)(f:Fr)(K:aT->Prop),(∀t∈ts,tq T E t)->i+ts.length=n->n<8589934592->gG E lo h true bb a lb ms aX s v c->
 (ts≠[]->∃b cap ex r ff,kv=.c b 0 6 n cap ex/\h.ab b=.b 61 6 r 0 ff/\n<=r/\∀j,(hj:j<ts.length)->ay 0 h ts[j] (ff (i+j)))->aEU ts->aEu false ts->(oD E ts s).a.b.length<1073741824->
 an 47 f=kv->an 48 f=.i n->an 49 f=.i i->an 1 f=v->an 2 f=c->an 3 f=.a E.l 0->an 4 f=.a E.h 0->an 5 f=.a E.g 0->
 (∀f' h',(∀q,q<=6->an q f'=an q f)->aEI E h true a lb (oD E ts s) h'->K (.a 1 f' h' []))->W T (.d l67_3) f h [] K
 |[],i,s,h,f,K,ih,hi,hn,x,u,I,ok,J,R,U,f3,g1,g2,z,V,X,F=>by subst hi;rw[aP];refine aU R U f3 ?_;exact F _ _ (λq l=>by repeat rw[aFg (m:=7) zo zm]) x.rp
 |t::ts,i,s,h,f,K,ih,hi,hn,x,u,I,ok,J,R,U,f3,g1,g2,z,V,X,F=>by
  obtain⟨b,cap,ex,r,ff,rfl,u,hr,iW⟩:=u zm;simp only[atX] at hi;have D:i<n:=zo;have aY:(i:Int)<n:=zo;have P:=iW 0 zm;simp only[aus,aud] at P;obtain⟨kv,G,Z⟩:=P.il;unfold aEU at I;unfold aEu at ok;unfold oD at J F;have lt:=Hp.lt u rfl;have C0:=x.a.u;have lw:=Hp.lt C0 rfl;rw[aP];refine pU R U f3 g1 g2 z D aY u G Z.iU C0 ?_;rw[<-G];generalize hH:((h.am _).dT _ _:Hp)=H;have A:ax h H:=by rw[<-hH];exact fZ
  have eN:H.ab h.a=.a 61 (ff i):=by rw[<-hH,Hp.fp rfl]
  have C:=x.km (x.g0 A);have UR:(fU E [] false aX t ⟨aX,aX,s.a⟩).a.b.length<1073741824:=by refine auD ?_ J;refine at1 ?_ (UO E ts _);simp_all[UN]
  refine ih t zm false [] aX ⟨aX,aX,s.a⟩ H _ .u c 0 0 0 lo _ C.fls (P.nf (mY A) zl) I.1 ok.1 UR λh1 p1=>?_;have k:=C.abN p1;have e:=C.km k;have nf:=C.nf k.1;have w:=C.kw k.1 eN zm;have qW:=nf _ _ _ (auz _) ((A.f _ lt id).trans u);have CG:∀(g:Fr)(B:Hp)(s2:WS),(∀q,q<=6->an q g=an q f)->aEI E h1 true a lb s2 B->s2=tj E t ⟨s.m,s.b,(fU E [] false aX t ⟨aX,aX,s.a⟩).a⟩->an 47 g=.c b 0 6 n cap ex->an 48 g=.i n->an 49 g=.i (i+1)->W T (.d l67_3) g B [] K:=by rintro g B s2 l o rfl S O f3';have Ex:=e.nf o.1;refine abP M ts (i+1) _ B _ K (λt ht=>ih t qaa) zo hn (e.km o) (λ_=>⟨b,cap,ex,r,ff,rfl,Ex _ _ _ (auz _) qW,hr,λj hj=>?_⟩) I.2 ok.2 J S O qaa ((l 1 zm).trans g1) ((l 2 zm).trans g2) ((l 3 zm).trans z) ((l 4 zm).trans V) ((l 5 zm).trans X) λf' Y hf p3=>F f' Y (λq Ci=>?_) ((((x.g0 A).ba k).ba o).ba p3);have:=iW (j+1) qaa;simp[auu,show i+(j+1)=i+1+j by omega] at this;exact((this.nf (mY A) zl).nf nf zl).nf Ex zl;grind
  by_cases ek:t.bi=0
  ·refine cC f3 D w G ek ?_;refine CG _ h1 _ (λq l=>?_) e.rp (by simp_all[tj]) zA zA aa
   repeat rw[aFg (m:=7) zo zm]
  ·obtain⟨ev,y⟩:=e.k.2 rfl;obtain⟨par,eb,ch⟩:=y.c;obtain⟨vv,hp,hnm⟩:=e.b.b;have dj:=hp;simp only[bS] at dj;have sn:=e.a.c;have fR:=e.a.d;subst ev;refine pU f3 D w G ek g1 g2 V X eb sn fR ?_;refine CV M (p:=E.p) (aG:=E.c) (j:=E.j) (c0:=E.m) (c1:=E.i) (c2:=E.k) (c7:=.j E.d) (c8:=E.n) (c9:=vv) (N:=(fU E [] false aX t ⟨aX,aX,s.a⟩).a.c) hp e.b.a e.a.n e.a.k λB gn cZ=>?_;have en:kj E 6 t.bj t.at=⟨6,t.bj,E.j,t.at,if(6:Int)=1 then t.bj else E.b[E.j]'e.a.k⟩:=by grind[kj]
   rw[<-en] at cZ|-;have o:=e.Pi gn cZ;have L:=e.km o;obtain⟨US,eK,UT⟩:=L.b.b;have HM:=e.kw o.1 eb zm;have uz:=L.a.c;have y3:=(L.k.2 rfl).2;have Q:tj E t ⟨s.m,s.b,(fU E [] false aX t ⟨aX,aX,s.a⟩).a⟩=HK (kj E 6 t.bj t.at) ⟨s.m,s.b,(fU E [] false aX t ⟨aX,aX,s.a⟩).a⟩:=by simp_all[tj]
   generalize kj E 6 t.bj t.at=d at*;simp only[aC.fj];refine aS HM uz ?_;refine UF (d:=d) M (p:=E.p) (i:=a) (m:=s.m) (c0:=E.m) (c1:=E.i) (c2:=E.k) (c6:=.j E.c) (c7:=.j E.d) (c8:=E.n) (c9:=US) (f:=(fU E [] false aX t ⟨aX,aX,s.a⟩).a.a) eK y3.a λY z kF yl=>?_;have p3:=L.abO rfl (d:=d) eK UT z kF yl;refine aS f3 D ?_;refine CG _ Y _ (λq l=>?_) (o.ba p3) (by rw[Q];rfl) zA zA zA
   repeat rw[aFg (m:=7) zo zm]
end
theorem abQ{c:Type}{S:c->AV}:∀(n:Nat)(l:List c){x:AV}{b:List AV},BU n (l.map S)=some (x,b)->∃e r,x=S e/\b=r.map S/\(e::r).Perm l
 |_,[],_,_,h=>by simp[BU] at h
 |0,a::l,x,b,h=>by grind[BU,List.Perm.refl]
 |n+1,a::l,x,b,h=>by simp[aul,BU] at h;split at h;rename_i y q i;obtain⟨e,r,rfl,rfl,d⟩:=abQ n l i;simp at h;exact⟨e,a::r,h.1.symm,h.2.symm.trans zm,((List.Perm.swap a e r).trans (d.cons a))⟩;grind
def UU{d:Type}{S:d->AV}{b:EK}{h:Hp}{i m aD:Nat}{l:List d}:∀(n c:Nat){h':Hp},h'∈AK b h i m aD (l.map S) n c->∃e r,(e::r).Perm l/\h'=h.dT i (.d b m aD (r.map S) (some (S e)))
 |0,_,_,a=>by simp[AK] at a
 |n+1,c,h',a=>by simp[AK] at a;split at a;rename_i e r o;rcases atZ.1 a with rfl|a;obtain⟨e,r,rfl,rfl,j⟩:=abQ c l o;exact⟨e,r,j,rfl⟩;exact UU n _ a;exact UU n _ a
section
variable {g:mj}{kp:aT->Prop}{ds:List Df}{dst:Option Nat}{f:Fr}{k:AR}
theorem C1{j:Type}{S:j->AV}{d:EK}{it m aD:Nat}{todo:List j}{n:Option AV}{o:List (AV×AV)}(p:h.ab it=.d d m aD (todo.map S) n)(q:h.ab m=.f o aD)
 (i:todo=[]->k ds (put dst (.o [.g false]) f) h)
 (c:∀e r,(e::r).Perm todo->k ds (put dst wm f) (h.dT it (.d d m aD (r.map S) (some (S e))))):sG g kp ds dst f h (BV h (.a it 0) false) k:=by
 unfold BV;simp[p,q,tZ,auS,cond]
 match todo,i,c with
 |[],i,_=>simp_all
 |[a],_,c=>exact c a [] (awU _)
 |a::b::l,_,c=>
  intro h' s;obtain⟨e,r,t,rfl⟩:=UU _ _ s;grind
def OC{it m aD:Nat}{todo:List AV}{e:List UInt8}{v:AV}{L:SL}(a:h.ab it=.d (.a .a) m aD todo (some (S e)))(b:h.ab m=.f (di L) aD)(c:(cD L).Nodup)(d:eV L e=some v):FU h (.a it 0)=.v (.o [S e,v]):=by simp_all[FU,Qa,UB]
theorem abR:∀L:SL,aGh (di L)=(cD L).map S
 |[]=>rfl
 |(a,v)::L=>by have:=abR L;grind[di,cD,aGh]
def OD{m aD:Nat}{L:SL}(a:h.ab m=.f (di L) aD):FT (.a .a) h (.j m)=.b (.a h.a 0) (h.am (.d (.a .a) m aD ((cD L).map S) none)):=by simp_all[FT,Qb,abR]
end
section
variable {ai:Nat}
theorem aj3(HT:aA T){L:SL}{it aD wi:Nat}(hL:∀s,eV L s=(ar s).map λd=>.p d.fj) (R:(cD L).Nodup) (Tu:ai≠wi):∀(n:Nat)(todo:List (List UInt8))(Q:SL)(h:Hp)(p:Option AV)(f:Fr)(K:aT->Prop),todo.length=n->
 h.ab ai=.f (di L) aD->h.ab it=.d (.a .a) ai aD (todo.map S) p->iV h wi Q->todo.Nodup->(∀s∈todo,(eV L s).isSome=true)->(∀s,eV Q s=if s∈todo then none else eV L s)->
 an 114 f=.a it 0->an 14 f=.j wi->
 (∀f' h' i,(∀q,q<=14->an q f'=an q f)->ah (λj=>j=it\/j=wi) h h'->iV h' wi i->(∀s,eV i s=eV L s)->K (.a 5 f' h' []))->W T (.d l67_1) f h [] K:=by
 intro n;induction n with
 |zero=>
  intro todo Q h p f K z b hi c A D N l C x;obtain rfl:=avW.1 z;rw[aP];refine aB l ?_;refine C1 hi b (λ_=>?_) (λe r a=>absurd a.length_eq zm);refine ag ?_;refine x _ h Q (λq E=>by repeat rw[aFg (m:=15) zo zm]) (ah.cg _) c λs=>by grind
 |succ n V=>
  intro todo Q h p f K z b hi c A D N l C x;rw[aP];refine aB l ?_;refine C1 hi b (λe=>by grind) (λe r a=>?_);have he:e∈todo:=a.mem_iff.1 zm;have F:(e::r).Nodup:=a.nodup_iff.2 A;obtain⟨d,hd⟩:∃d,ar e=some d:=by
   cases q:ar e with
   |none=>grind
   |some d=>grind
  have U:eV L e=some (.p d.fj):=by grind
  have X:=Hp.lt b rfl;have l2:=Hp.lt hi rfl;have Y:=c.lt;have zV:ai≠it:=by grind
  have G:it≠wi:=by rintro rfl;obtain⟨⟨_,q⟩,_⟩:=c;grind
  have I:=OC (h:=h.dT it (.d (.a .a) ai aD (r.map S) (some (S e)))) (it:=it) (e:=e) (v:=.p d.fj) (Hp.fp rfl) qae R U;have ed:e.length=e.length:=rfl;simp only[wm];refine bK l C I aC.fj.eq_1 ?_;generalize u:(((h.dT _ _).am _).dT _ _:Hp)=H;have t:ah (·=it) h H:=by rw[<-u];exact aZ
  have u1:H.ab it=.d (.a .a) ai aD (r.map S) (some (S e)):=by rw[<-u];simp(disch:=first|exact bh|fail)
  have u2:H.ab h.a=.a 35 [.i d.b,S d.a,.i d.c,.i d.f,S d.g]:=by rw[<-u];simp
  have y:iV H wi Q:=c.bc (t.f _ Y (Ne.symm G));have O:H.ab ai=.f (di L) aD:=(t.f _ X zV).trans b;obtain⟨o,B,J⟩:=y.ti (s:=e) (v:=.p d.fj);simp only[aC.fj] at B;refine aS u2 B ?_;refine V r (mA Q e (.p d.fj)) _ (some (S e)) _ K ?_ qae qae (J _ (Hp.fp rfl)) (au6.1 F).2 (λs hs=>D s (a.mem_iff.1 qaa)) (λs=>?_) zA zA λf' h' i P M Z w=>x f' h' i (λq E=>?_) ?_ Z w;have:=a.length_eq;grind;grind[Bq]
  ·rw[P q E]
   repeat rw[aFg (m:=15) zo zm]
  exact((t.bc λ_ _ q=>.inl q).dT _ (.inr (.inr rfl))).ba M
end
def qI(E:fM)(ms:List KM)(aN:Bool)(kind a:Int)(nm:List UInt8)(kids:List Tree)(b:WS):WS:=
 if kind=11\/kind=12 then HK (kj E 7 nm a) b
 else if kind=26\/kind=9 then
  match kids with
  |.mk e _ _ _ c _::_=>
   if e=25 then
    match qH E (rC aN ms b.m) c with
    |some d=>if d.b=1 then⟨b.m,b.b,lD E a nm (uy (E.a d.g) nm) b.a⟩ else b
    |none=>b
   else b
  |[]=>b
 else b
section
variable {E:fM}{lo g:Nat}{aN:Bool}{l:AV}
theorem gG.chn{s:WS}{h:Hp}(x:gG E lo h aN bb g lb ms ar s v l):∃hi,si (if aN=true then lb else 0) hi h (rC aN ms s.m) v:=by
 cases aN with
 |false=>
  obtain rfl:=x.k.1 rfl;exact⟨0,rfl⟩
 |true=>
  obtain⟨rfl,y⟩:=x.k.2 rfl;obtain⟨par,e,c⟩:=y.c;have:=y.f;have:=y.g
  refine⟨bb+1,bb,par,.j g,.j lb,rfl,e,by grind,by omega,.inr ⟨g,rfl,by grind,by omega,y.a⟩,by simpa using c.up zo⟩
theorem aj4(G:aA T){k:aK->Prop}{t:Tree}{Q:Nat}{s:WS}{h:Hp}{f:Fr}{row:List AV}(x:gG E lo h aN bb g lb ms ar s v l)(hr:h.ab Q=.a 61 row)(hn:ay 0 h t row)(rB:rY t)
 (hB:(t.bi=11\/t.bi=12)->aN=true) (Y:(t.bi=26\/t.bi=9)->t.fg≠[]) (A:(qI E ms aN t.bi t.at t.bj t.fg s).a.b.length<1073741824)
 (C:an 1 f=v) (f4:an 4 f=.a E.h 0) (f5:an 5 f=.a E.g 0) (f6:an 6 f=.a Q 0)
 (e:∀h',aEI E h aN g lb (qI E ms aN t.bi t.at t.bj t.fg s) h'->k (.a (.o []) h')):W T (CC.f (.g (z q67 46)) (.m 9 (.f (.f (.g (z q67 47)) (.i (.t 185) .j (.g (z q67 48)))) (.i (.t 185) (.h r67_49) (.f (.f (.g (z q67 50)) (.i (.t 198) .j (.g (z q67 51)))) (.i (.t 198) aIc .j)))))) f h [] (finish T (W T) [] k):=by
 obtain⟨kv,rfl,hkv⟩:=hn.il;have R:=x.a.c;have P:=x.a.d;by_cases c1:t.bi=11\/t.bi=12;have hB:=hB c1;subst hB;unfold qI at e;rw[if_pos c1] at e;obtain⟨rfl,y⟩:=x.k.2 rfl;obtain⟨par,eb,ch⟩:=y.c;obtain⟨vv,hp,hnm⟩:=x.b.b;have hd:t.bi=11\/¬t.bi=11/\t.bi=12:=zo;have go:∀f',an 1 f'=.a bb 0->an 4 f'=.a E.h 0->an 5 f'=.a E.g 0->an 6 f'=.a Q 0->W T (.h r67_49) f' h [] (bY 9 (finish T (W T) [] k)):=λf' C f4 f5 f6=>by
  refine fY C f4 f5 f6 hr eb R P ?_;refine CV G (p:=E.p) (aG:=E.c) (j:=E.j) (c0:=E.m) (c1:=E.i) (c2:=E.k) (c7:=.j E.d) (c8:=E.n) (c9:=vv) (N:=s.a.c) hp x.b.a x.a.n x.a.k λh2 gn cZ=>?_;have en:kj E 7 t.bj t.at=⟨7,t.bj,E.j,t.at,if(7:Int)=1 then t.bj else E.b[E.j]'x.a.k⟩:=by grind[kj]
  rw[<-en] at cZ|-;have B:=x.Pi gn cZ;have w:=x.km B;obtain⟨US,eK,UT⟩:=w.b.b;have HM:=x.kw B.1 eb zm;have U:=w.a.c;have y3:=(w.k.2 rfl).2;generalize kj E 7 t.bj t.at=d at*;refine aS HM U ?_;refine UF (d:=d) G (p:=E.p) (i:=g) (m:=s.m) (c0:=E.m) (c1:=E.i) (c2:=E.k) (c6:=.j E.c) (c7:=.j E.d) (c8:=E.n) (c9:=US) (f:=s.a.a) eK y3.a λh3 g3 kF yl=>?_;have M:=w.abO rfl (d:=d) eK UT g3 kF yl;exact ag (e _ (B.ba M))
 generalize hD:CC.h r67_49=D at go|-;rcases hd with c|⟨c,c'⟩;simp_all;simp_all;by_cases c2:t.bi=26\/t.bi=9;have Y:=Y c2;unfold qI at e A;rw[if_neg c1,if_pos c2] at e A;have hd:t.bi=26\/¬t.bi=26/\t.bi=9:=zo;have n1:¬t.bi=11:=zo;have n2:¬t.bi=12:=zo;generalize hD:aIc=D;have go:∀f',an 1 f'=v->an 4 f'=.a E.h 0->an 5 f'=.a E.g 0->an 6 f'=.a Q 0->W T D f' h [] (bY 9 (finish T (W T) [] k)):=λf' C f4 f5 f6=>by
  subst hD;obtain⟨n,ks,ek⟩:∃n ks,t.fg=n::ks:=by cases q:t.fg with|nil=>grind|cons a b=>exact⟨a,b,rfl⟩
  rcases hkv with⟨q,_⟩|⟨_,b,cap,ex,r,ff,rfl,hb,Bg,iW⟩;exact absurd q Y;rw[ek] at e A Bg iW;have eJ:=iW 0 zm;simp only[aus] at eJ;obtain⟨OE,e0,C2⟩:=eJ.il;have lb0:=Hp.lt hb rfl;have lr:=Hp.lt hr rfl;have OF:=Hp.lt R rfl;have lic:=Hp.lt P rfl;have K:ff 0=[.i n.bi,.i n.ib,.i n.toz,.i n.at,S n.bj,OE]:=e0;have bz:t.fg.length=ks.length+1:=by rw[ek];simp
  simp only[atX] at Bg;have mO:(0:Int)<t.fg.length:=zo;have ata:0<t.fg.length:=zo;have oh:(match(n::ks:List Tree) with
   |.mk k' _ _ _ An _::_=>if k'=25 then(match qH E (rC aN ms s.m) An with|some d=>if d.b=1 then⟨s.m,s.b,lD E t.at t.bj (uy (E.a d.g) t.bj) s.a⟩ else s|none=>s) else s
   |[]=>s:WS)=if n.bi=25 then(match qH E (rC aN ms s.m) n.bj with|some d=>if d.b=1 then⟨s.m,s.b,lD E t.at t.bj (uy (E.a d.g) t.bj) s.a⟩ else s|none=>s) else s:=by
   cases n;rfl
  rw[oh] at e A;by_cases c3:n.bi=25;rw[if_pos c3] at e A;refine pU C f4 f5 f6 hr bz hb K C2.iU R P c3 ?_;generalize hH:((h.am _).dT _ _:Hp)=H;have gH:ax h H:=by rw[<-hH];exact fZ
  have L:=x.g0 gH;have u:=x.km L;obtain⟨Ki,UW⟩:=u.chn;obtain⟨vv,fu,K6⟩:=u.b.b;have UX:qH E (rC aN ms s.m) n.bj=EU (rC aN ms s.m) E.f E.b E.a E.j n.bj:=rfl;refine abJ G (p:=E.p) (tb:=E.d) (j:=E.j) (fs:=E.f) (aq:=E.b) (bu:=E.a) fu u.a.a u.a.v u.a.w u.a.n u.a.y u.a.k u.a.A UW λh2 g2=>?_;rw[<-UX];have B:=u.g0 g2;have F:=u.km B;have lU:=u.kw B.1 (x.kw L.1 hr zd) zd;have U:=F.a.c;have K7:=F.a.d;cases GJ:qH E (rC aN ms s.m) n.bj with
  |none=>
   rw[GJ] at e;simp only[lA,Option.getD,Option.isSome,aC.fj];refine ag ?_;exact e _ ((L.ba B).ba (F.g0 fZ))
  |some d=>
   rw[GJ] at e A;simp only[lA,Option.getD,Option.isSome,aC.fj];by_cases O:d.b=1;simp only[O,auo] at e A;have lr2:=Hp.lt lU rfl;have abS:=Hp.lt U rfl;have aj5:=Hp.lt K7 rfl;refine fY O C f4 f5 f6 lU U K7 ?_;generalize oF:((h2.am _).dT _ _:Hp)=H3;have uA:ax h2 H3:=by rw[<-oF];exact fZ
   have M:=F.g0 uA;have w:=F.km M;obtain⟨UY,kF,OG⟩:=w.b.b;refine UI G (p:=E.p) (tb:=E.d) (bu:=E.a) kF w.a.a (w.a.v _) λh4 g4=>?_;have p4:=w.g0 g4;have V:=w.km p4;have CE:=w.kw p4.1 (F.kw M.1 lU zd) zd;have I:=V.a.c;have J:=V.a.d;have lr4:=Hp.lt CE rfl;have atb:=Hp.lt I rfl;have atc:=Hp.lt J rfl;generalize ho:uy (E.a d.g) t.bj=o at e A|-;simp only[lA,aC.fj];refine iR C f4 f5 f6 CE I J ?_;generalize Ap:((h4.am _).dT _ _:Hp)=H5;have Z:ax h4 H5:=by rw[<-Ap];exact fZ
   have p5:=V.g0 Z;have x5:=V.km p5;obtain⟨vv5,OH,X⟩:=x5.b.b;refine UH G (d:=o.getD qG) (p:=E.p) (doc:=E.j) OH X (by simp[lD] at A;omega) λh6 v6 g6 K8 yH=>?_;have p6:=x5.UQ (sc:=lD E t.at t.bj o s.a) g6 K8 rfl rfl yH;refine ag ?_;exact e _ (((((L.ba B).ba M).ba p4).ba p5).ba p6);simp only[O,auM] at e;refine aB O ?_;exact e _ ((L.ba B).ba (F.g0 fZ))
  rw[if_neg c3] at e A;refine pU C f4 f5 f6 hr bz hb K C2.iU R P c3 ?_;exact e _ (x.g0 fZ)
 rcases hd with c|⟨c,c'⟩;refine aU f6 hr c ?_;exact go _ zA zA zA zA;refine bK f6 hr c c' ?_;exact go _ zA zA zA zA;unfold qI at e;rw[if_neg c1,if_neg c2] at e;have n1:¬t.bi=11:=zo;have n2:¬t.bi=12:=zo;have n3:¬t.bi=26:=zo;have n4:¬t.bi=9:=zo;refine cq f6 hr n1 n2 n3 n4 ?_;exact e _ x.rp
end
theorem lC.ph{lo:Nat}{h:Hp}{v:AV}{ts:List Tree}(x:lC lo h v ts)(a:ts≠[]):∃b cap ex r ff,v=.c b 0 6 ts.length cap ex/\h.ab b=.b 61 6 r 0 ff/\ts.length<=r/\∀j,(hj:j<ts.length)->ay lo h ts[j] (ff (0+j)):=by rcases x with⟨q,_⟩|⟨_,b,cap,ex,r,ff,e,f,hr,g⟩;grind;grind
theorem Aq{t:Tree}(h:rY t):t.fg.length<4294967296/\aEU t.fg:=by cases t;exact h
theorem UZ{E:fM}{ms:List KM}{aN:Bool}{kind a:Int}{nm:List UInt8}{kids:List Tree}{s:WS}:s.a.b.length<=(qI E ms aN kind a nm kids s).a.b.length:=by unfold qI;split;exact at2 _;grind[lD]
section
variable {E:fM}{lo:Nat}{aN:Bool}{d:AV}
def U0(i:aA T){k:aK->Prop}{t:Tree}{q:Nat}{s:WS}{h:Hp}{f:Fr}{row:List AV}(F:∀t'∈t.fg,tq T E t') (x:gG E lo h aN bb c lb ms ar s v d) (hr:h.ab q=.a 61 row) (p:ay 0 h t row) (g:rY t)
 (A:(t.bi=11\/t.bi=12)->aN=true) (u:(t.bi=26\/t.bi=9)->t.fg≠[]) (ok:aEu aN t.fg) (r:(qI E ms aN t.bi t.at t.bj t.fg (jF E ms aN ar t.fg s)).a.b.length<1073741824)
 (w:an 1 f=v) (J:an 2 f=d) (f3:an 3 f=.a E.l 0) (f4:an 4 f=.a E.h 0) (f5:an 5 f=.a E.g 0) (f6:an 6 f=.a q 0)
 (D:∀h',aEI E h aN c lb (qI E ms aN t.bi t.at t.bj t.fg (jF E ms aN ar t.fg s)) h'->k (.a (.o []) h')):W T (CC.f (.f (.g (z q67 41)) (.m 7 (.d l67_0))) aId) f h [] (finish T (W T) [] k):=by
 obtain⟨kv,rfl,a⟩:=p.il;generalize C:aId=I;generalize B:CC.d l67_0=L;simp(disch:=omega) [f6,hr,a.pi];subst B;refine abL i (n:=t.fg.length) (kv:=kv) t.fg 0 s h _ _ F zo (Aq g).1 x a.ph (Aq g).2 ok (auD UZ r) aa aa aa zA zA zA λf' h' b e=>?_;refine ag ?_;subst C;have H:=x.km e;have nf:=x.nf e.1;have j:=b 1 zm;have l:=b 4 zm;have m:=b 5 zm;have o:=b 6 zm
 simp(disch:=omega) [w,f4,f5,f6] at j l m o;exact aj4 i H (x.kw e.1 hr zm) (p.nf nf zl) g A u r j l m o λy G=>D y (e.ba G)
end
def oH(E:fM)(ms:List KM)(aN:Bool)(ar:KM)(kind a:Int)(nm:List UInt8)(s:WS):WS:=
 if(kind=17\/kind=18)/\nm≠[] then⟨s.m,s.b,lD E a nm (ar nm) s.a⟩
 else if(kind=25\/kind=8)/\nm∉K5 then⟨s.m,s.b,lD E a nm (qH E (rC aN ms s.m) nm) s.a⟩ else s
section
variable {E:fM}{s:WS}{lo g:Nat}{aN:Bool}{t:Tree}{k:aK->Prop}
def abV(c:t.bi≠5)(a:¬(t.bi=10\/t.bi=15))(b:t.bi≠16):fU E ms aN ar t s=qI E ms aN t.bi t.at t.bj t.fg (jF E ms aN ar t.fg (oH E ms aN ar t.bi t.at t.bj s)):=by cases t;simp only[Tree.bi] at c a b;unfold fU;rw[if_neg c,if_neg a,if_neg b];rfl
def abW(b:t.bi≠5)(a:¬(t.bi=10\/t.bi=15))(ok:fh aN t):((t.bi=16\/t.bi=11\/t.bi=12)->aN=true)/\((t.bi=26\/t.bi=9)->t.fg≠[])/\aEu aN t.fg:=by cases t;simp only[Tree.bi] at b a;unfold fh at ok;rw[if_neg b,if_neg a] at ok;exact ok
theorem HN{t t':Tree}(h:t'∈t.fg):sizeOf t'<sizeOf t:=by
 cases t with
 |mk a b c d e ks=>
  have:=aEm (show t'∈ks from h);grind
theorem aj7(w:aA T)(ih:∀t'∈t.fg,tq T E t') (B:t.bi≠5) (O:¬(t.bi=10\/t.bi=15)) (P:t.bi≠16):tq T E t:=by
 intro aN ms ar s h row v f bb g lb lo k x hn rB ok Q hk;obtain⟨U1,ok2,K9⟩:=abW B O ok;rw[abV B O P] at Q hk;obtain⟨kv,rfl,hkv⟩:=hn.il;have n:¬t.bi=10:=λe=>O (.inl e);have n15:¬t.bi=15:=λe=>O (.inr e);rw[aJ w.t67];generalize hT:aGC=U;have sn:=x.a.c;have fR:=x.a.d;have OF:=Hp.lt sn rfl;have lic:=Hp.lt fR rfl;have go:∀(s1:WS)(L:Hp)(f':Fr),s1=oH E ms aN ar t.bi t.at t.bj s->aEI E h aN g lb s1 L->L.ab h.a=.a 61 [.i t.bi,.i t.ib,.i t.toz,.i t.at,S t.bj,kv]->an 1 f'=v->an 2 f'=f->an 3 f'=.a E.l 0->an 4 f'=.a E.h 0->an 5 f'=.a E.g 0->an 6 f'=.a h.a 0->
  W T U f' L [] (finish T (W T) [] k):=by
  rintro s1 L f' rfl b hr i l f3 f4 f5 f6;subst hT;exact U0 w ih (x.km b) hr (hn.nf (x.nf b.1) zl) rB (λq=>U1 (.inr q)) ok2 K9 Q i l f3 f4 f5 f6 λM F=>hk M (b.ba F)
 have C:=x.g0 (ah.am (ah.cg h) (.a 61 [.i t.bi,.i t.ib,.i t.toz,.i t.at,S t.bj,kv]));have Y:(h.am (.a 61 [.i t.bi,.i t.ib,.i t.toz,.i t.at,S t.bj,kv])).ab h.a=.a 61 [.i t.bi,.i t.ib,.i t.toz,.i t.at,S t.bj,kv]:=Hp.bv rfl;have x0:=x.km C;by_cases c1:t.bi=17\/t.bi=18;have n25:¬t.bi=25:=zo;have n8:¬t.bi=8:=zo;generalize hD:aJJ=D;have A:∀f',an 1 f'=v->an 2 f'=f->an 3 f'=.a E.l 0->an 4 f'=.a E.h 0->an 5 f'=.a E.g 0->an 6 f'=.a h.a 0->
  W T D f' (h.am (.a 61 [.i t.bi,.i t.ib,.i t.toz,.i t.at,S t.bj,kv])) [] (bY 0 (bF (W T U) (finish T (W T) [] k))):=λf' i l f3 f4 f5 f6=>by
  subst hD;by_cases c2:t.bj=[];have hh:oH E ms aN ar t.bi t.at t.bj s=s:=by simp_all[oH]
  simp_all;have hh:oH E ms aN ar t.bi t.at t.bj s=⟨s.m,s.b,lD E t.at t.bj (ar t.bj) s.a⟩:=by simp_all[oH]
  have fC:me (.a .a) (h.am (.a 61 [.i t.bi,.i t.ib,.i t.toz,.i t.at,S t.bj,kv])) (.p [.i 0,S [],.i 0,.i 0,S []]) f (S t.bj) true=.v (lA (ar t.bj)):=by rcases x0.t with⟨rfl,_,rfl⟩|⟨ai,rfl,m,_⟩;rfl;rw[m.wa];cases ar t.bj<;>rfl
  generalize ho:ar t.bj=o at fC hh;simp[lA,aC.fj] at fC;refine mz i l f4 f5 f6 c2 fC sn fR ?_;generalize N:(((h.am _).am _).dT _ _:Hp)=H;have gH:ax (h.am (.a 61 [.i t.bi,.i t.ib,.i t.toz,.i t.at,S t.bj,kv])) H:=by rw[<-N];exact ah.dT (ah.am (ah.cg _) _) _ (.inl zm)
  have b:=x0.g0 gH;have a:=x0.km b;obtain⟨vv,fu,K6⟩:=a.b.b;have V:s.a.b.length<1073741824:=auD (at1 (by rw[hh];simp[lD]) (at1 (Ao E t.fg ms aN ar (oH E ms aN ar t.bi t.at t.bj s)) UZ)) Q;refine UH w (d:=o.getD qG) (p:=E.p) (doc:=E.j) fu K6 V λh6 v6 g6 R yH=>?_;have G:=a.UQ (sc:=lD E t.at t.bj o s.a) g6 R rfl rfl yH;refine ag ?_;refine go _ h6 _ hh.symm ((C.ba b).ba G) (x0.kw (b.ba G).1 Y zm) ?_ ?_ ?_ ?_ ?_ ?_<;>simp(disch:=omega) [i,l,f3,f4,f5,f6]
 rcases(show t.bi=17\/¬t.bi=17/\t.bi=18 by omega) with c|⟨c,X⟩;simp_all;simp_all;have r:¬t.bi=17:=λe=>c1 (.inl e);have u:¬t.bi=18:=λe=>c1 (.inr e);by_cases c3:t.bi=25\/t.bi=8;generalize hD:aJK=D;have A:∀f',an 1 f'=v->an 2 f'=f->an 3 f'=.a E.l 0->an 4 f'=.a E.h 0->an 5 f'=.a E.g 0->an 6 f'=.a h.a 0->
  W T D f' (h.am (.a 61 [.i t.bi,.i t.ib,.i t.toz,.i t.at,S t.bj,kv])) [] (bY 0 (bF (W T U) (finish T (W T) [] k))):=λf' i l f3 f4 f5 f6=>by
  subst hD;refine aB f6 ?_;generalize N:((h.am _).am _:Hp)=H;have gH:ax (h.am (.a 61 [.i t.bi,.i t.ib,.i t.toz,.i t.at,S t.bj,kv])) H:=by rw[<-N];exact ah.am (ah.cg _) _
  have hS:cY H (.c (h.a+1) 0 1 4 4 true) K5:=by
   refine⟨h.a+1,4,true,4,_,rfl,by rw[<-N];exact Hp.bv rfl,by decide,λj hj=>?_⟩;exact match j,hj with
   |0,_=>rfl
   |1,_=>rfl
   |2,_=>rfl
   |3,_=>rfl
  have b:=x0.g0 gH;have a:=x0.km b;have K:=x0.kw b.1 Y zd;have l1:=Hp.lt K rfl;refine Ek w hS zd ?_;by_cases J:t.bj∈K5;have hh:oH E ms aN ar t.bi t.at t.bj s=s:=by unfold oH;rw[if_neg (λq=>c1 q.1),if_neg (λq=>q.2 J)]
  refine aB J ?_;refine go s _ _ hh.symm (C.ba b) K ?_ ?_ ?_ ?_ ?_ ?_<;>simp(disch:=omega) [i,l,f3,f4,f5,f6];have hh:oH E ms aN ar t.bi t.at t.bj s=⟨s.m,s.b,lD E t.at t.bj (qH E (rC aN ms s.m) t.bj) s.a⟩:=by unfold oH;rw[if_neg (λq=>c1 q.1),if_pos ⟨c3,J⟩]
  have y:=a.a.c;have z:=a.a.d;have atd:=Hp.lt y rfl;have ate:=Hp.lt z rfl;refine fY J i f4 f5 f6 y z K ?_;obtain⟨Ki,UW⟩:=a.chn;obtain⟨vv,fu,K6⟩:=a.b.b;have UX:qH E (rC aN ms s.m) t.bj=EU (rC aN ms s.m) E.f E.b E.a E.j t.bj:=rfl;refine abJ w (p:=E.p) (tb:=E.d) (j:=E.j) (fs:=E.f) (aq:=E.b) (bu:=E.a) fu a.a.a a.a.v a.a.w a.a.n a.a.y a.a.k a.a.A UW λM g2=>?_;rw[<-UX];have F:=a.g0 g2;have I:=a.km F;have Z:=a.kw F.1 K zd;have uz:=I.a.c;have K7:=I.a.d;have l2:=Hp.lt Z rfl;have abS:=Hp.lt uz rfl;have aj5:=Hp.lt K7 rfl;generalize ho:qH E (rC aN ms s.m) t.bj=o at hh|-;simp only[lA,aC.fj];refine iR i f4 f5 f6 Z uz K7 ?_;generalize oF:((M.am _).dT _ _:Hp)=H3;have uA:ax M H3:=by rw[<-oF];exact fZ
  have p3:=I.g0 uA;have x3:=I.km p3;obtain⟨UY,kF,OG⟩:=x3.b.b;have V:s.a.b.length<1073741824:=auD (at1 (by rw[hh];simp[lD]) (at1 (Ao E t.fg ms aN ar (oH E ms aN ar t.bi t.at t.bj s)) UZ)) Q;refine UH w (d:=o.getD qG) (p:=E.p) (doc:=E.j) kF OG V λh6 v6 g6 R yH=>?_;have G:=x3.UQ (sc:=lD E t.at t.bj o s.a) g6 R rfl rfl yH;refine ag ?_;refine go _ h6 _ hh.symm ((((C.ba b).ba F).ba p3).ba G) (I.kw (p3.ba G).1 Z zd) ?_ ?_ ?_ ?_ ?_ ?_<;>simp(disch:=omega) [i,l,f3,f4,f5,f6]
 rcases(show t.bi=25\/¬t.bi=25/\t.bi=8 by omega) with c|⟨c,X⟩;refine iR B n n15 P r u c ?_;rw[c] at A;refine A _ ?_ ?_ ?_ ?_ ?_ ?_<;>simp(disch:=omega);refine fY B n n15 P r u c X ?_;rw[X] at A;refine A _ ?_ ?_ ?_ ?_ ?_ ?_<;>simp(disch:=omega);have n25:¬t.bi=25:=λe=>c3 (.inl e);have n8:¬t.bi=8:=λe=>c3 (.inr e);have hh:oH E ms aN ar t.bi t.at t.bj s=s:=by unfold oH;rw[if_neg (λq=>c1 q.1),if_neg (λq=>c3 q.1)]
 refine fY B n n15 P r u n25 n8 ?_;refine go s _ _ hh.symm C Y ?_ ?_ ?_ ?_ ?_ ?_<;>simp(disch:=omega)
end
section
variable {E:fM}{s:WS}{lo a:Nat}{aN:Bool}{b:AV}{t:Tree}{k:aK->Prop}
def abZ(c:t.bi=10\/t.bi=15):fU E ms aN ar t s=(let d:=jF E (s.m::ms) true ar t.fg ⟨aX,s.b,s.a⟩;⟨s.m,d.b,d.a⟩):=by cases t;simp[Tree.bi] at c;unfold fU;rw[if_neg zo,if_pos c];rfl
def aj8(c:t.bi=10\/t.bi=15)(ok:fh aN t):aN=true/\aEu true t.fg:=by cases t;simp[Tree.bi] at c;unfold fh at ok;rw[if_neg zo,if_pos c] at ok;exact ok
theorem aj9(g:aA T)(U:∀t'∈t.fg,tq T E t') (F:t.bi=10\/t.bi=15):tq T E t:=by
 intro aN ms ar s h row v b bb a lb lo k x D rB ok I w;obtain⟨rfl,J⟩:=aj8 F ok;rw[abZ F] at I w;simp only at I w;obtain⟨kv,rfl,R⟩:=D.il;rw[aJ g.t67];generalize C:aGC=M;obtain⟨rfl,y⟩:=x.k.2 rfl;obtain⟨par,r,ch⟩:=y.c;have X:=Hp.lt r rfl;have V:=y.d;have l2:=y.f;have l3:=y.g
 have G:¬t.bi=5:=zo;have go:∀(d:Hp)(f':Fr),d=((h.am (.a 61 [.i t.bi,.i t.ib,.i t.toz,.i t.at,S t.bj,kv])).am (.f [] 0)).am (.a 117 [.a bb 0,.j (h.a+1),.j lb])->an 1 f'=.a (h.a+1+1) 0->an 2 f'=b->an 3 f'=.a E.l 0->an 4 f'=.a E.h 0->an 5 f'=.a E.g 0->an 6 f'=.a h.a 0->
  W T M f' d [] (finish T (W T) [] k):=by
  intro d f' p N O f3 f4 f5 f6;have f:ax h d:=by rw[p];exact aZ
  have wI:d.a=h.a+1+1+1:=by simp_all
  have u1:d.ab h.a=.a 61 [.i t.bi,.i t.ib,.i t.toz,.i t.at,S t.bj,kv]:=by rw[p];simp(disch:=first|exact bh|fail)
  have u2:d.ab (h.a+1)=.f [] 0:=by simp_all
  have u3:d.ab (h.a+1+1)=.a 117 [.a bb 0,.j (h.a+1),.j lb]:=by simp_all
  have Z:=x.g0 f;have x0:=x.km Z;obtain⟨_,y0⟩:=x0.k.2 rfl;have x1:gG E lo d true (h.a+1+1) (h.a+1) lb (s.m::ms) ar ⟨aX,s.b,s.a⟩ (.a (h.a+1+1) 0) b:=by refine⟨x0.a,x0.b,⟨λe=>qaa,λ_=>⟨rfl,⟨_,u3,?_⟩,MK.ow u2,y0.b,V,by omega,by omega⟩⟩,?_,x.o⟩;obtain⟨j,u,o⟩:=y0.c;exact⟨bb,j,.j a,.j lb,rfl,u,by omega,by omega,.inr ⟨a,rfl,by omega,by omega,y0.a⟩,o.up zo⟩;rcases x.t with⟨_,q,_⟩|⟨ai,e,m,l,n⟩;grind;have:=n rfl;have:=m.lt;exact .inr ⟨ai,e,m.bc (f.f _ m.lt id),l,λ_=>by omega⟩
  have K:qI E (s.m::ms) true t.bi t.at t.bj t.fg (jF E (s.m::ms) true ar t.fg ⟨aX,s.b,s.a⟩)=jF E (s.m::ms) true ar t.fg ⟨aX,s.b,s.a⟩:=by unfold qI;grind
  subst C;refine U0 g U x1 u1 (D.nf (mY f) zl) rB (λ_=>rfl) (λq=>by omega) J qaa N O f3 f4 f5 f6 λP H=>w P ?_;rw[K] at H;obtain⟨g2,L,A⟩:=H;obtain⟨m1,Y⟩:=A rfl;refine⟨⟨at1 f.g g2.d,λi hi z Q=>?_⟩,L,λ_=>⟨?_,Y⟩⟩;rw[g2.f i zo ?_ (by rw[f.f i hi id];omega),f.f i hi id];rintro(q|q|⟨_,q|q⟩);exact z (.inl q);exact z (.inr (.inl q));omega;exact z (.inr (.inr ⟨rfl,.inr q⟩));refine y0.a.bc (g2.ab _ y0.a.lt ?_ ?_);have:=y.a.lt;have:=x.o
  rintro(q|q|⟨_,q|q⟩)<;>omega;rintro⟨_,_,q⟩;exact y0.a.zn q
 have p:=C;rcases(show t.bi=10\/¬t.bi=10/\t.bi=15 by omega) with c|⟨c,B⟩;refine aS G c ?_;rw[aJ g.t68];refine aB r ?_;rw[c] at go;refine go _ _ rfl ?_ ?_ ?_ ?_ ?_ ?_<;>simp(disch:=omega);refine aU G c B ?_;rw[aJ g.t68];refine aB r ?_;rw[B] at go;refine go _ _ rfl ?_ ?_ ?_ ?_ ?_ ?_<;>simp(disch:=omega)
def ab0(c:t.bi=16):fU E ms aN ar t s=jF E ms aN (rA ar t.bj (kj E 8 t.bj t.at)) t.fg (EW (kj E 8 t.bj t.at) s):=by cases t;simp[Tree.bi] at c;unfold fU;rw[if_neg zo,if_neg zo,if_pos c];rfl
theorem aka(r:aA T)(ih:∀t'∈t.fg,tq T E t') (C:t.bi=16):tq T E t:=by
 intro aN ms ar s h row v b bb a lb lo k x hn rB ok us hk;obtain⟨U1,ok2,K9⟩:=abW zo zo ok;obtain rfl:=U1 (.inl C);rw[ab0 C] at us hk;obtain⟨kv,rfl,hkv⟩:=hn.il;rw[aJ r.t67];generalize hT:aGC=Tl;obtain⟨rfl,y⟩:=x.k.2 rfl;obtain⟨par,eb,ch⟩:=y.c;have lbb:=Hp.lt eb rfl;have l1:=y.d;have l2:=y.f;have l3:=y.g;have cK:=x.o
 have n5:¬t.bi=5:=zo;have n10:¬t.bi=10:=zo;have n15:¬t.bi=15:=zo;have sn:=x.a.c;have fR:=x.a.d;have OF:=Hp.lt sn rfl;have lic:=Hp.lt fR rfl;have D:=x.g0 (ah.am (ah.cg h) (.a 61 [.i t.bi,.i t.ib,.i t.toz,.i t.at,S t.bj,kv]));have e0:(h.am (.a 61 [.i t.bi,.i t.ib,.i t.toz,.i t.at,S t.bj,kv])).ab h.a=.a 61 [.i t.bi,.i t.ib,.i t.toz,.i t.at,S t.bj,kv]:=Hp.bv rfl;have x0:=x.km D;obtain⟨vv,hp,hnm⟩:=x0.b.b;obtain⟨ai,rfl,mar,lai,w⟩:∃ai,b=.j ai/\MK h ai ar/\lo<=ai/\(true=true->ai≠a/\ai≠lb):=by rcases x.t with⟨_,q,_⟩|q;grind;omega
 have w:=w rfl;refine aU C sn fR ?_;rw[<-C];refine CV r (p:=E.p) (aG:=E.c) (j:=E.j) (c0:=E.m) (c1:=E.i) (c2:=E.k) (c7:=.j E.d) (c8:=E.n) (c9:=vv) (N:=s.a.c) hp x0.b.a x0.a.n x0.a.k λO gn Z=>?_;have en:kj E 8 t.bj t.at=⟨8,t.bj,E.j,t.at,if(8:Int)=1 then t.bj else E.b[E.j]'x.a.k⟩:=by grind[kj]
 rw[<-en] at Z|-;have dn:(kj E 8 t.bj t.at).a=t.bj:=rfl;have z:=x0.Pi gn Z;have G:=x0.km z;have uz:=G.a.c;have X:=x0.kw z.1 (x.kw D.1 eb zm) zm;have e2:=x0.kw z.1 e0 zm;have abS:=Hp.lt uz rfl;have lb2:=Hp.lt X rfl;have le2:=Hp.lt e2 rfl;generalize kj E 8 t.bj t.at=d at*;simp only[aC.fj];refine aS X uz ?_;generalize P:((O.am _).dT _ _:Hp)=H;have gH:ax O H:=by rw[<-P];exact fZ
 have u1:H.ab O.a=.a 35 [.i d.b,S d.a,.i d.c,.i d.f,S d.g]:=by rw[<-P];simp
 clear P;have F:=G.g0 gH;have n:=G.km F;have y3:=(n.k.2 rfl).2;obtain⟨UY,kF,OG⟩:=n.b.b;refine UF (d:=d) r (p:=E.p) (i:=lb) (m:=s.b) (c0:=E.m) (c1:=E.i) (c2:=E.k) (c6:=.j E.c) (c7:=.j E.d) (c8:=E.n) (c9:=UY) (f:=s.a.a) kF y3.b λc g4 m7 tc=>?_;have A:=n.aj1 rfl (d:=d) kF OG g4 m7 tc;have V:=n.km A;have u4:=n.kw A.1 u1 zm;have J:=n.kw A.1 (G.kw F.1 e2 zm) zm;have R:=Hp.lt u4 rfl;have Y:=Hp.lt J rfl;obtain⟨_,_⟩|⟨ai',K,I,_⟩:=V.t;grind;cases K;obtain⟨L,⟨⟨aD,ea⟩,dB⟩,hL⟩:=I;have la:=Hp.lt ea rfl;generalize jg:CC.d l67_1=L1;simp(disch:=omega) [OD (h:=c.am (.f [] 0)) (m:=ai) (aD:=aD) (L:=L) qae];subst jg;refine aj3 r (ai:=ai) (ar:=ar) (it:=c.a+1) (wi:=c.a) (aD:=aD) hL dB zo _ (cD L) [] _ none _ _ rfl (au ea) (Hp.bv rfl) ?_ dB (λq B=>?_) (λq=>?_) aa aa λf' l Q g g5 hQ hQL=>?_;exact(iV.ow (h:=c.am (.f [] 0)) (Hp.bv rfl)).bc (Hp.jp zm);cases hv:eV L q with
 |none=>grind[Br]
 |some v=>rfl
 by_cases B:q∈cD L;rw[if_pos B];rfl;rw[if_neg B,Br.2 B];rfl;have e:ax c l:=by refine ah.na (M:=λj=>j=c.a+1\/j=c.a) (ah.am (ah.am (ah.cg c) (.f [] 0)) _) g5 λi hi=>zo
 have mQ:MK l c.a ar:=⟨Q,hQ,λq=>by grind⟩;obtain⟨o,eo,fo⟩:=mQ.ti (s:=t.bj) (d:=d);have lQ:=mQ.lt;simp only[aC.fj] at eo;have e5:=(e.f _ Y id).trans J;have u5:=(e.f _ R id).trans u4;have f6:=g 6 zm;have f13:=g 13 zm;have f14:=g 14 zm;have q1:=g 1 zm;have q3:=g 3 zm;have q4:=g 4 zm;have q5:=g 5 zm;simp only[] at*;simp(disch:=omega) at f6 f13 f14 q1 q3 q4 q5;refine cq f6 f13 f14 e5 u5 eo ?_;have u:ax c (l.dT c.a o):=e.dT _ (.inl zl);have U:=V.g0 u;have W:=V.km U;have e6:=(u.f _ Y id).trans J;have m6:MK (l.dT c.a o) c.a (rA ar t.bj d):=fo _ (Hp.fp rfl);have x7:gG E lo (l.dT c.a o) true bb a lb ms (rA ar t.bj d) (EW d s) (.a bb 0) (.j c.a):=by refine⟨W.a,W.b,W.k,.inr ⟨c.a,rfl,m6,?_,λ_=>?_⟩,x.o⟩;omega;omega
 have La:∀s',qI E ms true t.bi t.at t.bj t.fg s'=s':=λs'=>by unfold qI;grind
 have nf:NF 0 h (l.dT c.a o):=x.nf ((((D.ba z).ba F).ba A).ba U).1;subst hT;refine U0 r ih x7 e6 (hn.nf nf zl) rB (λ_=>rfl) (λq=>by omega) K9 qaa (au q1) aa (au q3) (au q4) (au q5) zA λh8 p8=>hk h8 ?_;rw[La] at p8;exact((((D.ba z).ba F).ba A).ba U).ba p8
end
section
variable {E:fM}{s:WS}{lo:Nat}{aN:Bool}{a:AV}{t:Tree}{k:aK->Prop}
theorem akc(g:t.bi=5)(ok:fh aN t):∃b d e f,t.fg=[b,d,e,f]/\fh false b/\aEu false d.fg/\fh false e/\aEu true f.fg:=by cases t;simp[Tree.bi] at g;unfold fh at ok;rw[if_pos g] at ok;split at ok;exact⟨_,_,_,_,rfl,ok⟩;grind
theorem ab3{d b f e:Tree}(i:t.bi=5)(g:t.fg=[d,b,f,e]):fU E ms aN ar t s=
 ⟨s.m,s.b,(jF E [aX] true aX e.fg ⟨(oD E (d::b.fg) ⟨aX,aX,s.a⟩).m,(oD E (d::b.fg) ⟨aX,aX,s.a⟩).b,(fU E [] false aX f ⟨aX,aX,(oD E (d::b.fg) ⟨aX,aX,s.a⟩).a⟩).a⟩).a⟩:=by
 cases t;cases b;cases e;grind[Tree.bi,Tree.fg,fU,oD]
def OJ{t t1 t2:Tree}(h:t1∈t.fg)(b:t2∈t1.fg):sizeOf t2<sizeOf t:=axP (HN b) (HN h)
theorem akd{H:Hp}{q0:Nat}{t1:Nat->List AV}{kv:AV}{ps:List Tree}(m:H.ab q0=.b 61 6 1 0 t1)(x:lC 0 H kv ps)(z:ps.length<4294967296):∃g cap ex o e d,(kJ H 61 6 72 (.c q0 0 6 1 1 true) kv=.v (.c g 0 6 (1+ps.length) cap ex)/\d=H\/kJ H 61 6 72 (.c q0 0 6 1 1 true) kv=.b (.c g 0 6 (1+ps.length) cap ex) d)/\
 ax H d/\d.ab g=.b 61 6 o 0 e/\1+ps.length<=o/\e 0=t1 0/\∀j,(hj:j<ps.length)->ay 0 H ps[j] (e (j+1)):=by
 rcases x with⟨rfl,rfl⟩|⟨p,b,cap,ex,r,f,rfl,w,hr,A⟩;exact⟨q0,1,true,1,t1,H,.inl ⟨NK (rs:=[]) rfl rfl,rfl⟩,ah.cg _,m,by simp,rfl,λj hj=>absurd hj zm⟩;have h0:=auA.2 p;obtain⟨n,l⟩:∃n,ps.length=n+1:=⟨ps.length- 1,by omega⟩;have u:=G2 (h:=H) (el:=61) (rw:=6) (bytes:=72) (n:=n) (i:=q0) (len:=1) (l5:=1) (t:=t1) zm m zl (Ke (n:=ps.length) (b:=b) (cap:=cap) (ex:=ex) zm w hr) (by simp[lenOf,l]) (rV zo zo);refine⟨H.a,1+ps.length,false,1+ps.length,jy fG 0 (dw t1 1 0++dw f ps.length 0),_,.inr (by rw[u,l]),ah.am (ah.cg _) _,?_,at2 _,?_,λj hj=>?_⟩;rw[Hp.bv rfl,jJ,l];rw[wO (by simp[dw])];rfl;have q:j+1<(dw t1 1 0++dw f ps.length 0).length:=by grind[oZ]
 rw[wO q];have y:(dw t1 1 0++dw f ps.length 0)[j+1]=(dw f ps.length 0)[j]'(by grind[oZ]):=by rfl
 have:=vw f ps.length 0 j hj;grind
theorem ake(R:aA T)(X:∀t',sizeOf t'<sizeOf t->tq T E t') (Y:t.bi=5):tq T E t:=by
 intro aN ms ar s h row v a bb0 kb0 lb0 lo k x hn rB ok Z hk;obtain⟨O,o,f,p,ek,o0,o1,o2,o3⟩:=akc Y ok;rw[ab3 Y ek] at Z hk;obtain⟨kv,rfl,hkv⟩:=hn.il;obtain⟨hl,w⟩:=Aq rB;rw[ek] at w;simp only[aEU] at w;obtain⟨b,cap,ex,r,ff,rfl,hb,hr,iW⟩:=hkv.ph qaa;have bz:t.fg.length=4:=by grind
 have hr:4<=r:=bz▸hr;have J:∀j(hj:j<4),ay 0 h ([O,o,f,p][j]) (ff j):=λj hj=>by grind
 have K:ay 0 h O (ff 0):=J 0 zm;have hN1:ay 0 h o (ff 1):=J 1 zm;have M:ay 0 h f (ff 2):=J 2 zm;have hN3:ay 0 h p (ff 3):=J 3 zm;clear J iW;obtain⟨OE,r0,C2⟩:=K.il;obtain⟨kv1,r1,U3⟩:=hN1.il;obtain⟨zX,r2,wW⟩:=M.il;obtain⟨zW,r3,Hj⟩:=hN3.il;have lb:=Hp.lt hb rfl;rw[aJ R.t67];generalize hT:aGC=Tl;have e11:cellsOf (.b 61 6 r 0 ff) 11 1=some [kv1]:=by have:=Kd (el:=61) (rw:=6) (l5:=r) (fz:=0) (t:=ff) (k:=1) (j:=5) (n:=1) zo zm zm;simp_all
 generalize hD:aIb=D;generalize hP:CC.d l67_3=LP;refine aB Y ?_;rw[aJ R.t68];refine cq bz hb r0 e11 C2.iU U3.iU ?_;rw[<-r0];generalize g:(((((((h.am _).am _).am _).am _).am _).am _).am _:Hp)=H;have gH:ax h H:=by rw[<-g];exact aZ
 have nH:H.a=h.a+1+1+1+1+1+1+1:=by rw[<-g];rfl
 have u0:H.ab h.a=.a 61 [.i t.bi,.i t.ib,.i t.toz,.i t.at,S t.bj,.c b 0 6 4 cap ex]:=by rw[<-g];simp(disch:=first|exact bh|fail) [Y]
 have u1:H.ab (h.a+1)=.f [] 0:=by rw[<-g];simp
 have u2:H.ab (h.a+1+1)=.a 117 [.u,.A,.j (h.a+1)]:=by rw[<-g];simp
 have u3:H.ab (h.a+1+1+1)=.f [] 0:=by rw[<-g];simp
 have u4:H.ab (h.a+1+1+1+1)=.a 117 [.a (h.a+1+1) 0,.j (h.a+1+1+1),.j (h.a+1)]:=by rw[<-g];simp
 have u5:H.ab (h.a+1+1+1+1+1)=.f [] 0:=by rw[<-g];simp
 obtain⟨t1,u6,u7⟩:∃t1,H.ab (h.a+1+1+1+1+1+1)=.b 61 6 1 0 t1/\t1 0=ff 0:=⟨_,by rw[<-g];exact Hp.bv rfl,by simp⟩;clear g;have nfH:=mY gH;have P:=Aq w.2.1;obtain⟨b',U4,Ey,r',Lb,l,tu,U5,oY,qY,hf0,hfj⟩:=akd (H:=H) u6 (U3.nf nfH) P.1;have d:ax h l:=gH.ba U5;have akf:E.p<h.a/\E.c<h.a/\E.d<h.a:=by obtain⟨vv,hp,_⟩:=x.b.b;obtain⟨L,tm,_⟩:=x.a.a;exact⟨Hp.lt hp rfl,x.b.a.lt,tm.lt⟩
 have p0:=x.g0 d;have x0:=x.km p0;have z:=λi(hi:i<H.a)=>U5.f i hi id;have x1:gG E h.a l true (h.a+1+1+1+1) (h.a+1+1+1) (h.a+1) [aX] aX ⟨aX,aX,s.a⟩ (.a (h.a+1+1+1+1) 0) (.j (h.a+1+1+1+1+1)):=by exact⟨x0.a,x0.b,⟨λe=>qaa,λ_=>⟨rfl,⟨_,(z _ zo).trans u4,(⟨h.a+1+1,.u,.A,.j (h.a+1),rfl,(z _ zo).trans u2,by omega,by omega,.inl ⟨rfl,λ_=>rfl⟩,rfl⟩)⟩,MK.ow ((z _ zo).trans u3),MK.ow ((z _ zo).trans u1),by omega,by omega,by omega⟩⟩,.inr ⟨_,rfl,MK.ow ((z _ zo).trans u5),by omega,λ_=>by omega⟩,akf⟩
 have e0:l.ab h.a=.a 61 [.i t.bi,.i t.ib,.i t.toz,.i t.at,S t.bj,.c b 0 6 4 cap ex]:=(z _ zo).trans u0;have fX:l.ab b=.b 61 6 r 0 ff:=(d.f _ lb id).trans hb;have U6:=mY d;have m0:O∈t.fg:=by grind
 have m1:o∈t.fg:=by grind
 have m2:f∈t.fg:=by grind
 have m3:p∈t.fg:=by grind
 generalize mX:oD E (O::o.fg) ⟨aX,aX,s.a⟩=C at hk Z;have Q:=auD (Ao E p.fg [aX] true aX ⟨C.m,C.b,(fU E [] false aX f ⟨aX,aX,C.a⟩).a⟩) Z;have us3:=auD (HL E f [] false aX ⟨aX,aX,C.a⟩) Q;have goD:∀(f':Fr)(A:Hp),aEI E l true (h.a+1+1+1) (h.a+1) C A->an 1 f'=.a (h.a+1+1+1+1) 0->an 2 f'=.j (h.a+1+1+1+1+1)->an 3 f'=.a E.l 0->an 4 f'=.a E.h 0->an 5 f'=.a E.g 0->an 6 f'=.a h.a 0->
  W T D f' A [] (bY 0 (bF (W T Tl) (finish T (W T) [] k))):=by
  intro f' A u f1 U f3 f4 f5 f6;have F:=x1.km u;have Ex:=x1.nf u.1;have e2:=x1.kw u.1 e0 zm;have rT:=Ex _ _ _ (auz _) fX;have akg:=F.a.u;have e12:cellsOf (.b 61 6 r 0 ff) 12 6=some [.i f.bi,.i f.ib,.i f.toz,.i f.at,S f.bj,zX]:=by have:=Kd (el:=61) (rw:=6) (l5:=r) (fz:=0) (t:=ff) (k:=2) (j:=0) (n:=6) zo zm zm;simp_all
  have e23:cellsOf (.b 61 6 r 0 ff) 23 1=some [zW]:=by have:=Kd (el:=61) (rw:=6) (l5:=r) (fz:=0) (t:=ff) (k:=3) (j:=5) (n:=1) zo zm zm;simp_all
  generalize hB:CC.d l67_2=LB at hD;subst hD;unfold aIb zt;refine fY U f3 f6 e2 rT akg e12 wW.iU ?_;rw[<-r2];refine X f (HN m2) false [] aX ⟨aX,aX,C.a⟩ A _ .u _ 0 0 0 _ _ F.fls ((M.nf U6 zl).nf Ex zl) w.2.2.1 o2 Q λh3 p3=>?_;have m:=F.abN p3;have x3:=F.km m;have KF:=F.nf m.1;have e3:=F.kw m.1 e2 zm;have Ea:=KF _ _ _ (auz _) rT;have G:lC 0 h3 zW p.fg:=((Hj.nf U6).nf Ex).nf KF;simp(disch:=omega) [f6,e3,Ea,e23,G.pi];subst hB;refine abM R (n:=p.fg.length) (kv:=zW) p.fg 0 _ h3 _ _ (λt' N=>X t' (OJ m3 N)) zo (Aq w.2.2.2.1).1 x3 G.ph (Aq w.2.2.2.1).2 o3 Z aa aa aa zA zA zA λf5' h5 hf5 p5=>?_;refine ag ?_;have pp:=(u.ba m).ba p5;obtain⟨V,sc5,_⟩:=pp;refine hk h5 ⟨⟨at1 d.g V.d,λi hi hm h36=>?_⟩,sc5,λhB=>?_⟩;rw[V.f i (aur hi d.g) ?_ (by rw[d.f i hi id];omega),d.f i hi id];rintro(q|q|⟨_,q|q⟩);exact hm (.inl q);exact hm (.inr (.inl q));omega;omega;obtain⟨e,y⟩:=x.k.2 hB;have y1:=y.d;have y2:=y.f;have:=x.o
  have l1:=y.a.lt;have l2:=y.b.lt
  have q1:¬uw (l.ab kb0):=by rw[d.f _ l1 id];rintro⟨_,_,q⟩;exact y.a.zn q
  have q2:¬uw (l.ab lb0):=by rw[d.f _ l2 id];rintro⟨_,_,q⟩;exact y.b.zn q
  refine⟨y.a.bc ((V.ab _ (aur l1 d.g) ?_ q1).trans (d.f _ l1 id)),y.b.bc ((V.ab _ (aur l2 d.g) ?_ q2).trans (d.f _ l2 id))⟩;rintro(q|q|⟨_,q|q⟩)<;>omega;rintro(q|q|⟨_,q|q⟩)<;>omega
 have I:∀(f':Fr),an 47 f'=.c b' 0 6 (1+o.fg.length) U4 Ey->an 48 f'=.i (1+o.fg.length:Nat)->an 49 f'=.i 0->an 1 f'=.a (h.a+1+1+1+1) 0->an 2 f'=.j (h.a+1+1+1+1+1)->an 3 f'=.a E.l 0->an 4 f'=.a E.h 0->an 5 f'=.a E.g 0->an 6 f'=.a h.a 0->
  W T LP f' l [] (bY 1 (bF (W T D) (bY 0 (bF (W T Tl) (finish T (W T) [] k))))):=by
  intro f' q1 q2 q3 f1 U f3 f4 f5 f6;subst hP;refine abP R (n:=1+o.fg.length) (O::o.fg) 0 ⟨aX,aX,s.a⟩ l f' _ (λt' N=>?_) zn zo x1 (λ_=>⟨b',U4,Ey,r',Lb,rfl,oY,qY,λj hj=>?_⟩) ?_ ?_ (by rw[mX];exact us3) q1 q2 (by rw[q3];rfl) f1 U f3 f4 f5 λf2' A B u=>?_;rcases atZ.1 N with rfl|N;exact X _ (HN m0);exact X _ (OJ m1 N);rcases j with _|j;simp only[aus,aud,hf0,u7];exact K.nf U6 zl;simp only[auu,aue];exact(hfj j (by simpa using hj)).nf (mY U5) zl;unfold aEU;exact⟨w.1,P.2⟩;unfold aEu;exact⟨o0,o1⟩;rw[mX] at u;refine ag ?_;exact goD _ A u ((B 1 zd).trans f1) ((B 2 zd).trans U) ((B 3 zd).trans f3) ((B 4 zd).trans f4) ((B 5 zd).trans f5) ((B 6 zd).trans f6)
 rcases tu with⟨ea,rfl⟩|ea;rw[ea];refine ag ?_;refine I _ ?_ ?_ ?_ ?_ ?_ ?_ ?_ ?_ ?_<;>simp(disch:=omega);rw[ea];refine ag ?_;refine I _ ?_ ?_ ?_ ?_ ?_ ?_ ?_ ?_ ?_<;>simp(disch:=omega)
theorem akh(b:aA T)(E:fM)(t:Tree):tq T E t:=by
 generalize d:sizeOf t=n;induction n using Nat.strongRecOn generalizing t with
 |_ n e=>
  grind[HN,ake,aj9,aka,aj7]
end
structure xm(E n:fM):Prop where
 j:E.j=n.j
 h:E.f=n.f
 g:E.b=n.b
 f:E.a=n.a
section
variable {E n:fM}
theorem xm.rh(x:xm E n):kj E=kj n:=by obtain⟨a,b,c,d⟩:=x;unfold kj;grind
theorem xm.IH(x:xm E n):lD E=lD n:=by obtain⟨a,b,c,d⟩:=x;unfold lD;rw[a]
theorem xm.pl(x:xm E n):qH E=qH n:=by obtain⟨a,b,c,d⟩:=x;grind[qH]
def xm.par(x:xm E n):tj E=tj n:=by unfold tj;rw[x.rh]
mutual
theorem HO(x:xm E n):∀(t:Tree)(ms:List KM)(aN:Bool)(ar:KM)(s:WS),fU E ms aN ar t s=fU n ms aN ar t s
 |.mk kind i g a nm kids,ms,aN,ar,s=>by
  have d:=λms aN ar s=>U8 x kids ms aN ar s;by_cases b:kind=5
  conv=>lhs;unfold fU
  conv=>rhs;unfold fU
  rw[if_pos b,if_pos b];split;rename_i e _ _ _ _ _ ps f _ _ _ _ _ c;simp only[HO x e,HO x f,x.par,ab5 x ps,U8 x c];rfl
  conv=>lhs;unfold fU
  conv=>rhs;unfold fU
  rw[if_neg b,if_neg b];simp only[d,x.rh,x.IH,x.pl,x.f]
theorem U8(x:xm E n):∀(t:List Tree)(ms:List KM)(aN:Bool)(ar:KM)(s:WS),jF E ms aN ar t s=jF n ms aN ar t s
 |[],_,_,_,_=>by rfl
 |t::ts,ms,aN,ar,s=>by unfold jF;rw[HO x t,U8 x ts]
theorem ab5(x:xm E n):∀(t:List Tree)(s:WS),oD E t s=oD n t s
 |[],_=>by rfl
 |t::ts,s=>by unfold oD;rw[HO x t,x.par,ab5 x ts]
end
def C3(fs:List Tree)(aq:List (List UInt8))(bu:List UInt8->List aC)(j:Nat):fM:=⟨0,0,0,0,0,0,j,.B,.B,.B,.B,fs,aq,bu⟩
def uB(fs:List Tree)(aq:List (List UInt8))(bu:List UInt8->List aC):List Tree->Nat->Sc->Sc
 |[],_,s=>s
 |t::ts,j,s=>uB fs aq bu ts (j+1) (fU (C3 fs aq bu j) [] false aX t ⟨aX,aX,s⟩).a
def ab6{fs aq bu}:∀(ts:List Tree)(j:Nat)(s:Sc),s.b.length<=(uB fs aq bu ts j s).b.length
 |[],_,_=>at2 _
 |t::ts,j,s=>at1 (HL (C3 fs aq bu j) t [] false aX ⟨aX,aX,s⟩) (ab6 ts (j+1) _)
end
section
variable {k:aK->Prop}
structure HP(p aG tb:Nat)(c0 c1 c2 c8:AV)(fs:List Tree)(aq:List (List UInt8))(bu:List UInt8->List aC)(h:Hp):Prop where
 a:Bu h tb bu
 l:∀s,(bu s).length<1073741824
 d:lC 0 h c1 fs
 j:yb h c2 aq
 c:fs.length=aq.length
 k:fs.length<4294967296
theorem HP.bc{p aG tb:Nat}{c0 c1 c2 c8 fs aq bu}{h':Hp}{M:Nat->Prop}(x:HP p aG tb c0 c1 c2 c8 fs aq bu h)(g:Wf p M h h')(s:∀i,M i->i≠tb/\∀el rw r f,h.ab i≠.b el rw r 0 f):HP p aG tb c0 c1 c2 c8 fs aq bu h':=by
 have key:∀i o,h.ab i=o->jN o=false->¬M i->¬uw o->h'.ab i=o:=λi o e z y B=>by rw[g.ab i (Hp.lt e z) y qaa];omega
 have nf:NF 0 h h':=λi r f _ e=>key i _ e rfl (λm=>(s i m).2 _ _ _ _ e) (λ⟨_,_,e⟩=>by grind);obtain⟨L,A,D⟩:=x.a;refine⟨x.a.bc λq C hh=>?_,x.l,x.d.nf nf,λne=>?_,x.c,x.k⟩;rcases hh with rfl|⟨r,f,e⟩;obtain⟨⟨aD,e⟩,_⟩:=A;exact(key _ _ e rfl (λm=>(s _ m).1 rfl) (λ⟨_,_,e⟩=>by grind)).trans e.symm;exact(key _ _ e rfl (λm=>(s _ m).2 _ _ _ _ e) (λ⟨_,_,e⟩=>by grind)).trans e.symm;obtain⟨b,cap,ex,r,t,v,u,w⟩:=x.j ne;exact⟨b,cap,ex,r,t,v,key _ _ u rfl (λm=>(s _ m).2 _ _ _ _ u) (λ⟨_,_,e⟩=>by grind),w⟩
structure uC(p aG tb:Nat)(c0 c1 c2 c8:AV)(h:Hp)(s:Sc):Prop where
 b:∃v,h.ab p=.a 57 (bS c0 c1 c2 s.a (.j aG) (.j tb) c8 v)/\NmL p h v s.b
 a:lX h aG s.c
 c:aG≠tb
theorem aki(S:aA T){p aG tb:Nat}{c0 c1 c2 c8:AV}{fs:List Tree}{aq:List (List UInt8)}{bu:List UInt8->List aC}{s:Sc}(x:HP p aG tb c0 c1 c2 c8 fs aq bu h)(y:uC p aG tb c0 c1 c2 c8 h s)
 (ok:∀t∈fs,fh false t/\rY t) (B:(uB fs aq bu fs 0 s).b.length<1073741824)
 (w:∀h',Wf p (λi=>i=p\/i=aG) h h'->uC p aG tb c0 c1 c2 c8 h' (uB fs aq bu fs 0 s)->k (.a (.o []) h')):aE T (W T) ⟨37⟩ [.a p 0] h k:=by
 rw[aJ S.t37];obtain⟨vv,D,M⟩:=y.b;have A:=Hp.lt D rfl;have z:=y.a.lt;have V:=D;simp only[bS] at V;generalize hL:CC.d l37_0=L;simp(disch:=omega) [V,x.d.pi];subst hL;have kinds:∀(a:Hp)(c:Sc),HP p aG tb c0 c1 c2 c8 fs aq bu a->uC p aG tb c0 c1 c2 c8 a c->∀i,(i=p\/i=aG)->i≠tb/\∀el rw r f,a.ab i≠.b el rw r 0 f:=by rintro a c d y1 i (rfl|rfl);obtain⟨v,D,_⟩:=y1.b;obtain⟨L,⟨⟨aD,e⟩,_⟩,_⟩:=d.a;grind;obtain⟨L,aD,q,_⟩:=y1.a;exact⟨y1.c,λ_ _ _ _ e=>qaa⟩
 have key:∀(ts:List Tree)(j:Nat)(c:Sc)(a:Hp)(f:Fr)(K:aT->Prop),j+ts.length=fs.length->(∀i(hi:i<ts.length),fs[j+i]? =some ts[i])->HP p aG tb c0 c1 c2 c8 fs aq bu a->uC p aG tb c0 c1 c2 c8 a c->a.ab h.a=.a 26 [.a p 0]->p<h.a->aG<h.a->(uB fs aq bu ts j c).b.length<1073741824->
  an 1 f=.a h.a 0->an 8 f=c1->an 9 f=.i fs.length->an 10 f=.i j->(∀f' h',Wf p (λi=>i=p\/i=aG) a h'->uC p aG tb c0 c1 c2 c8 h' (uB fs aq bu ts j c)->K (.a 0 f' h' []))->W T (.d l37_0) f a [] K:=by
  intro ts;induction ts with
  |nil=>
   intro j c a f K hj N d y1 Q A ln B X f8 f9 f10 w;subst hj;rw[aP];exact aU f8 f9 f10 (w _ _ (Wf.cg _) y1)
  |cons t ts ih=>
   intro j c a f K hj N d y1 Q A ln B X f8 f9 f10 w;simp only[atX] at hj;have hfl:=d.k;have C:j<fs.length:=zo;have aY:(j:Int)<fs.length:=zo;have et:fs[j]=t:=by have:=N 0 zm;grind
   obtain⟨OL,P⟩:=ok t qaa;obtain⟨b,cap,ex,r,ff,ec,Z,hr,hn⟩:=d.d.ph qaa;have G:=hn j C;simp only[aue,et] at G;obtain⟨kv,r0,J⟩:=G.il;have lb:=Hp.lt Z rfl;have OF:=Hp.lt Q rfl;rw[aP];refine nA X f8 f9 f10 C aY ec Z r0 J.iU ?_;rw[<-r0];generalize u:((((((a.am _).am _).dT _ _).dT _ _).am _).dT _ _:Hp)=H;have m:ax a H:=by rw[<-u];exact fZ
   have nH:H.a=a.a+1+1+1:=by rw[<-u];simp(disch:=first|exact bh|fail)
   have u1:H.ab a.a=.a 3 [.i j]:=by rw[<-u];simp(disch:=first|exact bh|fail)
   have u3:H.ab (a.a+1+1)=.a 112 [.r ⟨67⟩ [] [.a (a.a+1+1) 0,.a h.a 0,.a a.a 0]]:=by rw[<-u];simp
   clear u;have U9:H.ab h.a=.a 26 [.a p 0]:=(m.f _ OF id).trans Q
   let E:fM:=⟨p,aG,tb,a.a+1+1,h.a,a.a,j,c0,c1,c2,c8,fs,aq,bu⟩
   have g:=d.bc (Wf.of m) (λ_ q=>q.elim);have F:CZ E H:=⟨u3,U9,u1,g.a,g.l,g.d,g.j (Cq (j:=j) (by rw[<-g.c];omega)),C,by rw[<-g.c];omega,by grind[Aq]⟩;obtain⟨v1,fu,K6⟩:=y1.b;have O:EX E H c:=(EX.g0 (E:=E) ⟨⟨v1,fu,K6⟩,y1.a,y1.c⟩ m);obtain⟨L,tm,_⟩:=g.a;have dW:=tm.lt;have pre:gG E H.a H false 0 0 0 [] aX ⟨aX,aX,c⟩ .u .A:=⟨F,O,⟨λ_=>rfl,λe=>by grind⟩,.inl ⟨rfl,rfl,rfl⟩,⟨by grind,by grind,dW⟩⟩;have same:xm E (C3 fs aq bu j):=⟨rfl,rfl,rfl,rfl⟩;have UR:(fU E [] false aX t ⟨aX,aX,c⟩).a.b.length<1073741824:=by rw[HO same];exact auD (ab6 ts (j+1) _) B
   refine akh S E t false [] aX ⟨aX,aX,c⟩ H (ff j) .u .A 0 0 0 H.a _ pre (G.nf (mY m) zl) P OL UR λo p2=>?_;rw[HO same] at p2;obtain⟨g2,U,_⟩:=p2;have l:Wf p (λi=>i=p\/i=aG) H o:=g2.bc λi _ q=>by rcases q with q|q|⟨q,_⟩;grind;grind;grind
   have Y:Wf p (λi=>i=p\/i=aG) a o:=(Wf.of (ah.mr m)).ba l;have y2:uC p aG tb c0 c1 c2 c8 o (fU (C3 fs aq bu j) [] false aX t ⟨aX,aX,c⟩).a:=⟨U.b,U.a,y1.c⟩;have x2:=d.bc Y (kinds a c d y1);have uz:o.ab h.a=.a 26 [.a p 0]:=by rw[l.ab _ zo zo qac];omega
   refine aS f10 C ?_;refine ih (j+1) _ o _ K zo (λi hi=>?_) x2 y2 uz A ln B zA zA zA aa λf' h' I R=>w f' h' (Y.ba I) R;have:=N (i+1) qaa;simp only[auu] at this;rw[show j+1+i=j+(i+1) by omega];exact this
 have g0:ax h (h.am (.a 26 [.a p 0])):=aZ;have y0:uC p aG tb c0 c1 c2 c8 (h.am (.a 26 [.a p 0])) s:=⟨⟨vv,(g0.f _ A id).trans D,M.bc λq hq _=>g0.f q hq id⟩,y.a.bc (g0.f _ z id),y.c⟩;refine key fs 0 s _ _ _ zo (λi hi=>by simp[hi]) (x.bc (Wf.of g0) λ_ q=>q.elim) y0 (Hp.bv rfl) A z B aa aa aa aa λf' h' I R=>?_;refine ag ?_;exact w _ ((Wf.of (ah.mr g0)).ba I) R
end
structure DA(h:Hp)(q r n:Nat)(t:Nat->List AV):Prop where
 a:h.ab q=.b 35 5 r 0 t
 c:n<=r
 b:∀j,j<n->∃d:aC,t j=d.fj
def Pm(n:Nat)(t t':Nat->List AV):Prop:=(dw t' n 0).Perm (dw t n 0)
def DA.bc{h h':Hp}{q r n:Nat}{t:Nat->List AV}(x:DA h q r n t)(e:h'.ab q=h.ab q):DA h' q r n t:=⟨e.trans x.a,x.c,x.b⟩
def DA.lt{h:Hp}{q r n:Nat}{t:Nat->List AV}(x:DA h q r n t):q<h.a:=Hp.lt x.a rfl
section
variable {k:aK->Prop}{q r n:Nat}{t:Nat->List AV}{cap:Nat}{ex:Bool}
def cfD(d e:aC):Int:=Bo [xj d.c e.c,xj d.f e.f]
def uD(a:aGk T){d e:aC}(b:∀h',ax h h'->k (.a (.i (cfD d e)) h')):aE T (W T) ⟨102⟩ [.p d.fj,.p e.fj] h k:=by
 rw[aJ a.a];simp only[aC.fj];refine ag ?_;refine Oz a ?_;refine ag ?_;refine Oz a ?_;refine ag ?_;refine abz a (L:=[xj d.c e.c,xj d.f e.f]) (Hp.bv rfl) zm (λj hj=>?_) zm ?_;exact match j,hj with
 |0,_=>rfl
 |1,_=>rfl
 refine ag ?_;exact b _ aZ
def SK(h:Hp)(q r n:Nat)(t:Nat->List AV)(k:aK->Prop)(v:AV):Prop:=∀h' t',ah (·=q) h h'->DA h' q r n t'->Pm n t t'->k (.a v h')
def ak7(b:aA T)(x:DA h q r n t)(g:n<1073741824)(f:SK h q r n t k (.o [])):aE T (W T) ⟨101⟩ [.c q 0 5 n cap ex,.r ⟨102⟩ [] []] h k:=by unfold aE;rw[b.t101];show aFm 1 [.c q 0 5 n cap ex,.r ⟨102⟩ [] []] h k;refine⟨r,t,x.a,x.c,g,λj hj=>?_,λt' e p=>f _ t' (ah.dT (M:=(·=q)) (ah.cg _) _ (.inr rfl)) ⟨Hp.fp rfl,x.c,λj hj=>?_⟩ p⟩;obtain⟨d,e⟩:=x.b j hj;exact⟨_,_,_,_,_,e⟩;have m:t' j∈dw t' n 0:=aua (i:=j) (by rw[vw t' n 0 j hj,aue]);obtain⟨i,hi,e⟩:=avC (p.mem_iff.1 m);rw[oZ] at hi;have a:=vw t n 0 i hi;rw[aue,atT (by rw[oZ];exact hi),e] at a;obtain⟨d,c⟩:=x.b i hi;exact⟨d,(auQ a).trans c⟩
def aML(a:aA T)(b:k (.a (.o []) h)):aE T (W T) ⟨101⟩ [.h,.r ⟨102⟩ [] []] h k:=by unfold aE;rw[a.t101];exact b
end
end Yv
namespace Go.Proofs
open Go.Shelf
def aMN:Ren where
 f:=fun
  |6=>101
  |14=>129
  |15=>130
  |20=>154
  |21=>155
  |22=>156
  |23=>157
  |24=>158
  |25=>159
  |26=>160
  |27=>161
  |28=>162
  |29=>163
  |46=>183
  |47=>184
  |48=>185
  |49=>186
  |50=>187
  |57=>201
  |n=>n
 t:=fun
  |22=>106
  |24=>35
  |25=>147
  |39=>152
  |45=>206
  |46=>207
  |50=>211
  |53=>156
  |55=>215
  |66=>236
  |70=>240
  |76=>253
  |77=>126
  |n=>n
 g:=λn=>n
theorem brs{n:Nat}{f B:Func}(h:Tryz.prog.funcs[n]? =some f)(e:{B with name:=f.name}=f)(g:(f.name== "runtime.NumGoroutine")=false):Bears Tryz.prog n B:=⟨f.name,g,by grind⟩
def aKb:SlLaysF0.n6 Tryz.prog aMN:={aIN with
 f6:=brs Tryz.func101 (by rfl) (by rfl)
 f14:=brs Tryz.func129 (by rfl) (by rfl)
 f15:=Tryz.func130.trans (by rfl)
 f20:=brs Tryz.func154 (by rfl) (by rfl)
 f21:=brs Tryz.func155 (by rfl) (by rfl)
 f22:=brs Tryz.func156 (by rfl) (by rfl)
 f23:=brs Tryz.func157 (by rfl) (by rfl)
 f24:=brs Tryz.func158 (by rfl) (by rfl)
 f25:=brs Tryz.func159 (by rfl) (by rfl)
 f26:=brs Tryz.func160 (by rfl) (by rfl)
 f27:=brs Tryz.func161 (by rfl) (by rfl)
 f28:=Tryz.func162.trans (by rfl)
 f29:=Tryz.func163.trans (by rfl)
 f46:=brs Tryz.func183 (by rfl) (by rfl)
 f47:=Tryz.func184.trans (by rfl)
 f48:=Tryz.func185.trans (by rfl)
 f49:=brs Tryz.func186 (by rfl) (by rfl)
 f50:=brs Tryz.func187 (by rfl) (by rfl)
 f57:=brs Tryz.func201 (by rfl) (by rfl)
 t22:=Tryz.underlying106
 a22:=Tryz.isAgg106
 z22:=Tryz.sizeOf106
 v22:=Tryz.zeroValue106
 t25:=Tryz.underlying147
 a25:=Tryz.isAgg147
 z25:=Tryz.sizeOf147
 v25:=Tryz.zeroValue147
 t39:=Tryz.underlying152
 a39:=Tryz.isAgg152
 z39:=Tryz.sizeOf152
 v39:=Tryz.zeroValue152
 t45:=Tryz.underlying206
 a45:=Tryz.isAgg206
 z45:=Tryz.sizeOf206
 v45:=Tryz.zeroValue206
 t46:=Tryz.underlying207
 a46:=Tryz.isAgg207
 z46:=Tryz.sizeOf207
 v46:=Tryz.zeroValue207
 t50:=Tryz.underlying211
 a50:=Tryz.isAgg211
 z50:=Tryz.sizeOf211
 v50:=Tryz.zeroValue211
 t53:=Tryz.underlying156
 a53:=Tryz.isAgg156
 z53:=Tryz.sizeOf156
 v53:=Tryz.zeroValue156
 t55:=Tryz.underlying215
 a55:=Tryz.isAgg215
 z55:=Tryz.sizeOf215
 v55:=Tryz.zeroValue215
 t66:=Tryz.underlying236
 a66:=Tryz.isAgg236
 z66:=Tryz.sizeOf236
 v66:=Tryz.zeroValue236
 t70:=Tryz.underlying240
 a70:=Tryz.isAgg240
 z70:=Tryz.sizeOf240
 v70:=Tryz.zeroValue240
 t76:=Tryz.underlying253
 a76:=Tryz.isAgg253
 z76:=Tryz.sizeOf253
 v76:=Tryz.zeroValue253
 t77:=Tryz.underlying126
 a77:=Tryz.isAgg126
 z77:=Tryz.sizeOf126
 v77:=Tryz.zeroValue126}
end Go.Proofs
namespace Yv
open Go Go.Proofs Go.Sort
def jP(l:List CF):Prop:=l.map (λc=>(Ge Tryz.prog c.b).map λx=>(x.a,x.c))=l.map λc=>some (c.a,c.c)
def agV{l:List CF}(h:jP l):∀c∈l,∃a,Ge Tryz.prog c.b=some a/\a.a=c.a/\a.c=c.c:=by intro p b;obtain⟨i,hi⟩:=aum b;have d:=aui (·[i]?) h;simp_all
noncomputable section
def tbC:List CF:=[cf59,cf60,cf98,cf102]
def gbC:jP tbC:=by rfl
def aKc(i:aM):Option CF:=tbC.find? λc=>c.b==i.n
def aMO:aGk aKc:=⟨rfl,rfl,rfl,rfl⟩
def aMP:Ed Tryz.prog aKc:=by
 intro i c h;have a:c.b=i.n:=by simpa using List.find?_some h
 rw[<-a];exact⟨λ_=>agV gbC c (avP h),λn=>absurd rfl n⟩
def ZN:Tryz.prog.follows .mixedOrders=true:=by rfl
theorem aGH(φ:aH)(l:List UInt8):aj φ (S l) (.string ⟨l.toArray⟩):=by unfold S;simp[aj];have h:=MW ⟨l.toArray⟩ (l.map (·.toNat)) zm;grind
def aKd{φ:aH}{l:List UInt8}{v:Value}(h:aj φ (S l) v):v=.string ⟨l.toArray⟩:=by obtain⟨s,rfl,g⟩:=h;obtain⟨s',e,c⟩:=aGH φ l;cases e;have d:=(axz (f:=UInt8.toNat) (λa b h=>UInt8.toNat_inj.1 h)).1 (g.1.trans c.1.symm);exact aui Value.string (ByteArray.ext (axK d))
def aEJ(d:aC):List Value:=[.int .i64 d.b,.string ⟨d.a.toArray⟩,.int .i64 d.c,.int .i64 d.f,.string ⟨d.g.toArray⟩]
def aHn(d:aC):∀v∈aEJ d,v.oneCell'=true:=λv a=>by simp[aEJ,atZ,awg,axx] at a;rcases a with rfl|rfl|rfl|rfl|rfl<;>rfl
def aKe(φ:aH)(d:aC):z7 φ d.fj (aEJ d):=by exact qS.2 ⟨by rfl,qS.2 ⟨aGH φ _,qS.2 ⟨by rfl,qS.2 ⟨by rfl,qS.2 ⟨aGH φ _,sJ⟩⟩⟩⟩⟩
def aHo:Hp:=⟨λi=>if i<19 then .c else .g,19,[],λi hi=>if_neg zo⟩
noncomputable def aHp:aH where
 f:=(·<19)
 a:=id
 c:=λ_=>0
 g:=λ_=>0
 m:=λ_=>default
 k:=Tryz.prog
def aIO(i:Nat):¬dH (aHo.ab i)=true:=by show¬dH (if i<19 then .c else .g)=true;split<;>simp[dH]
def aMQ(W:World):R aHp aHo W where
 k:=λi=>by show i<19 <-> jN (if i<19 then .c else .g)=false;split<;>simp[jN, *]
 f:=λi=>by show kM _ _ _ (if i<19 then .c else .g);split<;>trivial
 inj:=λi j h=>absurd h (aIO i)
 l:=λi h=>absurd h (aIO i)
theorem aMR(x y:aC)(W:World):Calls Tryz.prog 102 #[.agg (aEJ x).toArray,.agg (aEJ y).toArray] W λe w'=>e=.returned (.int .i64 (cfD x y))/\∃q a,w'=grow (W.drewN q) a:=by
 have g:jq aHp Tryz.prog:=⟨rfl,λg f _=>⟨aQb f (by rfl),rfl,rfl⟩⟩;have hd:z7 aHp [.p x.fj,.p y.fj] [.agg (aEJ x).toArray,.agg (aEJ y).toArray]:=by exact qS.2 ⟨⟨_,rfl,aKe _ x,aHn x⟩,qS.2 ⟨⟨_,rfl,aKe _ y,aHn y⟩,sJ⟩⟩
 obtain⟨_,h⟩:=aoc aMP ZN ⟨102⟩ [.p x.fj,.p y.fj] aHo (λco=>∃h',co=.a (.i (cfD x y)) h') (.a .B aHo) aHp W #[.agg (aEJ x).toArray,.agg (aEJ y).toArray] (uD aMO λh' _=>⟨h',rfl⟩) (aMQ W) g hd;refine h.mono λe w' k=>?_;obtain⟨co,⟨h',rfl⟩,ψ,u,rfl,l,m,st⟩:=k;simp only[aj] at l;refine⟨by grind,w'.drawn- W.drawn,w'.heap.extract W.heap.size w'.heap.size,?_⟩;have dr:=st.m.b;have hh:w'.heap=W.heap++w'.heap.extract W.heap.size w'.heap.size:=by apply aEo;intro i;rcases avh i W.heap.size with hi|hi;rw[avI hi];exact st.f i hi λj hj=>absurd hj (aIO j);grind
 have b:=st.p;have c:=st.d;have d:=st.m.a
 cases w';cases W;simp only[grow,World.drewN] at*;subst b c d;congr 1;omega
theorem aMS{a b:Int}:xj a b=-1/\a<b\/xj a b=1/\b<a\/xj a b=0/\a=b:=by grind[xj]
theorem aIP(d e:aC):ltOf cfD d e=decide (d.c<e.c\/d.c=e.c/\d.f<e.f):=by grind[ltOf,cfD,Bo,aMS,List.dropWhile]
theorem aMT:SWO (ltOf cfD) where
 irrefl x:=by rw[aIP];simp
 trans x y z a b:=by grind[aIP]
 ntrans x y z a b:=by grind[aIP]
instance :Inhabited aC:=⟨qG⟩
def aIQ{φ:aH}{d:aC}{c:Nat}{a:AV}(b:d.fj[c]? =some a):∃v,(aEJ d)[c]? =some v/\aj φ a v/\∀u,aj φ a u->u=v:=by
 match c with
 |0|2|3=>cases b;exact⟨_,rfl,by rfl,λu h=>by simpa only[aj] using h⟩
 |1|4=>cases b;exact⟨_,rfl,aGH φ _,λu h=>aKd h⟩
 |n+5=>simp[aC.fj] at b
def aKf(d:aC){c:Nat}(b:c<5):∃a,d.fj[c]? =some a:=⟨_,atT (show c<d.fj.length from b)⟩
theorem aIR{d:Array aC}{j:Nat}{v:Value}(hj:j<d.size*5)(h:(aEJ d[j/5]!)[j% 5]? =some v):(Sort.flatK aEJ 5 d)[j]! =v:=by grind[get_flatK]
theorem aMU:aHi Tryz.prog 1 101:=by
 intro args h k φ w vs hd r g M;refine⟨enters_of Tryz.func101 (by rfl) rfl,?_⟩;have F:∀(p:Option Addr)(cap:Nat),vs=#[.slice p 0 cap,.func (.func 102) #[] #[]]->(∃h',k (.a (.o []) h')/\∀i,h'.ab i=h.ab i)->Calls Tryz.prog 101 vs w λe w'=>∃co,k co/\Nw ⟨φ,h,w⟩ co e w':=by rintro p cap rfl ⟨h',J,e⟩;refine(AnyF.slices_SortFunc_none aKb p cap (.func (.func 102) #[] #[]) w).mono ?_;rintro en w' ⟨rfl,rfl⟩;exact⟨_,J,φ,_,rfl,by exact⟨_,rfl,sJ⟩,r.AC e,(eS.cg φ h w').AC e⟩
 unfold aFm at hd;split at hd;obtain⟨_,_,N,rfl,_,_,rfl,⟨fs,cs,rfl,H,I⟩,rfl⟩:=M;obtain rfl:fs=#[]:=axK H;obtain rfl:cs=#[]:=axK I;exact F none 0 (axK N) ⟨h,hd,λ_=>rfl⟩;rename_i q n _ _ _;obtain⟨E,t,hq,JW,hn,O,J⟩:=hd;simp only[z7,aj] at M;obtain⟨_,_,N,⟨dq,a,S,rfl,hc1,eZ,_,o⟩,_,_,rfl,⟨fs,cs,rfl,H,I⟩,rfl⟩:=M;obtain rfl:fs=#[]:=axK H;obtain rfl:cs=#[]:=axK I;have B:vs=#[.slice (some a) n S,.func (.func 102) #[] #[]]:=axK N;rcases auP n with rfl|mO;exact F (some a) S B ⟨_,J t (λ_ _=>rfl) (.refl _),λi=>by grind[Hp.lj]⟩;obtain⟨rfl,_⟩:=o zo;rw[aud] at B;subst B;have P:∀j,∃d:aC,j<n->t j=d.fj:=λj=>by by_cases hj:j<n;obtain⟨a,s,b,c,u,e⟩:=O j hj;exact⟨⟨a,s,b,c,u⟩,λ_=>e⟩;exact⟨qG,λc=>absurd c hj⟩
 obtain⟨D,hD⟩:=Classical.axiomOfChoice P;have l:((Array.range n).map D).size=n:=by simp
 have Y:∀j,j<n->((Array.range n).map D)[j]! =D j:=λj hj=>by grind
 generalize(Array.range n).map D=d at l Y;have L:=r.f q;rw[hq] at L;obtain⟨A,U,W,b2,R,X,b5,b6⟩:=L.b;have R:φ.c q+E*5<=A.size:=R;have ao:φ.a q<w.heap.size:=(auc.1 W).1;have hH:HoldsK aEJ 5 w (φ.a q) (φ.c q) d:=λj hj=>by
  rw[size_flatK,l] at hj;obtain⟨a,T⟩:=aKf (D (j/5)) (c:=j% 5) zo;obtain⟨v,ev,_,uv⟩:=aIQ (φ:=φ) T;obtain⟨u,eu,du⟩:=X j a (by show(if j<E*5 then(t (j/5))[j% 5]? else none)=_;grind)
  grind[aIR,World.cell?,World.frozen?,AO.fz]
 have z:=AnyQ.slices_SortFunc aKb 5 Tryz.isAgg35 Tryz.sizeOf35 aEJ (λ_=>rfl) aHn cfD aMT 102 #[] (φ.a q) (φ.c q) S d w (enters_of Tryz.func102 (by rfl) rfl) (λm os dk _ x y=>by simpa using aMR x y _) hH ao zo;rw[l] at z;refine z.mono ?_;rintro en w' ⟨rfl,f,m,os,⟨ps,_,pp⟩,_,rfl⟩;rw[l] at ps;have ex:∀x:Array aC,x.size=n->x.extract 0 n=x:=λx e=>by grind
 rw[ex _ ps,ex _ l] at pp;have Q:w.heap[φ.a q]? =some (.cells A 35 U):=W;have V:(putRowK aEJ 5 (Sort.ahead w m) (φ.a q) (φ.c q) f).heap[φ.a q]? =some (.cells (putCells id (φ.c q) (Sort.flatK aEJ 5 f) A) 35 U):=by show(w.heap.modify _ _)[_]? =_;rw[av3,if_pos rfl,Q];rfl
 have C:(putCells id (φ.c q) (Sort.flatK aEJ 5 f) A).size=A.size:=by simp[putCells]
 have G:∀j,(putCells id (φ.c q) (Sort.flatK aEJ 5 f) A)[j]? =if φ.c q<=j/\j<φ.c q+n*5 then A[j]?.map λ_=>(Sort.flatK aEJ 5 f)[j- φ.c q]! else A[j]? :=λj=>by grind[putCells,size_flatK]
 obtain⟨r2,s2⟩:=JC (h':=h.dT q (.b 35 5 E 0 λj=>if j<n then f[j]!.fj else t j)) (w':=putRowK aEJ 5 (Sort.ahead w m) (φ.a q) (φ.c q) f) (i:=q) (o':=.b 35 5 E 0 λj=>if j<n then f[j]!.fj else t j) r (by rw[hq];rfl) rfl (λj=>Hp.lj _ _ _ _)
  (by simp_all[putRowK]) (λc hc=>by simp_all[putRowK,putRow,mapBlock,av3,Ne.symm])
  ⟨⟨by simp,L.g.2.1,λj hj=>by
   show(if j<n then f[j]!.fj else t j).length=5;split;rfl;exact L.g.2.2 j hj⟩,λe=>(by cases e),λe=>(by cases e),_,U,V,C.trans b2,by rw[C];exact R,λj a o=>(by
   have o:(if j<E*5 then(if j/5<n then f[j/5]!.fj else t (j/5))[j% 5]? else none)=some a:=o;rw[G];split at o;rename_i hj;by_cases c:j/5<n;rw[if_pos c] at o;obtain⟨v,ev,dv,_⟩:=aIQ (φ:=φ) o;rw[if_pos zo,aP8,aIR zo ev,au7 zo];exact⟨v,rfl,dv⟩;rw[if_neg c] at o;rw[if_neg zo];exact X j a (by show(if j<E*5 then(t (j/5))[j% 5]? else none)=_;rw[if_pos hj];exact o);cases o),λj v K=>(by
   rw[G] at K;split at K;obtain⟨_,_,rfl⟩:=au'.1 K;obtain⟨a,T⟩:=aKf f[(j- φ.c q)/5]! (c:=(j- φ.c q)% 5) zo;obtain⟨v,ev,_⟩:=aIQ (φ:=φ) T;rw[aIR zo ev];exact aHn _ _ (aua ev);exact b5 j v K),λj H I h3=>b6 j H I (by rw[C] at h3;exact h3)⟩
  (λj ek m' aD todo eC _ _ e aW fQ he=>by rw[e,V] at he;cases he) rfl rfl rfl (aEg _ _)
 have Z:Ww (putRowK aEJ 5 (Sort.ahead w m) (φ.a q) (φ.c q) f) (sortWorldK aEJ 5 w (φ.a q) (φ.c q) m f os):=⟨by simp[sortWorldK,grow],λc hc=>by simp[sortWorldK,grow,avI hc],rfl,rfl,rfl,at2 _⟩;refine⟨_,J (λj=>if j<n then f[j]!.fj else t j) (λj hj=>if_neg zo) ?_,φ,_,rfl,by simp only[aj];exact⟨_,rfl,sJ⟩,r2.ext Z,s2.ba (eS.ext Z)⟩;have key:∀(x:Array aC)(u:Nat->List AV),x.size=n->(∀j,j<n->u j=x[j]!.fj)->dw u n 0=x.toList.map aC.fj:=λx u hx hu=>by apply avs;intro j;by_cases hj:j<n;rw[vw u n 0 j hj,aue,hu j hj,auh,at5,axe x j zo,au7 zo];rfl;rw[auI (by rw[oZ];omega),auI zn]
 rw[key f _ ps λj hj=>if_pos hj,key d t l λj hj=>by rw[hD j hj,Y j hj]];exact pp.map _;omega;omega;exact hd.elim
end
end Yv
namespace Yv
variable {D:Nat->Nat}{dp:Int}{h:Hp}{i s:Nat}{ng tr:Bool}
variable {T:aM->Option CF}
section
open Go Go.Proofs
theorem aMW:aHi Tryz.prog 2 44:=by
 intro args h k φ w vs hd r g m;refine⟨enters_of Tryz.func44 qab rfl,?_⟩;unfold aFm at hd;split at hd;omega;omega;rename_i l n _ _;obtain⟨s,e,A,J,I,⟨t,E,D⟩,C⟩:=hd;rw[e] at m;obtain⟨_,_,q,h0,rfl⟩:=m;obtain rfl:=aKd h0;obtain rfl:vs=#[.string ⟨s.toArray⟩]:=axK q;have y:∀c:Nat,c<256->w.cell? ⟨1,c,none⟩=some (.int .u8 (if Lib.isSp (UInt8.ofNat c) then 1 else 0)):=λc i=>by have d:=D (UInt8.ofNat c);rw[UInt8.toNat_ofNat_of_lt' (show c<2^8 from i)] at d;obtain⟨M,_,F,_,a⟩:=YA (n:=1) (off:=c) r (by rw[E,sY i,d];rfl);obtain⟨u,_,rfl,rfl,rfl⟩:=F;have K:=a 0 _ rfl;obtain⟨_,d,o⟩:=g.2 1 (aQb (by simp:1<19) qab) zm;have d:φ.a 1=1:=d;have o:φ.c 1=0:=o;grind
 refine(Any.strings_Fields_core aIN qab ⟨s.toArray⟩ w (by show s.length<_;omega) (λj b B=>A b (aua B)) y).mono ?_;rintro H w' ⟨rfl,rfl⟩;generalize Lib.fields s=L at*;obtain⟨G,st⟩:=MT (h':=h.am (.b 9 1 L.length 0 λj=>[S (L.getD j [])])) (w':=w.alloc (.cells (L.map λl=>Value.string ⟨l.toArray⟩).toArray 9)) (n:=h.a) (b:=w.heap.size) (s:=0) (z:=(L.map λl=>Value.string ⟨l.toArray⟩).toArray.size) (qv:=none) r h.ui rfl zm
  (λj=>by rw[Hp.ma];rfl) (.inl rfl) zm zm (λc i _=>by grind[World.alloc]) (λ_ _=>.inr rfl)
  (JR (n:=h.a) (o':=.b 9 1 L.length 0 λj=>[S (L.getD j [])]) ⟨by simp,by omega,λ_ _=>rfl⟩ rfl ⟨by show L.length*1<=_;simp,λe=>by cases e⟩ (λj x f=>by
   have f:(if j<L.length*1 then[S (L.getD (j/1) [])][j% 1]? else none)=some x:=f;rw[axu,axW,axV] at f;split at f;rename_i hj;cases f;simp_all[aGH];grind) (λj v p=>by
   simp at p;obtain⟨_,_,rfl⟩:=p;rfl)) rfl rfl rfl
 refine⟨_,C,_,_,rfl,?_,G,st⟩;exact⟨.inl rfl,_,L.length,rfl,at2 _,at2 _,λ_=>rfl,λ_=>⟨by simp[aH.iL],by simp[aH.iL]⟩⟩;omega;exact hd.elim
end
section
open Go (IntKind)
variable {k:aK->Prop}{s:List UInt8}
def KR(c:UInt8):Prop:=kh c=true\/c=46\/c=101\/c=43\/c=45
structure qa(s:List UInt8):Prop where
 d:s≠[]
 b:kh (s.headD 0)=true
 a:∀c∈s,KR c
def Oh:∀{s:List UInt8},∀c∈s.take (jS s),kh c=true
 |[],c,h=>by simp at h
 |a::s,c,h=>by unfold jS at h;by_cases e:kh a=true;rw[avL e,atX,awj] at h;rcases atZ.1 h with q|q;rw[q];exact e;exact Oh c q;rw[awb e] at h;simp at h
def aa4(e:jS s=s.length):∀c∈s,kh c=true:=by have:=@Oh s;rwa[e,List.take_length] at this
def aiU{c:UInt8}(h:(iz s c).2.2 =true):s=(iz s c).1 ++c::(iz s c).2.1 :=by unfold iz at h|-;split at h;rename_i a;rw[if_pos a];have i:=avD a;have e:s[s.idxOf c]=c:=List.getElem_idxOf i;have:=av6 (s.idxOf c) s;rw[aut i,e] at this;exact this.symm;simp at h
def aa5{a rest p q:List UInt8}(e:s=a++46::rest)(b:Ag a=true)(er:rest=p++q)(g:∀c∈p,kh c=true) (i:∀c∈q,KR c):qa s:=by
 simp only[Ag,atW,auU] at b;have d:=aa4 b.1.2;subst e er;refine⟨by simp,?_,λc f=>?_⟩;cases a with
 |nil=>exact absurd rfl b.1.1
 |cons x a=>exact d x zm
 rcases auj.1 f with m|m;exact .inl (d c m);rcases atZ.1 m with m|m;exact .inr (.inl m);rcases auj.1 m with m|m;exact .inl (g c m);exact i c m
def ff{P:Prop}:false=true->P:=nofun
def aiV(n:aA T)(U:s.length<1073741824)(i:∀b,(b=true->qa s)->k (.a (.g b) h)):aE T (W T) ⟨117⟩ [S s] h k:=by
 rw[aJ n.t117];generalize O:aIh=Q;refine ag ?_;refine Th n zo ?_;refine ag ?_;cases w:(iz s 46).2.2 with
 |false=>refine ag ?_;exact i _ ff
 |true=>
  have o:=aiU w;have le:s.length=(iz s 46).1.length+1+(iz s 46).2.1.length:=by
   conv=>lhs;rw[o]
   simp;omega
  generalize(iz s 46).1 =a at o le|-;generalize(iz s 46).2.1 =rest at o le|-;refine ag ?_;refine aaZ n zo ?_;cases D:Ag a with
  |false=>refine ag ?_;exact i _ ff
  |true=>
   subst O;unfold aIh zt;generalize H:aIg=R;refine ag ?_;refine Uc n zo ?_;have X:=@aiM rest;by_cases E:jS rest=0;refine aB E ?_;exact i _ ff;have A:¬((jS rest:Nat):Int)=0:=zo;subst H;unfold aIg zt;generalize F:aIf=P;refine aS E A ?_;refine Tg n zn ?_;have hd:=av6 (jS rest) rest;cases l:w9 (rest.drop (jS rest)) [101] with
   |false=>
    refine ag ?_;by_cases e:jS rest=rest.length;refine aB e ?_;exact i _ λ_=>aa5 o D hd.symm Oh λc g=>by rw[e,List.drop_length] at g;cases g
    have J:¬((jS rest:Nat):Int)=rest.length:=zo;refine aS e J ?_;exact i _ ff
   |true=>
    subst F;unfold aIf zt;generalize I:aJN=G;have M:∃pw,rest.drop (jS rest)=101::pw:=by
     generalize rest.drop (jS rest)=z at l
     match z,l with
     |[],l=>simp[w9] at l
     |c::z,l=>simp[w9] at l;exact⟨z,by rw[l]⟩
    obtain⟨pw,ex⟩:=M;rw[ex];have N:pw.length<1073741824:=by have:=aui List.length ex;simp at this;omega
    have r:∀(d:List UInt8)(f:Fr),d.length<1073741824->an 7 f=S d->(jS d=d.length->qa s)->W T G f h [] (finish T (W T) [.a 2] k):=by intro d f V f7 hh;subst I;by_cases c1:d=[];subst c1;refine aB f7 ?_;exact i _ ff;by_cases c2:d.length<=3;have j:(d.length:Int)<=3:=zo;refine bK f7 c1 c2 j ?_;refine Uc n zo ?_;by_cases c3:jS d=d.length;refine aS f7 c3 ?_;exact i _ λ_=>hh c3;have v:¬((jS d:Nat):Int)=d.length:=zo;refine aU f7 c3 v ?_;exact i _ ff;have j:¬(d.length:Int)<=3:=zo;refine bK f7 c1 c2 j ?_;exact i _ ff
    have p:∀(y d:List UInt8),101::pw=y++d->(∀c∈y,KR c)->jS d=d.length->qa s:=λy d e K L=>
     aa5 o D hd.symm Oh λc g=>by rw[ex,e] at g;rcases auj.1 g with m|m;exact K c m;exact .inl (aa4 L c m)
    cases pw with
    |nil=>
     refine ag ?_;exact r [] _ zm aa λ_=>p [101] [] rfl (λc g=>by simp at g;exact .inr (.inr (.inl g))) rfl
    |cons x pw=>
     simp only[atX] at N;have sl:wh (S (x::pw)) (some (.i 1)) none=.v (S pw):=by rw[ahb zd zn];rfl
     by_cases t:x=43;subst t;have t:=rfl (a:=(43:UInt8));refine aB sl ?_;exact r pw _ zo aa λq=>p [101,43] pw (by rw[t];rfl) (λc g=>by simp at g;rcases g with c|c;exact .inr (.inr (.inl c));exact .inr (.inr (.inr (.inl c)))) q;by_cases u:x=45;subst u;have u:=rfl (a:=(45:UInt8));refine aB sl ?_;exact r pw _ zo aa λq=>p [101,45] pw (by rw[u];rfl) (λc g=>by simp at g;rcases g with c|c;exact .inr (.inr (.inl c));exact .inr (.inr (.inr (.inr c)))) q;have B:¬x.toNat=43:=λe=>t (UInt8.toNat_inj.1 e);have C:¬x.toNat=45:=λe=>u (UInt8.toNat_inj.1 e);refine aS B C ?_;exact r (x::pw) _ zn aa λq=>p [101] (x::pw) rfl (λc g=>by simp at g;exact .inr (.inr (.inl g))) q
end
section
open Go (IntKind)
def kO(D:Nat->Nat)(nd dp:Int)(ng tr:Bool):List AV:=(List.range 800).map (λi=>.s (D i))++[.i nd,.i dp,.g ng,.g tr]
section
variable {nd:Int}{v:AV}
def EH{c:Type}{x:c}:∀{l:List c}{i:Nat},l[i]? =some x->gK 1 (kH i l)=some [x]
 |[],i,h=>by simp at h
 |a::l,0,h=>by simp at h;subst h;rfl
 |a::l,i+1,h=>EH (l:=l) (by simpa using h)
def Ud{c:Type}{x:c}:∀{l:List c}{i:Nat},i<l.length->mK i [x] l=some (l.set i x)
 |[],i,h=>by simp at h
 |a::l,0,_=>rfl
 |a::l,i+1,h=>by show(match mK i [x] l with|some d=>some (a::d)|none=>none)=_;rw[Ud (by simpa using h)];rfl
def HC(hi:i<800):(kO D nd dp ng tr)[i]? =some (.s (D i)):=by unfold kO;rw[aun (by simp;exact hi)];simp[hi]
def CQ(j:Nat):(kO D nd dp ng tr)[800+j]? =[AV.i nd,.i dp,.g ng,.g tr][j]? :=by unfold kO;rw[auq zm];simp
@[simp] def asV(hi:i<800):gK 1 (kH i (kO D nd dp ng tr))=some [.s (D i)]:=EH (HC hi)
@[simp] def asW:gK 1 (kO D nd dp ng tr)=some [.s (D 0)]:=EH (i:=0) (HC zd)
@[simp] def asX:gK 1 (kH 800 (kO D nd dp ng tr))=some [.i nd]:=EH (CQ 0)
@[simp] def asY:gK 1 (kH 801 (kO D nd dp ng tr))=some [.i dp]:=EH (CQ 1)
@[simp] def asZ:gK 1 (kH 802 (kO D nd dp ng tr))=some [.g ng]:=EH (CQ 2)
@[simp] def as0:gK 1 (kH 803 (kO D nd dp ng tr))=some [.g tr]:=EH (CQ 3)
def KU:(kO D nd dp ng tr).length=804:=by simp[kO]
def qb(D:Nat->Nat)(i v:Nat):Nat->Nat:=λj=>if j=i then v else D j
@[simp] def as1{u:Nat}(hi:i<800):mK i [.s u] (kO D nd dp ng tr)=some (kO (qb D i u) nd dp ng tr):=by rw[Ud (by rw[KU];omega)];refine aui some (avs λj=>?_);rw[awt,KU,if_pos (by omega:i<804)];rcases avh j 800 with c|c;rw[HC c,HC c,qb];by_cases e:i=j;rw[if_pos e,if_pos e.symm];rw[if_neg e,if_neg (Ne.symm e)];obtain⟨q,rfl⟩:=awp c;rw[CQ,CQ,if_neg zo]
def Oj{D:Nat->Nat}{nd dp a f:Int}{ng tr g d:Bool}{q:Nat}(l:q<4)(h:∀j,[AV.i a,.i f,.g g,.g d][j]? =if q=j then some v else[AV.i nd,.i dp,.g ng,.g tr][j]?):mK (800+q) [v] (kO D nd dp ng tr)=some (kO D a f g d):=by rw[Ud (by rw[KU];omega)];refine aui some (avs λj=>?_);rw[awt,KU,if_pos (by omega:800+q<804)];rcases avh j 800 with c|c;rw[HC c,HC c,if_neg zo];obtain⟨j,rfl⟩:=awp c;rw[CQ,CQ,h j];by_cases e:q=j;rw[if_pos zo,if_pos e];rw[if_neg zo,if_neg e]
def aau{P:Nat->Prop}(h:∀j,j<4->P j) (a:∀j,P (j+4)):∀j,P j:=λj=>by rcases avh j 4 with c|c;exact h j c;obtain⟨q,rfl⟩:=awp c;rw[awR];exact a q
@[simp] def as2{n:Int}:mK 800 [.i n] (kO D nd dp ng tr)=some (kO D n dp ng tr):=
 Oj (q:=0) zd λj=>by match j with|0=>rfl|1=>rfl|2=>rfl|3=>rfl|_+4=>rfl
@[simp] def as3{n:Int}:mK 801 [.i n] (kO D nd dp ng tr)=some (kO D nd n ng tr):=
 Oj (q:=1) zd λj=>by match j with|0=>rfl|1=>rfl|2=>rfl|3=>rfl|_+4=>rfl
@[simp] def as4{n:Bool}:mK 802 [.g n] (kO D nd dp ng tr)=some (kO D nd dp n tr):=
 Oj (q:=2) zd λj=>by match j with|0=>rfl|1=>rfl|2=>rfl|3=>rfl|_+4=>rfl
@[simp] def as5{n:Bool}:mK 803 [.g n] (kO D nd dp ng tr)=some (kO D nd dp ng n):=
 Oj (q:=3) zd λj=>by match j with|0=>rfl|1=>rfl|2=>rfl|3=>rfl|_+4=>rfl
end
section
variable {k:aK->Prop}{b nd:Nat}
@[simp] def as6{b:Nat}{a:Int}(h0:0<=a)(c:a<800):yY 1 800 (.a b 0) (.i a)=.v (.a b a.toNat):=by obtain⟨q,rfl⟩:=at6 h0;have c:q+1<=800:=zo;simp[yY,c]
def bM(h:Hp)(b:Nat)(D:Nat->Nat)(nd:Nat)(dp:Int)(ng tr:Bool):Prop:=h.ab b=.a 274 (kO D nd dp ng tr)
def aa6(C:aA T)(x:bM h b D nd dp ng tr)(G:nd<=800)(u:∀h' o,ah (·=b) h h'->bM h' b D o (if o=0 then 0 else dp) ng tr->o<=nd->(0<nd->D 0≠48->0<o)->k (.a (.o []) h')):aE T (W T) ⟨243⟩ [.a b 0] h k:=by
 rw[aJ C.t243];generalize E:aJ1=r;generalize t:CC.d l243_0=L;refine ag ?_;subst t;have s:∀(m:Nat)(j:Hp)(f:Fr),ah (·=b) h j->bM j b D m dp ng tr->m<=nd->(0<nd->D 0≠48->0<m)->an 0 f=.a b 0->W T r f j [] (finish T (W T) [] k):=by
  intro m j f g l n h0 f0;have d:=l;unfold bM at d;subst E;have F:((m:Int)=0)=(m=0):=by simp
  by_cases e:m=0;subst e;refine aS f0 d ?_;exact u _ 0 (g.dT _ (.inr rfl)) (Hp.fp rfl) n h0;refine aU f0 d e ?_;exact u _ m g (by rw[if_neg e];exact l) n h0
 have key:∀(m:Nat)(j:Hp)(f:Fr),ah (·=b) h j->bM j b D m dp ng tr->m<=nd->(0<nd->D 0≠48->0<m)->an 0 f=.a b 0->W T (.d l243_0) f j [] (bY 0 (bF (W T r) (finish T (W T) [] k))):=by
  intro m;induction m with
  |zero=>
   intro j f g l n h0 f0;have d:=l;unfold bM at d;rw[aP];show W T aGG f j [] _;unfold aGG zt;generalize p:CC.h r243_0=B;refine ag ?_;subst p;rw[lI,aEE];generalize ku _ _=fm;refine aS f0 d ?_;exact s 0 j _ g l n h0 zA
  |succ m w=>
   intro j f g l n h0 f0;have d:=l;unfold bM at d;have y:0<m+1:=zo;have z:((m+1:Nat):Int)- 1=m:=zo;have A:m<800:=zo;rw[aP];generalize t:CC.d l243_0=L at w|-;show W T aGG f j [] _;unfold aGG zt;generalize p:CC.h r243_0=B;refine ag ?_;subst p;rw[lI,aEE];generalize ku _ _=fm;by_cases e:D m=48;refine cq f0 d y z A e ?_;refine w _ _ (g.dT _ (.inr rfl)) (Hp.fp rfl) zo (λa c=>?_) zA;rcases auP m with q|q;subst q;exact absurd e c;exact q;refine cq f0 d y z A e ?_;exact s (m+1) j _ g l n h0 zA
 exact key nd h _ (ah.cg _) x zl (λa _=>a) aa
end
end
section
variable {C:Nat->Nat}{m n j k:Nat}
def V(D:Nat->Nat):Nat->Nat
 |0=>0
 |m+1=>10*V D m+(D m- 48)
def th(D:Nat->Nat)(n:Nat):Prop:=∀i,i<n->48<=D i/\D i<=57
def KV(h:th D n):∀m,m<=n->V D m<10^m
 |0,_=>by simp[V]
 |m+1,a=>by have:=KV h m zo;have:=h m zo;rw[V,auX];omega
def Ue(i j:Nat):V D (i+j)=V D i*10^j+V (λq=>D (i+q)) j:=by
 induction j with
 |zero=>simp[V]
 |succ j a=>rw[<-avg,V,a,V,auX,Nat.mul_add];rw[show 10*(V D i*10^j)=V D i*(10^j*10) by rw[auB 10,avM]];omega
def th.drop(h:th D n)(i:Nat):th (λq=>D (i+q)) (n- i):=λq a=>h (i+q) zo
def Ok(hi:i<=n):V D i*10^(n- i)<=V D n:=by have:=Ue (D:=D) i (n- i);rw[show i+(n- i)=n by omega] at this;omega
def aa7(h:th D n)(hi:i<=n):V D n<(V D i+1)*10^(n- i):=by have a:=Ue (D:=D) i (n- i);have b:=KV (h.drop i) (n- i) zl;rw[show i+(n- i)=n by omega] at a;rw[auC,avz];omega
def Uf(h:∀j,j<i->D j=C j):V D i=V C i:=by
 induction i with
 |zero=>rfl
 |succ i a=>rw[V,V,a λj hj=>h j zo,h i zo]
def KW(h:th D n)(h0:0<n)(hd:D 0≠48):(D 0- 48)*10^(n- 1)<=V D n/\1<=D 0- 48:=by
 have a:=Ok (D:=D) (i:=1) (n:=n) zo;have e:V D 1=D 0- 48:=by simp[V]
 rw[e] at a;have:=h 0 h0;exact⟨a,by omega⟩
def aa8{a b:Nat}(c:th D a)(h:∀j,j<i->D j=C j) (g:i<a) (l:i<b) (d:D i<C i) (f:48<=D i):V D a*10^b<V C b*10^a:=by
 have e:=Uf h;have x:=aa7 c (i:=i+1) zo;have y:=Ok (D:=C) (i:=i+1) (n:=b) zo;have z:V D (i+1)+1<=V C (i+1):=by rw[V,V,e];omega
 have p:0<10^b:=auZ zd;have q1:V D a*10^b<(V D (i+1)+1)*10^(a- (i+1))*10^b:=avE x p;have q2:(V D (i+1)+1)*10^(a- (i+1))*10^b<=V C (i+1)*10^(a- (i+1))*10^b:=at4 _ (at4 _ z);have q3:V C (i+1)*10^(b- (i+1))*10^a<=V C b*10^a:=at4 _ y;have q4:V C (i+1)*10^(a- (i+1))*10^b=V C (i+1)*10^(b- (i+1))*10^a:=by rw[avM,avM,<-auT,<-auT];congr 2;omega
 omega
def aiW{a b:Nat}(h:∀j,j<a->D j=C j) (c:a<b) (d:48<C (b- 1)):V D a*10^b<V C b*10^a:=by
 have e:=Uf h;have y:=Ok (D:=C) (i:=a) (n:=b- 1) zo;have z:V C b=10*V C (b- 1)+(C (b- 1)- 48):=by
  conv=>lhs;rw[show b=(b- 1)+1 by omega]
  rfl
 have p:0<10^a:=auZ zd;have q1:V C a*10^(b- 1- a)*10<V C b:=zo;have q2:=avE q1 p;rw[e];have q3:V C a*10^(b- 1- a)*10*10^a=V C a*10^b:=by rw[avM,avM,<-Nat.pow_succ',<-auT];congr 2;omega
 omega
def aiX{a b:Nat}(h:∀j,j<b->D j=C j) (c:b<=a):V C b*10^a<=V D a*10^b:=by
 have e:=Uf h;have y:=Ok (D:=D) (i:=b) (n:=a) c;have q:=at4 (10^b) y;rw[<-e];have q4:V D b*10^(a- b)*10^b=V D b*10^a:=by rw[avM,<-auT];congr 2;omega
 omega
end
section
open Go (IntKind)
variable {k:aK->Prop}{b nd:Nat}{C:List UInt8}
def Cn(C:List UInt8):Nat->Nat:=λi=>(C.getD i 0).toNat
def aiY(F:aA T)(x:bM h b D nd dp ng tr)(Q:nd<=800){cap:Nat}{ex:Bool}(A:th D nd)(y:th (Cn C) C.length)(P:C.length<100)(t:0<C.length->48<Cn C (C.length- 1))
 (u:∀r:Bool,(r=true->V D nd*10^C.length<V (Cn C) C.length*10^nd)->(r=false->V (Cn C) C.length*10^nd<=V D nd*10^C.length)->k (.a (.g r) h)):aE T (W T) ⟨242⟩ [.c b 0 1 nd cap ex,S C] h k:=by
 rw[aJ F.t242];generalize v:aAm=G;have p:=x;unfold bM at p;have key:∀(m i:Nat)(f:Fr),m=C.length- i->i<=C.length->(∀j,j<i->D j=Cn C j)->i<=nd->an 5 f=.i i->an 0 f=.c b 0 1 nd cap ex->an 1 f=S C->W T (.d l242_0) f h [] (bY 0 (bF (W T G) (finish T (W T) [.a 4] k))):=by
  intro m;induction m with
  |zero=>
   intro i f I hi l w f5 f0 d;have e:i=C.length:=zo;subst e;rw[aP];show W T aAl f h [] _;unfold aAl zt;refine aU f5 f0 d ?_;subst v;refine ag ?_;exact u false nofun λ_=>aiX l w
  |succ m B=>
   intro i f I hi l w f5 f0 d;have a:i<C.length:=zo;have n:(i:Int)<C.length:=zo;rw[aP];generalize O:CC.d l242_0=L at B|-;show W T aAl f h [] _;unfold aAl zt;generalize J:CC.h r242_5=M;generalize E:CC.h r242_6=N;by_cases c:nd<=i;have g:(nd:Int)<=i:=zo;refine iR f5 f0 d a n c g ?_;obtain rfl:i=nd:=zo;exact u true (λ_=>aiW l a (t zo)) nofun;have c1:i<nd:=zo;have c2:i<800:=zo;have g:¬(nd:Int)<=i:=zo;have o:(C[i]?.getD 0).toNat=Cn C i:=by unfold Cn;rw[aub]
   have s:(C[i]).toNat=Cn C i:=by rw[<-o,atT a];rfl
   refine fY f5 f0 d a n c g c1 ?_;subst J;rw[lI,aEE];generalize ku _ _=fm;have hd:=A i c1;have H:=y i a;by_cases e:D i=Cn C i;refine kC f5 f0 d a n c g c1 c2 p o s e ?_;refine B (i+1) _ zo zo (λj hj=>?_) zo aa zA zA;by_cases q:j=i;rw[q];exact e;exact l j zo;have K:∀r:Bool,(r=true <-> D i<Cn C i)->k (.a (.g r) h):=λr hr=>u r (λq=>aa8 A l c1 a (hr.1 q) hd.1) λq=>axM (aa8 y (λj hj=>(l j hj).symm) a c1 (by
    have:¬D i<Cn C i:=λz=>by rw[hr.2 z] at q;cases q
    omega) H.1)
   refine kC f5 f0 d a n c g c1 c2 p o s e ?_;subst E;rw[lI,aEE];generalize ku _ _=fm;refine kC f5 f0 d a n c g c1 c2 p o s e ?_;exact K _ zm
 refine ag ?_;subst v;exact key _ 0 _ rfl (auz _) (λj hj=>by omega) (auz _) aa aa aa
end
section
open Go (IntKind)
variable {a b c d k:Nat}
def Ai(h:a<18446744073709551616):IntKind.u64.wrap (a:Int)=a:=by rw[Go.IntKind.wrap_u64];omega
def KY(h:a<256):aEy .u64 (.s a)=.v (.d .u64 (a:Int)):=by show OR.v (.d .u64 (IntKind.u64.wrap (Int.ofNat a)))=_;rw[show Int.ofNat a=(a:Int) from rfl,Ai zo]
def EI(h:a+b<18446744073709551616):lG (.d .u64 (a:Int)) (.d .u64 (b:Int))=.v (.d .u64 ((a+b:Nat):Int)):=by rw[vJ,<-Int.natCast_add,Ai h]
def HD(h:b<=a)(e:a<18446744073709551616):jb (.d .u64 (a:Int)) (.d .u64 (b:Int))=.v (.d .u64 ((a- b:Nat):Int)):=by rw[ru,show(a:Int)- b=((a- b:Nat):Int) by omega,Ai zo]
def HF(h:a*b<18446744073709551616):qj (.d .u64 (a:Int)) (.d .u64 (b:Int))=.v (.d .u64 ((a*b:Nat):Int)):=by rw[vK,<-Int.natCast_mul,Ai h]
def aa9(e:b≠0)(h:a<18446744073709551616):we (.d .u64 (a:Int)) (.d .u64 (b:Int))=.v (.d .u64 ((a/b:Nat):Int)):=by rw[KQ zo,show(a:Int).tdiv b=((a/b:Nat):Int) by rw[avr zo];simp,Ai (auD (Nat.div_le_self _ _) h)]
def aa'(e:k<64)(h:a*2^k<18446744073709551616):oQ pF (.d .u64 (a:Int)) (.d .u64 (k:Int))=.v (.d .u64 ((a*2^k:Nat):Int)):=by show OR.v (.d .u64 (IntKind.u64.wrap ((a:Int)*2^(min k 64))))=_;rw[show min k 64=k by omega,show(a:Int)*2^k=((a*2^k:Nat):Int) by simp,Ai h]
def HG(e:k<64):sC (.d .u64 (a:Int)) (.d .u64 (k:Int))=.v (.d .u64 ((a/2^k:Nat):Int)):=by rw[lg zo];congr 2;show(a:Int).fdiv (2^(min k 64))=_;rw[show min k 64=k by omega,avH _ (Int.pow_nonneg zd)];simp
def Om(h:a<256):aEy .u8 (.d .u64 (a:Int))=.v (.s a):=by simp only[aEy,intOf,mL,Go.IntKind.wrap_u8];congr 2;omega
def aba(g:k<64)(h:a<18446744073709551616):jI (λ_ a b=>a&&&b) (.d .u64 (a:Int)) (.d .u64 ((2^k- 1:Nat):Int))=.v (.d .u64 ((a% 2^k:Nat):Int)):=by
 rw[oy];congr 2;simp only[bW,qN,mL,Go.IntKind.wrap_u64];have p:2^k<=2^63:=auG zd zo;have f:0<2^k:=auZ zd;have e:(BitVec.ofInt IntKind.u64.bits (a:Int)&&&BitVec.ofInt IntKind.u64.bits ((2^k- 1:Nat):Int)).toNat=a% 2^k:=by rw[aw6];show(BitVec.ofInt 64 (a:Int)).toNat&&&(BitVec.ofInt 64 ((2^k- 1:Nat):Int)).toNat=_;rw[awo,awo];rw[show((a:Int)% ((2^64:Nat):Int)).toNat=a by omega,show(((2^k- 1:Nat):Int)% ((2^64:Nat):Int)).toNat=2^k- 1 by omega];exact Nat.and_two_pow_sub_one_eq_mod a k
 rw[e];have:a% 2^k<2^k:=avn _ f;simp only[au8];omega
end
section
variable {nd k r:Nat}
def w7(D:Nat->Nat)(nd r:Nat):Nat:=V (λq=>D (r+q)) (nd- r)
def mW(D:Nat->Nat)(nd k r:Nat):Nat:=w7 D nd r*2^k/10^(nd- r)
def ai0(h:r<nd):w7 D nd r=(D r- 48)*10^(nd- (r+1))+w7 D nd (r+1):=by
 unfold w7;have:=Ue (D:=λq=>D (r+q)) 1 (nd- (r+1));rw[show 1+(nd- (r+1))=nd- r by omega] at this;rw[this];have e:V (λq=>D (r+q)) 1=D r- 48:=by simp[V]
 rw[e];congr 2;funext q;rw[show r+(1+q)=r+1+q by omega]
def abb(h:th D nd)(hr:r<=nd):mW D nd k r<2^k:=by unfold mW;have a:=KV (h.drop r) (nd- r) zl;have p:0<2^k:=auZ zd;apply auw;exact avE a p
def abc(h:r<nd):(D r- 48)*2^k+mW D nd k (r+1)=w7 D nd r*2^k/10^(nd- (r+1)):=by rw[ai0 h,auC,av0];unfold mW;rw[awR,awR ((D r- 48)*2^k*_),Nat.add_mul_div_right _ _ (auZ zd)]
def ai1(h:r<nd):((D r- 48)*2^k+mW D nd k (r+1))/10=mW D nd k r:=by rw[abc h,Nat.div_div_eq_div_mul,<-auX,show(nd- (r+1)).succ=nd- r by omega];rfl
def ai2:mW D nd k nd=0:=by simp[mW,w7,V]
def abd:w7 D nd 0=V D nd:=by simp[w7]
end
section
open Go (IntKind)
variable {k:aK->Prop}{b nd δ:Nat}
def Wr(D:Nat->Nat)(w n:Nat):Prop:=∀j,w<=j->j<n->j<800->48<=D j/\D j<=57
theorem Wr.iL{w n u:Nat}(x:Wr D (w+1) n)(d:u<10):Wr (qb D w (u+48)) w n:=λj a b c=>by unfold qb;split;omega;exact x j zo b c
def Wr.out{w n:Nat}(x:Wr D (w+1) n)(d:800<=w):Wr D w n:=λj a b c=>x j zo b c
def ai3(O:th D nd)(hs:s<=60)(hn:nd<=800)(hδ:δ<100){K:aT->Prop}
 (hK:∀f' h' v fT,ah (·=b) h h'->bM h' b v nd dp ng fT->Wr v δ (nd+δ)->(δ=0->0<nd->w7 D nd 0*2^s/10^(nd- 1)<10->v 0- 48=w7 D nd 0*2^s/10^(nd- 1))->(∀q,q=0\/q=4->an q f'=if q=0 then .a b 0 else .i δ)->an 6 f'=.i δ->an 7 f'=.d .u64 (mW D nd s 0)->K (.a 0 f' h' [])):
 ∀(m:Nat)(l:Hp)(d:Nat->Nat)(e:Bool)(f:Fr),m<=nd->ah (·=b) h l->bM l b d nd dp ng e->(∀j,j<m->d j=D j)->Wr d (m+δ) (nd+δ)->(m=0->δ=0->0<nd->w7 D nd 0*2^s/10^(nd- 1)<10->d 0- 48=w7 D nd 0*2^s/10^(nd- 1))->
  an 0 f=.a b 0->an 1 f=.d .u64 s->an 4 f=.i δ->an 5 f=.i ((m:Int)- 1)->an 6 f=.i ((m+δ:Nat):Int)->an 7 f=.d .u64 (mW D nd s m)->W T (.d l236_1) f l [] K:=by
 intro m;induction m with
 |zero=>
  intro l d e f Q g x n S h0 f0 p f4 f5 f6 f7;have f5:an 5 f=.i (-1):=f5;rw[aP];show W T aIB f l [] _;refine aB f5 ?_;exact hK _ l d e g x (by rwa[aue] at S) (h0 rfl) (λq hq=>by rcases hq with rfl|rfl<;>exact bV f0 f4) (au f6) (au f7)
 |succ r t=>
  intro l d e f Q g x n S h0 f0 p f4 f5 f6 f7;have u:=x;unfold bM at u;have f5:an 5 f=.i r:=by rw[f5];congr 1;omega
  have hr:r<nd:=Q;have r8:r<800:=zo;have hd:=O r hr;have ed:=n r (aw7 _);have cl:=abb (k:=s) O (r:=r+1) zo;have cs:=ai1 (D:=D) (k:=s) hr;have sm:=abc (D:=D) (k:=s) hr;have p60:2^s<=2^60:=auG zd hs;have X:(D r- 48)*2^s<=9*2^s:=at4 _ zo;have dl:d r<256:=zo;have w:=KY dl;have y:jb (.d .u64 (d r:Int)) (.d .u64 48)=.v (.d .u64 ((D r- 48:Nat):Int)):=by rw[ed];exact HD (b:=48) zo zo
  have A:=aa' (a:=D r- 48) (k:=s) zo zo;generalize hc:mW D nd s (r+1)=c at*;generalize hP:(D r- 48)*2^s=P at*;have o:=EI (a:=c) (b:=P) zo;rw[awR c P] at o;generalize hN:P+c=N at*;have B:we (.d .u64 (N:Int)) (.d .u64 10)=.v (.d .u64 (mW D nd s r:Int)):=by have:=aa9 (a:=N) (b:=10) zd zo;rw[cs] at this;exact this
  have C:qj (.d .u64 10) (.d .u64 (mW D nd s r:Int))=.v (.d .u64 ((10*mW D nd s r:Nat):Int)):=HF (a:=10) zo;have E:=HD (a:=N) (b:=10*mW D nd s r) zo zo;have rl:N- 10*mW D nd s r<10:=zo;have rN:N<10->N- 10*mW D nd s r=N:=λz=>zo;generalize hR:N- 10*mW D nd s r=R at*;generalize hT:10*mW D nd s r=t10 at*;have Z:lG (.d .u64 (R:Int)) (.d .u64 48)=.v (.d .u64 ((R+48:Nat):Int)):=EI (b:=48) zo;have e9:=Om (a:=R+48) zo;generalize V:R+48=U at*;have G:((r+1+δ:Nat):Int)- 1=((r+δ:Nat):Int):=zo;have F:(0:Int)<=r:=zo;rw[aP];generalize hL:CC.d l236_1=L at t|-;show W T aIB f l [] _;have q5:((5:Nat):Int)=5:=rfl;generalize EJ:mW D nd s r=cr at*;by_cases c8:r+δ<800;have i:((r+δ:Nat):Int)<800:=zo;simp(disch:=omega) [-vJ,-ru,-vK,-KQ,-Og,-Of,-Int.natCast_add,f0,p,f5,f6,f7,u,w,y,A,o,B,C,E,Z,e9,G,i,F];refine t _ (qb d (r+δ) U) e _ zo (g.dT _ (.inr rfl)) (Hp.fp rfl) (λj hj=>by unfold qb;rw[if_neg zo];exact n j zo) ?_ (λH I z3 z4=>?_) ?_ ?_ ?_ ?_ ?_ ?_;rw[<-V];exact Wr.iL qaz rl;subst H I;rw[<-sm] at z4|-;have:=rN z4;unfold qb;rw[if_pos rfl];omega;exact zA;exact zA;exact zA;exact aa;simp(disch:=omega) [-Int.natCast_add];exact aa;have i:¬((r+δ:Nat):Int)<800:=zo;have J:Wr d (r+δ) (nd+δ):=Wr.out qaz zo;by_cases M:R=0;subst M;simp(disch:=omega) [-vJ,-ru,-vK,-KQ,-Og,-Of,-Int.natCast_add,f0,p,f5,f6,f7,u,w,y,A,o,B,C,E,G,i,F];refine t _ d e _ zo g x (λj hj=>n j zo) J (λH I=>by omega) ?_ ?_ ?_ ?_ ?_ ?_;exact zA;exact zA;exact zA;exact aa;simp(disch:=omega) [-Int.natCast_add];exact aa;have Y:¬(R:Int)=0:=zo;simp(disch:=omega) [-vJ,-ru,-vK,-KQ,-Og,-Of,-Int.natCast_add,f0,p,f5,f6,f7,u,w,y,A,o,B,C,E,G,i,F,M];refine t _ d true _ zo (g.dT _ (.inr rfl)) (Hp.fp rfl) (λj hj=>n j zo) J (λH I=>by omega) ?_ ?_ ?_ ?_ ?_ ?_;exact zA;exact zA;exact zA;exact aa;simp(disch:=omega) [-Int.natCast_add];exact aa
def ai4{K:aT->Prop}{N2 X:Nat}
 (F:∀f' h' j E,ah (·=b) h h'->bM h' b j nd dp ng E->Wr j 0 N2->j 0≠48/\(δ=0->j 0- 48=X)->an 0 f'=.a b 0->an 4 f'=.i δ->K (.a 2 f' h' [])):
 ∀(w n:Nat)(e:Hp)(d:Nat->Nat)(c:Bool)(f:Fr),w<100->w<=δ->n<10^w->(0<w->10^(w- 1)<=n)->n<1152921504606846976->ah (·=b) h e->bM e b d nd dp ng c->Wr d w N2->(w=0->d 0≠48/\(δ=0->d 0- 48=X))->
  an 0 f=.a b 0->an 4 f=.i δ->an 6 f=.i w->an 7 f=.d .u64 n->W T (.d l236_0) f e [] K:=by
 intro w;induction w with
 |zero=>
  intro n e d c f _ _ i _ _ g x p h0 f0 f4 f6 f7;obtain rfl:n=0:=by simp at i;exact i
  rw[aP];show W T aIC f e [] _;refine aB f7 ?_;exact F _ e d c g x p (h0 rfl) zA zA
 |succ w q=>
  intro n e d c f H I i o M g x p h0 f0 f4 f6 f7;have o:=o (Nat.succ_pos _);simp only[axE] at o;have pw:0<10^w:=auZ zd;have n0:0<n:=zo;have J:(0:Int)<n:=zo;have r:=x;unfold bM at r;rw[auX] at i;have q1:n/10<10^w:=zo;have v:we (.d .u64 (n:Int)) (.d .u64 10)=.v (.d .u64 ((n/10:Nat):Int)):=aa9 (b:=10) zd zo;have y:qj (.d .u64 10) (.d .u64 ((n/10:Nat):Int))=.v (.d .u64 ((10*(n/10):Nat):Int)):=HF (a:=10) zo;have A:=HD (a:=n) (b:=10*(n/10)) zo zo;have N:n- 10*(n/10)<10:=zo;have l:w=0->n- 10*(n/10)+48≠48:=λz=>by subst z;simp at i;omega
  have G:0<w->10^(w- 1)<=n/10:=λz=>by
   have:10^w=10^(w- 1)*10:=by rw[<-auX];congr 1;omega
   omega
  have q60:n/10<1152921504606846976:=zo;generalize U:n- 10*(n/10)=R at*;generalize V:10*(n/10)=t10 at*;generalize S:n/10=Q at*;have B:lG (.d .u64 (R:Int)) (.d .u64 48)=.v (.d .u64 ((R+48:Nat):Int)):=EI (b:=48) zo;have C:=Om (a:=R+48) zo;generalize u:R+48=t at*;have O:((w+1:Nat):Int)- 1=(w:Int):=zo;have c8:w<800:=zo;have m:(w:Int)<800:=zo;rw[aP];generalize P:CC.d l236_0=L at q|-;show W T aIC f e [] _;simp(disch:=omega) [-vJ,-ru,-vK,-KQ,-Og,-Of,-Int.natCast_add,f0,f6,f7,n0,r,v,y,A,B,C,O,m];refine q _ _ (qb d w t) c _ zo zo q1 G q60 (g.dT _ (.inr rfl)) (Hp.fp rfl) (by rw[<-u];exact Wr.iL p N) (λz=>?_) ?_ ?_ ?_ ?_;subst z;unfold qb;rw[if_pos rfl];exact⟨l rfl,λz=>by omega⟩;exact zA;exact zA;exact aa;exact aa
structure ai6(s:Nat)(d:Int)(C:List UInt8):Prop where
 a:th (Cn C) C.length
 b:0<C.length/\C.length<100
 c:V (Cn C) C.length=5^s
 f:48<Cn C (C.length- 1)
 d:d=(s:Int)+1- C.length
 g:Cn C 0≠48
def CS(h:Hp):Prop:=∃q cap ex,∃d:Nat->Int,∃C:Nat->List UInt8,cellsOf (h.ab 15) 0 1=some [.c q 0 2 61 cap ex]/\q<22/\∀s,1<=s->s<=60->cellsOf (h.ab q) (s*2) 1=some [.i (d s)]/\cellsOf (h.ab q) (s*2+1) 1=some [S (C s)]/\ai6 s (d s) (C s)
def xe(h h':Hp):Prop:=∀i,i<22->h'.ab i=h.ab i
def xe.of{h':Hp}(g:ah (·=b) h h')(a:22<=b)(c:22<=h.a):xe h h':=λi hi=>g.f i zo zo
def CS.kp{h':Hp}(x:CS h)(g:xe h h'):CS h':=by obtain⟨q,cap,ex,d,C,e,c,a⟩:=x;exact⟨q,cap,ex,d,C,by rw[g 15 zd];exact e,c,λs f i=>by rw[g q c];exact a s f i⟩
def ai7{N nd L s:Nat}{d:Int}(i:10^(nd- 1)<=N)(g:N<10^nd)(h0:0<nd)(c1:10^(L- 1)<=5^s)(c2:5^s<10^L)(n:0<L)(hd:d=(s:Int)+1- L)(j:L<=s)(r:Bool)(c:r=true->N*10^L<5^s*10^nd)(f:r=false->5^s*10^nd<=N*10^L):
 ∃δ:Nat,(d- if r=true then 1 else 0)=δ/\10^(nd+δ- 1)<=N*2^s/\N*2^s<10^(nd+δ)/\δ<=s+1:=by
 have t:5^s*2^s=10^s:=by rw[<-Nat.mul_pow]
 have l:0<2^s:=auZ zd;have m:0<10^L:=auZ zd;cases r with
 |true=>
  have c:=avE (c rfl) l;refine⟨s- L,by rw[if_pos rfl];omega,?_,?_,by omega⟩;have a:10^(s- L)*5^s<=2^s*5^s:=by
   rw[auB (2^s),t];have:10^s=10^(s- L)*10^L:=by rw[<-auT];congr 1;omega
   rw[this];exact au2 _ (axM c2)
  have a':=awc a (auZ (by decide:0<5));have:10^(nd+(s- L)- 1)=10^(nd- 1)*10^(s- L):=by rw[<-auT];congr 1;omega
  rw[this];exact axp i a';have e:5^s*10^nd*2^s=10^(nd+(s- L))*10^L:=by rw[av0,t,<-auT,<-auT];congr 1;omega
  rw[e,av0] at c;exact Nat.lt_of_mul_lt_mul_right c
 |false=>
  have f:=at4 (2^s) (f rfl);refine⟨s+1- L,by rw[if_neg zd];omega,?_,?_,by omega⟩;have e:5^s*10^nd*2^s=10^(nd+(s+1- L)- 1)*10^L:=by rw[av0,t,<-auT,<-auT];congr 1;omega
  rw[e,av0] at f;exact awc f m;have a:2^s*5^s<=10^(s+1- L)*5^s:=by
   rw[auB (2^s),t];have:10^s=10^(s+1- L)*10^(L- 1):=by rw[<-auT];congr 1;omega
   rw[this];exact au2 _ c1
  have a':=awc a (auZ (by decide:0<5));have:10^(nd+(s+1- L))=10^nd*10^(s+1- L):=by rw[<-auT]
  rw[this];exact Nat.mul_lt_mul_of_lt_of_le g a' (auZ zd)
end
section
open Go (IntKind)
variable {k:aK->Prop}{b nd:Nat}
def ai8(x:bM h b D nd dp ng tr)(a:nd<=800):FQ h 1 800 (.a b 0) (some (.i 0)) (some (.i nd))=.v (.c b 0 1 nd 800 true):=by
 unfold bM at x;have e:bounds (some (.i 0)) (some (.i (nd:Int))) 800 800=some (0,nd):=by simp[bounds,mM,BP,a]
 simp only[FQ,e,x,IN];rw[tR,KU];rfl
def iaW{q cap n:Nat}{ex:Bool}(a:s<n):Dy 2 (.c q 0 2 n cap ex) (.d .u64 (s:Int))=.v (.a q (s*2)):=by have:s+1<=n:=a;show cond (Nat.ble (Nat.succ s) n) (OR.v (.a q (0+s*2))) _=_;rw[aue];simp[this]
structure kE(D:Nat->Nat)(nd:Nat):Prop where
 a:th D nd
 d:nd<=800
 b:0<nd
 c:D 0≠48
def ai9(F:aA T)(x:bM h b D nd dp ng tr)(g:kE D nd)(P:1<=s)(O:s<=60)(hc:CS h)(hb:22<=b)(Bl:-1000000000<dp/\dp<1000000000)
 (hk:∀h' n B M(δ:Nat),ah (·=b) h h'->bM h' b n B (dp+δ) ng M->kE n B->δ<=s+1->10^(nd+δ- 1)<=V D nd*2^s->V D nd*2^s<10^(nd+δ)->(δ=0->n 0- 48=V D nd*2^s/10^(nd- 1))->k (.a (.o []) h')):aE T (W T) ⟨236⟩ [.a b 0,.d .u64 s] h k:=by
 rw[aJ F.t236];obtain⟨q,cap,ex,d,C,t,hq,hC⟩:=hc;obtain⟨c1,c2,e⟩:=hC s P O;obtain⟨v,Q,n0,hd⟩:=g;have Y:=x;unfold bM at Y;obtain⟨v1,v2⟩:=KW v n0 hd;have v3:=KV v nd zl;have pN:10^(nd- 1)<=V D nd:=at1 (by have:=at4 (10^(nd- 1)) v2;rwa[avz] at this) v1;obtain⟨w1,w2⟩:=KW e.a e.b.1 e.g;have w3:=KV e.a _ zl;rw[e.c] at w1 w3;have J:10^((C s).length- 1)<=5^s:=at1 (by have:=at4 (10^((C s).length- 1)) w2;rwa[avz] at this) w1;have K:(C s).length<=s:=by refine avu λc=>?_;have a1:10^s<=10^((C s).length- 1):=auG zd zo;have a2:5^s<10^s:=Nat.pow_lt_pow_left zd zo;omega
 have len:=e.b;have I:=e.d;generalize rq:aIE=T3;generalize ju:CC.h r236_1=Dr;have i15:(15:Nat)<22:=by decide
 simp(disch:=omega) [t,iaW (show s<61 by omega),c1];subst ju;rw[lI,aEE];generalize ku _ _=fm;have sa:=ai8 x Q;simp(disch:=omega) [t,iaW (show s<61 by omega),c2,Y,sa,-Cp];rw[Cp,ZS,ZQ];refine aiY F x Q v e.a len.2 (λ_=>e.f) λr r1 r2=>?_;rw[e.c] at r1 r2;obtain⟨δ,o,y,A,Z⟩:=ai7 pN v3 n0 J w3 len.1 I K r r1 r2;have rest:∀f:Fr,an 0 f=.a b 0->an 1 f=.d .u64 s->an 4 f=.i δ->W T T3 f h [] (finish T (W T) [] k):=by
  intro f f0 f1 f4;subst rq;unfold aIE zt;generalize hT:aID=T27;generalize jg:CC.d l236_1=L1;generalize N:CC.d l236_0=L0;have a1:((nd:Int)+δ)=((nd+δ:Nat):Int):=zo;simp(disch:=omega) [-Int.natCast_add,f0,f4,Y,a1];subst jg;refine ai3 (δ:=δ) (s:=s) v O Q zo (λf' h' n M g1 x1 S z1 q04 q6 q7=>?_) nd h D tr _ zl (ah.cg _) x (λ_ _=>rfl) (λj _ _ _=>by omega) (λz=>by omega) ?_ ?_ ?_ ?_ ?_ ?_;have q0:=q04 0 (.inl rfl);have q4:=q04 4 (.inr rfl);rw[if_pos rfl] at q0;rw[if_neg zd] at q4;refine ag ?_;subst N;have cc:mW D nd s 0=V D nd*2^s/10^nd:=by unfold mW;rw[abd];rfl
  have c60:=abb (k:=s) v (r:=0) zo;have p60:2^s<=2^60:=auG zd O;have pn:0<10^nd:=auZ zd;rw[abd] at z1;have dz:δ=0->V D nd*2^s/10^(nd- 1)<10/\1<=V D nd*2^s/10^(nd- 1):=λz=>by subst z;simp only[aud] at y A;refine⟨auw ?_,(avN (auZ zd)).2 y⟩;rw[<-auX,show(nd- 1).succ=nd by omega];exact A
  refine ai4 (δ:=δ) (N2:=nd+δ) (X:=V D nd*2^s/10^(nd- 1)) (λf2 h2 E R g2 x2 U y2 q20 q24=>?_) δ (mW D nd s 0) h' n M _ zo zl ?_ (λp=>?_) zo g1 x1 S (λz=>?_) q0 q4 q6 q7;subst hT;unfold aID zt;have m:=x2;unfold bM at m;have a2:w64 ((nd:Int)+δ)=((nd+δ:Nat):Int):=by rw[gf zo zo];omega
  have a3:w64 (dp+δ)=dp+δ:=gf zo zo;generalize H:aJ0=G;have b8:∀(l:Nat)(f3:Fr)(u:Hp),l<=800->l<=nd+δ->0<l->an 0 f3=.a b 0->an 4 f3=.i δ->ah (·=b) h u->bM u b E l dp ng R->W T G f3 u [] (finish T (W T) [] k):=by intro l f3 u b1 b2 b3 p0 p4 g3 x3;subst H;have w:=x3;unfold bM at w;refine bK p0 p4 w a3 ?_;refine aa6 F (h:=u.dT b (.a 274 (kO E l (dp+δ) ng R))) (nd:=l) (Hp.fp rfl) b1 λh4 B g4 x4 Oq Ui=>?_;have np:=Ui b3 y2.1;rw[if_neg zo] at x4;refine ag ?_;refine hk h4 E B R δ ((g3.dT _ (.inr rfl)).ba g4) x4 ⟨λi hi=>U i (auz _) zo zo,by omega,np,y2.1⟩ Z y A y2.2
  by_cases c8:800<=nd+δ;have a:(800:Int)<=((nd+δ:Nat):Int):=zo;have a:(800:Int)<=(nd:Int)+δ:=zo;refine bK q20 q24 m a ?_;refine b8 800 _ _ zo c8 zd ?_ ?_ ((g2.dT _ (.inr rfl)).dT _ (.inr rfl)) (Hp.fp rfl);exact au q20;exact au q24;have a:¬(800:Int)<=((nd+δ:Nat):Int):=zo;have a:¬(800:Int)<=(nd:Int)+δ:=zo;refine bK q20 q24 m a ?_;refine b8 (nd+δ) _ _ zo zl zo ?_ ?_ (g2.dT _ (.inr rfl)) (Hp.fp rfl);exact au q20;exact au q24;rw[cc];apply auw;rw[<-auT];exact A;rw[cc];refine(awA pn).2 ?_;rw[<-auT,show δ- 1+nd=nd+δ- 1 by omega];exact y;have:=z1 z n0 (dz z).1;have:=(dz z).2;exact⟨by omega,λ_=>by omega⟩;exact zA;exact zA;exact zA;exact aa;simp(disch:=omega) [-Int.natCast_add];simp(disch:=omega) [ai2]
 cases r with
 |true=>
  have L:d s- 1=δ:=by simpa using o
  refine aB L ?_;exact rest _ aa aa aa
 |false=>
  have L:d s=δ:=by simpa using o
  refine aB L ?_;exact rest _ aa aa aa
def aja(y:s<=60){K:aT->Prop}{hh:Hp}{n0:Nat}(p:∀f'(r n:Nat),nd<=r->(r=nd->n=n0)->r<=nd+61->2^s<=n->n<10*2^s->an 0 f'=.a b 0->an 1 f'=.d .u64 s->an 5 f'=.i 0->an 4 f'=.i r->an 6 f'=.d .u64 n->K (.a 2 f' hh [])):
 ∀(m r n:Nat)(f:Fr),2^s<=n+m->nd<=r->(r=nd->n=n0)->2^(r- nd)<=n->n<10*2^s->(2^s<=n->r<=nd+61)->(nd:Int)<10000->an 0 f=.a b 0->an 1 f=.d .u64 s->an 5 f=.i 0->an 4 f=.i r->an 6 f=.d .u64 n->W T (.d l237_2) f hh [] K:=by
 intro m;have E:2^s<=2^60:=auG zd y;have ps:0<2^s:=auZ zd;induction m with
 |zero=>
  intro r n f w i o x j l t f0 g f5 f4 f6;have d:=HG (a:=n) (k:=s) zo;have e:¬n/2^s=0:=by have:=(avN ps).2 (by omega:2^s<=n);omega
  generalize n/2^s=Q at d e;rw[aP];show W T aBe f hh [] _;simp(disch:=omega) [g,f6,d,e,-lg];refine p _ r n i o (l zo) zo j ?_ ?_ ?_ ?_ ?_;exact zA;exact zA;exact zA;exact zA;exact zA
 |succ m u=>
  intro r n f w i o x j l t f0 g f5 f4 f6;have d:=HG (a:=n) (k:=s) zo;by_cases c:2^s<=n;have e:¬n/2^s=0:=by have:=(avN ps).2 c;omega
  generalize n/2^s=Q at d e;rw[aP];show W T aBe f hh [] _;simp(disch:=omega) [g,f6,d,e,-lg];refine p _ r n i o (l c) c j ?_ ?_ ?_ ?_ ?_;exact zA;exact zA;exact zA;exact zA;exact zA;have z:n/2^s=0:=avY zo;rw[z] at d;have G:0<2^(r- nd):=auZ zd;have rs:r- nd<s:=(Nat.pow_lt_pow_iff_right (by decide:1<2)).1 (by omega:2^(r- nd)<2^s);have v:qj (.d .u64 (n:Int)) (.d .u64 10)=.v (.d .u64 ((n*10:Nat):Int)):=HF (b:=10) zo;have C:2^(r+1- nd)<=n*10:=by rw[show r+1- nd=(r- nd)+1 by omega,auX];omega
  have B:n*10<10*2^s:=zo;have A:2^s<=n*10+m:=zo;generalize n*10=N at*;rw[aP];generalize F:CC.d l237_2=L at u|-;show W T aBe f hh [] _;simp(disch:=omega) [g,f4,f6,d,v,-lg,-vK];refine u (r+1) N _ A zo (λq=>by omega) C B (λ_=>by omega) t ?_ ?_ ?_ ?_ ?_;exact zA;exact zA;exact zA;exact aa;exact aa
structure ajb(D:Nat->Nat)(nd s r n:Nat):Prop where
 f:1<=r
 g:r<=nd+61
 d:2^s<=n
 c:n<10*2^s
 a:r=1->n=D 0- 48
 b:D 0- 48<2^s->2<=r
def ajc(g:kE D nd)(w:1<=s)(H:s<=60)(x:bM h b D nd dp ng tr){K:aT->Prop}(G:∀f'(r n:Nat),ajb D nd s r n->an 0 f'=.a b 0->an 1 f'=.d .u64 s->an 5 f'=.i 0->an 4 f'=.i r->an 6 f'=.d .u64 n->K (.a 0 f' h [])):
 ∀(m r:Nat)(f:Fr),m=nd- r->r<=nd->V D r<10*2^s->(r<=1\/V D (r- 1)<2^s)->an 0 f=.a b 0->an 1 f=.d .u64 s->an 5 f=.i 0->an 4 f=.i r->an 6 f=.d .u64 (V D r)->W T (.d l237_3) f h [] K:=by
 intro m;obtain⟨F,n8,n0,hd⟩:=g;have Z:2^s<=2^60:=auG zd H;have ps:2<=2^s:=by have:=auG (by decide:0<2) w;omega
 have C:=x;unfold bM at C;have d0:=F 0 n0;have u:V D 1=D 0- 48:=by simp[V]
 have up:∀i,1<=i->D 0- 48<=V D i:=λi hi=>by
  induction i with
  |zero=>omega
  |succ i t=>
   rcases auP i with q|q;subst q;rw[u];exact at2 _;have:=t q;rw[V];omega
 have out:∀(r:Nat)(f:Fr),r<=nd->2^s<=V D r->V D r<10*2^s->(r<=1\/V D (r- 1)<2^s)->an 0 f=.a b 0->an 1 f=.d .u64 s->an 5 f=.i 0->an 4 f=.i r->an 6 f=.d .u64 (V D r)->K (.a 0 f h []):=by
  intro r f hr c l p f0 j f5 f4 f6;have r0:r≠0:=by rintro rfl;simp[V] at c
  refine G f r _ ⟨by omega,by omega,c,l,λe=>by subst e;exact u,λe=>?_⟩ f0 j f5 f4 f6;rcases avh 1 r with q|q;exact q;obtain rfl:r=1:=zo;rw[u] at c;omega
 induction m with
 |zero=>
  intro r f Y hr l p f0 j f5 f4 f6;obtain rfl:r=nd:=zo;have d:=HG (a:=V D r) (k:=s) zo;by_cases c:2^s<=V D r;have o:¬V D r/2^s=0:=by have:=(avN zo).2 c;omega
  generalize X:V D r/2^s=Q at d o;rw[aP];show W T aAh f h [] _;unfold aAh zt;simp(disch:=omega) [j,f6,d,o,-lg];refine out r _ hr c l p ?_ ?_ ?_ ?_ ?_;exact zA;exact zA;exact zA;exact zA;exact zA;have z:V D r/2^s=0:=avY zo;rw[z] at d;have v0:¬((V D r:Nat):Int)=0:=by have:=up r n0;omega
  have y:¬V D r=0:=zo;rw[aP];generalize J:CC.d l237_2=M;generalize U:CC.d l237_3=L;show W T aAh f h [] _;unfold aAh zt;simp(disch:=omega) [f0,j,f4,f6,d,C,y,-lg];subst J;refine aja (s:=s) (nd:=r) (b:=b) H (n0:=V D r) (λf' I n a1 O N a3 a4 q0 q1 q5 q4 q6=>?_) (2^s) r (V D r) _ zo zl (λ_=>rfl) (by simp<;>omega) l (λq=>absurd q c) zo ?_ ?_ ?_ ?_ ?_;refine ag ?_;have ne:I≠r:=λe=>by have:=O e;omega
  exact G f' I n ⟨by omega,N,a3,a4,λe=>by omega,λe=>by omega⟩ q0 q1 q5 q4 q6;exact zA;exact zA;exact zA;exact zA;exact zA
 |succ m t=>
  intro r f Y hr l p f0 j f5 f4 f6;have qY:r<nd:=zo;have v:¬(nd:Int)<=r:=zo;have r8:r<800:=zo;have dr:=F r qY;have d:=HG (a:=V D r) (k:=s) zo;by_cases c:2^s<=V D r;have o:¬V D r/2^s=0:=by have:=(avN zo).2 c;omega
  generalize X:V D r/2^s=Q at d o;rw[aP];show W T aAh f h [] _;unfold aAh zt;simp(disch:=omega) [j,f6,d,o,-lg];refine out r _ hr c l p ?_ ?_ ?_ ?_ ?_;exact zA;exact zA;exact zA;exact zA;exact zA;have z:V D r/2^s=0:=avY zo;rw[z] at d;have P:qj (.d .u64 (V D r:Int)) (.d .u64 10)=.v (.d .u64 ((V D r*10:Nat):Int)):=HF (b:=10) zo;have R:=KY (a:=D r) zo;have S:=EI (a:=V D r*10) (b:=D r) zo;have E:jb (.d .u64 ((V D r*10+D r:Nat):Int)) (.d .u64 48)=.v (.d .u64 ((V D r*10+D r- 48:Nat):Int)):=HD (b:=48) zo zo;have ev:V D r*10+D r- 48=V D (r+1):=by rw[V];omega
  rw[ev] at E;generalize hA:V D r*10+D r=A at*;generalize hB:V D r*10=B at*;rw[aP];generalize J:CC.d l237_2=M;generalize U:CC.d l237_3=L at t|-;show W T aAh f h [] _;unfold aAh zt;simp(disch:=omega) [-Int.natCast_add,f0,j,f4,f6,d,P,R,S,E,C,v,-lg,-vK,-vJ,-ru];refine t (r+1) _ zo zo (by rw[V];omega) (.inr zn) ?_ ?_ ?_ ?_ ?_;exact zA;exact zA;exact zA;exact aa;exact aa
structure CT(D:Nat->Nat)(s w n F:Nat):Prop where
 b:∀j,j<w->48<=D j/\D j<=57
 c:n<10*2^s
 a:0<w->D 0=F
 d:w=0->n/2^s+48=F/\2^s<=n
theorem CT.iL{w n F n':Nat}(x:CT D s w n F)(h:n'<10*2^s):CT (qb D w (n/2^s+48)) s (w+1) n' F:=by have q:n/2^s<10:=auw (by have:=x.c;omega);refine⟨λj hj=>?_,h,λ_=>?_,λe=>by omega⟩;unfold qb;split;generalize n/2^s=Q at q|-;omega;exact x.b j zo;unfold qb;split;rename_i e;exact(x.d e.symm).1;rename_i e;exact x.a zo
def aje(P:s<=60)(n8:nd<=800)(J:th D nd){F:Nat}{K:aT->Prop}
 (M:∀f' h' p(w n:Nat),ah (·=b) h h'->bM h' b p nd dp ng tr->w<=nd->CT p s w n F->an 0 f'=.a b 0->an 1 f'=.d .u64 s->an 5 f'=.i w->an 6 f'=.d .u64 n->an 8 f'=.d .u64 ((2^s- 1:Nat):Int)->K (.a 4 f' h' [])):
 ∀(m r w n:Nat)(e:Hp)(d:Nat->Nat)(f:Fr),m=nd- r->r<10000->w<r->w<=nd->ah (·=b) h e->bM e b d nd dp ng tr->(∀j,r<=j->j<nd->d j=D j)->CT d s w n F->an 0 f=.a b 0->an 1 f=.d .u64 s->an 4 f=.i r->an 5 f=.i w->an 6 f=.d .u64 n->an 8 f=.d .u64 ((2^s- 1:Nat):Int)->W T (.d l237_1) f e [] K:=by
 intro m;have S:2^s<=2^60:=auG zd P;have ps:0<2^s:=auZ zd;induction m with
 |zero=>
  intro r w n e d f O V R y g x hd l f0 u f4 f5 f6 f8;have i:=x;unfold bM at i;have c:¬r<nd:=zo;have o:¬(r:Int)<nd:=zo;rw[aP];show W T ayZ f e [] _;refine cC f0 f4 i c o ?_;refine M _ e d w n g x y l ?_ ?_ ?_ ?_ ?_;exact zA;exact zA;exact zA;exact zA;exact zA
 |succ m v=>
  intro r w n e d f O V R y g x hd l f0 u f4 f5 f6 f8;have i:=x;unfold bM at i;have c:r<nd:=zo;have o:(r:Int)<nd:=zo;have r8:r<800:=zo;have w8:w<800:=zo;have t:=hd r zl c;have dr:=J r c;have hi:=l.c;have ml:n% 2^s<2^s:=avn _ ps;have ql:n/2^s<10:=auw zo;have q:=KY (a:=d r) zo;rw[t] at q;have A:=HG (a:=n) (k:=s) zo;have B:=aba (a:=n) (k:=s) zo zo;have C:lG (.d .u64 ((n/2^s:Nat):Int)) (.d .u64 48)=.v (.d .u64 ((n/2^s+48:Nat):Int)):=EI (b:=48) zo;have E:=Om (a:=n/2^s+48) zo;have G:qj (.d .u64 ((n% 2^s:Nat):Int)) (.d .u64 10)=.v (.d .u64 ((n% 2^s*10:Nat):Int)):=HF (b:=10) zo;have H:=EI (a:=n% 2^s*10) (b:=D r) zo;have I:jb (.d .u64 ((n% 2^s*10+D r:Nat):Int)) (.d .u64 48)=.v (.d .u64 ((n% 2^s*10+D r- 48:Nat):Int)):=HD (b:=48) zo zo;have U:=l.iL (n':=n% 2^s*10+D r- 48) zo;generalize n% 2^s*10+D r- 48=N2 at*;generalize n% 2^s*10+D r=Y at*;generalize n% 2^s*10=X at*;generalize n% 2^s=N at*;generalize n/2^s+48=z at*;generalize n/2^s=Q at*;generalize 2^s- 1=mk at*;rw[aP];generalize Z:CC.d l237_1=L at v|-;show W T ayZ f e [] _;simp(disch:=omega) [-Int.natCast_add,-lg,-vK,-vJ,-ru,-oy,f0,u,f4,f5,f6,f8,i,t,o,q,A,B,C,E,G,H,I];refine v (r+1) (w+1) N2 _ (qb d w z) _ zo zo zo zo (g.dT _ (.inr rfl)) (Hp.fp rfl) (λj a c=>by unfold qb;rw[if_neg zo];exact hd j zo c) U ?_ ?_ ?_ ?_ ?_ ?_;exact zA;exact zA;exact aa;exact aa;exact aa;exact zA
def ajf(hs:s<=60){F:Nat}{K:aT->Prop}
 (hK:∀f' h' t Z(w:Nat),ah (·=b) h h'->bM h' b t nd dp ng Z->0<w->w<=800->(∀j,j<w->48<=t j/\t j<=57)->t 0=F->an 0 f'=.a b 0->an 5 f'=.i w->K (.a 6 f' h' [])):
 ∀(m w n:Nat)(l:Hp)(i:Nat->Nat)(d:Bool)(f:Fr),(n≠0->m<=s+1/\1<=m/\2^(s+1- m)∣n)->w<=800->ah (·=b) h l->bM l b i nd dp ng d->CT i s w n F->an 0 f=.a b 0->an 1 f=.d .u64 s->an 5 f=.i w->an 6 f=.d .u64 n->an 8 f=.d .u64 ((2^s- 1:Nat):Int)->W T (.d l237_0) f l [] K:=by
 intro m;have p60:2^s<=2^60:=auG zd hs;have ps:0<2^s:=auZ zd;have z:∀(w:Nat)(l:Hp)(i:Nat->Nat)(d:Bool)(f:Fr),w<=800->ah (·=b) h l->bM l b i nd dp ng d->CT i s w 0 F->an 0 f=.a b 0->an 5 f=.i w->an 6 f=.d .u64 0->W T (.d l237_0) f l [] K:=by
  intro w l i d f r g x o f0 f5 f6;have P:0<w:=by rcases auP w with e|e;have:=(o.d e).2;omega;exact e
  rw[aP];show W T aAg f l [] _;refine aB f6 ?_;refine hK _ l i d w g x P r o.b (o.a P) ?_ ?_;exact zA;exact zA
 induction m with
 |zero=>
  intro w n l i d f G r g x o f0 u f5 f6 f8;have n0:n=0:=avu λc=>by have:=G c;omega
  subst n0;exact z w l i d f r g x o f0 f5 f6
 |succ m v=>
  intro w n l i d f G r g x o f0 u f5 f6 f8;by_cases n0:n=0;subst n0;exact z w l i d f r g x o f0 f5 f6;obtain⟨m1,m2,V⟩:=G n0;have I:=x;unfold bM at I;have H:0<n:=zo;have p0':(0:Int)<n:=zo;have hi:=o.c;have ml:n% 2^s<2^s:=avn _ ps;have ql:n/2^s<10:=auw zo;have B:=HG (a:=n) (k:=s) zo;have C:=aba (a:=n) (k:=s) zo zo;have X:lG (.d .u64 ((n/2^s:Nat):Int)) (.d .u64 48)=.v (.d .u64 ((n/2^s+48:Nat):Int)):=EI (b:=48) zo;have Y:=Om (a:=n/2^s+48) zo;have E:qj (.d .u64 ((n% 2^s:Nat):Int)) (.d .u64 10)=.v (.d .u64 ((n% 2^s*10:Nat):Int)):=HF (b:=10) zo;have M:n% 2^s*10<10*2^s:=zo;have J:n% 2^s*10≠0->m<=s+1/\1<=m/\2^(s+1- m)∣n% 2^s*10:=λc=>by
   have S:2^(s- m)∣n:=by rwa[show s+1- (m+1)=s- m by omega] at V
   have U:2^(s- m)∣2^s:=Nat.pow_dvd_pow 2 zo;have A:2^(s- m)∣n% 2^s:=(Nat.dvd_mod_iff U).2 S;have mp:1<=m:=by rcases auP m with q|q;subst q;rw[axL] at A;have:=Nat.eq_zero_of_dvd_of_lt A ml;rw[this] at c;simp at c;exact q
   refine⟨by omega,mp,?_⟩;rw[show s+1- m=(s- m)+1 by omega,auX];exact Nat.mul_dvd_mul A ⟨5,rfl⟩
  have pI:=o.iL (n':=n% 2^s*10) M;have O:0<w->CT i s w (n% 2^s*10) F:=λc=>⟨o.b,M,o.a,λe=>by omega⟩;generalize n% 2^s*10=y at*;generalize n% 2^s=N at*;generalize n/2^s+48=R at*;generalize n/2^s=Q at*;generalize 2^s- 1=mk at*;rw[aP];generalize hL:CC.d l237_0=L at v|-;show W T aAg f l [] _;by_cases c8:w<800;have p:(w:Int)<800:=zo;simp(disch:=omega) [-Int.natCast_add,-lg,-vK,-vJ,-ru,-oy,f0,u,f5,f6,f8,I,H,p,B,C,X,Y,E];refine v (w+1) y _ (qb i w R) d _ J zo (g.dT _ (.inr rfl)) (Hp.fp rfl) pI ?_ ?_ ?_ ?_ ?_;exact zA;exact zA;exact aa;exact aa;exact zA;have p:¬(w:Int)<800:=zo;by_cases q0:Q=0;subst q0;simp(disch:=omega) [-Int.natCast_add,-lg,-vK,-vJ,-ru,-oy,u,f5,f6,f8,H,p,B,C,E];refine v w y _ i d _ J r g x (O zo) ?_ ?_ ?_ ?_ ?_;exact zA;exact zA;exact zA;exact aa;exact zA;have q1:0<Q:=zo;have q1':(0:Int)<Q:=zo;simp(disch:=omega) [-Int.natCast_add,-lg,-vK,-vJ,-ru,-oy,f0,u,f5,f6,f8,I,H,p,q1,B,C,E];refine v w y _ i true _ J r (g.dT _ (.inr rfl)) (Hp.fp rfl) (O zo) ?_ ?_ ?_ ?_ ?_;exact zA;exact zA;exact zA;exact aa;exact zA
def Ot(C:aA T)(x:bM h b D nd dp ng tr)(g:kE D nd)(v:1<=s)(f:s<=60)(Bl:-1000000000<dp/\dp<1000000000)
 (hk:∀h' l e X(q:Nat),ah (·=b) h h'->bM h' b l e (dp- q) ng X->kE l e->q<=1000->(D 0- 48<2^s->1<=q)->(q=0->l 0- 48=(D 0- 48)/2^s)->k (.a (.o []) h')):aE T (W T) ⟨237⟩ [.a b 0,.d .u64 s] h k:=by
 rw[aJ C.t237];have n8:=g.d;have p60:2^s<=2^60:=auG zd f;have ps:0<2^s:=auZ zd;generalize o:aAj=N;generalize Q:CC.d l237_3=L3;refine ag ?_;subst Q;refine ajc g v f x (λf1 r n H q0 q1 q5 q4 q6=>?_) nd 0 _ zo (auz _) (by simp only[V];omega) (.inl zd) ?_ ?_ ?_ ?_ ?_;have J:=x;unfold bM at J;have r1:=H.f;have rn:=H.g;have lo:=H.d;have hi:=H.c;subst o;unfold aAj zt;generalize R:aAi=O;generalize jg:CC.d l237_1=L1;generalize u:CC.d l237_0=L0;have E:oQ pF (.d .u64 1) (.d .u64 (s:Int))=.v (.d .u64 ((2^s:Nat):Int)):=by have:=aa' (a:=1) (k:=s) zo zo;rw[avz] at this;exact this
 have p:jb (.d .u64 ((2^s:Nat):Int)) (.d .u64 1)=.v (.d .u64 ((2^s- 1:Nat):Int)):=HD (b:=1) zo zo;have U:dp- ((r:Int)- 1)=dp- ((r- 1:Nat):Int):=zo;have ml:((2^s- 1:Nat):Int)=((2^s- 1:Nat):Int):=rfl;generalize hm:((2^s- 1:Nat):Int)=mI at p ml;generalize Hg:((2^s:Nat):Int)=pI at E p;simp(disch:=omega) [-ru,q0,q1,q4,J,E,p,U];generalize t:(h.dT b _:Hp)=c;have g1:ah (·=b) h c:=by rw[<-t];exact(ah.cg _).dT _ (.inr rfl)
 have x1:bM c b D nd (dp- ((r- 1:Nat):Int)) ng tr:=by rw[<-t];exact Hp.fp rfl
 clear t;have F0:n/2^s<10:=auw zo;have F1:1<=n/2^s:=(avN ps).2 lo;subst jg;refine aje (s:=s) (F:=n/2^s+48) (b:=b) (ng:=ng) (tr:=tr) (dp:=dp- ((r- 1:Nat):Int)) (h:=c) f n8 g.a (λf2 h2 L w2 G g2 x2 w2n M w p1 A p6 p8=>?_) (nd- r) r 0 n c D _ rfl zo r1 (auz _) (ah.cg _) x1 (λ_ _ _=>rfl) ⟨λj hj=>by omega,hi,λz=>by omega,λ_=>⟨rfl,lo⟩⟩ ?_ ?_ ?_ ?_ ?_ ?_;refine ag ?_;subst u;refine ajf (s:=s) (F:=n/2^s+48) (b:=b) (ng:=ng) (dp:=dp- ((r- 1:Nat):Int)) (nd:=nd) (h:=c) f (λf3 h3 m B I Y x3 w0 w8 S dF w A=>?_) (s+1) w2 G h2 L tr _ (λ_=>⟨at2 _,by omega,by rw[awP];exact⟨G,by simp⟩⟩) zo g2 x2 M w p1 A p6 p8;have d:=x3;unfold bM at d;subst R;refine aU w A d ?_;refine aa6 C (h:=h3.dT b (.a 274 (kO m I (dp- ((r- 1:Nat):Int)) ng B))) (nd:=I) (Hp.fp rfl) w8 λh4 e Z K Oq P=>?_;have y:m 0≠48:=by rw[dF];omega
 have np:=P w0 y;rw[if_neg zo] at K;refine ag ?_;refine hk h4 m e B (r- 1) (((g1.ba Y).dT _ (.inr rfl)).ba Z) K ⟨λi hi=>S i zo,by omega,np,y⟩ zo (λz=>by have:=H.b z;omega) λz=>?_;rw[dF,H.a zo,axE];exact au q0;exact au q1;exact au q4;exact au q5;exact au q6;exact au hm;exact aa;exact aa;exact aa;exact aa;simp(disch:=omega) [V]
end
end Yv
