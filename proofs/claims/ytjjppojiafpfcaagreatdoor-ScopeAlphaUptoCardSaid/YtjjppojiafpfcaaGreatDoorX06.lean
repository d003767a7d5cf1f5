/- A part of the proof of 'ScopeAlphaUptoCardSaid'. No condition. -/
import Derived.Test.YtjjppojiafpfcaaGreatDoorX05
set_option maxHeartbeats 64000000
set_option maxRecDepth 100000
set_option linter.all false
namespace Yv
variable {D:Nat->Nat}{K:aT->Prop}{c0 c1 c2 c9:AV}{dp:Int}{e j p pb tb:Nat}{f f':cN}{h h':Hp}{ng tr:Bool}{row:List AV}{s:List UInt8}
variable {T:aM->Option CF}
section
open Go (IntKind)
variable {k:aK->Prop}{b nd s:Nat}
def Ou(g:kE D nd):¬((nd:Int)=0)/\¬nd=0:=by have:=g.b;omega
def abf(j:aA T)(x:bM h b D nd dp ng tr)(g:kE D nd)(c:1<=s)(z:s<=60)(w:CS h)(v:22<=b)(n:-1000000000<dp/\dp<1000000000)
 (y:∀h' a d e(δ:Nat),ah (·=b) h h'->bM h' b a d (dp+δ) ng e->kE a d->δ<=s+1->10^(nd+δ- 1)<=V D nd*2^s->V D nd*2^s<10^(nd+δ)->(δ=0->a 0- 48=V D nd*2^s/10^(nd- 1))->k (.a (.o []) h')):aE T (W T) ⟨228⟩ [.a b 0,.i s] h k:=by
 rw[aJ j.t228];have m:=x;unfold bM at m;have l:=Ou g;have A:0<s:=c;have f:(0:Int)<s:=zo;have B:¬60<s:=zo;have i:¬(60:Int)<s:=zo;have t:aEy .u64 (.i (s:Int))=.v (.d .u64 (s:Int)):=by rw[vL,Ai zo]
 generalize u:CC.d l228_1=L;refine cC m l.1 l.2 A f ?_;subst u;rw[aP];show W T aJY _ h [] _;simp(disch:=omega) [i,t,-vL];refine ai9 j x g c z w v n λh' a d e δ o p a3 a4 a5 q r=>?_;refine ag ?_;exact y h' a d e δ o p a3 a4 a5 q r
def ajh(f:aA T)(x:bM h b D nd dp ng tr)(g:kE D nd)(e:1<=s)(v:s<=60)(l:-1000000000<dp/\dp<1000000000)
 (u:∀h' a c d(q:Nat),ah (·=b) h h'->bM h' b a c (dp- q) ng d->kE a c->q<=1000->(D 0- 48<2^s->1<=q)->(q=0->a 0- 48=(D 0- 48)/2^s)->k (.a (.o []) h')):aE T (W T) ⟨228⟩ [.a b 0,.i (-(s:Int))] h k:=by
 rw[aJ f.t228];have j:=x;unfold bM at j;have i:=Ou g;have w:¬(0:Int)< -(s:Int):=zo;have y:-(s:Int)<0:=zo;have z:¬-(s:Int)< -60:=zo;have p:uR (.i (-(s:Int)))=.v (.i (s:Int)):=by show OR.v (.i (w64 (0- -(s:Int))))=_;rw[gf zo zo];congr 2;omega
 have r:aEy .u64 (.i (s:Int))=.v (.d .u64 (s:Int)):=by rw[vL,Ai zo]
 generalize t:CC.d l228_0=L;generalize A:-(s:Int)=ms at*;refine cC j i.1 i.2 w y ?_;subst t;rw[aP];show W T aGF _ h [] _;simp(disch:=omega) [z,p,r,-vL];refine Ot f x g e v l λh' a c d q m n a3 a4 a5 o=>?_;refine ag ?_;exact u h' a c d q m n a3 a4 a5 o
def aji(y:aA T){n:Nat}(x:bM h b D nd dp ng tr)(g:kE D nd)(u:1<=n)(K:n<=1000000)(Y:-100000000<dp/\dp<100000000)
 (F:∀h' e i o(q:Nat),ah (·=b) h h'->bM h' b e i (dp- q) ng o->kE e i->q<=20000000->k (.a (.o []) h')):aE T (W T) ⟨228⟩ [.a b 0,.i (-(n:Int))] h k:=by
 rw[aJ y.t228];have G:=x;unfold bM at G;have N:=Ou g;have O:¬(0:Int)< -(n:Int):=zo;have P:-(n:Int)<0:=zo;generalize J:CC.d l228_0=L;generalize H:CC.g (z q228 10)=Q;generalize B:-(n:Int)=ms at O P;refine cC G N.1 N.2 O P ?_;subst J B;have key:∀(m n q0:Nat)(j:Hp)(w:Nat->Nat)(A:Nat)(p:Bool)(f:Fr),n<=60*(m+1)->1<=n->m<=16700->q0+(m+1)*1000<=20000000->ah (·=b) h j->bM j b w A (dp- q0) ng p->kE w A->an 0 f=.a b 0->an 1 f=.i (-(n:Int))->W T (.d l228_0) f j [] (bY 3 (bF (W T Q) (bY 0 (finish T (W T) [] k)))):=by
  intro m;induction m with
  |zero=>
   intro n q0 j w A p f K u _ R g1 v C f0 a;have l:¬-(n:Int)< -60:=zo;have d:uR (.i (-(n:Int)))=.v (.i (n:Int)):=by show OR.v (.i (w64 (0- -(n:Int))))=_;rw[gf zo zo];congr 2;omega
   have E:aEy .u64 (.i (n:Int))=.v (.d .u64 (n:Int)):=by rw[vL,Ai zo]
   rw[aP];show W T aGF _ j [] _;generalize B:-(n:Int)=ms at a l d;refine aU f0 a l ?_;subst H;simp(disch:=omega) [f0,a,d,E,-vL];refine Ot y v C u zo zo λh' e i o q r t a3 a4 a5 I=>?_;refine ag ?_;exact F h' e i o (q0+q) (g1.ba r) qag a3 zo
  |succ m M=>
   intro n q0 j w A p f K u Z R g1 v C f0 a;by_cases c:n<=60;have l:¬-(n:Int)< -60:=zo;have d:uR (.i (-(n:Int)))=.v (.i (n:Int)):=by show OR.v (.i (w64 (0- -(n:Int))))=_;rw[gf zo zo];congr 2;omega
   have E:aEy .u64 (.i (n:Int))=.v (.d .u64 (n:Int)):=by rw[vL,Ai zo]
   rw[aP];show W T aGF _ j [] _;generalize B:-(n:Int)=ms at a l d;refine aU f0 a l ?_;subst H;simp(disch:=omega) [f0,a,d,E,-vL];refine Ot y v C u zo zo λh' e i o q r t a3 a4 a5 I=>?_;refine ag ?_;exact F h' e i o (q0+q) (g1.ba r) qag a3 zo;have l:-(n:Int)< -60:=zo;have V:n- 60<=60*(m+1):=by clear F x G v;omega
   have X:1<=n- 60:=zo;have z3:m<=16700:=zo;have z4:∀q,q<=1000->q0+q+(m+1)*1000<=20000000:=λq _=>zo;have d:lG (.i (-(n:Int))) (.i 60)=.v (.i (-((n- 60:Nat):Int))):=by rw[zR,gf zo zo];congr 2;omega
   rw[aP];generalize J:CC.d l228_0=L at M|-;show W T aGF _ j [] _;generalize B:-(n:Int)=ms at a l d;generalize S:-((n- 60:Nat):Int)=U at d;refine aU f0 a l ?_;refine Ot y (s:=60) v C zd zd zo λh' e i o q r t a3 a4 a5 I=>?_;simp(disch:=omega) [a,d,-zR];refine M (n- 60) (q0+q) h' e i o _ V X z3 (z4 q a4) (g1.ba r) qag a3 ?_ ?_;exact zA;exact au S
 refine key 16700 n 0 h D nd tr _ zo u zd zd (ah.cg _) (by rw[show dp- ((0:Nat):Int)=dp by omega];exact x) g ?_ ?_;exact aa;exact aa
def ajj(o:aA T)(x:bM h b D nd dp ng tr)(g:kE D nd){m:Int}(v:-1000000000<m/\m<1000000000)(i:∀r:Bool,k (.a (.g r) h)):aE T (W T) ⟨238⟩ [.a b 0,.i m] h k:=by
 rw[aJ o.t238];have e:=x;unfold bM at e;have w:=g.d;by_cases c1:m<0;refine aS e c1 ?_;exact i _;obtain⟨n,rfl⟩:=at6 (by omega:0<=m);by_cases c2:nd<=n;have a:(nd:Int)<=n:=zo;refine bK e c1 c2 a ?_;exact i _;have a:¬(nd:Int)<=n:=zo;have c3:n<800:=zo;have d:=g.a n zo;by_cases j:D n=53;by_cases l:n+1=nd;have c:(n:Int)+1=nd:=zo;cases tr with
 |true=>
  refine fY e c1 c2 a c3 j l c ?_;exact i _
 |false=>
  by_cases c6:0<n;have f:(0:Int)<n:=zo;have q:(n:Int)- 1=((n- 1:Nat):Int):=zo;have c7:n- 1<800:=zo;have p:=g.a (n- 1) zo;have t:jb (.s (D (n- 1))) (.s 48)=.v (.s (D (n- 1)- 48)):=T' p.1 zo;have u:AH (.s (D (n- 1)- 48)) (.s 2)=.v (.s ((D (n- 1)- 48)% 2)):=rfl;refine kC e c1 c2 a c3 j l c c6 f q c7 (atQ t u) ?_;exact i _;have f:¬(0:Int)<n:=zo;refine nA e c1 c2 a c3 j l c c6 f ?_;exact i _
 have c:¬(n:Int)+1=nd:=zo;refine fY e c1 c2 a c3 j l c ?_;exact i _;refine cq e c1 c2 a c3 j ?_;exact i _
def ajk(y:aA T)(x:bM h b D nd dp ng tr)(g:kE D nd)(C:-1000000000<dp/\dp<1000000000)(t:∀r:Int,k (.a (.d .u64 r) h)):aE T (W T) ⟨229⟩ [.a b 0] h k:=by
 rw[aJ y.t229];have e:=x;unfold bM at e;have L:=g.d;by_cases l:20<dp;refine aS e l ?_;exact t _;generalize E:aJZ=o;generalize j:CC.d l229_0=z;generalize n:CC.d l229_1=L1;refine aS e l ?_;have B:∀(f:Fr),an 0 f=.a b 0->(∃v,an 4 f=.d .u64 v)->W T o f h [] (finish T (W T) [.a 2] k):=by
  intro f f0 ⟨v,f4⟩;subst E;refine aS f0 e ?_;refine ajj y x g C λr=>?_;cases r with
  |true=>refine aB f4 ?_;exact t _
  |false=>refine aB f4 ?_;exact t _
 have p:∀(m i:Nat)(f:Fr),(dp:Int)<=i+m->i+m<=2000->an 0 f=.a b 0->an 3 f=.i i->(∃v,an 4 f=.d .u64 v)->W T z f h [] (bY 2 (bF (W T o) (finish T (W T) [.a 2] k))):=by
  intro m;induction m with
  |zero=>
   intro i f u i8 f0 f3 ⟨v,f4⟩;have c:¬(i:Int)<dp:=zo;subst j;rw[aP];show W T aHf f h [] _;refine bK f0 f3 e c ?_;refine B _ ?_ ⟨v,?_⟩;exact zA;exact zA
  |succ m w=>
   intro i f u i8 f0 f3 ⟨v,f4⟩;by_cases c:(i:Int)<dp;rw[<-j,aP];show W T aHf f h [] _;rw[j];refine cC f0 f3 f4 e c ?_;refine w (i+1) _ zo zo ?_ ?_ ⟨v*10% 18446744073709551616,?_⟩;exact zA;exact aa;exact aa;rw[<-j,aP];show W T aHf f h [] _;refine bK f0 f3 e c ?_;refine B _ ?_ ⟨v,?_⟩;exact zA;exact zA
 have q:∀(m i:Nat)(f:Fr),m=nd- i->i<=nd->an 0 f=.a b 0->an 3 f=.i i->(∃v,an 4 f=.d .u64 v)->W T L1 f h [] (bY 0 (bF (W T ((CC.m 2 z).f o)) (finish T (W T) [.a 2] k))):=by
  intro m;induction m with
  |zero=>
   intro i f u hi f0 f3 ⟨v,f4⟩;obtain rfl:i=nd:=zo;subst n;rw[aP];show W T aHe f h [] _;by_cases c:(i:Int)<dp;refine bK f0 f3 e c ?_;refine p 1000 i _ zo zo ?_ ?_ ⟨v,?_⟩;exact zA;exact zA;exact zA;refine bK f0 f3 e c ?_;refine p 1000 i _ zo zo ?_ ?_ ⟨v,?_⟩;exact zA;exact zA;exact zA
  |succ m w=>
   intro i f u hi f0 f3 ⟨v,f4⟩;have A:i<nd:=zo;have i8:i<800:=zo;have d:=g.a i A;have H:jb (.s (D i)) (.s 48)=.v (.s (D i- 48)):=T' d.1 zo;have I:=KY (a:=D i- 48) zo;obtain⟨F,J⟩:∃a,qj (.d .u64 v) (.d .u64 10)=.v (.d .u64 a):=⟨_,rfl⟩;obtain⟨G,K⟩:∃a,lG (.d .u64 F) (.d .u64 ((D i- 48:Nat):Int))=.v (.d .u64 a):=⟨_,rfl⟩;by_cases c:(i:Int)<dp;rw[<-n,aP];show W T aHe f h [] _;rw[n];simp(disch:=omega) [-vK,-vJ,f0,f3,f4,e,c,A,H,I,J,K];refine w (i+1) _ zo zo ?_ ?_ ⟨G,?_⟩;exact zA;exact aa;exact aa;rw[<-n,aP];show W T aHe f h [] _;refine cC f0 f3 f4 e c ?_;refine p 1000 i _ zo zo ?_ ?_ ⟨v,?_⟩;exact zA;exact zA;exact zA
 refine q nd 0 _ rfl (auz _) ?_ ?_ ⟨0,?_⟩;exact aa;exact aa;exact aa
end
section
open Go (IntKind)
variable {k:aK->Prop}{b nd:Nat}
def Ov{c:UInt8}(h:kh c=true):48<=c.toNat/\c.toNat<=57:=by simpa[kh] using h
def abg{c:UInt8}(h:KR c):(48<=c.toNat/\c.toNat<=57)\/c.toNat=46\/c.toNat=101\/c.toNat=43\/c.toNat=45:=by rcases h with h|h|h|h|h;exact .inl (Ov h);subst h;exact .inr (.inl rfl);subst h;exact .inr (.inr (.inl rfl));subst h;exact .inr (.inr (.inr (.inl rfl)));subst h;exact .inr (.inr (.inr (.inr rfl)))
def abh(g:qa s){i:Nat}(hi:i<s.length):KR s[i]:=g.a _ (auy hi)
def Um(c:uU T){u:Nat}(e:u<256)(d:k (.a (.s (bU (λ_ a b=>a|||b) u 32)) h)):aE T (W T) ⟨189⟩ [.s u] h k:=by rw[aJ c.t189];refine ag ?_;exact d
def abi:∀u,u<128->32<=u->(u<64->bU (λ_ a b=>a|||b) u 32=u)/\(96<=u->bU (λ_ a b=>a|||b) u 32=u):=by decide
def Un{u:Nat}(h:(48<=u/\u<=57)\/u=46\/u=101\/u=43\/u=45):bU (λ_ a b=>a|||b) u 32=u:=by by_cases c:u<64;exact(abi u zo zo).1 c;exact(abi u zo zo).2 zo
structure EL(D:Nat->Nat)(nd i:Nat)(dp:Int):Prop where
 a:th D nd
 c:0<nd->D 0≠48
 d:nd<=i
 b:-(i:Int)<=dp/\dp<=i
def EL.or{i:Nat}(x:EL D nd i dp)(h:i<=800):nd=0\/kE D nd:=by rcases auP nd with e|e;exact .inl e;exact .inr ⟨x.a,by have:=x.d;omega,e,x.c e⟩
def ajm(fl:qa s)(hl:s.length<=60){K:aT->Prop}
 (P:∀f' h' G(H i:Nat) J,ah (·=b) h h'->bM h' b G H J ng tr->EL G H i J->i<=s.length->an 0 f'=.a b 0->an 1 f'=S s->an 5 f'=.i i->(∃n,an 6 f'=.g n)->(∃n,an 7 f'=.g n)->an 4 f'=.g false->K (.a 1 f' h' []))
 (Z:∀f' h' G(H i:Nat) J,ah (·=b) h h'->bM h' b G H J ng tr->EL G H i J->i<=s.length->an 4 f'=.g false->K (.b f' h' [])):
 ∀(m i:Nat)(p:Hp)(o:Nat->Nat)(c:Nat)(l:Int)(n C:Bool)(f:Fr),m=s.length- i->i<=s.length->ah (·=b) h p->bM p b o c l ng tr->EL o c i l->
  an 0 f=.a b 0->an 1 f=S s->an 5 f=.i i->an 6 f=.g n->an 7 f=.g C->an 4 f=.g false->W T (.d l211_1) f p [] K:=by
 intro m;induction m with
 |zero=>
  intro i p o c l n C f hm hi g x I f0 v f5 f6 f7 f4;have e:i=s.length:=zo;subst e;rw[aP];show W T XN f p [] _;unfold XN zt;refine aS v f5 ?_;refine P _ p o c _ l g x I zl ?_ ?_ ?_ ⟨n,?_⟩ ⟨C,?_⟩ ?_;exact zA;exact zA;exact zA;exact zA;exact zA;exact zA
 |succ m N=>
  intro i p o c l n C f hm hi g x I f0 v f5 f6 f7 f4;have F:=x;unfold bM at F;have E:i<s.length:=zo;have A:(i:Int)<s.length:=zo;have oc:=abg (abh fl E);have Y:s.getD i 0=s[i]:=by rw[aub,atT E];rfl
  have w:nh (S s) (.i (i:Int))=.v (.s s[i].toNat):=by rw[dQ zo (by simpa using E)];simp only[awr];rw[Y]
  generalize s[i].toNat=u at oc w;have I1:EL o c (i+1) l:=⟨I.a,I.c,by have:=I.d;omega,by have:=I.b;omega⟩;have le:=I.d;have X:=I.b;rw[aP];generalize hL:CC.d l211_1=L at N|-;show W T XN f p [] _;unfold XN zt;generalize ju:CC.h r211_24=V;have B:¬u=95:=zo;by_cases r:u=46;cases n with
  |true=>
   simp(disch:=omega) [-dQ,v,f5,f6,A,w,r];refine Z _ p o c i l g x I hi ?_;exact zA
  |false=>
   simp(disch:=omega) [-dQ,f0,v,f5,f6,A,w,r,F];refine N (i+1) _ o c c true C _ zo E (g.dT _ (.inr rfl)) (Hp.fp rfl) ⟨I.a,I.c,by omega,by omega⟩ ?_ ?_ ?_ ?_ ?_ ?_;exact zA;exact zA;exact aa;exact aa;exact zA;exact zA
  by_cases R:48<=u/\u<=57;obtain⟨t,U⟩:=R;by_cases c0:u=48/\c=0;obtain⟨c0,rfl⟩:=c0;subst c0;have e1:w64 (l- 1)=l- 1:=gf zo zo;simp(disch:=omega) [-dQ,f0,v,f5,A,w,F];refine N (i+1) _ o 0 (l- 1) n true _ zo E (g.dT _ (.inr rfl)) (Hp.fp rfl) ⟨I.a,I.c,by omega,by omega⟩ ?_ ?_ ?_ ?_ ?_ ?_;exact zA;exact zA;exact aa;exact zA;exact aa;exact zA;have n8:c<800:=zo;have M:(c:Int)<800:=zo;have nI:EL (qb o c u) (c+1) (i+1) l:=⟨λj hj=>by
   unfold qb;split;exact⟨t,U⟩;exact I.a j zo,λ_=>by
   unfold qb;split;rename_i e;intro q;exact c0 ⟨q,e.symm⟩;rename_i e;exact I.c zo,by omega,by omega⟩
  have Q:∀y,an 0 y=.a b 0->an 1 y=S s->an 5 y=.i i->an 6 y=.g n->an 7 y=.g true->an 4 y=.g false->W T V y p [] (bF (W T (CC.g (z q211 25))) (bF (W T (CC.p 2)) (bY 3 (bF (W T (CC.p 1)) (bY 2 (bF (W T (CC.g (z q211 28))) (bF (W T L) K))))))):=by intro y q0 q1 q5 q6 q7 q4;subst ju;rw[lI,aEE];generalize ku _ _=fm;simp(disch:=omega) [-dQ,q0,q1,q5,F,w];refine N (i+1) _ (qb o c u) (c+1) l n true _ zo E ((g.dT _ (.inr rfl)).dT _ (.inr rfl)) (Hp.fp rfl) nI ?_ ?_ ?_ ?_ ?_ ?_;exact au q0;exact au q1;exact aa;exact au q6;exact au q7;exact au q4
  by_cases d:u=48;have z:¬c=0:=λe=>c0 ⟨d,e⟩;have z':¬(c:Int)=0:=zo;simp(disch:=omega) [-dQ,f0,v,f5,A,w,d,z,M,F];refine Q _ ?_ ?_ ?_ ?_ ?_ ?_;exact zA;exact zA;exact zA;exact zA;exact aa;exact zA;simp(disch:=omega) [-dQ,f0,v,f5,A,w,B,r,t,U,d,M,F];refine Q _ ?_ ?_ ?_ ?_ ?_ ?_;exact zA;exact zA;exact zA;exact zA;exact aa;exact zA;have t:48<=u->¬u<=57:=λa b=>R ⟨a,b⟩;by_cases d:48<=u;have O:=t d;simp(disch:=omega) [-dQ,v,f5,A,w,B,r,d,O];refine P _ p o c i l g x I hi ?_ ?_ ?_ ⟨n,?_⟩ ⟨C,?_⟩ ?_;exact zA;exact zA;exact zA;exact zA;exact zA;exact zA;simp(disch:=omega) [-dQ,v,f5,A,w,B,r,d];refine P _ p o c i l g x I hi ?_ ?_ ?_ ⟨n,?_⟩ ⟨C,?_⟩ ?_;exact zA;exact zA;exact zA;exact zA;exact zA;exact zA
def xh(fl:qa s){i:Nat}(a:i<s.length):∃u,nh (S s) (.i (i:Int))=.v (.s u)/\((48<=u/\u<=57)\/u=46\/u=101\/u=43\/u=45):=by refine⟨s[i].toNat,?_,abg (abh fl a)⟩;rw[dQ zo (by simpa using a)];simp only[awr];rw[aub,atT a];rfl
def ajn(fl:qa s)(H:s.length<=60){K:aT->Prop}(z:∀f'(i:Nat)(e:Int),i<=s.length->0<=e->e<100000->an 0 f'=.a b 0->an 1 f'=S s->an 4 f'=.g false->an 5 f'=.i i->(∃g,an 8 f'=.i g/\(g=1\/g=-1))->an 9 f'=.i e->K (.a 5 f' h [])):
 ∀(m i:Nat)(e:Int)(f:Fr),m=s.length- i->i<=s.length->0<=e->e<100000->an 0 f=.a b 0->an 1 f=S s->an 4 f=.g false->an 5 f=.i i->(∃g,an 8 f=.i g/\(g=1\/g=-1))->an 9 f=.i e->W T (.d l211_0) f h [] K:=by
 intro m;induction m with
 |zero=>
  intro i e f E hi p r f0 j f4 f5 ⟨g,f8,n⟩ f9;have C:i=s.length:=zo;subst C;rw[aP];show W T aIt f h [] _;refine aS j f5 ?_;refine z _ _ e zl p r ?_ ?_ ?_ ?_ ⟨g,?_,n⟩ ?_;exact zA;exact zA;exact zA;exact zA;exact zA;exact zA
 |succ m x=>
  intro i e f E hi p r f0 j f4 f5 ⟨g,f8,n⟩ f9;have v:i<s.length:=zo;have o:(i:Int)<s.length:=zo;obtain⟨u,t,I⟩:=xh fl v;have a:¬u=95:=zo;rw[aP];generalize G:CC.d l211_0=L at x|-;show W T aIt f h [] _;by_cases y:48<=u/\u<=57;obtain⟨l,A⟩:=y;have B:aEy .i64 (.s u)=.v (.i (u:Int)):=by show OR.v (.i (w64 (Int.ofNat u)))=_;rw[show Int.ofNat u=(u:Int) from rfl,gf zo zo]
  by_cases c:e<10000;have F:w64 (e*10)=e*10:=gf zo zo;simp(disch:=omega) [-dQ,j,f5,f9,o,t,l,A,a,c,B];refine x (i+1) (e*10+u- 48) _ zo v zo zo ?_ ?_ ?_ ?_ ⟨g,?_,n⟩ ?_;exact zA;exact zA;exact zA;exact aa;exact zA;exact aa;simp(disch:=omega) [-dQ,j,f5,f9,o,t,l,A,a,c];refine x (i+1) e _ zo v p r ?_ ?_ ?_ ?_ ⟨g,?_,n⟩ ?_;exact zA;exact zA;exact zA;exact aa;exact zA;exact zA;have out:∀f',an 0 f'=.a b 0->an 1 f'=S s->an 4 f'=.g false->an 5 f'=.i i->an 8 f'=.i g->an 9 f'=.i e->K (.a 5 f' h []):=λf' q0 q1 q4 q5 q8 q9=>z f' i e hi p r q0 q1 q4 q5 ⟨g,q8,n⟩ q9;by_cases d:48<=u;have w:¬u<=57:=λq=>y ⟨d,q⟩;simp(disch:=omega) [-dQ,j,f5,o,t,d,w,a];refine out _ ?_ ?_ ?_ ?_ ?_ ?_;exact zA;exact zA;exact zA;exact zA;exact zA;exact zA;simp(disch:=omega) [-dQ,j,f5,o,t,d,a];refine out _ ?_ ?_ ?_ ?_ ?_ ?_;exact zA;exact zA;exact zA;exact zA;exact zA;exact zA
def ajo(H2:uU T)(x:bM h b (λ_=>0) 0 0 false false) (fl:qa s) (hl:s.length<=60)
 (w:∀(r:Bool) h' D' cG lz yw fT,ah (·=b) h h'->bM h' b D' cG lz yw fT->(cG=0\/kE D' cG)->-200000<lz->lz<200000->k (.a (.g r) h')):aE T (W T) ⟨211⟩ [.a b 0,S s] h k:=by
 rw[aJ H2.h.t211];have x':=x;unfold bM at x';have l0:0<s.length:=auA.2 fl.d;obtain⟨u,V,oc⟩:=xh fl l0;have V:nh (S s) (.i 0)=.v (.s u):=V;have dh:48<=u/\u<=57:=by
  have a:=Ov fl.b;have e:nh (S s) (.i 0)=.v (.s (s.headD 0).toNat):=by
   rw[dQ zd (by simpa using l0)];cases s with
   |nil=>simp at l0
   |cons c r=>rfl
  rw[V] at e;cases e;exact a
 have c43:¬u=43:=zo;have c45:¬u=45:=zo;have sl:¬(s.length:Int)<=0:=zo;have KZ:¬s.length=0:=zo;generalize ajp:aIw=T29;generalize jg:CC.d l211_1=L1;simp(disch:=omega) [-dQ,x',V,c43,c45,KZ];generalize hH:(Hp.dT (Hp.dT h b _) b _:Hp)=H;have gH:ah (·=b) h H:=by rw[<-hH];exact((ah.cg (M:=(·=b)) h).dT _ (.inr rfl)).dT _ (.inr rfl)
 have xH:bM H b (λ_=>0) 0 0 false false:=by rw[<-hH];exact Hp.fp rfl
 clear hH;subst jg;refine ajm (h:=H) (b:=b) (ng:=false) (tr:=false) fl hl (λf1 h1 t p i R g1 L I hi q0 q1 q5 e6 e7 q4=>?_) (λf1 h1 t p i R g1 L I hi q4=>?_) s.length 0 H (λ_=>0) 0 0 false false _ rfl (auz _) (ah.cg _) xH ⟨λj hj=>by omega,λz=>by omega,at2 _,by decide⟩ ?_ ?_ ?_ ?_ ?_ ?_;obtain⟨sd,q6⟩:=e6;obtain⟨sg,q7⟩:=e7;have le:=I.d;have dpb:=I.b;have B:=I.or zo;have g2:=gH.ba g1;have bad:∀(l:Fr) f Q(G:Nat) d nD,ah (·=b) h f->bM f b Q G d false nD->(G=0\/kE Q G)->-200000<d->d<200000->an 4 l=.g false->finish T (W T) [.a 4] k (.b l f []):=λl f Q G d nD n o a3 a4 a5 a6=>by refine aB a6 ?_;exact w false f Q G d false nD n o a3 a4 a5
 subst ajp;unfold aIw zt;generalize Uk:aIv=T32;generalize F:aJT=C;cases sg with
 |false=>
  refine aS q7 q4 ?_;exact w false h1 t p R false false g2 L B zo zo
 |true=>
  have Uo:∀(l:Fr) f(d:Int)(U:Nat),ah (·=b) h f->bM f b t p d false false->-200000<d->d<200000->an 1 l=S s->an 4 l=.g false->an 5 l=.i U->W T C l f [] (finish T (W T) [.a 4] k):=by intro l f d U n o a3 a4 m y v;subst F;by_cases c:U=s.length;subst c;refine aU m y v ?_;exact w true f t p d false false n o B a3 a4;have c':¬(U:Int)=s.length:=zo;refine cC m y v c c' ?_;exact w false f t p d false false n o B a3 a4
  have HH:∀(l:Fr) f(d:Int),ah (·=b) h f->bM f b t p d false false->-1000<d->d<1000->an 0 l=.a b 0->an 1 l=S s->an 4 l=.g false->an 5 l=.i i->W T T32 l f [] (finish T (W T) [.a 4] k):=by
   intro l f d n o a3 a4 p0 m y v;have E:=o;unfold bM at E;subst Uk;unfold aIv zt;rw[F];by_cases ci:i<s.length;have yy:(i:Int)<s.length:=zo;obtain⟨u1,yz,K0⟩:=xh fl ci;have lo:=Un K0;simp(disch:=omega) [-dQ,m,v,yy,yz];refine Um H2 zo ?_;rw[lo];by_cases ce:u1=101;subst ce;by_cases cj:i+1<s.length;have N:¬(s.length:Int)<=(i:Int)+1:=zo;have yB:¬s.length<=i+1:=zo;obtain⟨u2,O,oc2⟩:=xh fl cj;have O:nh (S s) (.i ((i:Int)+1))=.v (.s u2):=O;generalize ajq:aIu=T42;have Y:∀(f3:Fr)(j:Nat)(g:Int),(g=1\/g=-1)->j<=s.length->an 0 f3=.a b 0->an 1 f3=S s->an 4 f3=.g false->an 5 f3=.i j->an 8 f3=.i g->W T T42 f3 f [] (bF (W T C) (finish T (W T) [.a 4] k)):=by
    intro f3 j g hg hj r0 J X K r8;subst ajq;unfold aIu zt;by_cases cl:j<s.length;have P:¬(s.length:Int)<=j:=zo;have yE:¬s.length<=j:=zo;obtain⟨u3,Z,oc3⟩:=xh fl cl;by_cases cd:u3<48;simp(disch:=omega) [-dQ,J,X,K,P,Z,cd];exact w false f t p d false false n o B zo zo;by_cases rz:57<u3;simp(disch:=omega) [-dQ,J,X,K,P,Z,cd,rz];exact w false f t p d false false n o B zo zo;generalize hL0:CC.d l211_0=L0;simp(disch:=omega) [-dQ,J,K,P,Z,cd,rz];subst hL0;refine ajn (h:=f) (b:=b) fl hl (λf4 i4 e i4l e0 e1 z0 z1 z4 z5 e8 z9=>?_) (s.length- j) j 0 _ rfl hj (atY _) zd ?_ ?_ ?_ ?_ ⟨g,?_,hg⟩ ?_;obtain⟨g2,z8,hg2⟩:=e8;have bd:-100000<e*g2/\e*g2<100000:=by rcases hg2 with q|q<;>subst q<;>omega
    have w1:w64 (e*g2)=e*g2:=gf zo zo;have em:qj (.i e) (.i g2)=.v (.i (e*g2)):=by rw[NG,w1]
    generalize e*g2=eg at bd em;have w2:w64 (d+eg)=d+eg:=gf zo zo;simp(disch:=omega) [-NG,em,z0,z8,z9,E];refine Uo _ _ (d+eg) i4 (n.dT _ (.inr rfl)) (Hp.fp rfl) zo zo ?_ ?_ ?_;exact au z1;exact au z4;exact au z5;exact au r0;exact au J;exact au X;exact au K;exact au r8;exact aa;have P:(s.length:Int)<=j:=zo;have yE:s.length<=j:=zo;simp(disch:=omega) [-dQ,J,X,K,P];exact w false f t p d false false n o B zo zo
   by_cases cp:u2=43;subst cp;simp(disch:=omega) [-dQ,m,v,O,N];refine Y _ (i+1+1) 1 (.inl rfl) zo ?_ ?_ ?_ ?_ ?_;exact au p0;exact au m;exact au y;exact aa;exact aa;by_cases cm:u2=45;subst cm;simp(disch:=omega) [-dQ,m,v,O,N];refine Y _ (i+1+1) (-1) (.inr rfl) zo ?_ ?_ ?_ ?_ ?_;exact au p0;exact au m;exact au y;exact aa;exact aa;simp(disch:=omega) [-dQ,m,v,O,N,cp,cm];refine Y _ (i+1) 1 (.inl rfl) zo ?_ ?_ ?_ ?_ ?_;exact au p0;exact au m;exact au y;exact aa;exact aa;have N:(s.length:Int)<=(i:Int)+1:=zo;have yB:s.length<=i+1:=zo;simp(disch:=omega) [-dQ,m,y,v,N];exact w false f t p d false false n o B zo zo;refine aB ce ?_;refine Uo _ f d i n o zo zo ?_ ?_ ?_;exact au m;exact au y;exact au v;have yy:¬(i:Int)<s.length:=zo;simp(disch:=omega) [-dQ,m,v,yy];refine Uo _ f d i n o zo zo ?_ ?_ ?_;exact au m;exact au y;exact au v
  have A:=L;unfold bM at A;cases sd with
  |false=>
   refine bK q0 q6 q7 A ?_;refine HH _ _ p (g2.dT _ (.inr rfl)) (Hp.fp rfl) zo zo ?_ ?_ ?_ ?_;exact au q0;exact au q1;exact au q4;exact au q5
  |true=>
   refine bK q0 q6 q7 A ?_;refine HH _ _ R g2 L zo zo ?_ ?_ ?_ ?_;exact au q0;exact au q1;exact au q4;exact au q5
 refine aB q4 ?_;exact w false h1 t p R false false (gH.ba g1) L (I.or zo) (by have:=I.b;omega) (by have:=I.b;omega);exact aa;exact aa;exact aa;exact aa;exact aa;exact aa
end
section
open Go (IntKind)
variable {k:aK->Prop}{b nd:Nat}
def pw(i:Nat):Nat:=[1,3,6,9,13,16,19,23,26].getD i 0
def abk:∀i,i<9->1<=pw i/\pw i<=27/\(2<=i->6<=pw i):=by decide
def EO(h:Hp):Prop:=∃q cap ex,cellsOf (h.ab 11) 0 1=some [.c q 0 1 9 cap ex]/\q<22/\∀i,i<9->cellsOf (h.ab q) i 1=some [.i (pw i)]
def EO.kp{h':Hp}(x:EO h)(g:xe h h'):EO h':=by obtain⟨q,cap,ex,e,c,a⟩:=x;exact⟨q,cap,ex,by rw[g 11 zd];exact e,c,λi hi=>by rw[g q c];exact a i hi⟩
def abl{n:Nat}(h:n<1000000000):uR (.i (n:Int))=.v (.i (-(n:Int))):=by show OR.v (.i (w64 (0- (n:Int))))=_;rw[gf zo zo];congr 2;omega
def Aj(D:Nat->Nat):Nat:=if 56<=D 0 then 1 else 0
def ajr(R:aA T)(pt:EO h)(hb:22<=b)(hn:22<=h.a){K:aT->Prop}
 (hK:∀f' h' H J(C:Int) fT(e:Int),ah (·=b) h h'->bM h' b H J C ng fT->kE H J->C<=0->-2000<C->-100<=e->e<=100000->an 0 f'=.a b 0->an 1 f'=.a 9 0->an 5 f'=.g false->an 6 f'=.i e->K (.a 0 f' h' [])):
 ∀(m:Nat)(i:Hp)(j:Nat->Nat)(l:Nat)(d:Int)(a:Bool)(e:Int)(f:Fr),2*d+Aj j<=m->d<=400->-2000<d->-100<=e->e+27*m<=100000->ah (·=b) h i->bM i b j l d ng a->kE j l->
  an 0 f=.a b 0->an 1 f=.a 9 0->an 5 f=.g false->an 6 f=.i e->W T (.d l212_1) f i [] K:=by
 intro m;have out:∀(i:Hp)(j:Nat->Nat)(l:Nat)(d:Int)(a:Bool)(e:Int)(f:Fr),d<=0->-2000<d->-100<=e->e<=100000->ah (·=b) h i->bM i b j l d ng a->kE j l->an 0 f=.a b 0->an 1 f=.a 9 0->an 5 f=.g false->an 6 f=.i e->W T (.d l212_1) f i [] K:=by intro i j l d a e f c lo u B g x o f0 w f5 f6;have p:=x;unfold bM at p;have c':¬0<d:=zo;rw[aP];show W T Ro f i [] _;unfold Ro zt;refine aU f0 p c' ?_;refine hK _ i j l d a e g x o c lo u B ?_ ?_ ?_ ?_;exact zA;exact zA;exact zA;exact zA
 induction m with
 |zero=>
  intro i j l d a e f M up lo u B g x o f0 w f5 f6;exact out i j l d a e f zo lo u zo g x o f0 w f5 f6
 |succ m N=>
  intro i j l d a e f M up lo u B g x o f0 w f5 f6;by_cases c:0<d;have p:=x;unfold bM at p;obtain⟨q,cap,ex,F,hq,pa⟩:=pt.kp (.of g hb hn);obtain⟨n,rfl⟩:=at6 (by omega:0<=d);have d0:=o.a 0 o.b;have dh:=o.c;rw[aP];generalize hL:CC.d l212_1=L at N|-;show W T Ro f i [] _;unfold Ro zt;generalize ju:CC.h r212_13=Dr;generalize Q:CC.h r212_15=KX;generalize hT:Rn=y;have rest:∀(t:Fr)(s:Nat),1<=s->s<=27->(2<=n->6<=s)->(n=1->s=3)->an 0 t=.a b 0->an 1 t=.a 9 0->an 5 t=.g false->an 6 t=.i e->an 8 t=.i s->W T y t i [] (bY 1 (bF (W T L) K)):=by
   intro t s s1 s2 s3 s4 O p1 p5 p6 P;subst hT;have ne:=abl (n:=s) zo;generalize S:-(s:Int)=ms at ne;refine aU O P ne ?_;subst S;refine ajh R x o s1 zo zo λh2 v cZ nD q V X a3 a4 a5 I=>?_;have es:w64 (e+s)=e+s:=gf zo zo;refine aU p6 P es ?_;have dn:=a3.a 0 a3.b;have E:6<=s->64<=2^s:=λz=>auG (by decide:0<2) z;have U:2*((n:Int)- q)+Aj v<=m:=by
    have b2:Aj v<=1:=by unfold Aj;split<;>omega
    rcases auP q with z|z;subst z;have n1:n=1:=by refine avu λz=>?_;have:=E (s3 zo);have:=a5 zo;omega
    have G:=s4 n1;subst G;have Y:¬j 0- 48<2^3:=λz=>by have:=a5 z;omega
    have I:=I rfl;have Z:Aj j=1:=by unfold Aj;rw[if_pos zo]
    have b3:Aj v=0:=by unfold Aj;rw[if_neg zo]
    rw[Z] at M;rw[b3];omega;omega
   refine N h2 v cZ ((n:Int)- q) nD (e+s) _ U zo zo zo zo (g.ba V) X a3 ?_ ?_ ?_ ?_;exact au O;exact au p1;exact au p5;exact aa
  have c0:0<n:=zo;have A:(0:Int)<n:=zo;refine bK f0 p c0 A ?_;subst ju;rw[lI,aEE];generalize ku _ _=fm;by_cases c9:9<=n;have r:(9:Int)<=n:=zo;refine cC f0 p F c9 r ?_;refine rest _ 27 zd zd (λ_=>by decide) (λz=>by omega) ?_ ?_ ?_ ?_ ?_;exact zA;exact zA;exact zA;exact zA;exact aa;have r:¬(9:Int)<=n:=zo;obtain⟨w1,w2,w3⟩:=abk n zo;have pn:=pa n zo;have n9:n<9:=zo;refine cC f0 p F c9 r ?_;subst Q;rw[lI,aEE];generalize ku _ _=fm;refine cC f0 p F pn n9 ?_;refine rest _ (pw n) w1 w2 w3 (λz=>by subst z;rfl) ?_ ?_ ?_ ?_ ?_;exact zA;exact zA;exact zA;exact zA;exact aa;exact out i j l d a e f zo lo u zo g x o f0 w f5 f6
end
section
open Go (IntKind)
variable {k:aK->Prop}{d:Nat->Nat}{b nd δ:Nat}
def ajs(g:kE D nd){s:Nat}(c:6<=s)(j:V D nd*2^s<10^(nd+δ)):1<=δ:=by
 obtain⟨f,i⟩:=KW g.a g.b g.c;rcases auP δ with z|z;subst z;have p:64<=2^s:=auG (by decide:0<2) c;have a:=at4 (10^(nd- 1)) i;rw[avz] at a;have lo:10^(nd- 1)<=V D nd:=at1 a f;have e:10^(nd+0)=10^(nd- 1)*10:=by rw[<-auX];congr 1;have:=g.b;omega
 have b:=axp lo p;have q:10^(nd- 1)*10<=10^(nd- 1)*64:=au2 _ zd;omega;exact z
def ajt(g:kE D nd)(j:V D nd*2^3<10^(nd+δ))(f:δ=0->d 0- 48=V D nd*2^3/10^(nd- 1))(gd:48<=d 0):1<=δ\/D 0<d 0/\δ=0:=by
 obtain⟨l,i⟩:=KW g.a g.b g.c;rcases auP δ with z|z;right;refine⟨?_,z⟩;have f:=f z;subst z;have p:0<10^(nd- 1):=auZ zd;have e:10^(nd+0)=10^(nd- 1)*10:=by rw[<-auX];congr 1;have:=g.b;omega
 generalize 10^(nd- 1)=P at*;have a:=at4 P i;rw[avz] at a;have one:D 0- 48<=1:=by refine avu λc=>?_;have:=at4 P (by omega:2<=D 0- 48);omega
 have lo:8<=V D nd*2^3/P:=(awA p).2 zo;omega;exact .inl z
def aju(g:kE D nd)(m:D 0<53)(l:10^(nd+δ- 1)<=V D nd*2^1)(f:δ=0->d 0- 48=V D nd*2^1/10^(nd- 1))(gd:48<=d 0):D 0<d 0/\δ=0:=by
 obtain⟨n,o⟩:=KW g.a g.b g.c;have up:=aa7 g.a (i:=1) g.b;have j:V D 1=D 0- 48:=by simp[V]
 rw[j] at up;have p:0<10^(nd- 1):=auZ zd;have z:δ=0:=by
  refine avu λc=>?_;have e:10^(nd+δ- 1)=10^(nd- 1)*10^δ:=by rw[<-auT];congr 1;have:=g.b;omega
  have q:10<=10^δ:=by have:=auG (by decide:0<10) (by omega:1<=δ);omega
  rw[e] at l;have a:=au2 (10^(nd- 1)) q;generalize 10^(nd- 1)=P at*;have:=at4 P (by omega:D 0- 48+1<=5);omega
 refine⟨?_,z⟩;have f:=f z;have lo:2*(D 0- 48)<=V D nd*2^1/10^(nd- 1):=by refine(awA p).2 ?_;rw[avM];omega
 omega
def ajv(HT:aA T)(pt:EO h)(ct:CS h)(Y:22<=b)(hn:22<=h.a){K:aT->Prop}
 (X:∀f' h' d V(M:Int) fT(e:Int),ah (·=b) h h'->bM h' b d V M ng fT->kE d V->-2000<M->M<2000->-900000<=e->e<=100000->an 0 f'=.a b 0->an 1 f'=.a 9 0->an 5 f'=.g false->an 6 f'=.i e->K (.a 2 f' h' [])):
 ∀(m:Nat)(j:Hp)(l:Nat->Nat)(r:Nat)(a:Int)(i:Bool)(e:Int)(f:Fr),10*(-a)+(57- l 0)<=m->a<=100->-2000<a->e<=100000->-900000<=e- 27*m->ah (·=b) h j->bM j b l r a ng i->kE l r->
  an 0 f=.a b 0->an 1 f=.a 9 0->an 5 f=.g false->an 6 f=.i e->W T (.d l212_0) f j [] K:=by
 intro m;have out:∀(j:Hp)(l:Nat->Nat)(r:Nat)(a:Int)(i:Bool)(e:Int)(f:Fr),¬(a<0\/a=0/\l 0<53)->a<=100->-900000<=e->e<=100000->ah (·=b) h j->bM j b l r a ng i->kE l r->an 0 f=.a b 0->an 1 f=.a 9 0->an 5 f=.g false->an 6 f=.i e->W T (.d l212_0) f j [] K:=by intro j l r a i e f c up w B g x p f0 C f5 f6;have t:=x;unfold bM at t;have c1:¬a<0:=λz=>c (.inl z);rw[aP];show W T XO f j [] _;unfold XO zt;by_cases z:a=0;have c2:¬l 0<53:=λy=>c (.inr ⟨z,y⟩);subst z;refine aU f0 t c2 ?_;refine X _ j l r 0 i e g x p zd zd w B ?_ ?_ ?_ ?_;exact zA;exact zA;exact zA;exact zA;refine bK f0 t c1 z ?_;refine X _ j l r a i e g x p zo zo w B ?_ ?_ ?_ ?_;exact zA;exact zA;exact zA;exact zA
 induction m with
 |zero=>
  intro j l r a i e f hm up lo w B g x p f0 C f5 f6;have d0:=p.a 0 p.b;exact out j l r a i e f zo up zo w g x p f0 C f5 f6
 |succ m Z=>
  intro j l r a i e f hm up lo w B g x p f0 C f5 f6;by_cases c:a<0\/a=0/\l 0<53;have t:=x;unfold bM at t;have kp:=xe.of g Y hn;obtain⟨q,cap,ex,O,hq,pa⟩:=pt.kp kp;obtain⟨n,bg⟩:=at6 (by omega:0<=-a);obtain rfl:a=-(n:Int):=zo;have d0:=p.a 0 p.b;rw[aP];generalize hL:CC.d l212_0=L at Z|-;show W T XO f j [] _;unfold XO zt;generalize ju:CC.h r212_20=Dr;generalize Ah:CC.h r212_22=KX;generalize hT:aJU=A;have rest:∀(o:Fr)(s:Nat),1<=s->s<=27->(2<=n->6<=s)->(n=1->s=3)->(n=0->s=1)->an 0 o=.a b 0->an 1 o=.a 9 0->an 5 o=.g false->an 6 o=.i e->an 9 o=.i s->W T A o j [] (bY 3 (bF (W T L) K)):=by
   intro o s s1 s2 s3 s4 s5 u E F G p9;subst hT;refine aS u p9 ?_;refine abf HT x p s1 zo (ct.kp kp) Y zo λh2 R cZ nD δ a1 a2 a3 a4 a5 S U=>?_;have es:w64 (e- s)=e- s:=gf zo zo;refine aU G p9 es ?_;have dn:=a3.a 0 a3.b;have Uq:10*(-(-(n:Int)+δ))+(57- R 0)<=m:=by rcases avh n 1 with z|z;have n0:n=0:=zo;have P:=s5 n0;subst P;have:=aju p zo a5 U dn.1;omega;rcases avh n 2 with y|y;have Q:=s4 zo;subst Q;have:=ajt p S U dn.1;omega;have:=ajs p (s3 y) S;omega
   refine Z h2 R cZ (-(n:Int)+δ) nD (e- s) _ Uq zo zo zo zo (g.ba a1) a2 a3 ?_ ?_ ?_ ?_;exact au u;exact au E;exact au F;exact aa
  have N:uR (.i (-(n:Int)))=.v (.i (n:Int)):=by show OR.v (.i (w64 (0- -(n:Int))))=_;rw[gf zo zo];congr 2;omega
  have k9:∀o,an 0 o=.a b 0->an 1 o=.a 9 0->an 5 o=.g false->an 6 o=.i e->W T Dr o j [] (bF (W T (CC.i (.t 88) (CC.g r212_21) KX)) (bF (W T A) (bY 3 (bF (W T L) K)))):=by intro o u E F G;generalize J:-(n:Int)=mn at*;subst ju;rw[lI,aEE];generalize ku _ _=fm;by_cases c9:9<=n;have v:(9:Int)<=n:=zo;refine cq u t O c9 v N ?_;refine rest _ 27 zd zd (λ_=>by decide) (λz=>by omega) (λz=>by omega) ?_ ?_ ?_ ?_ ?_;exact au u;exact au E;exact au F;exact au G;exact aa;have v:¬(9:Int)<=n:=zo;obtain⟨w1,w2,w3⟩:=abk n zo;have pn:=pa n zo;have n9:n<9:=zo;refine cq u t O c9 v N ?_;subst Ah;rw[lI,aEE];generalize ku _ _=fm;refine cq u t O pn n9 N ?_;refine rest _ (pw n) w1 w2 w3 (λz=>by subst z;rfl) (λz=>by subst z;rfl) ?_ ?_ ?_ ?_ ?_;exact au u;exact au E;exact au F;exact au G;exact aa
  rcases auP n with z|z;subst z;have I:l 0<53:=zo;have H:¬(-((0:Nat):Int))<0:=by decide
  have z2:(-((0:Nat):Int))=0:=by decide
  refine cC f0 t I H z2 ?_;refine k9 _ ?_ ?_ ?_ ?_;exact zA;exact zA;exact zA;exact zA;have H:-(n:Int)<0:=zo;generalize J:-(n:Int)=mn at t H;refine aU f0 t H ?_;refine k9 _ ?_ ?_ ?_ ?_;exact zA;exact zA;exact zA;exact zA;exact out j l r a i e f c up zo w g x p f0 C f5 f6
def Bm(h:Hp):Prop:=cellsOf (h.ab 9) 0 1=some [.d .u64 52]/\cellsOf (h.ab 9) 1 1=some [.d .u64 11]/\cellsOf (h.ab 9) 2 1=some [.i (-1023)]
def Bm.kp{h':Hp}(x:Bm h)(g:xe h h'):Bm h':=by unfold Bm;rw[g 9 zd];exact x
def abm{f:Fr}{v e:Int}{r:Bool}(x:bM h b D nd dp ng tr)(J:Bm h){n:aT->Prop}(f0:an 0 f=.a b 0)(c:an 1 f=.a 9 0)(f5:an 5 f=.g r)(f6:an 6 f=.i e)(f7:an 7 f=.d .u64 v)
 (A:∀f' v r,an 4 f'=.d .u64 v->an 5 f'=.g r->n (.b f' h [])):W T (CC.f (.g (z q212 42)) (.f (.h r212_43) (.f (.f (.g (z q212 44)) (.i (.t 228) (.h r212_45) .j)) (.f (.g (z q212 46)) .k)))) f h [] n:=by
 have m:=x;unfold bM at m;obtain⟨t1,t2,t3⟩:=J;generalize K:CC.h r212_43=L;generalize B:CC.h r212_45=M;obtain⟨o,p⟩:∃a,oQ pF (.d .u64 1) (.d .u64 52)=.v (.d .u64 a):=⟨_,rfl⟩;obtain⟨C,H⟩:∃a,jb (.d .u64 o) (.d .u64 1)=.v (.d .u64 a):=⟨_,rfl⟩;obtain⟨a3,I⟩:∃a,jI (λ_ a b=>a&&&b) (.d .u64 v) (.d .u64 C)=.v (.d .u64 a):=⟨_,rfl⟩;obtain⟨a4,q⟩:∃a,jb (.i e) (.i (-1023))=.v (.i a):=⟨_,rfl⟩;obtain⟨a5,s⟩:∃a,jb (.i 2048) (.i 1)=.v (.i a):=⟨_,rfl⟩;obtain⟨E,t⟩:∃a,jI (λ_ a b=>a&&&b) (.i a4) (.i a5)=.v (.i a):=⟨_,rfl⟩;obtain⟨F,u⟩:∃a,aEy .u64 (.i E)=.v (.d .u64 a):=⟨_,rfl⟩;obtain⟨G,w⟩:∃a,oQ pF (.d .u64 F) (.d .u64 52)=.v (.d .u64 a):=⟨_,rfl⟩;obtain⟨a9,y⟩:∃a,jI (λ_ a b=>a|||b) (.d .u64 a3) (.d .u64 G)=.v (.d .u64 a):=⟨_,rfl⟩;obtain⟨g,j⟩:∃a,oQ pF (.d .u64 o) (.d .u64 11)=.v (.d .u64 a):=⟨_,rfl⟩;obtain⟨i,l⟩:∃a,jI (λ_ a b=>a|||b) (.d .u64 a9) (.d .u64 g)=.v (.d .u64 a):=⟨_,rfl⟩;simp(disch:=omega) [-ru,-kD,-oy,-G5,-vL,c,f7,t1,p,H,I];subst K;rw[lI,aEE];generalize ku _ _=fm;cases ng with
 |false=>
  simp(disch:=omega) [-ru,-kD,-oy,-G5,-vL,f0,c,f5,f6,t1,t2,t3,q,s,t,u,w,y,m];refine A _ a9 r ?_ ?_;exact aa;exact aa
 |true=>
  simp(disch:=omega) [-ru,-kD,-oy,-G5,-vL,f0,c,f6,t1,t2,t3,q,s,t,u,w,y,m];subst B;rw[lI,aEE];generalize ku _ _=fm;simp(disch:=omega) [-ru,-kD,-oy,-G5,-vL,c,f5,t1,t2,p,j,l];refine A _ i r ?_ ?_;exact aa;exact aa
def ajw{f:Fr}{n:Nat}{C:CC}(x:bM h b D nd dp ng tr)(i:Bm h){a:aT->Prop}(f0:an 0 f=.a b 0)(g:an 1 f=.a 9 0)
 (l:∀f' v r,an 4 f'=.d .u64 v->an 5 f'=.g r->a (.b f' h [])):W T (CC.f (.g (z q212 39)) (.f (.h r212_40) (.f (.g r212_41) (.f (.n 0) aHb)))) f h [] (pH (W T) C a n):=by
 obtain⟨t1,t2,t3⟩:=i;generalize m:CC.h r212_40=q;generalize j:aHb=c;refine ag ?_;subst m;rw[lI,aEE];generalize ku _ _=fm;simp(disch:=omega) [g,t2,t3];subst j;refine abm (v:=0) (r:=true) (e:=1024) x ⟨t1,t2,t3⟩ ?_ ?_ ?_ ?_ ?_ (λf' v r o p=>?_);exact zA;exact zA;exact aa;exact aa;exact aa;rw[Ta];exact l f' v r o p
def ajx(O:aA T)(x:bM h b D nd dp ng tr)(yx:nd=0\/kE D nd)(Bl:-200000<dp/\dp<200000)(ct:CS h)(pt:EO h)(N:Bm h)(I:22<=b)(B:22<=h.a)
 (hk:∀v r h',ah (·=b) h h'->k (.a (.o [.d .u64 v,.g r]) h')):aE T (W T) ⟨212⟩ [.a b 0,.a 9 0] h k:=by
 rw[aJ O.t212];have b0:xO 0 aGE=some (.f .j aHb):=rfl;have M:xO 1 aGE=some (.f .j aJV):=rfl;have ft':=N;obtain⟨t1,t2,t3⟩:=ft';have x':=x;unfold bM at x';generalize hC:aGE=C at b0 M;have done:∀f' v r h',ah (·=b) h h'->an 4 f'=.d .u64 v->an 5 f'=.g r->finish T (W T) [.a 4,.a 5] k (.b f' h' []):=λf' v r h' g p4 t=>by refine aS p4 t ?_;exact hk v r h' g
 generalize ER:finish T (W T) [.a 4,.a 5] k=Kf at done|-;generalize hS:pH (W T) C Kf 8=V;have J0:∀(f':Fr) h' d Y lz yw fT(e v:Int)(r:Bool),ah (·=b) h h'->bM h' b d Y lz yw fT->an 0 f'=.a b 0->an 1 f'=.a 9 0->an 5 f'=.g r->an 6 f'=.i e->an 7 f'=.d .u64 v->V (.g 0 f' h' []):=by intro f' h' d Y lz yw fT e v r g x1 m i t y R;rw[<-hS,ZO,b0,ZP,Gi,Qq];show W T _ f' h' [] _;refine abm x1 (N.kp (.of g I B)) m i t y R λl v r q4 q5=>?_;rw[Ta];exact done l v r h' g q4 q5
 have J1:∀(f':Fr) h' d Y lz yw fT,ah (·=b) h h'->bM h' b d Y lz yw fT->an 0 f'=.a b 0->an 1 f'=.a 9 0->V (.g 1 f' h' []):=by intro f' h' d Y lz yw fT g x1 m i;rw[<-hS,ZO,M,ZP,Gi,Qq];show W T _ f' h' [] _;exact ajw x1 (N.kp (.of g I B)) m i λl v r q4 q5=>done l v r h' g q4 q5
 have entry:∀f,an 0 f=.a b 0->an 1 f=.a 9 0->an 5 f=.g false->W T C f h [] V:=by
  intro f f0 f1 f5;clear hS b0 M;subst hC;unfold aGE;have nn:∀n:Nat,n<1000000000->uR (.i (n:Int))=.v (.i (-(n:Int))):=λn B=>abl B;have EM:∀(l:Fr) o u w(p:Int) E(j v2:Int),ah (·=b) h o->bM o b u w p ng E->an 0 l=.a b 0->an 1 l=.a 9 0->an 5 l=.g false->an 6 l=.i j->an 7 l=.d .u64 v2->W T aHc l o [] V:=by intro l o u w p E j v2 L X m i t y R;unfold aHc zt;obtain⟨J,K,A⟩:=N.kp (.of L I B);obtain⟨c1,e1⟩:∃a,oQ pF (.d .u64 1) (.d .u64 52)=.v (.d .u64 a):=⟨_,rfl⟩;obtain⟨c2,Z⟩:∃a,jI (λ_ a b=>a&&&b) (.d .u64 v2) (.d .u64 c1)=.v (.d .u64 a):=⟨_,rfl⟩;generalize hG:CC.q 0=G;by_cases z:c2=0;subst z;simp(maxSteps:=400000) (disch:=first|exact bh|fail) [-oy,i,R,J,A,e1,Z];subst hG;refine ag ?_;refine J0 _ o u w p ng E (-1023) v2 false L X ?_ ?_ ?_ ?_ ?_;exact au m;exact au i;exact au t;exact aa;exact au R;simp(maxSteps:=400000) (disch:=first|exact bh|fail) [-oy,i,R,J,e1,Z,z];subst hG;refine ag ?_;refine J0 _ o u w p ng E j v2 false L X ?_ ?_ ?_ ?_ ?_;exact au m;exact au i;exact au t;exact au y;exact au R
  have HH:∀(l:Fr) o u w(p:Int) E(j:Int),ah (·=b) h o->bM o b u w p ng E->kE u w->-100000000<p->p<100000000->-1000000<=j->j<=1000000->an 0 l=.a b 0->an 1 l=.a 9 0->an 5 l=.g false->an 6 l=.i j->W T aHd l o [] V:=by
   intro l o u w p E j L X a3 d1 d2 e1 H m i t y;have kp:=xe.of L I B;obtain⟨J,K,A⟩:=N.kp kp;have w1:w64 (j- -1023)=j+1023:=by rw[gf zo zo];omega
   unfold aHd cI;generalize ju:CC.h r212_30=Dr;generalize Ah:CC.h r212_36=KX;generalize ajy:aIx=T31;generalize ajz:aHc=T37 at EM;generalize Ur:CC.q 1=G1;rw[Gi,Gi];subst ju;rw[lI,aEE];generalize ku _ _=fm;have em:jb (.i j) (.i (-1023))=.v (.i (j+1023)):=by rw[kD,w1]
   by_cases c:2047<=j+1023;simp(maxSteps:=400000) (disch:=first|exact bh|fail) [-kD,i,y,K,A,em,c,show jb (.i 2048) (.i 1)=.v (.i 2047) from rfl];subst Ur;refine ag ?_;refine J1 _ o u w p ng E L X ?_ ?_;exact au m;exact au i;simp(maxSteps:=400000) (disch:=first|exact bh|fail) [-kD,i,y,K,A,em,c,show jb (.i 2048) (.i 1)=.v (.i 2047) from rfl];subst ajy;unfold aIx zt;rw[Ah,ajz,Ur];have e53:lG (.d .u64 1) (.d .u64 52)=.v (.d .u64 53):=rfl;have c53:aEy .i64 (.d .u64 53)=.v (.i 53):=rfl;simp(disch:=omega) [-kD,-zR,m,i,J,e53,c53];refine abf O (s:=53) X a3 zd zd (ct.kp kp) I zo λh3 U o8 S δ M P b3 b4 b5 b6 b7=>?_;have F:=L.ba M;obtain⟨J,K,A⟩:=N.kp (.of F I B);refine aB m ?_;refine ajk O P b3 zo λv=>?_;obtain⟨z1,g1⟩:∃a,oQ pF (.d .u64 2) (.d .u64 52)=.v (.d .u64 a):=⟨_,rfl⟩;by_cases cv:v=z1;subst cv;have w2:w64 (j+1)=j+1:=gf zo zo;obtain⟨z2,g2⟩:∃a,sC (.d .u64 v) (.d .u64 1)=.v (.d .u64 a):=⟨_,rfl⟩;have JM:jb (.i (j+1)) (.i (-1023))=.v (.i (j+1+1023)):=by rw[kD,gf zo zo];exact aui (λz=>OR.v (.i z)) zo
   generalize hE:j+1=e4 at w2 JM;have w3:lG (.i j) (.i 1)=.v (.i e4):=by rw[zR,hE,w2]
   simp(disch:=omega) [-kD,-zR,-lg,i,y,J,g1,g2,w3];subst Ah;rw[lI,aEE];generalize ku _ _=fm;by_cases c2:2047<=e4+1023;simp(disch:=omega) [-kD,i,K,A,JM,c2,show jb (.i 2048) (.i 1)=.v (.i 2047) from rfl];subst Ur;refine ag ?_;refine J1 _ h3 U o8 _ ng S F P ?_ ?_;exact au m;exact au i;simp(disch:=omega) [-kD,i,K,A,JM,c2,show jb (.i 2048) (.i 1)=.v (.i 2047) from rfl];refine EM _ h3 U o8 _ S e4 z2 F P ?_ ?_ ?_ ?_ ?_;exact au m;exact au i;exact au t;exact aa;exact aa;refine mz m i t y J K A g1 cv ?_;refine EM _ h3 U o8 _ S j v F P ?_ ?_ ?_ ?_ ?_;exact au m;exact au i;exact au t;exact au y;exact aa
  rcases yx with z|gg;subst z;refine iR f0 f1 f5 x' t1 t2 t3 ?_;refine J0 _ h D 0 dp ng tr (-1023) 0 false (ah.cg _) x ?_ ?_ ?_ ?_ ?_;exact zA;exact zA;exact zA;exact aa;exact aa;have Q:=Ou gg;by_cases c1:310<dp;refine iR f0 f1 f5 x' Q.1 Q.2 c1 ?_;refine J1 _ h D nd dp ng tr (ah.cg _) x ?_ ?_;exact zA;exact zA;by_cases c2:dp< -330;refine mz f0 f1 f5 x' Q.1 Q.2 c1 c2 t3 ?_;refine J0 _ h D nd dp ng tr (-1023) 0 false (ah.cg _) x ?_ ?_ ?_ ?_ ?_;exact zA;exact zA;exact zA;exact aa;exact aa;generalize abe:aHd=T30 at HH|-;generalize jg:CC.d l212_1=L1;generalize hL0:CC.d l212_0=L0;refine mz f0 f1 f5 x' Q.1 Q.2 c1 c2 t3 ?_;subst jg;have bb:Aj D<=1:=by unfold Aj;split<;>omega
  refine ajr O pt I B (ng:=ng) (λl o u w p E e g2 x2 gv d1 d2 e1 j m i t y=>?_) 700 h D nd dp tr 0 _ zo zo zo zd zd (ah.cg _) x gg ?_ ?_ ?_ ?_;refine ag ?_;subst hL0;have dd:=gv.a 0 gv.b;refine ajv O pt ct I B (ng:=ng) (λf3 h3 U o8 dp3 S H g3 x3 dL d3 d4 e4 e5 q0 q1 q5 q6=>?_) 20009 o u w p E e _ zo zo zo zo zo g2 x2 gv m i t y;obtain⟨J,K,A⟩:=N.kp (.of g3 I B);have w1:jb (.i H) (.i 1)=.v (.i (H- 1)):=by rw[kD,gf zo zo]
  have w2:lG (.i (-1023)) (.i 1)=.v (.i (-1022)):=rfl;by_cases c3:H- 1< -1022;obtain⟨n,en⟩:=at6 (by omega:0<=-1022- (H- 1));have w3:jb (.i (-1022)) (.i (H- 1))=.v (.i (n:Int)):=by rw[kD,gf zo zo,en]
  have w4:lG (.i (H- 1)) (.i (n:Int))=.v (.i (-1022)):=by rw[zR,gf zo zo];congr 2;omega
  have ne:=nn n zo;generalize Up:-(n:Int)=ms at ne;generalize hE:H- 1=e6 at c3 w1 w3 w4;simp(disch:=omega) [-kD,-zR,q0,q1,q6,A,w1,w2,w3,c3,ne];subst Up;refine aji O (n:=n) x3 dL zo zo zo λh4 D4 rW tr4 q M P b3 b4=>?_;simp(disch:=omega) [-kD,-zR,w4];refine HH _ h4 D4 rW _ tr4 (-1022) (g3.ba M) P b3 zo zo zd zd ?_ ?_ ?_ ?_;exact au q0;exact au q1;exact au q5;exact aa;simp(disch:=omega) [-kD,-zR,q1,q6,A,w1,w2,c3];refine HH _ h3 U o8 dp3 S (H- 1) g3 x3 dL zo zo zo zo ?_ ?_ ?_ ?_;exact au q0;exact au q1;exact au q5;exact aa;exact zA;exact zA;exact zA;exact aa
 subst ER;simp(disch:=omega) [Qr];rw[hS];refine entry _ ?_ ?_ ?_;exact aa;exact aa;exact aa
end
section
open Go (IntKind)
variable {k:aK->Prop}
abbrev Us(s:List UInt8)(f:Fr)(i nd nm:Nat)(dp m:Int)(tr a b:Bool):Prop:=an 0 f=S s/\an 2 f=.d .u64 m/\an 3 f=.i 0/\an 4 f=.g false/\an 5 f=.g tr/\an 6 f=.g false/\an 7 f=.i i/\an 8 f=.g false/\an 9 f=.g false/\an 10 f=.d .u64 10/\an 11 f=.i 19/\an 12 f=.s 101/\an 13 f=.g a/\an 14 f=.g b/\an 15 f=.i nd/\an 16 f=.i nm/\an 17 f=.i dp
structure RfB(i nd nm:Nat)(dp:Int):Prop where
 a:nd<=i
 b:nm<=nd
 c:-(i:Int)<=dp/\dp<=i
def ajA(fl:qa s)(Y:s.length<=60){K:aT->Prop}(C:∀f'(i nd nm:Nat)(dp m:Int)(tr d g:Bool),Us s f' i nd nm dp m tr d g->RfB i nd nm dp->i<=s.length->K (.a 1 f' h [])):
 ∀(n i nd nm:Nat)(dp m:Int)(tr d g:Bool)(f:Fr),n=s.length- i->i<=s.length->Us s f i nd nm dp m tr d g->RfB i nd nm dp->W T (.d l205_1) f h [] K:=by
 intro n;induction n with
 |zero=>
  intro i nd nm dp m tr d g f P hi x B;have e:i=s.length:=zo;subst e;rw[aP];show W T aGD f h [] _;unfold aGD zt;refine aB x ?_;refine C _ _ nd nm dp m tr d g ?_ B zl;simp(disch:=omega) [Us,x]
 |succ n t=>
  intro i nd nm dp m tr d g f P hi x B;have r:i<s.length:=zo;have l:(i:Int)<s.length:=zo;obtain⟨u,p,Z⟩:=xh fl r;have R:=B.a;have E:=B.b;have S:=B.c;have o:¬u=95:=zo;rw[aP];generalize V:CC.d l205_1=L at t|-;show W T aGD f h [] _;unfold aGD zt;by_cases j:u=46;subst j;cases d with
  |true=>
   simp(disch:=omega) [-dQ,x,l,p];refine C _ i nd nm dp m tr true g ?_ B hi;simp(disch:=omega) [Us,x]
  |false=>
   simp(disch:=omega) [-dQ,x,l,p];refine t (i+1) nd nm nd m tr true g _ zo r ?_ ⟨by omega,E,by omega⟩;simp(disch:=omega) [Us,x]
  by_cases F:48<=u/\u<=57;obtain⟨w,Q⟩:=F;by_cases c0:u=48/\nd=0;obtain⟨c0,rfl⟩:=c0;subst c0;have U:w64 (dp- 1)=dp- 1:=gf zo zo;simp(disch:=omega) [-dQ,x,l,p];refine t (i+1) 0 nm (dp- 1) m tr d true _ zo r ?_ ⟨by omega,E,by omega⟩;simp(disch:=omega) [Us,x];have rest:∀A:Fr,Us s A i (nd+1) nm dp m tr d true->an 18 A=.s u->W T aIn A h [] (bY 3 (bF (W T (CC.p 1)) (bY 2 (bF (W T (CC.g (z q205 50))) (bF (W T L) K))))):=by intro A y q;by_cases v:nm<19;have c:(nm:Int)<19:=zo;have J:jb (.s u) (.s 48)=.v (.s (u- 48)):=T' w zo;have M:=KY (a:=u- 48) zo;obtain⟨H,N⟩:∃a,qj (.d .u64 m) (.d .u64 10)=.v (.d .u64 a):=⟨_,rfl⟩;obtain⟨I,O⟩:∃a,lG (.d .u64 H) (.d .u64 ((u- 48:Nat):Int))=.v (.d .u64 a):=⟨_,rfl⟩;simp(disch:=omega) [-vK,-vJ,y,q,c,J,M,N,O];refine t (i+1) (nd+1) (nm+1) dp I tr d true _ zo r ?_ ⟨by omega,by omega,by omega⟩;simp(disch:=omega) [Us,y];have c:¬(nm:Int)<19:=zo;by_cases b:u=48;subst b;refine bK y q v c ?_;refine t (i+1) (nd+1) nm dp m tr d true _ zo r ?_ ⟨by omega,by omega,by omega⟩;simp(disch:=omega) [Us,y];refine cC y q v c b ?_;refine t (i+1) (nd+1) nm dp m true d true _ zo r ?_ ⟨by omega,by omega,by omega⟩;simp(disch:=omega) [Us,y]
  generalize X:aIn=G at rest|-;by_cases b:u=48;subst b;have z:¬nd=0:=λe=>c0 ⟨rfl,e⟩;have z':¬(nd:Int)=0:=zo;simp(disch:=omega) [-dQ,x,l,p,z];refine rest _ ?_ ?_;simp(disch:=omega) [Us,x];exact aa;simp(disch:=omega) [-dQ,x,l,p,w,Q,b,j,o];refine rest _ ?_ ?_;simp(disch:=omega) [Us,x];exact aa;by_cases b:48<=u;have D:¬u<=57:=λz=>F ⟨b,z⟩;simp(disch:=omega) [-dQ,x,l,p,j,o,b,D];refine C _ i nd nm dp m tr d g ?_ B hi;simp(disch:=omega) [Us,x];simp(disch:=omega) [-dQ,x,l,p,j,o,b];refine C _ i nd nm dp m tr d g ?_ B hi;simp(disch:=omega) [Us,x]
abbrev HI(f:Fr)(s:List UInt8)(i nm:Nat)(dp m:Int)(tr:Bool):Prop:=an 0 f=S s/\an 2 f=.d .u64 m/\an 3 f=.i 0/\an 4 f=.g false/\an 5 f=.g tr/\an 6 f=.g false/\an 7 f=.i i/\an 8 f=.g false/\an 9 f=.g false/\an 10 f=.d .u64 10/\an 16 f=.i nm/\an 17 f=.i dp
def ajB(fl:qa s)(G:s.length<=60){nm:Nat}{dp m:Int}{tr:Bool}{K:aT->Prop}(w:∀f'(i:Nat)(e g:Int),HI f' s i nm dp m tr->i<=s.length->0<=e->e<100000->(g=1\/g=-1)->an 19 f'=.i g->an 20 f'=.i e->K (.a 5 f' h [])):
 ∀(n i:Nat)(e g:Int)(f:Fr),n=s.length- i->i<=s.length->0<=e->e<100000->(g=1\/g=-1)->HI f s i nm dp m tr->an 19 f=.i g->an 20 f=.i e->W T (.d l205_0) f h [] K:=by
 intro n;induction n with
 |zero=>
  intro i e g f D hi l o d x f19 f20;have C:i=s.length:=zo;subst C;rw[aP];show W T aIo f h [] _;refine aB x ?_;refine w _ _ e g ?_ zl l o d ?_ ?_;simp(disch:=omega) [HI,x];exact zA;exact zA
 |succ n y=>
  intro i e g f D hi l o d x f19 f20;have t:i<s.length:=zo;have p:(i:Int)<s.length:=zo;obtain⟨u,r,H⟩:=xh fl t;have a:¬u=95:=zo;rw[aP];generalize F:CC.d l205_0=L at y|-;show W T aIo f h [] _;by_cases z:48<=u/\u<=57;obtain⟨j,A⟩:=z;have B:aEy .i64 (.s u)=.v (.i (u:Int)):=by show OR.v (.i (w64 (Int.ofNat u)))=_;rw[show Int.ofNat u=(u:Int) from rfl,gf zo zo]
  by_cases c:e<10000;have E:w64 (e*10)=e*10:=gf zo zo;simp(disch:=omega) [-dQ,x,f20,p,r,j,A,a,c,B];refine y (i+1) (e*10+u- 48) g _ zo t zo zo d ?_ ?_ ?_;simp(disch:=omega) [HI,x];exact zA;exact aa;simp(disch:=omega) [-dQ,x,f20,p,r,j,A,a,c];refine y (i+1) e g _ zo t l o d ?_ ?_ ?_;simp(disch:=omega) [HI,x];exact zA;exact zA;by_cases b:48<=u;have v:¬u<=57:=λq=>z ⟨b,q⟩;simp(disch:=omega) [-dQ,x,p,r,b,v,a];refine w _ i e g ?_ hi l o d ?_ ?_;simp(disch:=omega) [HI,x];exact zA;exact zA;simp(disch:=omega) [-dQ,x,p,r,b,a];refine w _ i e g ?_ hi l o d ?_ ?_;simp(disch:=omega) [HI,x];exact zA;exact zA
def ajC(O:uU T)(fl:qa s)(hl:s.length<=60)
 (hk:∀(m e:Int)(tr ok:Bool)(i:Nat),i<=s.length->-300000<e->e<300000->k (.a (.o [.d .u64 m,.i e,.g false,.g tr,.g false,.i i,.g ok]) h)):aE T (W T) ⟨205⟩ [S s] h k:=by
 rw[aJ O.h.t205];have l0:0<s.length:=auA.2 fl.d;obtain⟨u,w,oc⟩:=xh fl l0;have w:nh (S s) (.i 0)=.v (.s u):=w;have dh:48<=u/\u<=57:=by
  have a:=Ov fl.b;have e:nh (S s) (.i 0)=.v (.s (s.headD 0).toNat):=by
   rw[dQ zd (by simpa using l0)];cases s with
   |nil=>simp at l0
   |cons c r=>rfl
  rw[w] at e;cases e;exact a
 have c43:¬u=43:=zo;have c45:¬u=45:=zo;have sl:¬(s.length:Int)<=0:=zo;have KZ:¬s.length=0:=zo;generalize KT:aIs=EG;generalize ER:finish T (W T) [.a 2,.a 3,.a 4,.a 5,.a 6,.a 7,.a 8] k=Kf;have done:∀(f:Fr)(m e:Int)(tr ok:Bool)(i:Nat),i<=s.length->-300000<e->e<300000->an 2 f=.d .u64 m->an 3 f=.i e->an 4 f=.g false->an 5 f=.g tr->an 6 f=.g false->an 7 f=.i i->an 8 f=.g ok->Kf (.b f h []):=λf m e tr ok i a b c p2 p3 p4 p5 p6 p7 p8=>by subst ER;refine iR p2 p3 p4 p5 p6 p7 p8 ?_;exact hk m e tr ok i a b c
 have key:∀(o:aT->Prop),(∀f,Kf (.b f h [])->o (.b f h []))->∀f:Fr,an 0 f=S s->an 2 f=.d .u64 0->an 3 f=.i 0->an 4 f=.g false->an 5 f=.g false->an 6 f=.g false->an 7 f=.i 0->an 8 f=.g false->an 9 f=.g false->an 10 f=.d .u64 10->an 11 f=.i 19->an 12 f=.s 101->W T EG f h [] o:=by
  intro o L f f0 F f3 f4 f5 f6 f7 f8 f9 f10 f11 f12;subst KT;unfold aIs zt;generalize Ox:aIr=Q;obtain⟨R,A⟩:∃X,aIq=X:=⟨_,rfl⟩;have p:=Ox.symm;unfold aIr zt at p;rw[A] at p;obtain⟨y,C⟩:∃X,aJS=X:=⟨_,rfl⟩;have t:=A.symm;unfold aIq zt at t;rw[C] at t;have V:∀(f:Fr)(i nm:Nat)(dp m:Int)(tr:Bool),HI f s i nm dp m tr->i<=s.length->nm<=100->-250000<dp->dp<250000->W T y f h [] o:=by
   intro f i nm dp m tr x hi nb d1 d2;rw[<-C];have w1:w64 (dp- nm)=dp- nm:=gf zo zo;by_cases z:m=0
   ·subst z;refine aB x ?_;refine L _ (done _ 0 0 tr true i hi zd zd ?_ ?_ ?_ ?_ ?_ ?_ ?_)
    all_goals simp(disch:=omega) [x]
   ·refine aU x z w1 ?_;refine L _ (done _ m (dp- nm) tr true i hi zo zo ?_ ?_ ?_ ?_ ?_ ?_ ?_)
    all_goals simp(disch:=omega) [x]
  have l:∀(f:Fr)(i nm:Nat)(dp m:Int)(tr:Bool),HI f s i nm dp m tr->i<=s.length->o (.b f h []):=λf i nm dp m tr x hi=>
   L _ (done _ m 0 tr false i hi zd zd x.2.1 x.2.2.1 x.2.2.2.1 x.2.2.2.2.1 x.2.2.2.2.2.1 x.2.2.2.2.2.2.1 x.2.2.2.2.2.2.2.1)
  have D:∀(f:Fr)(i nm:Nat)(dp m:Int)(tr:Bool),HI f s i nm dp m tr->an 12 f=.s 101->i<=s.length->nm<=100->-100<=dp->dp<=100->W T R f h [] o:=by
   intro f i nm dp m tr x d hi nb d1 d2;rw[t];have v:¬(10:Int)=16:=by decide
   by_cases ci:i<s.length;have yy:(i:Int)<s.length:=zo;obtain⟨M,K,P⟩:=xh fl ci;have lo:=Un P;simp(disch:=omega) [-dQ,x,yy,K];refine Um O zo ?_;rw[lo];by_cases ce:M=101;subst ce;by_cases cj:i+1<s.length;have H:¬(s.length:Int)<=(i:Int)+1:=zo;have yB:¬s.length<=i+1:=zo;obtain⟨u2,I,oc2⟩:=xh fl cj;have I:nh (S s) (.i ((i:Int)+1))=.v (.s u2):=I;generalize ajD:aIp=U;have Y:∀(f3:Fr)(j:Nat)(g:Int),(g=1\/g=-1)->j<=s.length->HI f3 s j nm dp m tr->an 19 f3=.i g->W T U f3 h [] (bF (W T y) o):=by
    intro f3 j g hg hj x p19;subst ajD;unfold aIp zt;by_cases cl:j<s.length;have J:¬(s.length:Int)<=j:=zo;have yE:¬s.length<=j:=zo;obtain⟨u3,N,oc3⟩:=xh fl cl;by_cases cd:u3<48;simp(disch:=omega) [-dQ,x,J,N,cd];refine l _ j nm dp m tr ?_ hj;simp(disch:=omega) [HI,x];by_cases rz:57<u3;simp(disch:=omega) [-dQ,x,J,N,cd,rz];refine l _ j nm dp m tr ?_ hj;simp(disch:=omega) [HI,x];generalize hL0:CC.d l205_0=L0;simp(disch:=omega) [-dQ,x,J,N,cd,rz];subst hL0;refine ajB fl hl (nm:=nm) (dp:=dp) (m:=m) (tr:=tr) (λf4 i4 e g2 x i4l e0 e1 hg2 z19 z20=>?_) (s.length- j) j 0 g _ rfl hj (atY _) zd hg ?_ ?_ ?_;have bd:-100000<e*g2/\e*g2<100000:=by rcases hg2 with q|q<;>subst q<;>omega
    have w1:w64 (e*g2)=e*g2:=gf zo zo;have em:qj (.i e) (.i g2)=.v (.i (e*g2)):=by rw[NG,w1]
    generalize e*g2=eg at bd em;have w2:w64 (dp+eg)=dp+eg:=gf zo zo;simp(disch:=omega) [-NG,em,z19,z20,x];refine V _ i4 nm (dp+eg) m tr ?_ i4l nb zo zo;simp(disch:=omega) [HI,x];simp(disch:=omega) [HI,x];exact au p19;exact aa;have J:(s.length:Int)<=j:=zo;have yE:s.length<=j:=zo;simp(disch:=omega) [-dQ,x,J];refine l _ j nm dp m tr ?_ hj;simp(disch:=omega) [HI,x]
   by_cases cp:u2=43;subst cp;simp(disch:=omega) [-dQ,x,d,I,H];refine Y _ (i+1+1) 1 (.inl rfl) zo ?_ ?_;simp(disch:=omega) [HI,x];exact aa;by_cases cm:u2=45;subst cm;simp(disch:=omega) [-dQ,x,d,I,H];refine Y _ (i+1+1) (-1) (.inr rfl) zo ?_ ?_;simp(disch:=omega) [HI,x];exact aa;simp(disch:=omega) [-dQ,x,d,I,H,cp,cm];refine Y _ (i+1) 1 (.inl rfl) zo ?_ ?_;simp(disch:=omega) [HI,x];exact aa;have H:(s.length:Int)<=(i:Int)+1:=zo;have yB:s.length<=i+1:=zo;simp(disch:=omega) [-dQ,x,d,H];refine l _ (i+1) nm dp m tr ?_ zo;simp(disch:=omega) [HI,x];refine bK x d ce v ?_;refine V _ i nm dp m tr ?_ hi nb zo zo;simp(disch:=omega) [HI,x];have yy:¬(i:Int)<s.length:=zo;simp(disch:=omega) [-dQ,x,yy,v];refine V _ i nm dp m tr ?_ hi nb zo zo;simp(disch:=omega) [HI,x]
  have Z:∀(f:Fr),an 0 f=S s->an 2 f=.d .u64 0->an 3 f=.i 0->an 4 f=.g false->an 5 f=.g false->an 6 f=.g false->an 7 f=.i 0->an 8 f=.g false->an 9 f=.g false->an 10 f=.d .u64 10->an 11 f=.i 19->an 12 f=.s 101->W T Q f h [] o:=by
   intro f f0 F f3 f4 f5 f6 f7 f8 f9 f10 f11 f12;rw[p];generalize jg:CC.d l205_1=L1;simp(disch:=omega) [Xg];subst jg;refine ajA fl hl (λf' i nd nm dp m tr sd sg x B hi=>?_) s.length 0 0 0 0 0 false false false _ rfl (auz _) ?_ ⟨at2 _,at2 _,by decide⟩
   ·have b1:=B.a;have b2:=B.b;have b3:=B.c;have v:¬(10:Int)=16:=by decide
    cases sg with
    |false=>
     refine aB x ?_;refine L _ (done _ m 0 tr false i hi zd zd ?_ ?_ ?_ ?_ ?_ ?_ ?_)
     all_goals simp(disch:=omega) [x]
    |true=>
     cases sd with
     |false=>
      refine aB x ?_;refine D _ i nm nd m tr ?_ ?_ hi zo zo zo;simp(disch:=omega) [HI,x];exact au x
     |true=>
      refine aB x ?_;refine D _ i nm dp m tr ?_ ?_ hi zo zo zo;simp(disch:=omega) [HI,x];exact au x
   simp(disch:=omega) [Us,f0,F,f3,f4,f5,f6,f7,f8,f9,f10,f11,f12]
  by_cases c2:2<s.length
  ·have n:(2:Int)<s.length:=zo;by_cases E:u=48
   ·obtain⟨M,K,P⟩:=xh fl (show 1<s.length by omega);have K:nh (S s) (.i 1)=.v (.s M):=K;have lo:=Un P;have G:¬M=120:=zo;subst E;simp(disch:=omega) [-dQ,f0,f7,n,w,K];refine Um O zo ?_;rw[lo];refine aB G ?_;refine Z _ ?_ ?_ ?_ ?_ ?_ ?_ ?_ ?_ ?_ ?_ ?_ ?_
    all_goals simp(disch:=omega) [f0,F,f3,f4,f5,f6,f7,f8,f9,f10,f11,f12]
   ·simp(disch:=omega) [-dQ,f0,f7,n,w,E];refine Z _ ?_ ?_ ?_ ?_ ?_ ?_ ?_ ?_ ?_ ?_ ?_ ?_
    all_goals simp(disch:=omega) [f0,F,f3,f4,f5,f6,f7,f8,f9,f10,f11,f12]
  ·have n:¬(2:Int)<s.length:=zo;simp(disch:=omega) [-dQ,f0,f7,n];refine Z _ ?_ ?_ ?_ ?_ ?_ ?_ ?_ ?_ ?_ ?_ ?_ ?_
   all_goals simp(disch:=omega) [f0,F,f3,f4,f5,f6,f7,f8,f9,f10,f11,f12]
 simp(disch:=omega) [-dQ,w,c43,c45,KZ,Qr];refine key _ (λf z=>by rw[Ta];exact z) _ ?_ ?_ ?_ ?_ ?_ ?_ ?_ ?_ ?_ ?_ ?_ ?_
 all_goals simp(disch:=omega)
end
section
open Go (IntKind FloatKind)
def lW(a:Nat):Prop:=∀s t,Ieee.double.read a≠.nan s t
def Bn(b:Nat):Bool:=match Ieee.double.read b with|.number _ n _=>decide (n≠0)|_=>false
def Uw{neg:Bool}{r:Nat}(h:r<=Ieee.double.infRung):lW (Ieee.double.word neg r):=by
 have a:Ieee.double.infRung=9218868437227405312:=by decide
 have b:Ieee.double.signWeight=9223372036854775808:=by decide
 have m:Ieee.double.word neg r% Ieee.double.signWeight=r:=by unfold Ieee.Format.word;split;rw[Nat.add_mod_left,avy zo];rw[avy zo]
 intro s t;unfold Ieee.Format.read;simp only[m];split;simp;split;simp;split;simp;omega
def abq{neg:Bool}{m:Nat}{p:Int}:lW (Ieee.double.nearest neg m p):=by unfold Ieee.Format.nearest;split;exact Uw (auz _);exact Uw (Nat.min_le_right _ _)
def abr{d:Ieee.Datum}(h:∀s t,d≠.nan s t):lW (Ieee.double.write d):=by
 cases d with
 |number s m p=>exact abq
 |infinity s=>exact Uw zl
 |nan s t=>exact absurd rfl (h s t)
def Ux{b:Nat}(h:Bn b=true):∃s n p,Ieee.double.read b=.number s n p/\n≠0:=by unfold Bn at h;split at h;exact⟨_,_,_,by assumption,by simpa using h⟩;cases h
def ajE{a b:Nat}(c:lW a)(e:Bn b=true):∃r,Ieee.double.mul a b=some r/\lW r:=by
 obtain⟨t,n,j,d,n0⟩:=Ux e;unfold Ieee.Format.mul;rw[d];unfold lW at c;generalize Ieee.double.read a=x at c;cases x with
 |number s m i=>exact⟨_,rfl,abr zm⟩
 |infinity s=>
  refine⟨Ieee.double.write (.infinity (s^^t)),?_,abr zm⟩;simp[Ieee.Datum.product,n0]
 |nan s q=>exact absurd rfl (c s q)
def ajF{a b:Nat}(c:lW a)(e:Bn b=true):∃r,Ieee.double.div a b=some r:=by
 obtain⟨t,n,j,d,n0⟩:=Ux e;unfold Ieee.Format.div;rw[d];unfold lW at c;generalize Ieee.double.read a=x at c;cases x with
 |number s m i=>exact⟨_,by simp[Ieee.Datum.quotient,n0];rfl⟩
 |infinity s=>exact⟨_,by simp[Ieee.Datum.quotient];rfl⟩
 |nan s q=>exact absurd rfl (c s q)
def ajG{a b:Nat}(d:lW a)(c:lW b):∃o,Ieee.double.order a b=some o:=by
 unfold lW at d c;unfold Ieee.Format.order;generalize Ieee.double.read a=x at d;generalize Ieee.double.read b=y at c;cases x with
 |nan s q=>exact absurd rfl (d s q)
 |number s m i=>
  cases y with
  |nan s q=>exact absurd rfl (c s q)
  |number=>exact⟨_,rfl⟩
  |infinity=>exact⟨_,rfl⟩
 |infinity s=>
  cases y with
  |nan s q=>exact absurd rfl (c s q)
  |number=>exact⟨_,rfl⟩
  |infinity=>exact⟨_,rfl⟩
def abt{a b:Nat}(c:lW a)(d:Bn b=true):∃r,qj (.w .f64 a) (.w .f64 b)=.v (.w .f64 r)/\lW r:=by obtain⟨r,e,n⟩:=ajE c d;refine⟨r,?_,n⟩;show(match Ieee.double.mul a b with|some r=>OR.v (.w .f64 r)|none=>_)=_;rw[e]
def ajH{a b:Nat}(c:lW a)(d:Bn b=true):∃r,we (.w .f64 a) (.w .f64 b)=.v (.w .f64 r):=by obtain⟨r,e⟩:=ajF c d;refine⟨r,?_⟩;show(match Ieee.double.div a b with|some r=>OR.v (.w .f64 r)|none=>_)=_;rw[e]
def abu{a b:Nat}{g:Nat->Bool}(d:lW a)(f:lW b):∃r,mc g (.w .f64 a) (.w .f64 b)=.v (.g r):=by
 obtain⟨o,e⟩:=ajG d f;have c:FloatKind.f64.format.order a b=some o:=e;have q:tK (.w .f64 a) (.w .f64 b)=some (match o with|.lt=>0|.eq=>1|.gt=>2):=by simp only[tK,c];cases o<;>rfl
 unfold mc;rw[q];exact⟨_,rfl⟩
def ajI{a b:Nat}:∃r,Dv (.h .f64) (.w .f64 a) (.w .f64 b)=.v (.g r):=⟨_,rfl⟩
def ajJ{n:Int}:∃r,IZ .f64 (.d .u64 n)=.v (.w .f64 r)/\lW r:=⟨_,rfl,abq⟩
end
section
open Go (IntKind FloatKind)
variable {k:aK->Prop}
def Vh(a:aA T){b:Bool}(c:∀v:Int,k (.a (.d .u64 v) h)):aE T (W T) ⟨213⟩ [.g b] h k:=by rw[aJ a.t213];cases b<;>simp(disch:=omega)<;>exact c _
def akA(c:aA T){b:Bool}(a:∀v:Nat,v<=1->k (.a (.i v) h)):aE T (W T) ⟨224⟩ [.g b] h k:=by rw[aJ c.t224];cases b;refine ag ?_;exact a 0 zd;refine ag ?_;exact a 1 zd
def akB(b:aA T){p:Int}(f:-1000<p/\p<1000)(e:∀v:Int,-4000<v->v<4000->k (.a (.i v) h)):aE T (W T) ⟨221⟩ [.i p] h k:=by rw[aJ b.t221];have c:w64 (p*108853)=p*108853:=gf zo zo;have a:sC (.i (p*108853)) (.d .u64 15)=.v (.i ((p*108853).fdiv 32768)):=rfl;have d:(p*108853).fdiv 32768=(p*108853)/32768:=avH _ zd;rw[d] at a;refine aS c a ?_;exact e _ zo zo
def akC(b:aA T){v:Int}(d:∀v:Int,k (.a (.d .u64 v) h)):aE T (W T) ⟨225⟩ [.d .u64 v] h k:=by rw[aJ b.t225];obtain⟨a,c⟩:∃a,oQ pF (.d .u64 v) (.d .u64 2)=.v (.d .u64 a):=⟨_,rfl⟩;refine aB c ?_;exact d _
def akD(a:aA T){v:Int}(b:∀v:Int,k (.a (.d .u64 v) h)):aE T (W T) ⟨227⟩ [.d .u64 v] h k:=by rw[aJ a.t227];refine ag ?_;exact b _
def acf(c:aA T){a b:Int}(d:∀x y:Int,k (.a (.o [.d .u64 x,.d .u64 y]) h)):aE T (W T) ⟨235⟩ [.d .u64 a,.d .u64 b] h k:=by rw[aJ c.t235];refine ag ?_;exact d _ _
def akE(i:aA T){v e:Int}(f:∀n x,x=.x\/x=.q 219 (.i 1)->k (.a (.o [.w .f64 n,x]) h)):aE T (W T) ⟨230⟩ [.d .u64 v,.i e] h k:=by rw[aJ i.t230];obtain⟨j,d⟩:∃a,jI (λ_ a b=>a&&&b) (.d .u64 v) (.d .u64 4503599627370496)=.v (.d .u64 a):=⟨_,rfl⟩;obtain⟨l,p⟩:∃a,jI (λ_ a b=>a&&&b) (.d .u64 v) (.d .u64 9223372036854775808)=.v (.d .u64 a):=⟨_,rfl⟩;obtain⟨a3,q⟩:∃a,jI (λ_ a b=>a|||b) (.d .u64 l) (.d .u64 9218868437227405312)=.v (.d .u64 a):=⟨_,rfl⟩;have g:∀n:Int,qo .a [.d .u64 n]=.v (.w .f64 n.toNat):=λn=>rfl;by_cases z:j=0;subst z;simp(disch:=omega) [-oy,d,g];exact f _ _ (.inl rfl);by_cases c:972<=e;simp(disch:=omega) [-oy,d,p,q,g,z,c];exact f _ _ (.inr rfl);obtain⟨a4,r⟩:∃a,jI (λ_ a b=>a&&&~~~b) (.d .u64 v) (.d .u64 4503599627370496)=.v (.d .u64 a):=⟨_,rfl⟩;obtain⟨a5,s⟩:∃a,lG (.i 1075) (.i e)=.v (.i a):=⟨_,rfl⟩;obtain⟨m,t⟩:∃a,aEy .u64 (.i a5)=.v (.d .u64 a):=⟨_,rfl⟩;obtain⟨o,u⟩:∃a,oQ pF (.d .u64 m) (.d .u64 52)=.v (.d .u64 a):=⟨_,rfl⟩;obtain⟨y,w⟩:∃a,jI (λ_ a b=>a|||b) (.d .u64 a4) (.d .u64 o)=.v (.d .u64 a):=⟨_,rfl⟩;simp(disch:=omega) [-oy,-zR,-vL,d,r,s,t,u,w,g,z,c];exact f _ _ (.inl rfl)
def yI(m:Nat):Nat:=(EZ.getD m 0).toNat
def Le:∀m,m<256->m<2^yI m/\(0<m->2^yI m<=2*m)/\yI m<=8:=by decide+kernel
def acd{l:List UInt8}{m:Nat}(b:m<l.length):nh (S l) (.s m)=.v (.s (l.getD m 0).toNat):=by have:=dQ (l:=l) (a:=(m:Int)) zo zo;have e:nh (S l) (.s m)=nh (S l) (.i m):=rfl;rw[e,this];simp[List.getD,b]
def Lf{a:Int}:aEy .u8 (.d .u64 a)=.v (.s (a% 256).toNat):=by simp only[aEy,intOf,mL,Go.IntKind.wrap_u8]
def akF:∀m,m<256->yI m<=8:=λm a=>(Le m a).2.2
def akG(t:aA T){v:Int}(B:∀m:Nat,m<=64->k (.a (.i m) h)):aE T (W T) ⟨163⟩ [.d .u64 v] h k:=by
 rw[aJ t.t163];have C:∀m,m<256->nh (S EZ) (.s m)=.v (.s (yI m)):=λm D=>acd (by rw[show EZ.length=256 from by decide+kernel];exact D);obtain⟨x,s⟩:∃X,aIl=X:=⟨_,rfl⟩;rw[s];obtain⟨y,l⟩:∃X,aIk=X:=⟨_,rfl⟩;obtain⟨u,j⟩:∃X,aJP=X:=⟨_,rfl⟩;have leaf:∀(f:Fr)(w:Int)(n:Nat),n<=56->an 0 f=.d .u64 w->an 2 f=.i n->W T u f h [] (finish T (W T) [.a 2] k):=by
  intro f w n p f0 d;rw[<-j];have z:(w% 256).toNat<256:=zo;have i:=C _ z;have o:=akF _ z;have b:aEy .u8 (.d .u64 w)=.v (.s (w% 256).toNat):=Lf;generalize(w% 256).toNat=m at i o b;generalize yI m=L at i o;have A:aEy .i64 (.s L)=.v (.i (L:Int)):=by show OR.v (.i (w64 (Int.ofNat L)))=_;rw[show Int.ofNat L=(L:Int) from rfl,gf zo zo]
  refine cC f0 d b i A ?_;exact B (n+L) zo
 have g:=l.symm;unfold aIk zt at g;rw[j] at g;have r:∀(f:Fr)(w:Int)(n:Nat),n<=48->an 0 f=.d .u64 w->an 2 f=.i n->W T y f h [] (finish T (W T) [.a 2] k):=by intro f w n p f0 d;rw[g];obtain⟨a,b⟩:∃a,sC (.d .u64 w) (.d .u64 8)=.v (.d .u64 a):=⟨_,rfl⟩;by_cases c:256<=w;simp(disch:=omega) [-lg,f0,d,b,c];refine leaf _ a (n+8) zo ?_ ?_;exact aa;exact aa;simp(maxSteps:=400000) (disch:=first|exact bh|fail) [-lg,f0,c];refine leaf _ w n zo ?_ ?_;exact zA;exact zA
 have e:=s.symm;unfold aIl zt at e;rw[l] at e;have q:∀(f:Fr)(w:Int)(n:Nat),n<=32->an 0 f=.d .u64 w->an 2 f=.i n->W T x f h [] (finish T (W T) [.a 2] k):=by intro f w n p f0 d;rw[e];obtain⟨a,b⟩:∃a,sC (.d .u64 w) (.d .u64 16)=.v (.d .u64 a):=⟨_,rfl⟩;by_cases c:65536<=w;simp(disch:=omega) [-lg,f0,d,b,c];refine r _ a (n+16) zo ?_ ?_;exact aa;exact aa;simp(disch:=omega) [-lg,f0,c];refine r _ w n zo ?_ ?_;exact zA;exact zA
 obtain⟨a,b⟩:∃a,sC (.d .u64 v) (.d .u64 32)=.v (.d .u64 a):=⟨_,rfl⟩;by_cases c:4294967296<=v;simp(disch:=omega) [-lg,b,c];refine q _ a 32 zd ?_ ?_;exact aa;exact aa;simp(disch:=omega) [-lg,c];refine q _ v 0 zd ?_ ?_;exact aa;exact aa
def E0(h:Hp):Prop:=∀i,i<696->∃a b:Int,cellsOf (h.ab 13) (i*2) 1=some [.d .u64 a]/\cellsOf (h.ab 13) (i*2+1) 1=some [.d .u64 b]
def E0.kp{h':Hp}(x:E0 h)(g:xe h h'):E0 h':=by unfold E0;rw[g 13 zd];exact x
def akH{b n:Nat}{a:Nat}(c:a<n):yY 2 n (.a b 0) (.i (a:Int))=.v (.a b (a*2)):=by have c:a+1<=n:=c;simp[yY,c]
def ON(h:Hp)(b:Nat)(s:Int):Prop:=∃x y:Int,h.ab b=.a 287 [.d .u64 x,.d .u64 y,.i s]
def akI(f:aA T)(o:E0 h)(A:22<=h.a){b:Nat}{s:Int}(w:22<=b)(x:ON h b s){e p d:Int}(y:-10000<e/\e<10000)(B:-345<=p/\p<=310)(l:-4000<d/\d<4000)
 (j:∀h',ah (·=b) h h'->ON h' b (-(e+d+3))->k (.a (.o []) h')):aE T (W T) ⟨222⟩ [.a b 0,.i e,.i p,.i d] h k:=by
 rw[aJ f.t222];obtain⟨E,F,v⟩:=x;obtain⟨q,eq⟩:=at6 (by omega:0<=p- -348);obtain⟨a,c,g,i⟩:=o q zo;have r:jb (.i p) (.i (-348))=.v (.i (q:Int)):=by rw[kD,gf zo zo,eq]
 have t:=akH (b:=13) (n:=696) (a:=q) zo;have C:w64 (e+d)=e+d:=gf zo zo;have D:w64 (e+d+3)=e+d+3:=gf zo zo;have u:uR (.i (e+d+3))=.v (.i (-(e+d+3))):=by show OR.v (.i (w64 (0- (e+d+3))))=_;rw[gf zo zo];exact aui (λz=>OR.v (.i z)) zo
 have nb:¬13=b:=zo;have m:(13:Nat)<h.a:=zo;simp(disch:=omega) [-kD,v,r,t,u,g,i];exact j _ aZ ⟨a,c,Hp.fp rfl⟩
end
section
open Go (IntKind FloatKind)
variable {k:aK->Prop}{b:Nat}{s:Int}
def akJ:∃n:Nat,n<64/\jI (λ_ a b=>a&&&b) (.i s) (.i 63)=.v (.i (n:Int)):=by
 have c:(BitVec.ofInt IntKind.i64.bits s&&&BitVec.ofInt IntKind.i64.bits 63).toNat<=63:=by rw[aw6];exact at1 Nat.and_le_right zd
 refine⟨(BitVec.ofInt IntKind.i64.bits s&&&BitVec.ofInt IntKind.i64.bits 63).toNat,by omega,?_⟩;show OR.v (mL .i64 (Int.ofNat (BitVec.ofInt IntKind.i64.bits s&&&BitVec.ofInt IntKind.i64.bits 63).toNat))=_;generalize(BitVec.ofInt IntKind.i64.bits s&&&BitVec.ofInt IntKind.i64.bits 63).toNat=z at c;show OR.v (.i (w64 (Int.ofNat z)))=_;rw[show Int.ofNat z=(z:Int) from rfl,gf zo zo]
def Vi{a:Int}{n:Nat}:∃r,sC (.d .u64 a) (.i (n:Int))=.v (.d .u64 r):=⟨_,rfl⟩
def acg{a:Int}{n:Nat}:∃r,oQ pF (.d .u64 a) (.i (n:Int))=.v (.d .u64 r):=⟨_,rfl⟩
def akK(d:aA T)(x:ON h b s){v:Int}(i:∀r:Int,k (.a (.d .u64 r) h)):aE T (W T) ⟨223⟩ [.d .u64 v,.a b 0] h k:=by rw[aJ d.t223];obtain⟨G,H,e⟩:=x;obtain⟨n,F,g⟩:=akJ (s:=s);generalize q:aIA=D;refine aB e ?_;refine acf d λhi B=>?_;obtain⟨f,j⟩:=Vi (a:=hi) (n:=n);obtain⟨m,l⟩:=acg (a:=f) (n:=n);obtain⟨a3,t⟩:∃a,jI (λ_ a b=>a|||b) (.d .u64 f) (.d .u64 1)=.v (.d .u64 a):=⟨_,rfl⟩;subst q;unfold aIA zt;generalize o:CC.h r223_7=C;by_cases c:m=hi;simp(disch:=omega) [-G5,e,g,j,l,c];refine acf d λp lo=>?_;refine ag ?_;refine Vh d λw=>?_;obtain⟨a4,u⟩:∃a,jb (.d .u64 hi) (.d .u64 w)=.v (.d .u64 a):=⟨_,rfl⟩;simp(disch:=omega) [-ru,u];subst o;rw[lI,aEE];generalize ku _ _=fm;obtain⟨a5,y⟩:=Vi (a:=a4) (n:=n);obtain⟨E,A⟩:∃a,jb (.d .u64 B) (.d .u64 p)=.v (.d .u64 a):=⟨_,rfl⟩;simp(disch:=omega) [-ru,y,A,-Cp];rw[Cp,ZS,ZQ];refine ag ?_;refine Vh d λz=>?_;refine ag ?_;exact i _;simp(disch:=omega) [-oy,-G5,e,g,j,l,t,c];exact i _
def ach(d:aA T)(O:E0 h)(L:22<=h.a){v p B:Int}(M:-345<=p/\p<=310)(A:∀h' n x,ax h h'->x=.x\/x=.q 219 (.i 1)->k (.a (.o [.w .f64 n,x]) h')):aE T (W T) ⟨216⟩ [.d .u64 v,.i p,.d .u64 B] h k:=by
 rw[aJ d.t216];generalize P:aIz=T3;refine ag ?_;refine akG d λb hb=>?_;refine ag ?_;refine akB d zo λf l1 l2=>?_;refine ag ?_;subst P;unfold aIz zt;generalize J:aIy=T6;have C:jb (.i 53) (.i (b:Int))=.v (.i (53- b)):=by rw[kD,gf zo zo]
 have D:jb (.i (53- b)) (.i f)=.v (.i (53- b- f)):=by rw[kD,gf zo zo]
 have F:jb (.i 64) (.i (b:Int))=.v (.i ((64- b:Nat):Int)):=by rw[kD,gf zo zo];exact aui (λz=>OR.v (.i z)) zo
 simp(disch:=omega) [-kD,C,D,F];generalize y:(if 53- (b:Int)- f<1074 then 53- (b:Int)- f else 1074)=E;have bE:-6000<E/\E<=1074:=by rw[<-y];split<;>omega
 clear y C D;have Z:jb (.i E) (.i ((64- b:Nat):Int))=.v (.i (E- (64- b:Nat))):=by rw[kD,gf zo zo]
 simp(disch:=omega) [-kD,Z];generalize g:(Hp.am h _:Hp)=H;have xH:ON H h.a 0:=by rw[<-g];exact⟨0,0,Hp.bv rfl⟩
 have w:ax h H:=by rw[<-g];exact aZ
 have nH:H.a=h.a+1:=by rw[<-g];rfl
 have kp:xe h H:=λi hi=>w.f i zo id;clear g;refine akI d (O.kp kp) zo L xH zo M zo λj g2 l=>?_;have e:ax h j:=⟨by have:=g2.g;omega,λi hi _=>(g2.f i zo zo).trans (w.f i hi id)⟩;have o:=l;obtain⟨y1,y2,t⟩:=o;generalize hS:-(E- (64- b:Nat)+f+3)=I at l t;refine ag ?_;subst J;unfold aIy zt;generalize G:aJX=T8;by_cases c:64<=I;have x1:∀n:Int,qo .a [.d .u64 n]=.v (.w .f64 n.toNat):=λn=>rfl;refine aU t c x1 ?_;exact A j _ _ e (.inl rfl);obtain⟨a1,Q⟩:=acg (a:=v) (n:=64- b);refine aS t c ?_;subst G;simp(disch:=omega) [-kD,F,Q];refine akK d l λu=>?_;refine ag ?_;refine akC d λm=>?_;refine ag ?_;refine akA d λq hq=>?_;obtain⟨K,R⟩:=Vi (a:=u) (n:=q);obtain⟨a3,S⟩:∃a,jI (λ_ a b=>a&&&b) (.d .u64 u) (.d .u64 1)=.v (.d .u64 a):=⟨_,rfl⟩;obtain⟨a4,U⟩:∃a,jI (λ_ a b=>a|||b) (.d .u64 K) (.d .u64 a3)=.v (.d .u64 a):=⟨_,rfl⟩;obtain⟨a5,V⟩:∃a,jb (.i E) (.i (q:Int))=.v (.i a):=⟨_,rfl⟩;simp(disch:=omega) [-kD,-oy,R,S,U,V];refine akD d λr=>?_;obtain⟨a6,X⟩:∃a,jI (λ_ a b=>a|||b) (.d .u64 B) (.d .u64 r)=.v (.d .u64 a):=⟨_,rfl⟩;obtain⟨a7,Y⟩:∃a,uR (.i a5)=.v (.i a):=⟨_,rfl⟩;simp(disch:=omega) [-oy,X,Y];refine akE d λn x N=>?_;refine ag ?_;exact A j n x e N
def Lg(h:Hp):Prop:=∃q cap ex,cellsOf (h.ab 12) 0 1=some [.c q 0 1 23 cap ex]/\q<22/\∀i,i<23->∃b,cellsOf (h.ab q) i 1=some [.w .f64 b]/\Bn b=true
def Lg.kp{h':Hp}(x:Lg h)(g:xe h h'):Lg h':=by obtain⟨q,cap,ex,e,c,a⟩:=x;exact⟨q,cap,ex,by rw[g 12 zd];exact e,c,λi hi=>by rw[g q c];exact a i hi⟩
def aci{b:Nat}(h:Bn b=true):lW b:=by obtain⟨s,n,p,e,_⟩:=Ux h;intro s t;rw[e];simp
def akL:lW 4831355200913801216:=aci zd
def akM:lW 14054727237768577024:=aci zd
def akN{a b:Nat}(c:lW a)(d:lW b):∃r,uc (.w .f64 a) (.w .f64 b)=.v (.g r):=abu c d
def akO{a b:Nat}(c:lW a)(d:lW b):∃r,ua (.w .f64 a) (.w .f64 b)=.v (.g r):=abu c d
def akP(G:aA T)(I:Bm h)(J:Lg h){v p:Int}(L:-1000<p/\p<1000)(c:∀(n:Nat)(r:Bool),k (.a (.o [.w .f64 n,.g r]) h)):aE T (W T) ⟨215⟩ [.d .u64 v,.i p,.g false] h k:=by
 rw[aJ G.t215];obtain⟨t1,t2,t3⟩:=I;obtain⟨q,cap,ex,D,M,C⟩:=J;obtain⟨H,e⟩:∃a,sC (.d .u64 v) (.d .u64 52)=.v (.d .u64 a):=⟨_,rfl⟩;by_cases z:H=0;obtain⟨f0,g,n0⟩:=ajJ (n:=v);by_cases c0:p=0;simp(disch:=omega) [-lg,t1,e,z,g,c0];exact c _ _;by_cases c1:0<p;by_cases c2:p<=37;generalize u:aJW=t;have rest:∀(f:Fr)(i:Nat)(w:Nat),i<23->lW w->an 1 f=.i i->an 6 f=.w .f64 w->an 7 f=.g false->W T t f h [] (bY 0 (bF (W T CC.k) (finish T (W T) [.a 6,.a 7] k))):=by
  intro f i w hi x y A B;obtain⟨bb,j,fb⟩:=C i hi;obtain⟨K,g1⟩:=akN x akL;obtain⟨r2,g2⟩:=akO x akM;obtain⟨m,em,_⟩:=abt x fb;have d:(i:Int)<23:=zo;subst u;cases K with
  |true=>
   refine bK y A B g1 ?_;exact c _ _
  |false=>
   cases r2 with
   |true=>
    refine cC y A B g1 g2 ?_;exact c _ _
   |false=>
    refine nA y A B g1 g2 D hi d j em ?_;exact c _ _
 by_cases c3:22<p;obtain⟨i,o⟩:=at6 (by omega:0<=p- 22);have E:jb (.i p) (.i 22)=.v (.i (i:Int)):=by rw[kD,gf zo zo,o]
 have hi:i<23:=zo;have d:(i:Int)<23:=zo;obtain⟨bb,j,fb⟩:=C i hi;obtain⟨m,em,nm⟩:=abt n0 fb;simp(disch:=omega) [-lg,-kD,t1,e,z,g,c0,c1,c2,c3,E,D,j,em];refine rest _ 22 m zd nm ?_ ?_ ?_;exact aa;exact aa;exact aa;obtain⟨i,o⟩:=at6 (by omega:0<=p);have hi:i<23:=zo;simp(disch:=omega) [-lg,t1,e,z,g,c0,c1,c2,c3];refine rest _ i f0 hi n0 ?_ ?_ ?_;exact au o;exact aa;exact aa;have l:¬p<0:=zo;simp(disch:=omega) [-lg,t1,e,z,g,c0,c1,c2,l];exact c _ _;have l:p<0:=zo;by_cases F:-22<=p;obtain⟨i,o⟩:=at6 (by omega:0<=-p);have E:uR (.i p)=.v (.i (i:Int)):=by show OR.v (.i (w64 (0- p)))=_;rw[gf zo zo];exact aui (λz=>OR.v (.i z)) zo
 have hi:i<23:=zo;have d:(i:Int)<23:=zo;obtain⟨bb,j,fb⟩:=C i hi;obtain⟨m,em⟩:=ajH n0 fb;simp(disch:=omega) [-lg,t1,e,z,g,c0,c1,l,F,E,D,j,em];exact c _ _;simp(disch:=omega) [-lg,t1,e,z,g,c0,c1,l,F];exact c _ _;simp(disch:=omega) [-lg,t1,e,z];exact c _ _
end
section
open Go (IntKind FloatKind)
variable {k:aK->Prop}
def akR(fl:qa s):∃u,nh (S s) (.i 0)=.v (.s u)/\48<=u/\u<=57:=by
 have b:0<s.length:=auA.2 fl.d;have a:=Ov fl.b;refine⟨(s.headD 0).toNat,?_,a⟩;rw[dQ zd (by simpa using b)];cases s with
 |nil=>simp at b
 |cons c r=>rfl
def akS(fl:qa s){n:Nat}(h:s.take n≠[]):qa (s.take n):=by
 refine⟨h,?_,λc a=>fl.a c (axk a)⟩;have:=fl.b;cases s with
 |nil=>simp at h
 |cons c r=>
  cases n with
  |zero=>simp at h
  |succ n=>exact this
def akT(a:uU T)(fl:qa s)(e:k (.a (.o [.w .f64 0,.i 0,.g false]) h)):aE T (W T) ⟨204⟩ [S s] h k:=by rw[aJ a.t204];have g:0<s.length:=auA.2 fl.d;obtain⟨u,f,i,j⟩:=akR fl;have b:¬s.length=0:=zo;have sl:¬(s.length:Int)=0:=zo;have c1:¬u=43:=zo;have c2:¬u=45:=zo;have c3:¬u=105:=zo;have c:¬u=73:=zo;have d:¬u=110:=zo;have c6:¬u=78:=zo;simp(disch:=omega) [-dQ,f,b,c1,c2,c3,c,d,c6];exact e
def akU(c:aA T){b:Nat}(x:bM h b (λ_=>0) 0 0 false false) (d:∀h',ah (·=b) h h'->k (.a (.g false) h')):aE T (W T) ⟨211⟩ [.a b 0,S []] h k:=by rw[aJ c.t211];have a:=x;unfold bM at a;refine aB a ?_;exact d _ aZ
def ErX(x:AV):Prop:=x=.x\/x=.q 219 (.i 1)\/x=.q 219 (.i 2)
structure xo(h:Hp):Prop where
 n:22<=h.a
 c:CS h
 j:EO h
 b:Bm h
 a:E0 h
 f:Lg h
 d:cellsOf (h.ab 8) 0 1=some [.g true]
def xo.kp{h':Hp}(x:xo h)(g:xe h h')(e:22<=h'.a):xo h':=⟨e,x.c.kp g,x.j.kp g,x.b.kp g,x.a.kp g,x.f.kp g,by rw[g 8 zd];exact x.d⟩
def xo.g0{h':Hp}(x:xo h)(g:ax h h'):xo h':=x.kp (λi hi=>g.f i (by have:=x.n;omega) id) (at1 x.n g.g)
def akV{H:Hp}{b:Nat}(e:H.ab b=.a 274 (List.replicate 800 (.s 0)++[.i 0,.i 0,.g false,.g false])):bM H b (λ_=>0) 0 0 false false:=by unfold bM;rw[e];unfold kO;rw[List.map_const',List.length_range];rfl
def akW(I:uU T)(L:xo h)(fl:qa s)(hl:s.length<=60)(l:∀h' v(n:Int) x,ax h h'->ErX x->k (.a (.o [v,.i n,x]) h')):aE T (W T) ⟨195⟩ [S s] h k:=by
 have p:=I.h;rw[aJ p.t195];have n19:=L.n;have y:∀n:Int,qo .a [.d .u64 n]=.v (.w .f64 n.toNat):=λn=>rfl;generalize P:aJR=A;refine ag ?_;refine akT I fl ?_;refine ag ?_;refine ajC I fl hl λm e tr ok i hi e1 e2=>?_;have Nq:∀(f:Fr)(d:Hp),ax h d->an 0 f=S s->an 3 f=.i i->an 4 f=.x->W T A f d [] (finish T (W T) [.a 2,.a 3,.a 4] k):=by
  intro f d g1 f0 f3 f4;subst P;have L1:=L.g0 g1;have n1:=L1.n;have sl:wh (S s) none (some (.i (i:Int)))=.v (S (s.take i)):=by rw[Z2 zo zo];rfl
  simp(maxSteps:=400000) (disch:=first|exact bh|fail) [-List.reduceReplicate,-Z2,f0,f3,sl];generalize K:(Hp.am d _:Hp)=H;have xH:bM H d.a (λ_=>0) 0 0 false false:=akV (by rw[<-K];exact Hp.bv rfl);have Y:ax d H:=by rw[<-K];exact aZ
  have nH:H.a=d.a+1:=by rw[<-K];rfl
  have N:=L1.g0 Y;clear K;have up:∀{o:Hp},ah (·=d.a) H o->ax h o:=λ{o} g=>⟨by have:=g.g;have:=g1.g;omega,λj hj _=>(g.f j qan qan).trans ((Y.f j qan id).trans (g1.f j hj id))⟩;by_cases c:s.take i=[];rw[c];refine akU p xH λo g2=>?_;refine aB f3 ?_;exact l o _ _ _ (up g2) (.inr (.inr rfl));refine ajo I xH (akS fl c) zn λr o D nd dp ng fT g2 x2 yx d1 d2=>?_;cases r with
  |false=>
   refine aB f3 ?_;exact l o _ _ _ (up g2) (.inr (.inr rfl))
  |true=>
   have kp:xe H o:=.of g2 n1 N.n;have t:=N.kp kp (at1 N.n g2.g);refine ag ?_;refine ajx p x2 yx ⟨d1,d2⟩ t.c t.j t.b n1 t.n λv r F J=>?_;cases r with
   |true=>
    refine aU y f3 f4 ?_;exact l F _ _ _ (up (g2.ba J)) (.inr (.inl rfl))
   |false=>
    refine aU y f3 f4 ?_;exact l F _ _ _ (up (g2.ba J)) (.inl rfl)
 cases ok with
 |false=>
  refine ag ?_;exact l h _ _ _ (ah.cg _) (.inr (.inr rfl))
 |true=>
  refine aB L.d ?_;refine Vh p λw=>?_;obtain⟨U,M⟩:∃a,oQ pF (.d .u64 w) (.d .u64 63)=.v (.d .u64 a):=⟨_,rfl⟩;obtain⟨Q,s2⟩:∃a,jI (λ_ a b=>a|||b) (.d .u64 U) (.d .u64 0)=.v (.d .u64 a):=⟨_,rfl⟩;obtain⟨R,s3⟩:∃a,jI (λ_ a b=>a|||b) (.d .u64 U) (.d .u64 9218868437227405312)=.v (.d .u64 a):=⟨_,rfl⟩;obtain⟨T18,V⟩:∃X,aIm=X:=⟨_,rfl⟩;rw[V];obtain⟨O,B⟩:∃X,aJQ=X:=⟨_,rfl⟩;have u:=V.symm;unfold aIm zt at u;rw[B] at u;have G:∀(f:Fr)(d:Hp),ax h d->-345<=e->e<=310->an 0 f=S s->an 3 f=.i i->an 4 f=.x->an 8 f=.d .u64 m->an 9 f=.i e->an 11 f=.g tr->an 16 f=.d .u64 U->W T O f d [] (bF (W T A) (finish T (W T) [.a 2,.a 3,.a 4] k)):=by
   intro f d g1 Q R f0 f3 f4 f8 f9 f11 f16;rw[<-B];have L1:=L.g0 g1;refine aU f8 f9 f16 ?_;refine ach p L1.a L1.n ⟨Q,R⟩ λo r1 y g2 Z=>?_;have C:=g1.ba g2;cases tr with
   |false=>
    refine aS f3 f11 ?_;refine l o _ _ _ C ?_;rcases Z with q|q;exact .inl q;exact .inr (.inl q)
   |true=>
    have t:=L1.g0 g2;obtain⟨m2,s4⟩:∃a,lG (.d .u64 m) (.d .u64 1)=.v (.d .u64 a):=⟨_,rfl⟩;simp(disch:=omega) [-vJ,f8,f9,f11,f16,s4];refine ach p t.a t.n ⟨Q,R⟩ λF r2 x2 J kT=>?_;have E:=C.ba J;obtain⟨r,s5⟩:=ajI (a:=r1) (b:=r2);cases r with
    |true=>
     simp(disch:=omega) [-Dv,s5,f3];refine l F _ _ _ E ?_;rcases Z with q|q;exact .inl q;exact .inr (.inl q)
    |false=>
     simp(disch:=omega) [-Dv,s5];refine Nq _ F E ?_ ?_ ?_;exact zA;exact zA;exact zA
  by_cases z:m=0;subst z;simp(disch:=omega) [-oy,M,s2,y];exact l h _ _ _ (ah.cg _) (.inl rfl)
  ·by_cases c1:310<e;simp(disch:=omega) [-oy,M,s3,y,z,c1];exact l h _ _ _ (ah.cg _) (.inr (.inl rfl))
   ·by_cases c2:e< -345;simp(disch:=omega) [-oy,M,s2,y,z,c1,c2];exact l h _ _ _ (ah.cg _) (.inl rfl)
    ·simp(disch:=omega) [-oy,M,z,c1,c2];rw[u];cases tr with
     |true=>
      refine ag ?_;refine G _ h (ah.cg _) zo zo ?_ ?_ ?_ ?_ ?_ ?_ ?_
      all_goals simp(disch:=omega)
     |false=>
      refine ag ?_;refine akP p L.b L.f zo λn r=>?_;cases r with
      |true=>
       refine ag ?_;exact l h _ _ _ (ah.cg _) (.inl rfl)
      |false=>
       refine ag ?_;refine G _ h (ah.cg _) zo zo ?_ ?_ ?_ ?_ ?_ ?_ ?_
       all_goals simp(disch:=omega)
def akY(b:aA T){p:List UInt8}(g:s.length<1073741824)(a:ry h 5)(f:∀v h',ax h h'->k (.a v h')):aE T (W T) ⟨167⟩ [S p,S s] h k:=by
 rw[aJ b.t167];obtain⟨a,t,v,c⟩:=a;refine aB c ?_;refine aa2 b g λw w' e g1=>?_;have d:cellsOf (e.ab 5) 0 1=some [.q t v]:=by rw[g1.f _ a id];exact c
 refine aB d ?_;exact f _ _ aZ
def akZ(a:aA T){p:List UInt8}{b z:Int}(e:s.length<1073741824)(c:ry h 5)(d:∀v h',ax h h'->k (.a (.q 222 v) h')):aE T (W T) ⟨142⟩ [S p,S s,.i b,.i z,.q 219 (.i 2)] h k:=by rw[aJ a.t142];refine ag ?_;refine akY a e c λv f g1=>?_;refine ag ?_;exact d _ _ aZ
def ak0(a:uU T)(L:xo h)(fl:qa s)(d:s.length<=60)(b:∀h' v x,ax h h'->ErX x->k (.a (.o [v,x]) h')):aE T (W T) ⟨143⟩ [S s,.i 64] h k:=by rw[aJ a.h.t143];refine ag ?_;rw[aJ a.h.t171];refine ag ?_;refine akW a L fl d λh' v n x g e=>?_;refine ag ?_;by_cases c:n=s.length;refine aB c ?_;exact b h' _ _ g e;refine aB c ?_;exact b h' _ _ g (.inr (.inr rfl))
def ak1(a:uU T)(L:xo h)(e:ry h 5)(f:ry h 6)(fl:qa s)(i:s.length<=60)(c:∀h' v x,ax h h'->(x=.x\/∃w,x=.q 222 w)->k (.a (.o [v,x]) h')):aE T (W T) ⟨118⟩ [S s,.i 64] h k:=by rw[aJ a.h.t118];refine ag ?_;refine ak0 a L fl i λd v x g j=>?_;rcases j with rfl|rfl|rfl;refine ag ?_;exact c d _ _ g (.inl rfl);refine ag ?_;refine aa3 a.h zo (f.bc g) λw b g2=>?_;refine ag ?_;exact c b _ _ (g.ba g2) (.inr ⟨_,rfl⟩);refine ag ?_;refine akZ a.h zo (e.bc g) λw b g2=>?_;refine ag ?_;exact c b _ _ (g.ba g2) (.inr ⟨_,rfl⟩)
def ak2(d:uU T)(L:xo h)(i:ry h 5)(j:ry h 6)(m:s.length<1073741824)(a:∀v e h',ax h h'->k (.a (.o [v,.i e]) h')):aE T (W T) ⟨84⟩ [S s] h k:=by
 rw[aJ d.h.t84];by_cases c:60<s.length;have f:(60:Int)<s.length:=zo;refine aS c f ?_;exact a _ _ _ (ah.cg _);have f:¬(60:Int)<s.length:=zo;refine aS c f ?_;refine aiV d.h m λb l=>?_;cases b with
 |false=>
  refine ag ?_;exact a _ _ _ (ah.cg _)
 |true=>
  refine ag ?_;refine ak1 d L i j (l rfl) zo λo v x g n=>?_;rcases n with rfl|⟨w,rfl⟩;refine ag ?_;exact a _ _ _ g;refine ag ?_;exact a _ _ _ g
end
theorem ak8{j n:Type}{f:j->n}{M L:List n}(p:M.Perm L):∀{l:List j},l.map f=M->∃c:List j,c.Perm l/\c.map f=L:=by
 induction p with
 |nil=>simp
 |cons x p r=>
  intro l e;cases l with
  |nil=>grind
  |cons a l=>
   simp at e;obtain⟨c,d,m⟩:=r e.2;exact⟨a::c,d.cons a,by grind⟩
 |swap x y t=>
  intro l e
  match l,e with
  |a::b::l,e=>
   exact⟨b::a::l,List.Perm.swap _ _ _,by grind⟩
 |trans w z g i=>
  intro l e;obtain⟨u,d,m⟩:=g e;obtain⟨s,o,q⟩:=i m;exact⟨s,o.trans d,q⟩
def ayG(Q:SL)(l:List aC):Prop:=∀s,(eV Q s=none/\s∉l.map (·.a))\/∃c:Int,eV Q s=some (.i c)/\1<=c/\c<=l.length/\s∈l.map (·.a)
theorem ayG.val{Q:SL}{l:List aC}(x:ayG Q l)(s:List UInt8):∃c:Int,(eV Q s).getD (.i 0)=.i c/\0<=c/\c<=l.length/\(c=0 <-> s∉l.map (·.a)):=by rcases x s with⟨e,n⟩|⟨c,e,c1,c2,n⟩;simp_all;grind
theorem ayG.GT{Q:SL}{l:List aC}{d:aC}{c:Int}(x:ayG Q l)(e:(eV Q d.a).getD (.i 0)=.i c)(c0:0<=c)(c1:c<=l.length):ayG (mA Q d.a (.i (c+1))) (l++[d]):=λs=>by rw[Bq];by_cases q:s=d.a;grind;rcases x s with⟨e,n⟩|⟨c,e,c1,c2,n⟩;grind;grind
theorem acG{f x:cN}(a:x.e≠0):(Bp f x).e≠0:=by grind[Bp]
section
variable {k:aK->Prop}{v:AV}{ds:List aC}
theorem Vk(E:aA T){p:Nat}{c0 c1 c2 c6 c7 c8 c9:AV}{f:cN}(hp:h.ab p=.a 57 (bS c0 c1 c2 f c6 c7 c8 c9))(hd:yG h v ds)(hl:ds.length<1073741824)
 (D:∀h' f',ah (·=p) h h'->h'.ab p=.a 57 (bS c0 c1 c2 f' c6 c7 c8 c9)->((ds.map (·.a)).Nodup->f'=f)->(f'.e=0->f.e=0/\(ds.map (·.a)).Nodup)->k (.a (.o []) h')):aE T (W T) ⟨65⟩ [.a p 0,v] h k:=by
 rw[aJ E.t65];have lp:=Hp.lt hp rfl;have gm:ax h (h.am (.f [] 0)):=aZ;generalize hL:CC.d l65_0=L;refine ag ?_;refine abE E (hd.bc λq U _=>gm.f q U id) hl λI v1 g1 iu ak9=>?_;have u:ax h I:=gm.ba g1;have m1:iV I h.a []:=(iV.ow (h:=h.am (.f [] 0)) (Hp.bv rfl)).bc (g1.f _ zm id);have fu:I.ab p=_:=(u.f _ lp id).trans hp;rcases iu with⟨rfl,rfl⟩|⟨bg,q,t,cap,ex,r,rfl,U,hr,ht⟩;refine ag ?_;refine aML E ?_;refine ag ?_;subst hL;rw[aP];exact ag (D _ f (ah.mr u) fu (λ_=>rfl) λe=>⟨e,aEe⟩);have hqn:h.a+1<=q:=by have:=ak9 _ _ _ _ _ _ rfl;simp_all
 have x:DA I q r ds.length t:=⟨U,hr,λj hj=>⟨ds[j],ht j hj⟩⟩;refine ag ?_;refine ak7 E x hl λJ t2 g2 x2 p2=>?_;have er:dw t ds.length 0=ds.map aC.fj:=by apply avs;grind[vw,oZ]
 obtain⟨l,pd,ed⟩:=ak8 (show(dw t ds.length 0).Perm (dw t2 ds.length 0) from p2.symm) er.symm;have bz:l.length=ds.length:=pd.length_eq;have Vl:∀j,(hj:j<l.length)->t2 j=l[j].fj:=λj hj=>by have:=vw t2 ds.length 0 j zo;grind
 have g2':ah (·=q) I J:=g2;have eK:J.ab p=_:=(g2.f _ (aur lp u.g) zo).trans fu;have m2:iV J h.a []:=m1.bc (g2.f _ m1.lt zo);have g02:ax h J:=⟨at1 u.g g2.g,λi hi _=>by rw[g2.f i (aur hi u.g) zo,u.f i hi id]⟩;have Z:(ds.map (·.a)).Nodup->(l.map (·.a)).Nodup:=λhh=>(pd.map _).nodup_iff.2 hh;have A5:=x2.a;have ati:=x2.c;clear g1 U ht x er p2 ed;have key:∀(m i:Nat)(n:Hp)(Q:SL)(z:cN)(A:Fr)(K:aT->Prop),m=l.length- i->i<=l.length->n.ab q=.b 35 5 r 0 t2->iV n h.a Q->ayG Q (l.take i)->((ds.map (·.a)).Nodup->z=f)->(z.e=0->f.e=0/\((l.take i).map (·.a)).Nodup)->
  ah (·=p) h n->n.ab p=.a 57 (bS c0 c1 c2 z c6 c7 c8 c9)->an 0 A=.a p 0->an 4 A=.j h.a->an 13 A=.c q 0 5 ds.length cap ex->an 14 A=.i ds.length->an 15 A=.i i->
  (∀f' h' F,ah (·=p) h h'->h'.ab p=.a 57 (bS c0 c1 c2 F c6 c7 c8 c9)->((ds.map (·.a)).Nodup->F=f)->(F.e=0->f.e=0/\(ds.map (·.a)).Nodup)->K (.a 0 f' h' []))->W T (.d l65_0) A n [] K:=by
  intro m;induction m with
  |zero=>
   intro i n Q z A K hm hi P V hv R O g3 kF B C y g w D;have e:¬i<ds.length:=zo;rw[aP];refine aU g w e ?_;grind
  |succ m ih=>
   intro i n Q z A K hm hi P V hv R O g3 kF B C y g w D;have ao:i<l.length:=zo;have aY:i<ds.length:=zo;have kz:=Vl i ao;generalize bC:l[i]=d at kz;simp only[aC.fj] at kz;have lm:=V.lt;have lq3:=Hp.lt P rfl;rw[aP];obtain⟨c,ec,z0,z1,ci⟩:=hv.val d.a;have z2:c<=i:=by grind
   have hc:me (.a .a) ((n.am (.a 35 [.i 0,S [],.i 0,.i 0,S []])).dT n.a (.a 35 [.i d.b,S d.a,.i d.c,.i d.f,S d.g])) (.i 0) (.j h.a) (S d.a) false=.v (.i c):=by rw[(V.bc aa).wa,ec];rfl
   refine mz B C y g w aY P kz hc ?_;generalize hH:((n.am _).dT _ _:Hp)=H;have G:ax n H:=by rw[<-hH];exact fZ
   have u1:H.ab n.a=.a 35 [.i d.b,S d.a,.i d.c,.i d.f,S d.g]:=by rw[<-hH];simp
   clear hH;have mH:=V.bc (G.f _ lm id);obtain⟨o,eo,fo⟩:=mH.ti (s:=d.a) (v:=.i ((c+1)));have Bt:H.ab q=_:=(G.f _ lq3 id).trans P;have lB:H.ab p=_:=(G.f _ (Hp.lt kF rfl) id).trans kF;have nH:=G.g;have lu1:=Hp.lt u1 rfl;have X:iV (H.dT h.a o) h.a (mA Q d.a (.i ((c+1)))):=fo _ (Hp.fp rfl);have At:me (.a .a) (H.dT h.a o) (.i 0) (.j h.a) (S d.a) false=.v (.i ((c+1))):=by rw[X.wa,Bq,if_pos rfl];rfl
   have hpn:p≠h.a:=zo;have ala:q≠h.a:=zo;have g5:ah (·=p) h (H.dT h.a o):=ah.dT (g3.ba (ah.mr G)) _ (.inl zl);have OH:(H.dT h.a o).ab p=.a 57 (bS c0 c1 c2 z c6 c7 c8 c9):=by simp_all
   have Y:(H.dT h.a o).ab q=.b 35 5 r 0 t2:=by simp_all
   have tk:l.take (i+1)=l.take i++[d]:=by grind[List.take_succ_eq_append_getElem]
   have N:ayG (mA Q d.a (.i ((c+1)))) (l.take (i+1)):=by rw[tk];exact hv.GT ec z0 z1
   by_cases cc:1<(c+1);have alc:¬(ds.map (·.a)).Nodup:=λhh=>by
    have M:=Z hh;have nm:d.a∈(l.take i).map (·.a):=avu λq=>by grind
    rw[<-av6 i l,au4,av'] at M;have n:=M.2.2 d.a nm d.a (by grind[List.drop_eq_getElem_cons]);exact absurd rfl n
   refine cq B C At u1 eo cc ?_;refine ES E (x:=⟨d.c,d.f,13⟩) (f:=z) OH λh6 g6 yH=>?_;refine aS g w ?_;have g56:ah (·=p) (H.dT h.a o) h6:=g6;exact ih (i+1) h6 _ _ _ K zo zo ((g6.f _ (Hp.lt Y rfl) zo).trans Y) (X.bc (g6.f _ X.lt zo)) N (λhh=>absurd hh alc) (λe=>absurd e (acG zm)) (g5.ba g6) yH (au B) (au C) (au y) (au g) aa D;refine fY B C At u1 eo cc g w ?_;exact ih (i+1) (H.dT h.a o) _ z _ K zo zo Y X N R (λe=>⟨(O e).1,by rw[tk,au4,av'];refine⟨(O e).2,by simp,λa ha b hb=>?_⟩;simp at hb;subst hb;rintro rfl;exact ci.1 zo ha⟩) g5 OH (au B) (au C) (au y) (au g) aa D
 refine ag ?_;subst hL;refine key _ 0 J [] f _ _ rfl zo A5 m2 (λs=>.inl ⟨rfl,by simp⟩) (λ_=>rfl) (λe=>⟨e,by simp⟩) (ah.mr g02) eK aa aa aa aa aa λf' h' F g' dj R O=>?_;refine ag ?_;exact D _ F g' dj R O
end
abbrev Kk:=Nat×List UInt8
def qc(b:Nat)(ds:List aC):AV:=.c b 0 5 ds.length ds.length false
def kV(o:Option Nat)(ds:List aC):AV:=match o with|none=>.h|some b=>qc b ds
def iY{b:Type}(B:Kk->b)(g:Kk)(x:b):Kk->b:=λa=>if a=g then x else B a
def rD(h:Hp)(b:Nat)(ds:List aC):Prop:=∃r t,h.ab b=.b 35 5 r 0 t/\ds.length<=r/\∀j,(hj:j<ds.length)->t j=ds[j].fj
structure Sto(h:Hp)(tb pb k:Nat)(B:Kk->Option Nat)(D:Kk->List aC):Prop where
 d:∀c,c<3->∃L,iV h (if c=0 then tb else if c=1 then pb else k) L/\∀s,eV L s=(B (c,s)).map λb=>qc b (D (c,s))
 a:∀g,(B g=none->D g=[])/\∀b,B g=some b->D g≠[]/\rD h b (D g)
 inj:∀g xq b,B g=some b->B xq=some b->g=xq
 f:tb≠pb/\tb≠k/\pb≠k
def ja(tb pb k c:Nat):Nat:=if c=0 then tb else if c=1 then pb else k
section
variable {k:Nat}{B:Kk->Option Nat}{D:Kk->List aC}{g:Kk}{d:aC}
def rD.lt{b:Nat}{ds:List aC}(x:rD h b ds):b<h.a:=by obtain⟨r,t,e,_⟩:=x;exact Hp.lt e rfl
def rD.bc{b:Nat}{ds:List aC}(x:rD h b ds)(e:h'.ab b=h.ab b):rD h' b ds:=by obtain⟨r,t,q,w⟩:=x;exact⟨r,t,e.trans q,w⟩
theorem rD.Hb{b:Nat}{ds:List aC}(x:rD h b ds){a aD}:h.ab b≠.f a aD:=by obtain⟨r,t,q,w⟩:=x;grind
theorem rD.acn{b:Nat}{ds:List aC}(x:rD h b ds){el l}:h.ab b≠.a el l:=by obtain⟨r,t,q,w⟩:=x;grind
theorem Sto.bc(x:Sto h tb pb k B D)(e:∀i,(i=tb\/i=pb\/i=k\/∃g,B g=some i)->h'.ab i=h.ab i):Sto h' tb pb k B D:=by refine⟨λc l=>?_,λg=>⟨(x.a g).1,λb j=>⟨((x.a g).2 b j).1,((x.a g).2 b j).2.bc (e b (.inr (.inr (.inr ⟨g,j⟩))))⟩⟩,x.inj,x.f⟩;obtain⟨L,m,q⟩:=x.d c l;refine⟨L,m.bc (e _ ?_),q⟩;grind
def Sto.wa(x:Sto h tb pb k B D){c:Nat}(b:c<3){s:List UInt8}:me (.a .a) h .h (.j (ja tb pb k c)) (S s) false=.v (kV (B (c,s)) (D (c,s))):=by obtain⟨L,m,q⟩:=x.d c b;show me _ h .h (.j (if c=0 then tb else if c=1 then pb else k)) (S s) false=_;rw[m.wa,q];cases B (c,s)<;>rfl
def Sto.lt(x:Sto h tb pb k B D):tb<h.a/\pb<h.a/\k<h.a:=by obtain⟨L,m,_⟩:=x.d 0 zm;obtain⟨L',e,_⟩:=x.d 1 zm;obtain⟨c,b,_⟩:=x.d 2 zm;exact⟨m.lt,e.lt,b.lt⟩
def Sto.ly(x:Sto h tb pb k B D):∀c,c<3->∃b aD,h.ab (ja tb pb k c)=.f b aD:=λc i=>by obtain⟨L,⟨⟨aD,e⟩,_⟩,_⟩:=x.d c i;exact⟨_,aD,e⟩
theorem Sto.ss(x:Sto h tb pb k B D)(g:Kk){ds:List aC}{sv:AV}{sb:Nat}{cap:Nat}{ex:Bool}(w:sv=.c sb 0 5 ds.length cap ex)(v:rD h sb ds)(l:ds≠[])(z:B g≠some sb)(E:(D g).length+ds.length<2147483648):
 ∃e,kJ h 35 5 56 (kV (B g) (D g)) sv=.b (qc h.a (D g++ds)) e/\h.a<e.a/\rD e h.a (D g++ds)/\∀i,i<h.a->B g≠some i->e.ab i=h.ab i:=by
 obtain⟨r,t,u,hr,F⟩:=v;have h0:=auA.2 l;obtain⟨n,p⟩:∃n,ds.length=n+1:=⟨ds.length- 1,by omega⟩;have er:dw t ds.length 0=ds.map aC.fj:=by apply avs;grind[vw,oZ]
 have c:=Ke (h:=h) (el:=35) (rw:=5) (n:=ds.length) (b:=sb) (cap:=cap) (ex:=ex) zm u hr;cases o:B g with
 |none=>
  have C:=(x.a g).1 o;have s:=A7 (h:=h) (el:=35) (rw:=5) (bytes:=56) (n:=n) c (by simp[lenOf,p]) (rV zo zo);refine⟨h.am (jJ 35 5 (n+1) (ds.map aC.fj)),by grind[kV,qc],by simp,⟨n+1,jy fG 0 (ds.map aC.fj),by rw[Hp.bv rfl];rfl,by grind,λj hj=>?_⟩,λi hi _=>Hp.jp hi⟩;grind[wO]
 |some b=>
  obtain⟨q,r2,t2,m,y,A⟩:=(x.a g).2 b o;have lb:=Hp.lt m rfl;have s:=A8 (h:=h) (el:=35) (rw:=5) (bytes:=56) (n:=n) (i:=b) (len:=(D g).length) (l5:=r2) (t:=t2) m y c (by simp[lenOf,p]) (rV zo zo);refine⟨(h.dT b AO.c).am (AO.b 35 5 ((D g).length+(n+1)) 0 (jy t2 (D g).length (List.map aC.fj ds))),by grind[kV,qc],by simp_all,⟨(D g).length+(n+1),jy t2 (D g).length (ds.map aC.fj),?_,by grind,λj hj=>?_⟩,λi hi l=>?_⟩;simp_all;grind[G3];grind[Hp.my,Hp.jp,Hp.fv]
theorem Sto.iL(x:Sto h tb pb k B D){c:Nat}(t:c<3){s:List UInt8}{ds:List aC}(W:ds≠[]){nb:Nat}(xY:h.a<=nb)(hr:rD h' nb (D (c,s)++ds))(C:∀i,i<h.a->B (c,s)≠some i->h'.ab i=h.ab i):
 ∃o,aFk (.a .a) h' (.j (ja tb pb k c)) (S s) (qc nb (D (c,s)++ds))=.b undef (h'.dT (ja tb pb k c) o)/\
  ∀l:Hp,l.ab (ja tb pb k c)=o->(∀i,i≠ja tb pb k c->l.ab i=h'.ab i)->Sto l tb pb k (iY B (c,s) (some nb)) (iY D (c,s) (D (c,s)++ds)):=by
 obtain⟨L,m,q⟩:=x.d c t;have V:=x.lt;have z:ja tb pb k c<h.a:=m.lt;have R:∀j,j<3->B (c,s)≠some (ja tb pb k j):=λj y e=>by obtain⟨J,aD,w⟩:=x.ly j y;exact((x.a _).2 _ e).2.Hb w
 have P:=m.bc (C _ z (R c t));obtain⟨o,I,K⟩:=P.ti (s:=s) (v:=qc nb (D (c,s)++ds));refine⟨o,I,λl H A=>⟨λj y=>?_,λg=>?_,λg U b p r=>?_,x.f⟩⟩;by_cases E:j=c;subst E;refine⟨_,K l H,λs'=>?_⟩;grind[Bq,iY];obtain⟨L',Q,q'⟩:=x.d j y;have F:ja tb pb k j≠ja tb pb k c:=by obtain⟨X,Y,Z⟩:=x.f;grind[ja]
 refine⟨L',Q.bc ?_,λs'=>?_⟩;grind[ja];grind[iY];unfold iY;by_cases u:g=(c,s);subst u;simp only[auo];refine⟨λe=>qaa,λb e=>?_⟩;cases e;refine⟨by simp_all,hr.bc (A _ ?_)⟩;omega;simp[u,auM];refine⟨(x.a g).1,λb e=>⟨((x.a g).2 b e).1,?_⟩⟩;have rb:=((x.a g).2 b e).2;refine rb.bc ((A b ?_).trans (C b rb.lt ?_));intro M;obtain⟨J,aD,w⟩:=x.ly c t;rw[M] at rb;exact rb.Hb w;intro G;exact u (x.inj _ _ _ e G);unfold iY at p r;have key:∀n,B n≠some nb:=λn e=>by have:=((x.a n).2 _ e).2.lt;omega
 by_cases N:g=(c,s);grind;by_cases O:U=(c,s);grind;rw[if_neg N] at p;rw[if_neg O] at r;exact x.inj _ _ _ p r
end
structure jv where
 a:List UInt8->List aC
 c:List aC
 d:List aC
 b:Kk->List aC
def rF(o:AO):Prop:=∃r f,o=.b 35 5 r 0 f
structure gW(M:Nat->Prop)(h h':Hp):Prop where
 f:h.a<=h'.a
 d:∀i,i<h.a->¬M i->¬rF (h.ab i)->h'.ab i=h.ab i
def DM(aG tb pb v:Nat)(i:Nat):Prop:=i=aG\/i=tb\/i=pb\/i=v
structure DeA(p aG tb pb v:Nat)(c0 c1 c2 c9:AV)(f:cN)(n:Nat)(h:Hp)(s:jv)(B:Kk->Option Nat)(D:Kk->List aC):Prop where
 k:h.ab p=.a 57 (bS c0 c1 c2 f (.j aG) (.j tb) (.j pb) c9)
 C:lX h aG s.d
 a:Sto h tb pb v B D
 H:∀q,D (0,q)=s.a q
 I:D (3,[])=s.c
 A:∀q,D (1,q)=s.b (1,q)/\D (2,q)=s.b (2,q)
 u:∀κ,(D κ).length<=s.d.length
 F:∀d∈s.c,∃i:Nat,i<n/\d.c=i
 G:aG≠tb/\aG≠pb/\aG≠v
section
variable {aG v n:Nat}{s:jv}{B:Kk->Option Nat}{D:Kk->List aC}{d:aC}
theorem gW.cg{M}(h:Hp):gW M h h:=⟨at2 _,λ_ _ _ _=>rfl⟩
theorem gW.ba{M}{a b c:Hp}(x:gW M a b)(y:gW M b c):gW M a c:=⟨at1 x.f y.f,λi hi j g=>by have e:=x.d i hi j g;rw[y.d i (aur hi x.f) j qaa,e]⟩
def gW.of{M}{a b:Hp}(x:ah M a b):gW M a b:=⟨x.g,λi hi c _=>x.f i hi c⟩
theorem DeA.Fd(x:DeA p aG tb pb v c0 c1 c2 c9 f n h s B D):∃b aD,h.ab aG=.f b aD:=by obtain⟨L,aD,q,_⟩:=x.C;grind
theorem DeA.pne(x:DeA p aG tb pb v c0 c1 c2 c9 f n h s B D):¬DM aG tb pb v p:=by have c:=x.k;rintro(rfl|rfl|rfl|rfl);obtain⟨b,aD,q⟩:=x.Fd;grind;obtain⟨b,aD,q⟩:=x.a.ly 0 zm;rw[show ja p pb v 0=p from rfl] at q;grind;obtain⟨b,aD,q⟩:=x.a.ly 1 zm;rw[show ja tb p v 1=p from rfl] at q;grind;obtain⟨b,aD,q⟩:=x.a.ly 2 zm;rw[show ja tb pb p 2=p from rfl] at q;grind
def DeA.Vn(x:DeA p aG tb pb v c0 c1 c2 c9 f n h s B D){i:Nat}(hi:i=p\/i=aG\/i=tb\/i=pb\/i=v)(c:Kk):B c≠some i:=by intro e;have rb:=((x.a.a c).2 _ e).2;rcases hi with rfl|rfl|rfl|rfl|rfl;exact rb.acn x.k;obtain⟨b,aD,q⟩:=x.Fd;exact rb.Hb q;obtain⟨b,aD,q⟩:=x.a.ly 0 zm;exact rb.Hb q;obtain⟨b,aD,q⟩:=x.a.ly 1 zm;exact rb.Hb q;obtain⟨b,aD,q⟩:=x.a.ly 2 zm;exact rb.Hb q
def DeA.g0(x:DeA p aG tb pb v c0 c1 c2 c9 f n h s B D)(g:ax h h'):DeA p aG tb pb v c0 c1 c2 c9 f n h' s B D:=by have lt:=x.a.lt;refine⟨(g.f _ (Hp.lt x.k rfl) id).trans x.k,x.C.bc (g.f _ x.C.lt id),x.a.bc λi hi=>g.f i ?_ id,x.H,x.I,x.A,x.u,x.F,x.G⟩;rcases hi with rfl|rfl|rfl|⟨b,e⟩;omega;omega;omega;exact((x.a.a b).2 _ e).2.lt
def DeA.rh(x:DeA p aG tb pb v c0 c1 c2 c9 f n h s B D)(g:ah (·=aG) h h')(c:lX h' aG (d::s.d)):DeA p aG tb pb v c0 c1 c2 c9 f n h' {s with d:=d::s.d} B D:=by have lt:=x.a.lt;obtain⟨j,l,m⟩:=x.G;have o:p≠aG:=λe=>x.pne (.inl e);refine⟨(g.f _ (Hp.lt x.k rfl) o).trans x.k,c,x.a.bc λi hi=>?_,x.H,x.I,x.A,λb=>awv (x.u b),x.F,x.G⟩;rcases hi with rfl|rfl|rfl|⟨b,e⟩;exact g.f _ lt.1 (Ne.symm j);exact g.f _ lt.2.1 (Ne.symm l);exact g.f _ lt.2.2 (Ne.symm m);exact g.f _ ((x.a.a b).2 _ e).2.lt λq=>x.Vn (.inr (.inl q)) b e
def vQ(t:List UInt8->List aC)(q:List UInt8)(l:List aC):List UInt8->List aC:=λa=>if a=q then l else t a
theorem DeA.add(x:DeA p aG tb pb v c0 c1 c2 c9 f n h {s with d:=d::s.d} B D)(pP:∀y,(D y).length<=s.d.length) {c:Nat} (V:c<3) (q:List UInt8) (bz:s.d.length<536870912) {t1:Nat->List AV} (Z:t1 0=d.fj) {l:Hp} (R:l=h.am (.b 35 5 1 0 t1)):
 ∃g o,kJ l 35 5 56 (kV (B (c,q)) (D (c,q))) (.c h.a 0 5 1 1 true)=.b (qc l.a (D (c,q)++[d])) g/\aFk (.a .a) g (.j (ja tb pb v c)) (S q) (qc l.a (D (c,q)++[d]))=.b undef (g.dT (ja tb pb v c) o)/\
  (∀i,i<h.a->¬rF (h.ab i)->g.ab i=h.ab i)/\h.a<g.a/\
  DeA p aG tb pb v c0 c1 c2 c9 f n (g.dT (ja tb pb v c) o) {s with a:=if c=0 then vQ s.a q (s.a q++[d]) else s.a,d:=d::s.d,b:=if c=0 then s.b else iY s.b (c,q) (s.b (c,q)++[d])} (iY B (c,q) (some l.a)) (iY D (c,q) (D (c,q)++[d]))/\
  gW (DM aG tb pb v) h (g.dT (ja tb pb v c) o):=by
 have z:ax h l:=by rw[R];exact aZ
 have xp:l.a=h.a+1:=by simp_all
 have K:=x.g0 z;have W:rD l h.a [d]:=by refine⟨1,t1,by simp_all,by simp,λj hj=>?_⟩;grind
 have N:∀y,B y≠some h.a:=λy e=>by have:=((x.a.a y).2 _ e).2.lt;omega
 obtain⟨g,U,l1,hr,M⟩:=K.a.ss (c,q) (ds:=[d]) (sv:=.c h.a 0 5 1 1 true) rfl W zm (N _) qaa;obtain⟨o,em,P⟩:=K.a.iL V zm zl hr M;have O:∀i,i<l.a->¬rF (l.ab i)->g.ab i=l.ab i:=λi hi m=>M i hi λe=>by obtain⟨r,t,w,_⟩:=((K.a.a _).2 _ e).2;exact m ⟨r,t,w⟩
 have J:∀i,i<h.a->¬rF (h.ab i)->g.ab i=h.ab i:=λi hi m=>by rw[O i zo qae,z.f i hi id]
 have X:∀{L aD},¬rF (.f L aD):=λ⟨_,_,e⟩=>by grind
 have Q:=P (g.dT (ja tb pb v c) o) (Hp.fp rfl) (λi hi=>Hp.fv hi);obtain⟨n1,n2,n3⟩:=x.G;have Y:p≠ja tb pb v c:=λe=>x.pne (by grind[ja,DM]);have nm:aG≠ja tb pb v c:=by grind[ja]
 refine⟨g,o,U,em,J,by omega,⟨?_,x.C.bc ?_,Q,λE=>?_,?_,λE=>?_,λy=>?_,x.F,x.G⟩,⟨?_,λi hi hm m=>?_⟩⟩;rw[Hp.fv Y,J p (Hp.lt x.k rfl) (by rw[x.k];rintro⟨_,_,e⟩;grind)];exact x.k;obtain⟨L,aD,w⟩:=x.Fd;rw[Hp.fv nm,J _ x.C.lt qaa];unfold iY;by_cases h0:c=0;subst h0;unfold vQ;have:=x.H E;grind;rw[if_neg qaa];simp[h0,auM];exact x.H E;unfold iY;rw[if_neg qaa];exact x.I;by_cases h0:c=0;subst h0;exact x.A E;simp[h0,auM];obtain⟨a1,a2⟩:=x.A E;unfold iY;grind;grind[iY];have:=x.a.lt;grind[Hp.my,ja];grind[ja,DM,Hp.fv]
theorem DeA.ale(x:DeA p aG tb pb v c0 c1 c2 c9 f n h {s with d:=d::s.d} B D)(pP:∀g,(D g).length<=s.d.length) (bz:s.d.length<536870912) {t1:Nat->List AV} (E4:t1 0=d.fj) (X:∃i:Nat,i<n/\d.c=i) {l:Hp} (e1:l=h.am (.b 35 5 1 0 t1)):
 ∃y,kJ l 35 5 56 (kV (B (3,[])) (D (3,[]))) (.c h.a 0 5 1 1 true)=.b (qc l.a (D (3,[])++[d])) y/\(∀i,i<h.a->¬rF (h.ab i)->y.ab i=h.ab i)/\h.a<y.a/\
  DeA p aG tb pb v c0 c1 c2 c9 f n y {s with c:=s.c++[d],d:=d::s.d} (iY B (3,[]) (some l.a)) (iY D (3,[]) (D (3,[])++[d])):=by
 have J:ax h l:=by rw[e1];exact aZ
 have xp:l.a=h.a+1:=by simp_all
 have o:=x.g0 J;have hs:rD l h.a [d]:=by refine⟨1,t1,by simp_all,by simp,λj hj=>?_⟩;grind
 have U:∀g,B g≠some h.a:=λg e=>by have:=((x.a.a g).2 _ e).2.lt;omega
 obtain⟨y,ea,l1,hr,P⟩:=o.a.ss (3,[]) (ds:=[d]) (sv:=.c h.a 0 5 1 1 true) rfl hs zm (U _) qaa;have V:∀i,i<l.a->¬rF (l.ab i)->y.ab i=l.ab i:=λi hi K=>P i hi λe=>by obtain⟨r,t,w,_⟩:=((o.a.a _).2 _ e).2;exact K ⟨r,t,w⟩
 have M:∀i,i<h.a->¬rF (h.ab i)->y.ab i=h.ab i:=λi hi K=>by rw[V i zo qae,J.f i hi id]
 have n34:∀{O aD},¬rF (.f O aD):=λ⟨_,_,e⟩=>by grind
 have key:∀N,B N≠some l.a:=λN e=>by have:=((o.a.a N).2 _ e).2.lt;omega
 have W:Sto y tb pb v (iY B (3,[]) (some l.a)) (iY D (3,[]) (D (3,[])++[d])):=by
  refine⟨λc R=>?_,λg=>?_,λg xq b z E=>?_,x.a.f⟩;obtain⟨L,m,w⟩:=o.a.d c R;refine⟨L,m.bc (P _ m.lt λe=>?_),λq=>?_⟩;obtain⟨O,aD,w'⟩:=o.a.ly c R;exact((o.a.a _).2 _ e).2.Hb w';have bg:((c,q):Kk)≠(3,[]):=by grind
  simp_all[iY,if_neg];unfold iY;by_cases S:g=(3,[]);simp_all;simp[S,auM];refine⟨(o.a.a g).1,λb e=>⟨((o.a.a g).2 b e).1,?_⟩⟩;have rb:=((o.a.a g).2 b e).2;exact rb.bc (P b rb.lt λZ=>S (o.a.inj _ _ _ e Z));unfold iY at z E;by_cases k1:g=(3,[]);grind;by_cases k2:xq=(3,[]);grind;rw[if_neg k1] at z;rw[if_neg k2] at E;exact o.a.inj _ _ _ z E
 refine⟨y,ea,M,by omega,⟨?_,x.C.bc ?_,W,λQ=>?_,?_,λQ=>?_,λg=>?_,λd' Y=>?_,x.G⟩⟩;rw[M p (Hp.lt x.k rfl) (by rw[x.k];rintro⟨_,_,e⟩;grind)];exact x.k;obtain⟨O,aD,w⟩:=x.Fd;rw[M _ x.C.lt qaa];exact x.H Q;unfold iY;have:=x.I;grind
 exact x.A Q;unfold iY;split;grind;grind;rcases auj.1 Y with hh|hh;exact x.F _ hh;obtain rfl:=awQ.1 hh;exact X
end
section
variable {aG z n:Nat}{s:jv}{B:Kk->Option Nat}{D:Kk->List aC}{d:aC}
def DeA.maps(x:DeA p aG tb pb z c0 c1 c2 c9 f n h s B D):∀i,DM aG tb pb z i->∃b aD,h.ab i=.f b aD:=by rintro i (rfl|rfl|rfl|rfl);exact x.Fd;exact x.a.ly 0 zm;exact x.a.ly 1 zm;exact x.a.ly 2 zm
theorem DeA.zl(x:DeA p aG tb pb z c0 c1 c2 c9 f n h s B D)(g:gW (DM aG tb pb z) h h'){i:Nat}{o:AO}(e:h.ab i=o)(c:jN o=false)(j:∀b aD,o≠.f b aD) (l:¬rF o):h'.ab i=o:=by rw[g.d i (Hp.lt e c) (λm=>by obtain⟨b,aD,w⟩:=x.maps i m;grind) qaa];omega
theorem DeA.kw(x:DeA p aG tb pb z c0 c1 c2 c9 f n h s B D)(g:gW (DM aG tb pb z) h h'){i el l}(e:h.ab i=.a el l):h'.ab i=.a el l:=
 x.zl g e rfl (λ_ _ q=>by grind) (λ⟨_,_,q⟩=>by grind)
theorem DeA.nf(x:DeA p aG tb pb z c0 c1 c2 c9 f n h s B D)(g:gW (DM aG tb pb z) h h'):NF 0 h h':=λi r ff _ e=>
 x.zl g e rfl (λ_ _ q=>by grind) (λ⟨_,_,q⟩=>by grind)
theorem DeA.wy(x:DeA p aG tb pb z c0 c1 c2 c9 f n h s B D)(g:gW (DM aG tb pb z) h h'){v:AV}{ws}(y:cY h v ws):cY h' v ws:=by obtain⟨b,cap,ex,r,t,c,i,e⟩:=y;exact⟨b,cap,ex,r,t,c,x.zl g i rfl (λ_ _ q=>by grind) (λ⟨_,_,q⟩=>by grind),e⟩
def yL(ic key:List UInt8)(j:Nat):List Tree->jv->jv
 |[],s=>s
 |t::ts,s=>yL ic key j ts {s with d:=⟨5,t.bj,j,t.at,ic⟩::s.d,b:=iY s.b (1,key) (s.b (1,key)++[⟨5,t.bj,j,t.at,ic⟩])}
def OT{ic key j}:∀(ts:List Tree)(s:jv),s.d.length<=(yL ic key j ts s).d.length
 |[],_=>at2 _
 |t::ts,s=>at1 (axX s.d.length) (OT ts {s with d:=⟨5,t.bj,j,t.at,ic⟩::s.d,b:=iY s.b (1,key) (s.b (1,key)++[⟨5,t.bj,j,t.at,ic⟩])})
theorem alf(HT:aA T){j m:Nat}{kv:AV}{key:List UInt8}{aq:List (List UInt8)}(hj:j<aq.length):∀(ts:List Tree)(i:Nat)(s:jv)(h:Hp)(B:Kk->Option Nat)(D:Kk->List aC)(e:Fr)(K:aT->Prop),i+ts.length=m->m<4294967296->DeA p aG tb pb z c0 c1 c2 c9 f n h s B D->cY h c2 aq->
 (ts≠[]->∃b cap ex r ff,kv=.c b 0 6 m cap ex/\h.ab b=.b 61 6 r 0 ff/\m<=r/\∀q,(u:q<ts.length)->ay 0 h ts[q] (ff (i+q)))->(yL aq[j] key j ts s).d.length<536870912->
 an 0 e=.a p 0->an 4 e=.i j->an 8 e=S key->an 124 e=kv->an 125 e=.i m->an 126 e=.i i->
 (∀f' h' A C,(∀q,q<=123/\q≠10->an q f'=an q e)->gW (DM aG tb pb z) h h'->DeA p aG tb pb z c0 c1 c2 c9 f n h' (yL aq[j] key j ts s) A C->A (3,[])=B (3,[])/\C (3,[])=D (3,[])->K (.a 5 f' h' []))->W T (.d l36_4) e h [] K:=by
 intro ts;induction ts with
 |nil=>
  intro i s h B D e K hi hm x hd k E f0 f4 f8 f124 f125 f126 I;subst hi;rw[aP];refine aU f124 f125 f126 ?_;exact I _ _ B D (λq u=>by repeat rw[aFg (m:=124) zo zm]) (gW.cg _) x ⟨rfl,rfl⟩
 |cons t ts ih=>
  intro i s h B D e K hi hm x hd k E f0 f4 f8 f124 f125 f126 I;obtain⟨b,cap,ex,r,ff,rfl,k,hr,iW⟩:=k zm;simp only[atX] at hi;have R:i<m:=zo;have aY:(i:Int)<m:=zo;have X:=iW 0 zm;simp only[aus,aud] at X;obtain⟨kv,jE,P⟩:=X.il;have lb:=Hp.lt k rfl;unfold yL at E I;have Q:=x.k;have lp:=Hp.lt Q rfl;simp only[bS] at Q;have By:=x.a.lt;have L:∀H:Hp,Sto H tb pb z B D->me (.a .a) H .h (.j pb) (S key) false=.v (kV (B (1,key)) (D (1,key))):=λH y=>y.wa (c:=1) zm;have G:ax h ((h.am (.a 61 [.i 0,.i 0,.i 0,.i 0,S [],.h])).dT h.a (.a 61 [.i t.bi,.i t.ib,.i t.toz,.i t.at,S t.bj,kv])):=fZ;have w:=x.g0 G;have l:=L _ w.a;have zB:fP (kV (B (1,key)) (D (1,key))) (kV (B (1,key)) (D (1,key)))=true:=Eh _;rw[aP];refine kC f0 f4 f8 f124 f125 f126 R aY k jE P.iU Q l ?_;generalize hH:((h.am _).dT _ _:Hp)=H at G w l|-;have u1:H.ab h.a=.a 61 [.i t.bi,.i t.ib,.i t.toz,.i t.at,S t.bj,kv]:=by rw[<-hH];simp
  clear hH;have O:=hd.bc (M:=λ_=>False) G λ_ _ _ _=>id;refine CV HT (p:=p) (aG:=aG) (j:=j) (N:=s.d) w.k w.C O hj λh2 Z U=>?_;have en:(⟨5,t.bj,(j:Int),t.at,if(5:Int)=1 then t.bj else aq[j]⟩:aC)=⟨5,t.bj,j,t.at,aq[j]⟩:=by simp
  rw[en] at U|-;generalize vg:(⟨5,t.bj,(j:Int),t.at,aq[j]⟩:aC)=a at*;have v:=w.rh Z U;have F:=v.k;simp only[bS] at F;have yM:=Hp.lt F rfl;have atk:=v.a.lt;have At:=L _ v.a;have gB:ax h2 (h2.am (.b 35 5 1 0 (cx (cx fG 0 [.i 0,S [],.i 0,.i 0,S []]) 0 [.i a.b,S a.a,.i a.c,.i a.f,S a.g]))):=aZ;have E5:=L _ (v.g0 gB).a;obtain⟨J,o,ea,em,vR,lH,x4,Y⟩:=v.add x.u (c:=1) zm key (auD (at1 (axX s.d.length) (OT ts {s with d:=a::s.d,b:=iY s.b (1,key) (s.b (1,key)++[a])})) E) (t1:=cx (cx fG 0 [.i 0,S [],.i 0,.i 0,S []]) 0 [.i a.b,S a.a,.i a.c,.i a.f,S a.g]) qab rfl;have lB:J.ab p=_:=(vR p yM qac).trans F;simp only[aC.fj];refine cC F At E5 zB ea ?_;have eM:ja tb pb z 1=pb:=rfl;rw[eM] at em x4 Y;simp only[Hp.ii] at em;refine bK lB em f126 R ?_;have g:gW (DM aG tb pb z) h (J.dT pb o):=((gW.of (ah.mr G)).ba (gW.of (Z.bc λ_ _ q=>.inl q))).ba Y;have nf:=x.nf g;refine ih (i+1) _ (J.dT pb o) _ _ _ K zo hm x4 (x.wy g hd) (λ_=>⟨b,cap,ex,r,ff,rfl,nf _ _ _ (auz _) k,hr,λq u=>?_⟩) E zA zA zA zA zA aa λf' h' A C hf g' x' V=>I f' h' A C (λq u=>?_) (g.ba g') x' ⟨V.1.trans qab,V.2.trans qab⟩;have:=iW (q+1) qaa;simp[auu,show i+(q+1)=i+1+q by omega] at this;exact this.nf nf zl
  ·rw[hf q u];have:=u.2
   repeat first|rw[aFg (m:=124) zo zd]|rw[qA,if_neg this]
end
section
variable {k:aK->Prop}{aG n:Nat}{s:jv}{B:Kk->Option Nat}{D:Kk->List aC}{d:aC}
theorem acp(c:aA T){a b:List UInt8}(j:a.length<4294967296)(l:b.length<4294967296)(m:k (.a (S (a++[32]++b)) h)):aE T (W T) ⟨64⟩ [S a,S b] h k:=by rw[aJ c.t64];have g:lG (S a) (S [32])=.v (S (a++[32])):=Tc qaa;have i:lG (S (a++[32])) (S b)=.v (S (a++[32]++b)):=Tc qaa;simp_all
def kX(ic:List UInt8)(j:Nat)(t:Tree)(s:jv):jv:=
 if t.bi=2 then{s with c:=s.c++[⟨1,t.bj,j,t.at,t.bj⟩],d:=⟨1,t.bj,j,t.at,t.bj⟩::s.d}
 else if t.bi=3 then yL ic (ic++[32]++t.bj) j t.fg {s with a:=vQ s.a ic (s.a ic++[⟨2,t.bj,j,t.at,ic⟩]),d:=⟨2,t.bj,j,t.at,ic⟩::s.d}
 else if(t.fg.headD zT).bi=0 then{s with a:=vQ s.a ic (s.a ic++[⟨3,t.bj,j,t.at,ic⟩]),d:=⟨3,t.bj,j,t.at,ic⟩::s.d}
 else{s with d:=⟨4,t.bj,j,t.at,ic⟩::s.d,b:=iY s.b (2,ic++[32]++((t.fg.headD zT).fg.headD zT).bj) (s.b (2,ic++[32]++((t.fg.headD zT).fg.headD zT).bj)++[⟨4,t.bj,j,t.at,ic⟩])}
def tB(ic:List UInt8)(j:Nat):List Tree->jv->jv
 |[],s=>s
 |t::ts,s=>tB ic j ts (kX ic j t s)
def yN(t:Tree):Prop:=t.bi=2\/(t.bi=3/\t.bj.length<4294967296)\/(t.bi≠3/\t.fg≠[]/\((t.fg.headD zT).bi≠0->(t.fg.headD zT).fg≠[]/\((t.fg.headD zT).fg.headD zT).bj.length<4294967296))
theorem alg{ic j}(t:Tree)(s:jv):s.d.length+1<=(kX ic j t s).d.length:=by unfold kX;split;simp;split;exact OT t.fg {s with a:=vQ s.a ic (s.a ic++[⟨2,t.bj,j,t.at,ic⟩]),d:=⟨2,t.bj,j,t.at,ic⟩::s.d};grind
def Vq{ic j}:∀(ts:List Tree)(s:jv),s.d.length<=(tB ic j ts s).d.length
 |[],_=>at2 _
 |t::ts,s=>at1 (at1 (axX _) (alg t s)) (Vq ts (kX ic j t s))
def fN(a:Fr)(B:Kk->Option Nat)(D:Kk->List aC):Prop:=an 3 a=kV (B (3,[])) (D (3,[]))
def E6{b:Type}{B:Kk->b}{c a:Kk}{x:b}(h:a≠c):iY B c x a=B a:=by simp_all[iY]
end
def Vr:∀{l:List Tree}(h:0<l.length),l[0]=l.headD zT
 |a::l,_=>rfl
section
variable {k:aK->Prop}{aG g n:Nat}{s:jv}{B:Kk->Option Nat}{D:Kk->List aC}{d:aC}{m:Nat}{aq:List (List UInt8)}{t:Tree}{e:Fr}
def Ll(p aG tb pb g:Nat)(c0 c1 c2 c9:AV)(f:cN)(n:Nat)(e:Fr)(h:Hp)(s:jv)(K:aT->Prop):Prop:=
 ∀f' h' a b,(∀q,q=0\/q=2\/q=4\/q=34\/q=35\/q=36\/22<=q/\q<=28->an q f'=an q e)->fN f' a b->gW (DM aG tb pb g) h h'->DeA p aG tb pb g c0 c1 c2 c9 f n h' s a b->K (.c f' h' [])
theorem HV{q p:Nat}{v:AV}{f:Fr}(a:q=0\/q=2\/q=4\/q=34\/q=35\/q=36\/22<=q/\q<=28)(b:37<=p\/p=3\/5<=p/\p<=21):an q (fO p v f)=an q f:=by rw[qA,if_neg zo]
theorem alh(w:aA T)(x:DeA p aG tb pb g c0 c1 c2 c9 f n h s B D)(hd:cY h c2 aq)(hj:j<aq.length)(L:j<n)(hr:h.ab m=.a 61 row)(H:ay 0 h t row)(F:t.bi=2)
 (z:(kX aq[j] j t s).d.length<536870912) (f0:an 0 e=.a p 0) (f4:an 4 e=.i j) (f7:an 7 e=.a m 0) (r:fN e B D) (v:Ll p aG tb pb g c0 c1 c2 c9 f n e h (kX aq[j] j t s) K):W T aGj e h [] K:=by
 obtain⟨kv,rfl,G⟩:=H.il;unfold fN at r;have J:kX aq[j] j t s={s with c:=s.c++[⟨1,t.bj,j,t.at,t.bj⟩],d:=⟨1,t.bj,j,t.at,t.bj⟩::s.d}:=by simp_all[kX]
 rw[J] at v z;refine cq f0 f4 f7 r hr F ?_;refine CV w (p:=p) (aG:=aG) (j:=j) (N:=s.d) x.k x.C hd hj λQ u o=>?_;have C:(⟨1,t.bj,(j:Int),t.at,if(1:Int)=1 then t.bj else aq[j]⟩:aC)=⟨1,t.bj,j,t.at,t.bj⟩:=by simp
 rw[C] at o|-;have y:∃i:Nat,i<n/\(⟨1,t.bj,(j:Int),t.at,t.bj⟩:aC).c=i:=⟨j,L,rfl⟩;generalize U:(⟨1,t.bj,(j:Int),t.at,t.bj⟩:aC)=a at*;have O:=x.rh u o;obtain⟨l,A,M,R,P⟩:=O.ale x.u qaa (t1:=cx (cx fG 0 [.i 0,S [],.i 0,.i 0,S []]) 0 [.i a.b,S a.a,.i a.c,.i a.f,S a.g]) qab y rfl;simp[aC.fj];refine aB A ?_;have E:gW (DM aG tb pb g) h l:=(gW.of (u.bc λ_ _ q=>.inl q)).ba ⟨by omega,λi hi _ b=>M i hi b⟩;refine v _ l _ _ (λq I=>?_) ?_ E P
 ·repeat rw[HV I zm]
 rfl
theorem ali(HT:aA T)(x:DeA p aG tb pb g c0 c1 c2 c9 f n h s B D)(hd:cY h c2 aq)(hj:j<aq.length)(hr:h.ab m=.a 61 row)(hn:ay 0 h t row)(hk:t.bi≠2)(Bz:t.bi≠3)(L:t.fg≠[])(js:(t.fg.headD zT).bi=0)
 (M:(kX aq[j] j t s).d.length<536870912) (f0:an 0 e=.a p 0) (f4:an 4 e=.i j) (f7:an 7 e=.a m 0) (U:fN e B D) (Y:Ll p aG tb pb g c0 c1 c2 c9 f n e h (kX aq[j] j t s) K):W T aGj e h [] K:=by
 obtain⟨kv,rfl,F⟩:=hn.il;unfold fN at U;have hs:kX aq[j] j t s={s with a:=vQ s.a aq[j] (s.a aq[j]++[⟨3,t.bj,j,t.at,aq[j]⟩]),d:=⟨3,t.bj,j,t.at,aq[j]⟩::s.d}:=by simp_all[kX]
 rw[hs] at Y M;simp only at M;obtain⟨b,cap,ex,r,ff,rfl,hb,Bg,iW⟩:=F.ph L;have w:0<t.fg.length:=auA.2 L;have z:=iW 0 w;simp only[aud] at z;rw[Vr w] at z;obtain⟨OE,Q,C2⟩:=z.il;rw[js] at Q;have G:=x.k;simp only[bS] at G;have lp:=Hp.lt G rfl;have A:∀H:Hp,Sto H tb pb g B D->me (.a .a) H .h (.j tb) (S aq[j]) false=.v (kV (B (0,aq[j])) (D (0,aq[j]))):=λH y=>y.wa (c:=0) zm;have Lm:=A _ x.a;have zB:fP (kV (B (0,aq[j])) (D (0,aq[j]))) (kV (B (0,aq[j])) (D (0,aq[j])))=true:=Eh _;have bC:=hd;obtain⟨P,xu,xw,dr,dt,rfl,I,HW,vS⟩:=bC;have Z:=vS j hj;have R:(j:Int)<aq.length:=zo;have C:(0:Int)<t.fg.length:=zo;have HX:=Hp.lt I rfl;refine kC f0 f4 f7 U hr hk Bz hb w C Q G (atQ (atQ (atQ (atQ I Z) hj) R) Lm) ?_;refine CV HT (p:=p) (aG:=aG) (j:=j) (N:=s.d) x.k x.C hd hj λE X O=>?_;have en:(⟨3,t.bj,(j:Int),t.at,if(3:Int)=1 then t.bj else aq[j]⟩:aC)=⟨3,t.bj,j,t.at,aq[j]⟩:=by simp
 rw[en] at O|-;generalize vg:(⟨3,t.bj,(j:Int),t.at,aq[j]⟩:aC)=i at*;have u:=x.rh X O;have l:=u.k;simp only[bS] at l;have yM:=Hp.lt l rfl;have g2:gW (DM aG tb pb g) h E:=gW.of (X.bc λ_ _ q=>.inl q);have v:=x.zl g2 I rfl (λ_ _ q=>by grind) (λ⟨_,_,q⟩=>by grind);have Vs:=Hp.lt v rfl;have At:=A _ u.a;have gB:ax E (E.am (.b 35 5 1 0 (cx (cx fG 0 [.i 0,S [],.i 0,.i 0,S []]) 0 [.i i.b,S i.a,.i i.c,.i i.f,S i.g]))):=aZ;have E5:=A _ (u.g0 gB).a;obtain⟨J,o,ea,em,vR,lH,x4,V⟩:=u.add x.u (c:=0) zm aq[j] qaa (t1:=cx (cx fG 0 [.i 0,S [],.i 0,.i 0,S []]) 0 [.i i.b,S i.a,.i i.c,.i i.f,S i.g]) qab rfl;have lB:J.ab p=_:=(vR p yM qac).trans l;have Vt:J.ab P=_:=(vR P Vs qac).trans v;have eM:ja tb pb g 0=tb:=rfl;rw[eM] at em x4 V;simp only[Hp.ii] at em;simp only[aC.fj];refine pU l v Z hj R At E5 zB ea lB Vt em ?_;refine Y _ _ _ _ (λq hq=>?_) ?_ (g2.ba V) x4
 ·repeat rw[HV hq zm]
 simp_all[fN,iY]
end
section
variable {k:aK->Prop}{aG n:Nat}{s:jv}{B:Kk->Option Nat}{D:Kk->List aC}{d:aC}{i:Nat}{aq:List (List UInt8)}{t:Tree}{g:Fr}
theorem alj(Q:aA T)(x:DeA p aG tb pb e c0 c1 c2 c9 f n h s B D)(hd:cY h c2 aq)(hj:j<aq.length)(mT:aq[j].length<4294967296)(hr:h.ab i=.a 61 row)(hn:ay 0 h t row)(hk:t.bi≠2)(Bz:t.bi≠3)(R:t.fg≠[])(js:(t.fg.headD zT).bi≠0)(l:(t.fg.headD zT).fg≠[])(I:((t.fg.headD zT).fg.headD zT).bj.length<4294967296)
 (U:(kX aq[j] j t s).d.length<536870912) (f0:an 0 g=.a p 0) (X:an 2 g=.j e) (f4:an 4 g=.i j) (f7:an 7 g=.a i 0) (Y:fN g B D) (F:Ll p aG tb pb e c0 c1 c2 c9 f n g h (kX aq[j] j t s) K):W T aGj g h [] K:=by
 obtain⟨kv,rfl,G⟩:=hn.il;unfold fN at Y;have hs:kX aq[j] j t s={s with d:=⟨4,t.bj,j,t.at,aq[j]⟩::s.d,b:=iY s.b (2,aq[j]++[32]++((t.fg.headD zT).fg.headD zT).bj) (s.b (2,aq[j]++[32]++((t.fg.headD zT).fg.headD zT).bj)++[⟨4,t.bj,j,t.at,aq[j]⟩])}:=by simp_all[kX]
 rw[hs] at F U;simp only at U;obtain⟨b,cap,ex,r,ff,rfl,hb,Bg,iW⟩:=G.ph R;have u:0<t.fg.length:=auA.2 R;have w:=iW 0 u;simp only[aud] at w;rw[Vr u] at w;obtain⟨OE,e0,P⟩:=w.il;obtain⟨b0,atm,ex0,r0,ff0,rfl,N7,atn,m⟩:=P.ph l;have O:0<(t.fg.headD zT).fg.length:=auA.2 l;have v:=m 0 O;simp only[aud] at v;rw[Vr O] at v;obtain⟨kv1,e1,U3⟩:=v.il;have J:=x.k;simp only[bS] at J;have lp:=Hp.lt J rfl;have bC:=hd;obtain⟨db,xu,xw,dr,dt,rfl,kY,HW,vS⟩:=bC;have qd:=vS j hj;have eY:(j:Int)<aq.length:=zo;have A:(0:Int)<t.fg.length:=zo;have C:(0:Int)<(t.fg.headD zT).fg.length:=zo;have HX:=Hp.lt kY rfl;clear m P;generalize ato:((t.fg.headD zT).fg.headD zT).bj=L at*;generalize atp:(t.fg.headD zT).bi=k0v at*;generalize Ln:(t.fg.headD zT).fg.length=lv at*;refine kC f0 X f4 f7 Y hr hk Bz hb u A e0 (atQ (atQ (atQ (atQ (atQ (atQ (atQ (atQ (atQ N7 e1) J) kY) qd) hj) eY) O) C) js) ?_;refine acp Q mT I ?_;generalize aq[j]++[32]++L=key at F|-;have z:∀H:Hp,Sto H tb pb e B D->me (.a .a) H .h (.j e) (S key) false=.v (kV (B (2,key)) (D (2,key))):=λH y=>y.wa (c:=2) zm;have Lm:=z _ x.a;have zB:fP (kV (B (2,key)) (D (2,key))) (kV (B (2,key)) (D (2,key)))=true:=Eh _;refine cq f0 X f4 f7 hr Lm ?_;refine CV Q (p:=p) (aG:=aG) (j:=j) (N:=s.d) x.k x.C hd hj λE gn V=>?_;have en:(⟨4,t.bj,(j:Int),t.at,if(4:Int)=1 then t.bj else aq[j]⟩:aC)=⟨4,t.bj,j,t.at,aq[j]⟩:=by simp
 rw[en] at V|-;generalize vg:(⟨4,t.bj,(j:Int),t.at,aq[j]⟩:aC)=a at*;have M:=x.rh gn V;have g2:gW (DM aG tb pb e) h E:=gW.of (gn.bc λ_ _ q=>.inl q);have At:=z _ M.a;have gB:ax E (E.am (.b 35 5 1 0 (cx (cx fG 0 [.i 0,S [],.i 0,.i 0,S []]) 0 [.i a.b,S a.a,.i a.c,.i a.f,S a.g]))):=aZ;have E5:=z _ (M.g0 gB).a;obtain⟨H',o,ea,em,vR,lH,x4,Z⟩:=M.add x.u (c:=2) zm key qaa (t1:=cx (cx fG 0 [.i 0,S [],.i 0,.i 0,S []]) 0 [.i a.b,S a.a,.i a.c,.i a.f,S a.g]) qab rfl;have eM:ja tb pb e 2=e:=rfl;rw[eM] at em x4 Z;simp only[Hp.ii] at em;simp only[aC.fj];refine cC At E5 zB ea em ?_;refine F _ _ _ _ (λq hq=>?_) ?_ (g2.ba Z) x4
 ·repeat rw[HV hq zm]
 simp_all[fN,iY]
theorem alk(C:aA T)(x:DeA p aG tb pb e c0 c1 c2 c9 f n h s B D)(hd:cY h c2 aq)(hj:j<aq.length)(mT:aq[j].length<4294967296)(hr:h.ab i=.a 61 row)(hn:ay 0 h t row)(rB:rY t)(U:t.bi=3)(O:t.bj.length<4294967296)
 (G:(kX aq[j] j t s).d.length<536870912) (f0:an 0 g=.a p 0) (f4:an 4 g=.i j) (f7:an 7 g=.a i 0) (fi:fN g B D) (hK:Ll p aG tb pb e c0 c1 c2 c9 f n g h (kX aq[j] j t s) K):W T (CC.m 4 (.f (.g (z q36 8)) (.i (.t 69) (.g (z q36 9)) (.f (.g (z q36 10)) (.i (.t 80) (.f (.h r36_11) (.f (.h r36_12) (.f (.g (z q36 13)) (.m 5 (.d l36_4))))) (.f (.g (z q36 18)) (.i (.t 148) (.f (.h r36_19) (.h r36_20)) (.h r36_21)))))))) g h [] K:=by
 obtain⟨kv,rfl,M⟩:=hn.il;unfold fN at fi;have hk:¬t.bi=2:=zo;have hs:kX aq[j] j t s=yL aq[j] (aq[j]++[32]++t.bj) j t.fg {s with a:=vQ s.a aq[j] (s.a aq[j]++[⟨2,t.bj,j,t.at,aq[j]⟩]),d:=⟨2,t.bj,j,t.at,aq[j]⟩::s.d}:=by simp_all[kX]
 rw[hs] at hK G;have P:=x.k;simp only[bS] at P;have lp:=Hp.lt P rfl;have I:∀H:Hp,Sto H tb pb e B D->me (.a .a) H .h (.j tb) (S aq[j]) false=.v (kV (B (0,aq[j])) (D (0,aq[j]))):=λH y=>y.wa (c:=0) zm;have Lm:=I _ x.a;have zB:fP (kV (B (0,aq[j])) (D (0,aq[j]))) (kV (B (0,aq[j])) (D (0,aq[j])))=true:=Eh _;have bC:=hd;obtain⟨Y,xu,xw,dr,dt,rfl,u,HW,vS⟩:=bC;have qd:=vS j hj;have eY:(j:Int)<aq.length:=zo;have HX:=Hp.lt u rfl;generalize L:CC.d l36_4=L4;refine pU f0 f4 f7 fi hr U P u qd hj eY Lm ?_;rw[<-U];refine CV C (p:=p) (aG:=aG) (j:=j) (N:=s.d) x.k x.C hd hj λJ gn X=>?_;have en:(⟨2,t.bj,(j:Int),t.at,if(2:Int)=1 then t.bj else aq[j]⟩:aC)=⟨2,t.bj,j,t.at,aq[j]⟩:=by simp
 rw[en] at X|-;have F:=auD (OT t.fg _) G;simp only[atX] at F;generalize vg:(⟨2,t.bj,(j:Int),t.at,aq[j]⟩:aC)=l at*;have v:=x.rh gn X;have r:=v.k;simp only[bS] at r;have yM:=Hp.lt r rfl;have g2:gW (DM aG tb pb e) h J:=gW.of (gn.bc λ_ _ q=>.inl q);have w:=x.zl g2 u rfl (λ_ _ q=>by grind) (λ⟨_,_,q⟩=>by grind);have Vs:=Hp.lt w rfl;have At:=I _ v.a;have gB:ax J (J.am (.b 35 5 1 0 (cx (cx fG 0 [.i 0,S [],.i 0,.i 0,S []]) 0 [.i l.b,S l.a,.i l.c,.i l.f,S l.g]))):=aZ;have E5:=I _ (v.g0 gB).a;obtain⟨A,o,ea,em,vR,lH,R,g4⟩:=v.add x.u (c:=0) zm aq[j] zo (t1:=cx (cx fG 0 [.i 0,S [],.i 0,.i 0,S []]) 0 [.i l.b,S l.a,.i l.c,.i l.f,S l.g]) qab rfl;have lB:A.ab p=_:=(vR p yM qac).trans r;have Vt:A.ab Y=_:=(vR Y Vs qac).trans w;have eM:ja tb pb e 0=tb:=rfl;rw[eM] at em R g4;simp only[Hp.ii] at em;have b:=g2.ba g4;have V:=x.kw b hr;have m7:=R.k;simp only[bS] at m7;have E:=x.zl b u rfl (λ_ _ q=>by grind) (λ⟨_,_,q⟩=>by grind);have nf:=x.nf b;have zY:=M.nf nf;have Q:=Aq rB;generalize oU:A.dT tb o=H4 at*;simp only[aC.fj];refine kC r w qd hj eY At E5 zB ea lB Vt em (atQ (atQ (atQ (atQ (atQ (atQ oU f0) f4) f7) m7) E) V) ?_;refine acp C mT O ?_;simp(disch:=omega) [f7,V,zY.pi];subst L;refine alf C (key:=aq[j]++[32]++t.bj) (aq:=aq) (m:=t.fg.length) (kv:=kv) hj t.fg 0 _ H4 _ _ _ _ zo Q.1 R (x.wy b hd) zY.ph G zA zA aa aa aa aa λf' h' B' D' hf g' x' Z=>?_;refine ag ?_;refine hK f' h' B' D' (λq hq=>?_) ?_ (b.ba g') x'
 ·rw[hf q zo]
  repeat rw[HV hq zm]
 unfold fN;rw[hf 3 zm,Z.1,Z.2];exact zA
end
def jG(aq:List (List UInt8)):List Tree->Nat->jv->jv
 |[],_,s=>s
 |t::ts,j,s=>jG aq ts (j+1) (tB (aq.getD j []) j t.fg s)
def acs{aq}:∀(ts:List Tree)(j:Nat)(s:jv),s.d.length<=(jG aq ts j s).d.length
 |[],_,_=>at2 _
 |t::ts,j,s=>at1 (Vq t.fg s) (acs ts (j+1) (tB (aq.getD j []) j t.fg s))
section
variable {k:aK->Prop}{aG a n:Nat}{aq:List (List UInt8)}
theorem alo(A:aA T){j m:Nat}{kv:AV}(hj:j<aq.length)(sR:j<n)(mT:aq[j].length<4294967296):∀(ts:List Tree)(i:Nat)(s:jv)(h:Hp)(B:Kk->Option Nat)(D:Kk->List aC)(c:Fr)(K:aT->Prop),i+ts.length=m->m<4294967296->DeA p aG tb pb a c0 c1 c2 c9 f n h s B D->cY h c2 aq->
 (ts≠[]->∃b cap ex r ff,kv=.c b 0 6 m cap ex/\h.ab b=.b 61 6 r 0 ff/\m<=r/\∀q,(v:q<ts.length)->ay 0 h ts[q] (ff (i+q)))->aEU ts->(∀t∈ts,yN t)->(tB aq[j] j ts s).d.length<536870912->
 an 0 c=.a p 0->an 2 c=.j a->an 4 c=.i j->an 34 c=kv->an 35 c=.i m->an 36 c=.i i->fN c B D->
 (∀f' h' w y,(∀q,q=0\/q=2\/22<=q/\q<=28->an q f'=an q c)->fN f' w y->gW (DM aG tb pb a) h h'->DeA p aG tb pb a c0 c1 c2 c9 f n h' (tB aq[j] j ts s) w y->K (.a 2 f' h' []))->W T (.d l36_5) c h [] K:=by
 intro ts;induction ts with
 |nil=>
  intro i s h B D c K hi hm x hd u S Z I f0 f2 f4 f34 f35 f36 fi N;subst hi;rw[aP];refine aU f34 f35 f36 ?_;refine N _ _ B D (λq v=>by grind[HV]) ?_ (gW.cg _) x;simp_all[fN]
 |cons t ts ih=>
  intro i s h B D c K hi hm x hd u S Z I f0 f2 f4 f34 f35 f36 fi N;obtain⟨b,cap,ex,r,ff,rfl,u,hr,iW⟩:=u zm;simp only[atX] at hi;have ao:i<m:=zo;have aY:(i:Int)<m:=zo;have eJ:=iW 0 zm;simp only[aus,aud] at eJ;obtain⟨kv,jE,hkv⟩:=eJ.il;have lb:=Hp.lt u rfl;unfold aEU at S;unfold tB at I N;have Y:=auD (Vq ts _) I;have OL:=Z t zm;generalize hC:aGj=C;rw[aP];show W T ((CC.g (z q36 6)).f ((CC.i (CX.t 37) CC.j (CC.p 2)).f ((CC.m 3 ((CC.g (z q36 7)).f aGj)).f (CC.g (z q36 22))))) c h [] _;rw[hC];refine fY f34 f35 f36 ao aY u jE hkv.iU ?_;rw[<-jE];generalize hH:((h.am _).dT _ _:Hp)=H;have L:ax h H:=by rw[<-hH];exact fZ
  have U:H.ab h.a=.a 61 (ff i):=by rw[<-hH,Hp.fp rfl]
  clear hH;have V:=x.g0 L;have E:=hd.bc (M:=λ_=>False) L λ_ _ _ _=>id;have G:=eJ.nf (mY L) zl;have Lo:=fi;unfold fN at Lo;have nx:∀bJ,(∀q,q=0\/q=2\/q=4\/q=34\/q=35\/q=36\/22<=q/\q<=28->an q bJ=an q c)->Ll p aG tb pb a c0 c1 c2 c9 f n bJ H (kX aq[j] j t s) (bY 3 (bF (W T (.g (z q36 22))) (bF (W T (.d l36_5)) K))):=by intro bJ g f' h' w y o tv g2 x2;have e0:=(o 0 zm).trans (g 0 zm);have e2:=(o 2 zm).trans (g 2 zm);have e4:=(o 4 zm).trans (g 4 zm);have e34:=(o 34 zm).trans (g 34 zm);have e35:=(o 35 zm).trans (g 35 zm);have e36:=(o 36 zm).trans (g 36 zm);have l:gW (DM aG tb pb a) h h':=(gW.of (ah.mr L)).ba g2;have nf:=x.nf l;refine aS (e36.trans f36) ao ?_;refine ih (i+1) _ h' w y _ K zo hm x2 (x.wy l hd) (λ_=>⟨b,cap,ex,r,ff,rfl,nf _ _ _ (auz _) u,hr,λq v=>?_⟩) S.2 (λt ht=>Z t qaa) I (au (e0.trans f0)) (au (e2.trans f2)) (au (e4.trans f4)) (au (e34.trans f34)) (au (e35.trans f35)) aa ?_ λf3 h3 B3 D3 so vP g3 x3=>N f3 h3 B3 D3 (λq v=>?_) vP (l.ba g3) x3;have:=iW (q+1) qaa;simp[auu,show i+(q+1)=i+1+q by omega] at this;exact this.nf nf zl;exact zA;rw[so q v];have e:=(o q zo).trans (g q zo);rw[<-e,qA,if_neg zo,qA,if_neg zo]
  have F:∀q,q=0\/q=2\/q=4\/q=34\/q=35\/q=36\/22<=q/\q<=28->an q (fO 7 (.a h.a 0) (fO 39 (.p (ff i)) (fO 38 (.a b (i*6)) (fO 37 (.g true) c))))=an q c:=λq v=>by repeat rw[HV v zd]
  have X:=nx _ F;have P:fN (fO 7 (.a h.a 0) (fO 39 (.p (ff i)) (fO 38 (.a b (i*6)) (fO 37 (.g true) c)))) B D:=by unfold fN;exact zA
  have R:an 7 (fO 7 (.a h.a 0) (fO 39 (.p (ff i)) (fO 38 (.a b (i*6)) (fO 37 (.g true) c))))=.a h.a 0:=aa;have O:=(F 0 zd).trans f0;have i2:=(F 2 zd).trans f2;have Q:=(F 4 zd).trans f4;generalize fO 7 (.a h.a 0) (fO 39 (.p (ff i)) (fO 38 (.a b (i*6)) (fO 37 (.g true) c)))=Vu at*;subst hC;by_cases d:t.bi=2;exact alh A V E hj sR U G d Y O Q R P X;by_cases c3:t.bi=3;rcases OL with q|q|q;exact absurd q d;exact alk A V E hj mT U G S.1 c3 q.2 Y O Q R P X;exact absurd c3 q.1;obtain⟨q1,q2⟩:t.fg≠[]/\((t.fg.headD zT).bi≠0->(t.fg.headD zT).fg≠[]/\((t.fg.headD zT).fg.headD zT).bj.length<4294967296):=by rcases OL with q|q|q;exact absurd q d;exact absurd q.1 c3;exact q.2
  by_cases J:(t.fg.headD zT).bi=0;exact ali A V E hj U G d c3 q1 J Y O Q R P X;exact alj A V E hj mT U G d c3 q1 J (q2 J).1 (q2 J).2 Y O i2 Q R P X
theorem alp(HT:aA T){fs:List Tree}(pK:fs.length=aq.length)(V:fs.length=n)(hfl:n<4294967296)(mT:∀d∈aq,d.length<4294967296):∀(ts:List Tree)(j:Nat)(s:jv)(h:Hp)(B:Kk->Option Nat)(D:Kk->List aC)(c:Fr)(K:aT->Prop),j+ts.length=n->(∀i(hi:i<ts.length),fs[j+i]? =some ts[i])->DeA p aG tb pb a c0 c1 c2 c9 f n h s B D->yb h c2 aq->
 lC 0 h c1 fs->aEU ts->(∀t∈ts,∀t'∈t.fg,yN t')->(jG aq ts j s).d.length<536870912->an 0 c=.a p 0->an 2 c=.j a->an 26 c=c1->an 27 c=.i n->an 28 c=.i j->fN c B D->
 (∀f' h' z A,an 0 f'=.a p 0->an 2 f'=.j a->fN f' z A->gW (DM aG tb pb a) h h'->DeA p aG tb pb a c0 c1 c2 c9 f n h' (jG aq ts j s) z A->K (.a 0 f' h' []))->W T (.d l36_6) c h [] K:=by
 intro ts;induction ts with
 |nil=>
  intro j s h B D c K hj I x hd G E F g f0 Q f26 f27 f28 R v;subst hj;rw[aP];refine aU f26 f27 f28 ?_;refine v _ _ B D zA zA ?_ (gW.cg _) x;simp_all[fN]
 |cons t ts ih=>
  intro j s h B D c K hj I x hd G E F g f0 Q f26 f27 f28 R v;have tY:=hd;have hd:=hd (Cq (j:=j) qaa);simp only[atX] at hj;have J:j<n:=zo;have aY:(j:Int)<n:=zo;have jf:j<fs.length:=zo;have X:j<aq.length:=zo;have et:fs[j]=t:=by have:=I 0 zm;grind
  obtain⟨b,cap,ex,r,ff,rfl,U,hr,iW⟩:=G.ph qaa;rw[V] at f26;have P:=iW j jf;simp only[aue,et] at P;obtain⟨kv,jE,w⟩:=P.il;have lb:=Hp.lt U rfl;have jr:j<r:=zo;unfold aEU at E;unfold jG at g v;have Y:=auD (acs ts _ _) g;have ed:aq.getD j []=aq[j]:=by grind
  rw[ed] at g v Y;have Lo:=R;unfold fN at Lo;generalize hL:CC.d l36_5=L;rw[aP];simp(disch:=omega) [f26,f27,f28,aY,U,jE,w.pi];generalize S:((h.am _).dT _ _:Hp)=H;have C:ax h H:=by rw[<-S];exact fZ
  clear S;have xH:=x.g0 C;have HY:=hd.bc (M:=λ_=>False) C λ_ _ _ _=>id;have HZ:=w.nf (mY C);have y:=Aq E.1;subst hL;refine alo HT (m:=t.fg.length) (kv:=kv) X J (mT _ (auy X)) t.fg 0 s H B D _ _ zo y.1 xH HY HZ.ph y.2 (F t zm) Y zA zA aa aa aa aa (by exact zA) λf' h' z A u tv g2 x2=>?_;have e:gW (DM aG tb pb a) h h':=(gW.of (ah.mr C)).ba g2;have N:=u 0 zm;have O:=u 2 zm;have l:=u 26 zm;have o:=u 27 zm;have q:=u 28 zm
  simp(disch:=omega) [f0,Q,f26,f27,f28] at N O l o q;refine aS q J ?_;have jQ:lC 0 h' (.c b 0 6 fs.length cap ex) fs:=G.nf (x.nf e);refine ih (j+1) _ h' z A _ K zo (λi hi=>?_) x2 (λ_=>x.wy e hd) jQ E.2 (λt ht=>F t qaa) g (au N) (au O) (bV l V) (au o) aa (by exact zA) λf3 h3 Z D3 a0 a2 vP g3 x3=>v f3 h3 Z D3 a0 a2 vP (e.ba g3) x3;have:=I (i+1) qaa;simp only[auu] at this;rw[show j+1+i=j+(i+1) by omega];exact this
end
section
variable {k:aK->Prop}{aG g n:Nat}{aq:List (List UInt8)}
structure kn(p aG tb pb g:Nat)(c0 c1 c2 c9:AV)(f:cN)(n:Nat)(h:Hp)(s:jv)(B:Kk->Option Nat)(D:Kk->List aC):Prop where
 j:h.ab p=.a 57 (bS c0 c1 c2 f (.j aG) (.j tb) (.j pb) c9)
 l:lX h aG s.d
 c:Sto h tb pb g B D
 o:∀q,D (0,q)=s.a q
 t:D (3,[])=s.c
 k:∀κ,(D κ).length<1073741824
 r:∀d∈s.c,∃i:Nat,i<n/\d.c=i
 u:aG≠tb/\aG≠pb/\aG≠g
def DeA.b{s B D}(x:DeA p aG tb pb g c0 c1 c2 c9 f n h s B D)(c:s.d.length<536870912):kn p aG tb pb g c0 c1 c2 c9 f n h s B D:=
 ⟨x.k,x.C,x.a,x.H,x.I,λb=>by have:=x.u b;omega,x.F,x.G⟩
theorem alq(HT:aA T){s:jv}{D0:Kk->List aC}{L:SL}{aD it:Nat}{B2:List UInt8->Option Nat}(pP:∀j,(D0 j).length<536870912) (hL:∀q,eV L q=(B2 q).map λb=>qc b (D0 (2,q))) (C6:(cD L).Nodup):∀(m:Nat)(todo:List (List UInt8))(h:Hp)(X:Option AV)(B:Kk->Option Nat)(D:Kk->List aC)(z:Fr)(K:aT->Prop),todo.length=m->
 kn p aG tb pb g c0 c1 c2 c9 f n h s B D->h.ab g=.f (di L) aD->h.ab it=.d (.a .a) g aD (todo.map S) X->todo.Nodup->(∀q∈todo,(eV L q).isSome=true)->(∀q,B (2,q)=B2 q/\D (2,q)=D0 (2,q))->(∀q,D (1,q)=if q∈todo then D0 (1,q) else D0 (1,q)++D0 (2,q))->
 an 0 z=.a p 0->an 185 z=.a it 0->fN z B D->(∀f' h' I A,an 0 f'=.a p 0->fN f' I A->gW (λi=>DM aG tb pb g i\/i=it) h h'->kn p aG tb pb g c0 c1 c2 c9 f n h' s I A->(∀q,A (1,q)=D0 (1,q)++D0 (2,q))->K (.a 7 f' h' []))->W T (.d l36_3) z h [] K:=by
 intro m;induction m with
 |zero=>
  intro todo h X B D z K bz x E N dB gD O h1 f0 f185 fi hk;obtain rfl:=avW.1 bz;rw[aP];refine aB f185 ?_;refine C1 N E (λ_=>?_) (λe r y=>absurd y.length_eq zm);refine ag ?_;refine hk _ h B D zA ?_ (gW.cg _) x λq=>by grind
  simp_all[fN]
 |succ m ih=>
  intro todo h X B D z K bz x E N dB gD O h1 f0 f185 fi hk;rw[aP];refine aB f185 ?_;refine C1 N E (λe=>by grind) (λe r y=>?_);have he:e∈todo:=y.mem_iff.1 zm;have Bw:(e::r).Nodup:=y.nodup_iff.2 dB;obtain⟨J,fX⟩:∃b,B2 e=some b:=by
   cases q:B2 e with
   |none=>grind
   |some b=>grind
  have hv:eV L e=some (qc J (D0 (2,e))):=by grind
  have l1:=Hp.lt E rfl;have l2:=Hp.lt N rfl;have zV:g≠it:=by grind
  have nit:∀i el l,h.ab i=.a el l->i≠it:=λi el l q e=>by grind
  have uE:∀i C G,h.ab i=.f C G->i≠it:=λi C G q e=>by grind
  have nir:∀j b,B j=some b->b≠it:=λj b q e=>by obtain⟨r,t,w,_⟩:=((x.c.a j).2 b q).2;grind
  generalize Z:h.dT it (.d (.a .a) g aD (r.map S) (some (S e)))=H;have a:ah (·=it) h H:=by rw[<-Z];exact ah.dT (M:=(·=it)) (ah.cg _) _ (.inr rfl)
  have F:H.ab it=.d (.a .a) g aD (r.map S) (some (S e)):=by rw[<-Z];simp
  clear Z;have P:H.ab g=.f (di L) aD:=(a.f _ l1 zV).trans E;have lB:H.ab p=_:=(a.f _ (Hp.lt x.j rfl) (nit _ _ _ x.j)).trans x.j;have u:Sto H tb pb g B D:=x.c.bc λi hi=>by have By:=x.c.lt;rcases hi with rfl|rfl|rfl|⟨j,e⟩;obtain⟨C,G,w⟩:=x.c.ly 0 zm;exact a.f _ By.1 (uE _ _ _ w);obtain⟨C,G,w⟩:=x.c.ly 1 zm;exact a.f _ By.2.1 (uE _ _ _ w);grind;exact a.f _ ((x.c.a j).2 _ e).2.lt (nir _ _ e)
  have en:=OC (h:=H) F P C6 hv;have OV:B (2,e)=some J:=(O e).1.trans fX;obtain⟨Q,dX⟩:=(u.a (2,e)).2 J OV;rw[(O e).2] at Q dX;have DW:D (1,e)=D0 (1,e):=by grind
  have fC:=u.wa (c:=1) zm (s:=e);have Y:ja tb pb g 1=pb:=rfl;rw[Y] at fC;obtain⟨d,ea,lH2,hrn,vR⟩:=u.ss (1,e) (sv:=qc J (D0 (2,e))) rfl dX Q (λq=>by have:=u.inj _ _ _ q OV;grind) qaa;obtain⟨o,em,OS⟩:=u.iL (c:=1) (s:=e) zm Q zl hrn vR;rw[Y] at em OS;have R:=OS (d.dT pb o) (Hp.fp rfl) (λi hi=>Hp.fv hi);have kp:∀i,i<H.a->¬rF (H.ab i)->d.ab i=H.ab i:=λi hi v=>vR i hi λq=>by obtain⟨r,t,w,_⟩:=((u.a _).2 _ q).2;exact v ⟨r,t,w⟩
  have eK:d.ab p=_:=(kp p (Hp.lt lB rfl) qac).trans lB;have V:=lB;have H6:=eK;simp only[bS] at V H6;have lp:=Hp.lt V rfl;simp only[wm];refine fY f185 f0 en V fC ea H6 em ?_;obtain⟨n1,n2,n3⟩:=x.u;obtain⟨C,G,OW⟩:=u.ly 1 zm;have ppb:p≠pb:=λq=>by grind
  obtain⟨s1,s2,s3⟩:=x.c.f;have U:lX (d.dT pb o) aG s.d:=by obtain⟨LL,ve',w,_⟩:=x.l;have w0:H.ab aG=h.ab aG:=a.f _ (Hp.lt w rfl) (uE _ _ _ w);refine x.l.bc ?_;rw[Hp.fv n2,kp _ (by have:=a.g;have:=Hp.lt w rfl;omega) (by rw[w0,w];rintro⟨_,_,q⟩;cases q),w0]
  have Lo:=fi;unfold fN at Lo;have g3:gW (λi=>DM aG tb pb g i\/i=it) h (d.dT pb o):=by
   refine⟨?_,λi hi hm v=>?_⟩;have:=a.g;have hs:d.a<=(d.dT pb o).a:=by rw[Hp.ka];exact Nat.le_max_left _ _
   omega;rw[Hp.fv (λq=>hm (.inl (.inr (.inr (.inl q))))),kp i (by have:=a.g;omega) (by rw[a.f i hi λq=>hm (.inr q)];exact v),a.f i hi λq=>hm (.inr q)]
  have x3:kn p aG tb pb g c0 c1 c2 c9 f n (d.dT pb o) s (iY B (1,e) (some H.a)) (iY D (1,e) (D (1,e)++D0 (2,e))):=by
   refine⟨by rw[Hp.fv ppb];exact eK,U,R,λq=>?_,?_,λj=>?_,x.r,x.u⟩;rw[E6 zm];exact x.o q;rw[E6 zm];exact x.t;unfold iY;split;rw[DW];have:=pP (1,e);have:=pP (2,e);simp;omega
   exact x.k j
  refine ih r (d.dT pb o) (some (S e)) _ _ _ K ?_ x3 (by rw[Hp.fv (Ne.symm s3),kp _ (Hp.lt P rfl) (by rw[P];rintro⟨_,_,q⟩;cases q)];exact P) ?_ (au6.1 Bw).2 (λq hq=>gD q (y.mem_iff.1 (by simp[hq]))) (λq=>?_) (λq=>?_) zA zA ?_ λf' h' I A a0 a1 g' x' e1=>hk f' h' I A a0 a1 (g3.ba g') x' e1;have:=y.length_eq;simp at this;omega;have:it≠pb:=λq=>by rw[Y,<-q,F] at OW;cases OW
  rw[Hp.fv this,kp _ (Hp.lt F rfl) (by rw[F];rintro⟨_,_,q⟩;cases q)];exact F;rw[E6 zm,E6 zm];exact O q;by_cases q':q=e;subst q';have:q∉r:=(au6.1 Bw).1;unfold iY;rw[if_pos rfl,if_neg this,DW];rw[E6 (by simp[q']),h1];have:q∈todo <-> q∈r:=by rw[<-y.mem_iff];simp[q']
  simp only[this];unfold fN;rw[E6 zm,E6 zm];exact zA
end
section
variable {k:aK->Prop}{aG a n:Nat}{aq:List (List UInt8)}{s:jv}{B:Kk->Option Nat}{D:Kk->List aC}
theorem kn.pk(x:kn p aG tb pb a c0 c1 c2 c9 f n h s B D):p≠aG/\p≠tb/\p≠pb/\p≠a/\∀b,B b≠some p:=by have g:=x.j;refine⟨?_,?_,?_,?_,λb e=>((x.c.a b).2 _ e).2.acn g⟩;obtain⟨L,aD,q,_⟩:=x.l;grind;obtain⟨d,aD,q⟩:=x.c.ly 0 zm;rw[show ja tb pb a 0=tb from rfl] at q;grind;obtain⟨d,aD,q⟩:=x.c.ly 1 zm;rw[show ja tb pb a 1=pb from rfl] at q;grind;obtain⟨d,aD,q⟩:=x.c.ly 2 zm;rw[show ja tb pb a 2=a from rfl] at q;grind
def kn.xi{M:Nat->Prop}(x:kn p aG tb pb a c0 c1 c2 c9 f n h s B D)(g:ah M h h')(b:∀i,M i->i≠aG/\i≠tb/\i≠pb/\i≠a/\∀d,B d≠some i) (v:h'.ab p=.a 57 (bS c0 c1 c2 f' (.j aG) (.j tb) (.j pb) c9)):kn p aG tb pb a c0 c1 c2 c9 f' n h' s B D:=by have q:=x.c.lt;refine⟨v,x.l.bc (g.f _ x.l.lt λm=>(b _ m).1 rfl),x.c.bc λi hi=>?_,x.o,x.t,x.k,x.r,x.u⟩;rcases hi with rfl|rfl|rfl|⟨d,e⟩;exact g.f _ q.1 λm=>(b _ m).2.1 rfl;exact g.f _ q.2.1 λm=>(b _ m).2.2.1 rfl;exact g.f _ q.2.2 λm=>(b _ m).2.2.2.1 rfl;exact g.f _ ((x.c.a d).2 _ e).2.lt λm=>(b _ m).2.2.2.2 d e
def rD.Vv{b:Nat}{ds:List aC}(x:rD h b ds)(c:ds≠[]):yG h (qc b ds) ds:=by obtain⟨r,t,e,l,w⟩:=x;exact .inr ⟨c,b,t,_,_,r,rfl,e,l,w⟩
theorem alu(HT:aA T){L:SL}{aD it:Nat}(hL:∀q,eV L q=(B (0,q)).map λb=>qc b (D (0,q))) (C6:(cD L).Nodup):∀(m:Nat)(todo:List (List UInt8))(f:cN)(h:Hp)(C:Option AV)(d:Fr)(K:aT->Prop),todo.length=m->
 kn p aG tb pb a c0 c1 c2 c9 f n h s B D->h.ab tb=.f (di L) aD->h.ab it=.d (.a .a) tb aD (todo.map S) C->todo.Nodup->(∀q∈todo,(eV L q).isSome=true)->
 an 0 d=.a p 0->an 208 d=.a it 0->fN d B D->(∀f' h' fl,an 0 f'=.a p 0->fN f' B D->ah (λi=>i=p\/i=it) h h'->kn p aG tb pb a c0 c1 c2 c9 fl n h' s B D->((∀q,((D (0,q)).map (·.a)).Nodup)->fl=f)->(fl.e=0->f.e=0/\∀q∈todo,((D (0,q)).map (·.a)).Nodup)->K (.a 9 f' h' []))->W T (.d l36_2) d h [] K:=by
 intro m;induction m with
 |zero=>
  intro todo f h C d K V x l z X F f0 v fi I;obtain rfl:=avW.1 V;rw[aP];refine aB v ?_;refine C1 z l (λ_=>?_) (λe r c=>absurd c.length_eq zm);refine ag ?_;refine I _ h f zA ?_ (ah.cg _) x (λ_=>rfl) λe=>⟨e,λq g=>absurd g awg⟩;simp_all[fN]
 |succ m ih=>
  intro todo f h C d K V x l z X F f0 v fi I;rw[aP];refine aB v ?_;refine C1 z l (λe=>by grind) (λe r c=>?_);have he:e∈todo:=c.mem_iff.1 zm;have Bw:(e::r).Nodup:=c.nodup_iff.2 X;obtain⟨U,fX⟩:∃b,B (0,e)=some b:=by
   have:=F e he;cases q:B (0,e) with
   |none=>grind
   |some b=>grind
  have hv:eV L e=some (qc U (D (0,e))):=by grind
  have l1:=Hp.lt l rfl;have l2:=Hp.lt z rfl;have zV:tb≠it:=by grind
  have hM:∀i,i=it->i≠aG/\i≠tb/\i≠pb/\i≠a/\∀P,B P≠some i:=by
   rintro i rfl;have uE:∀j u A,h.ab j=.f u A->i≠j:=λj u A q e=>by grind
   refine⟨?_,?_,?_,?_,λP q=>?_⟩;obtain⟨L,aD,q,_⟩:=x.l;grind;omega;obtain⟨u,A,w⟩:=x.c.ly 1 zm;exact uE _ _ _ w;obtain⟨u,A,w⟩:=x.c.ly 2 zm;exact uE _ _ _ w;obtain⟨r,t,w,_⟩:=((x.c.a P).2 _ q).2;grind
  have R:p≠it:=λq=>by have:=x.j;grind
  generalize G:h.dT it (.d (.a .a) tb aD (r.map S) (some (S e)))=H;have y:ah (·=it) h H:=by rw[<-G];exact ah.dT (M:=(·=it)) (ah.cg _) _ (.inr rfl)
  have O:H.ab it=.d (.a .a) tb aD (r.map S) (some (S e)):=by rw[<-G];simp
  clear G;have N:H.ab tb=.f (di L) aD:=(y.f _ l1 zV).trans l;have o:kn p aG tb pb a c0 c1 c2 c9 f n H s B D:=x.xi y hM ((y.f _ (Hp.lt x.j rfl) R).trans x.j);have en:=OC (h:=H) O N C6 hv;obtain⟨Fa,dX⟩:=(o.c.a (0,e)).2 U fX;simp only[wm];refine aU v f0 en ?_;refine Vk HT (f:=f) o.j (dX.Vv Fa) (o.k (0,e)) λZ Y g2 eK mC Q=>?_;have pk:=o.pk;have x2:kn p aG tb pb a c0 c1 c2 c9 Y n Z s B D:=o.xi g2 (λi q=>by grind) eK;have mp:tb≠p:=λq=>zo;refine ag ?_;refine ih r Y Z (some (S e)) _ K ?_ x2 ((g2.f _ (Hp.lt N rfl) mp).trans N) ((g2.f _ (Hp.lt O rfl) (Ne.symm R)).trans O) (au6.1 Bw).2 (λq g=>F q (c.mem_iff.1 qaa)) zA zA ?_ λf' h' fl a0 a1 g' x' hn J=>I f' h' fl a0 a1 ?_ x' (λhh=>(hn hh).trans (mC (hh e))) λE=>⟨(Q (J E).1).1,λq g=>?_⟩;have:=c.length_eq;grind;simp_all[fN];exact((y.bc λ_ _ q=>.inr q).ba (g2.bc λ_ _ q=>.inl q)).ba g';rcases atZ.1 (c.mem_iff.2 g) with rfl|g;exact(Q (J E).1).2;exact(J E).2 q g
theorem alv(HT:aA T){L:SL}{aD it:Nat}(hL:∀q,eV L q=(B (1,q)).map λb=>qc b (D (1,q))) (C6:(cD L).Nodup):∀(m:Nat)(todo:List (List UInt8))(f:cN)(h:Hp)(C:Option AV)(d:Fr)(K:aT->Prop),todo.length=m->
 kn p aG tb pb a c0 c1 c2 c9 f n h s B D->h.ab pb=.f (di L) aD->h.ab it=.d (.a .a) pb aD (todo.map S) C->todo.Nodup->(∀q∈todo,(eV L q).isSome=true)->
 an 0 d=.a p 0->an 220 d=.a it 0->fN d B D->(∀f' h' fl,an 0 f'=.a p 0->fN f' B D->ah (λi=>i=p\/i=it) h h'->kn p aG tb pb a c0 c1 c2 c9 fl n h' s B D->((∀q,((D (1,q)).map (·.a)).Nodup)->fl=f)->(fl.e=0->f.e=0/\∀q∈todo,((D (1,q)).map (·.a)).Nodup)->K (.a 11 f' h' []))->W T (.d l36_1) d h [] K:=by
 intro m;induction m with
 |zero=>
  intro todo f h C d K V x l z X F f0 v fi I;obtain rfl:=avW.1 V;rw[aP];refine aB v ?_;refine C1 z l (λ_=>?_) (λe r c=>absurd c.length_eq zm);refine ag ?_;refine I _ h f zA ?_ (ah.cg _) x (λ_=>rfl) λe=>⟨e,λq g=>absurd g awg⟩;simp_all[fN]
 |succ m ih=>
  intro todo f h C d K V x l z X F f0 v fi I;rw[aP];refine aB v ?_;refine C1 z l (λe=>by grind) (λe r c=>?_);have he:e∈todo:=c.mem_iff.1 zm;have Bw:(e::r).Nodup:=c.nodup_iff.2 X;obtain⟨U,fX⟩:∃b,B (1,e)=some b:=by
   have:=F e he;cases q:B (1,e) with
   |none=>grind
   |some b=>grind
  have hv:eV L e=some (qc U (D (1,e))):=by grind
  have l1:=Hp.lt l rfl;have l2:=Hp.lt z rfl;have zV:pb≠it:=by grind
  have hM:∀i,i=it->i≠aG/\i≠tb/\i≠pb/\i≠a/\∀P,B P≠some i:=by
   rintro i rfl;have uE:∀j u A,h.ab j=.f u A->i≠j:=λj u A q e=>by grind
   refine⟨?_,?_,?_,?_,λP q=>?_⟩;obtain⟨L,aD,q,_⟩:=x.l;grind;obtain⟨u,A,w⟩:=x.c.ly 0 zm;exact uE _ _ _ w;omega;obtain⟨u,A,w⟩:=x.c.ly 2 zm;exact uE _ _ _ w;obtain⟨r,t,w,_⟩:=((x.c.a P).2 _ q).2;grind
  have R:p≠it:=λq=>by have:=x.j;grind
  generalize G:h.dT it (.d (.a .a) pb aD (r.map S) (some (S e)))=H;have y:ah (·=it) h H:=by rw[<-G];exact ah.dT (M:=(·=it)) (ah.cg _) _ (.inr rfl)
  have O:H.ab it=.d (.a .a) pb aD (r.map S) (some (S e)):=by rw[<-G];simp
  clear G;have N:H.ab pb=.f (di L) aD:=(y.f _ l1 zV).trans l;have o:kn p aG tb pb a c0 c1 c2 c9 f n H s B D:=x.xi y hM ((y.f _ (Hp.lt x.j rfl) R).trans x.j);have en:=OC (h:=H) O N C6 hv;obtain⟨Fa,dX⟩:=(o.c.a (1,e)).2 U fX;simp only[wm];refine aU v f0 en ?_;refine Vk HT (f:=f) o.j (dX.Vv Fa) (o.k (1,e)) λZ Y g2 eK mC Q=>?_;have pk:=o.pk;have x2:kn p aG tb pb a c0 c1 c2 c9 Y n Z s B D:=o.xi g2 (λi q=>by grind) eK;have mp:pb≠p:=λq=>zo;refine ag ?_;refine ih r Y Z (some (S e)) _ K ?_ x2 ((g2.f _ (Hp.lt N rfl) mp).trans N) ((g2.f _ (Hp.lt O rfl) (Ne.symm R)).trans O) (au6.1 Bw).2 (λq g=>F q (c.mem_iff.1 qaa)) zA zA ?_ λf' h' fl a0 a1 g' x' hn J=>I f' h' fl a0 a1 ?_ x' (λhh=>(hn hh).trans (mC (hh e))) λE=>⟨(Q (J E).1).1,λq g=>?_⟩;have:=c.length_eq;grind;simp_all[fN];exact((y.bc λ_ _ q=>.inr q).ba (g2.bc λ_ _ q=>.inl q)).ba g';rcases atZ.1 (c.mem_iff.2 g) with rfl|g;exact(Q (J E).1).2;exact(J E).2 q g
end
def l9:jv:=⟨λ_=>[],[],[],λ_=>[]⟩
def ayH(aq:List (List UInt8))(bu:List UInt8->List aC)(d:aC):Prop:=∀a:Nat,d.c=a->uy (bu (aq.getD a [])) d.a=none
section
variable {k:aK->Prop}{aG g n:Nat}{aq:List (List UInt8)}{s:jv}{B:Kk->Option Nat}{D:Kk->List aC}
def kn.nO(x:kn p aG tb pb g c0 c1 c2 c9 f n h s B D):Bu h tb s.a:=by
 obtain⟨L,m,q⟩:=x.c.d 0 zm;refine⟨L,m,λa=>?_⟩;rw[q,<-x.o a];cases d:B (0,a) with
 |none=>exact .inl ⟨(x.c.a (0,a)).1 d,rfl⟩
 |some b=>
  obtain⟨e,i⟩:=(x.c.a (0,a)).2 b d;exact i.Vv e
theorem alw(HT:aA T)(pT:aq.length=n):∀(m i:Nat)(f:cN)(h:Hp)(u:Fr)(K:aT->Prop),m=s.c.length- i->i<=s.c.length->kn p aG tb pb g c0 c1 c2 c9 f n h s B D->yb h c2 aq->
 an 0 u=.a p 0->an 228 u=kV (B (3,[])) (D (3,[]))->an 229 u=.i s.c.length->an 230 u=.i i->(∀f' h' fl,ah (·=p) h h'->kn p aG tb pb g c0 c1 c2 c9 fl n h' s B D->((∀j(hj:j<s.c.length),i<=j->ayH aq s.a s.c[j])->fl=f)->(fl.e=0->f.e=0/\∀j(hj:j<s.c.length),i<=j->ayH aq s.a s.c[j])->K (.a 13 f' h' []))->W T (.d l36_0) u h [] K:=by
 intro m;induction m with
 |zero=>
  intro i f h u K hm hi x hd f0 f228 f229 f230 hk;have e:¬i<s.c.length:=zo;rw[aP];exact aU f229 f230 e (hk _ h f (ah.cg _) x (λ_=>rfl) λz=>⟨z,λj hj DV=>by omega⟩)
 |succ m ih=>
  intro i f h u K hm hi x hd f0 f228 f229 f230 hk;have G:i<s.c.length:=zo;have Lr:=x.t;have TY:=x.k (3,[]);obtain⟨b,hb⟩:∃b,B (3,[])=some b:=by
   cases q:B (3,[]) with
   |none=>
    have:=(x.c.a (3,[])).1 q;grind
   |some b=>grind
  obtain⟨bg,r,t,GQ,hr,ht⟩:=(x.c.a (3,[])).2 b hb;rw[hb] at f228;rw[Lr] at f228 hr TY;have H8:t i=s.c[i].fj:=by grind
  obtain⟨a,hjd,v⟩:=x.r s.c[i] (auy G);have hI:(∀j(hj:j<s.c.length),i<=j->ayH aq s.a s.c[j])->ayH aq s.a s.c[i]:=λq=>q i G zl;generalize hdi:s.c[i]=d at H8 v hI;simp only[aC.fj,v] at H8;simp only[kV,qc] at f228;have lb:=Hp.lt GQ rfl;have hp:=x.j;simp only[bS] at hp;have lp:=Hp.lt hp rfl;have Y:a<aq.length:=zo;have bC:=hd (Cq Y);have hd:=hd (Cq Y);obtain⟨I,V,X,dr,dt,rfl,kY,HW,vS⟩:=bC;have qd:=vS a Y;have eY:(a:Int)<aq.length:=zo;have HX:=Hp.lt kY rfl;rw[aP];refine pU f0 f228 f229 f230 G GQ H8 hp kY qd Y eY ?_;generalize hH:((h.am _).dT _ _:Hp)=H;have Z:ax h H:=by rw[<-hH];exact fZ
  have u1:H.ab h.a=.a 35 [.i d.b,S d.a,.i a,.i d.f,S d.g]:=by rw[<-hH];simp
  clear hH;have pk:=x.pk;have U:kn p aG tb pb g c0 c1 (.c I 0 1 aq.length V X) c9 f n H s B D:=x.xi Z (λ_ q=>q.elim) ((Z.f _ lp id).trans x.j);refine UI HT (p:=p) (tb:=tb) (bu:=s.a) U.j U.nO (by rw[<-x.o];exact x.k _) λw g2=>?_;have E:kn p aG tb pb g c0 c1 (.c I 0 1 aq.length V X) c9 f n w s B D:=U.xi g2 (λ_ q=>q.elim) ((g2.f _ (Hp.lt U.j rfl) id).trans U.j);have u2:=(g2.f _ (Hp.lt u1 rfl) id).trans u1;have lu2:=Hp.lt u2 rfl;have Q:(∀j(hj:j<s.c.length),i<=j->ayH aq s.a s.c[j])->uy (s.a aq[a]) d.a=none:=λq=>by have:=hI q a v;grind
  have hJ:uy (s.a aq[a]) d.a=none->ayH aq s.a s.c[i]:=λq y e'=>by rw[hdi] at e'|-;obtain rfl:y=a:=zo;rw[show aq.getD y []=aq[y] by grind];exact q
  generalize uy (s.a aq[a]) d.a=o at Q hJ|-;have b8:∀(C:Fr)(P:Hp)(f3:cN),¬(∀j(hj:j<s.c.length),i<=j->ayH aq s.a s.c[j])->f3.e≠0->ah (·=p) h P->kn p aG tb pb g c0 c1 (.c I 0 1 aq.length V X) c9 f3 n P s B D->an 0 C=.a p 0->an 228 C=kV (B (3,[])) (D (3,[]))->an 229 C=.i s.c.length->an 230 C=.i i->W T (.g (z q36 42)) C P [] (bF (W T (.d l36_0)) K):=by intro C P f3 nI z3 O F e0 J L M;refine aS M G ?_;exact ih (i+1) f3 P _ K zo zo F (λ_=>hd.bc O λq r t e m=>by grind) (au e0) (au J) (au L) aa λf' h' fl g' x' hh hz=>hk f' h' fl (O.ba g') x' (λe=>absurd e nI) λe=>absurd (hz e).1 z3
  have f228':an 228 u=kV (B (3,[])) (D (3,[])):=by rw[hb,Lr];exact f228
  generalize hN:CC.g (z q36 42)=N at b8|-;cases o with
  |none=>
   simp[lA,Option.getD,Option.isSome,qG,aC.fj];refine aU u2 f230 G ?_;generalize R:((w.am _).dT _ _:Hp)=l;have A:ax w l:=by rw[<-R];exact fZ
   have F:=E.xi A (λ_ q=>q.elim) ((A.f _ (Hp.lt E.j rfl) id).trans E.j);have O:ah (·=p) h l:=ah.mr ((Z.ba g2).ba A);exact ih (i+1) f l _ K zo zo F (λ_=>hd.bc O λq r t e m=>by grind) zA zA zA aa λf' h' fl g' x' hh hz=>hk f' h' fl (O.ba g') x' (λe=>hh λj hj DV=>e j hj zo) λe=>⟨(hz e).1,λj hj DV=>by by_cases c:j=i;subst c;exact hJ rfl;exact(hz e).2 j hj zo⟩
  |some e=>
   simp only[lA,Option.getD,Option.isSome,aC.fj];refine aS u2 f0 ?_;generalize R:(((w.am _).dT _ _).am _:Hp)=l;have A:ax w l:=by rw[<-R];exact fZ
   have HU:∃t,l.ab (w.a+1)=.b 35 5 2 0 t/\t 0=(⟨0,d.a,a,d.f,[]⟩:aC).fj/\t 1=(⟨0,d.a,e.c,e.f,[]⟩:aC).fj:=by refine⟨_,by rw[<-R];exact Hp.bv zm,?_,?_⟩<;>simp[aC.fj]
   obtain⟨t3,q1,q2,q3⟩:=HU;clear R;have F:kn p aG tb pb g c0 c1 (.c I 0 1 aq.length V X) c9 f n l s B D:=E.xi A (λ_ q=>q.elim) ((A.f _ (Hp.lt E.j rfl) id).trans E.j);have alx:yG l (.c (w.a+1) 0 5 2 2 true) [⟨0,d.a,a,d.f,[]⟩,⟨0,d.a,e.c,e.f,[]⟩]:=by
    refine .inr ⟨by simp,_,t3,_,_,2,rfl,q1,by simp,λj hj=>?_⟩;exact match j,hj with
    |0,_=>q2
    |1,_=>q3
   refine Vk HT (f:=f) F.j alx zm λh4 f4 g4 m7 _ yj=>?_;have x4:kn p aG tb pb g c0 c1 (.c I 0 1 aq.length V X) c9 f4 n h4 s B D:=F.xi g4 (λi q=>by subst q;exact pk) m7;refine ag ?_;exact b8 _ h4 f4 (λq=>by cases Q q) (λe=>by have:=(yj e).2;simp at this) ((ah.mr ((Z.ba g2).ba A)).ba g4) x4 zA zA zA zA
end
section
variable {k:aK->Prop}{aG a n:Nat}{aq:List (List UInt8)}{s:jv}{B:Kk->Option Nat}{D:Kk->List aC}
def kn.g0(x:kn p aG tb pb a c0 c1 c2 c9 f n h s B D)(g:ax h h'):kn p aG tb pb a c0 c1 c2 c9 f n h' s B D:=
 x.xi g (λ_ q=>q.elim) ((g.f _ (Hp.lt x.j rfl) id).trans x.j)
def aly{o:Option Nat}{ds:List aC}{H:Hp}(c:o=none->ds=[]):aEW 1 H (kV o ds)=.v (.i ds.length):=by
 cases o with
 |none=>rw[c rfl];rfl
 |some b=>rfl
def DF(p aG tb pb:Nat)(h h':Hp):Prop:=gW (λi=>i=p\/i=aG\/i=tb\/i=pb) h h'
theorem alz(x:aA T){fs:List Tree}(P:h.ab p=.a 57 (bS c0 c1 c2 f (.j aG) (.j tb) (.j pb) c9))(dB:lX h aG [])(K3:iV h tb [])(OY:iV h pb [])(bg:aG≠tb/\aG≠pb/\tb≠pb)
 (hd:yb h c2 aq) (hc:lC 0 h c1 fs) (pK:fs.length=aq.length) (hfl:fs.length<4294967296) (mT:∀d∈aq,d.length<4294967296) (sm:aEU fs) (BB:∀t∈fs,∀t'∈t.fg,yN t') (bz:(jG aq fs 0 l9).d.length<536870912)
 (hk:∀h' fl,DF p aG tb pb h h'->h'.ab p=.a 57 (bS c0 c1 c2 fl (.j aG) (.j tb) (.j pb) c9)->lX h' aG (jG aq fs 0 l9).d->Bu h' tb (jG aq fs 0 l9).a->(∀q,((jG aq fs 0 l9).a q).length<1073741824)->
  ((∀q,(((jG aq fs 0 l9).b (1,q)++(jG aq fs 0 l9).b (2,q)).map (·.a)).Nodup)->(∀d∈(jG aq fs 0 l9).c,ayH aq (jG aq fs 0 l9).a d)->(∀q,(((jG aq fs 0 l9).a q).map (·.a)).Nodup)->fl=f)->(fl.e=0->f.e=0/\(∀q,(((jG aq fs 0 l9).a q).map (·.a)).Nodup)/\(∀q,(((jG aq fs 0 l9).b (1,q)++(jG aq fs 0 l9).b (2,q)).map (·.a)).Nodup)/\∀d∈(jG aq fs 0 l9).c,ayH aq (jG aq fs 0 l9).a d)->k (.a (.o []) h')):aE T (W T) ⟨36⟩ [.a p 0] h k:=by
 rw[aJ x.t36];have dj:=P;simp only[bS] at dj;have lp:=Hp.lt P rfl;have dW:=K3.lt;have lpb:=OY.lt;have lnm:=dB.lt;generalize hL6:CC.d l36_6=L6;generalize Uj:CC.d l36_3=L3;generalize wQ:CC.d l36_2=L2;generalize jg:CC.d l36_1=L1;generalize hL0:CC.d l36_0=L0;simp(disch:=omega) [dj,hc.pi];have g1:ax h (h.am (.f [] 0)):=aZ;have x1:DeA p aG tb pb h.a c0 c1 c2 c9 f fs.length (h.am (.f [] 0)) l9 (λ_=>none) (λ_=>[]):=by
  refine⟨(g1.f _ lp id).trans P,dB.bc (g1.f _ lnm id),⟨λc hc=>?_,λκ=>⟨λ_=>rfl,λb e=>by cases e⟩,λ_ _ _ e=>zm,⟨bg.2.2,by omega,by omega⟩⟩,λ_=>rfl,rfl,λ_=>⟨rfl,rfl⟩,λ_=>auz _,λd hd=>(by cases hd),⟨bg.1,bg.2.1,by omega⟩⟩
  match c,hc with
  |0,_=>exact⟨[],K3.bc (g1.f _ dW id),λ_=>rfl⟩
  |1,_=>exact⟨[],OY.bc (g1.f _ lpb id),λ_=>rfl⟩
  |2,_=>exact⟨[],iV.ow (Hp.bv rfl),λ_=>rfl⟩
 have iu:yb _ c2 aq:=λne=>(hd ne).bc (M:=λ_=>False) g1 λ_ _ _ _=>id;subst hL6;refine alp x (fs:=fs) pK rfl hfl mT fs 0 l9 _ _ _ _ _ zo (λi hi=>by grind) x1 iu (hc.nf (mY g1)) sm BB bz aa aa aa aa aa qab λf2 Y B2 D2 a0 a2 tv g2 o=>?_;have lN:yb Y c2 aq:=λne=>x1.wy g2 (iu ne);obtain⟨L,⟨⟨aD,em⟩,C6⟩,hLq⟩:=o.a.d 2 zm;simp only[show(2:Nat)≠0 from by simp,show(2:Nat)≠1 from by simp,auM] at em;have lm:=Hp.lt em rfl;simp(disch:=omega) [a2,OD em];have F:ax Y (Y.am (.d (.a .a) h.a aD ((cD L).map S) none)):=aZ;have xP:=(o.b bz).g0 F;subst Uj;refine alq x (D0:=D2) (L:=L) (aD:=aD) (it:=Y.a) (B2:=λq=>B2 (2,q)) (λκ=>auD (o.u κ) bz) hLq C6 _ (cD L) _ none B2 D2 _ _ rfl xP ((F.f _ lm id).trans em) (Hp.bv rfl) C6 (λq l=>?_) (λ_=>⟨rfl,rfl⟩) (λq=>?_) (au a0) aa (by simp_all[fN]) λf3 h3 B3 D3 b0 vP g3 x3 I=>?_;cases hv:eV L q with
 |none=>grind[Br]
 |some v=>rfl
 by_cases l:q∈cD L;grind;have:B2 (2,q)=none:=by have:=Br.2 l;simp_all
 rw[if_neg l,(o.a.a (2,q)).1 this,av5];have kF:=x3.j;simp only[bS] at kF;have lp3:=Hp.lt kF rfl;obtain⟨LT,⟨⟨y,X⟩,N⟩,O⟩:=x3.c.d 0 zm;simp only[auo] at X;have lt3:=Hp.lt X rfl;simp(disch:=omega) [b0,kF,OD X];have G:ax h3 (h3.am (.d (.a .a) tb y ((cD LT).map S) none)):=aZ;have xQ:=x3.g0 G;have gD:∀{L:SL},∀q∈cD L,(eV L q).isSome=true:=λ{L} q l=>by
  cases hv:eV L q with
  |none=>grind[Br]
  |some v=>rfl
 subst wQ;refine alu x (L:=LT) (aD:=y) (it:=h3.a) O N _ (cD LT) f _ none _ _ rfl xQ ((G.f _ lt3 id).trans X) (Hp.bv rfl) N gD (au b0) aa (by simp_all[fN]) λf4 h4 fl4 E OM g4 u Ld yj=>?_;have m7:=u.j;simp only[bS] at m7;have lp4:=Hp.lt m7 rfl;obtain⟨R,⟨⟨A,V⟩,J⟩,K⟩:=u.c.d 1 zm;simp only[show(1:Nat)≠0 from by simp,auM,auo] at V;have lt4:=Hp.lt V rfl;simp(disch:=omega) [E,m7,OD V];have H:ax h4 (h4.am (.d (.a .a) pb A ((cD R).map S) none)):=aZ;have xR:=u.g0 H;subst jg;refine alv x (L:=R) (aD:=A) (it:=h4.a) K J _ (cD R) fl4 _ none _ _ rfl xR ((H.f _ lt4 id).trans V) (Hp.bv rfl) J gD (au E) aa (by simp_all[fN]) λf5 Z fl5 d0' fi5 g5 x5 hf5 hz5=>?_;have C:=fi5;unfold fN at C;have hl5:aEW 1 Z (kV (B3 (3,[])) (D3 (3,[])))=.v (.i (jG aq fs 0 l9).c.length):=by rw[<-x5.t];exact aly (x5.c.a (3,[])).1
 refine aS C hl5 ?_;have pk:=x5.pk;have qF:DF p aG tb pb h Z:=by
  refine⟨?_,λi hi hm m=>?_⟩;have:=g1.g;have:=g2.f;have:=F.g;have:=g3.f;have:=G.g;have:=g4.g;have:=H.g;have:=g5.g;omega
  have q1:=g1.g;have q2:=g2.f;have q3:=F.g;have q4:=g3.f;have q5:=G.g;have q6:=g4.g;have q7:=H.g
  simp only[aEi] at hm;have U:=g1.f i hi id;have e2:=(g2.d i zo (by rintro(r|r|r|r)<;>omega) (by rw[U];exact m)).trans U;have e3:=(F.f i zo id).trans e2;have e4:=(g3.d i zo (by rintro((r|r|r|r)|r)<;>omega) (by rw[e3];exact m)).trans e3;have e5:=(G.f i zo id).trans e4;have e6:=(g4.f i zo (by rintro(r|r)<;>omega)).trans e5;have e7:=(H.f i zo id).trans e6;exact(g5.f i zo (by rintro(r|r)<;>omega)).trans e7
 have Vw:yb Z c2 aq:=λne=>by obtain⟨b,cap,ex,r,t,U,g,hw⟩:=hd ne;refine⟨b,cap,ex,r,t,U,?_,hw⟩;rw[qF.d b (Hp.lt g rfl) ?_ (by rw[g];rintro⟨_,_,q⟩;cases q)];exact g;rintro(rfl|rfl|rfl|rfl);rw[g] at P;cases P;obtain⟨L,aD,q,_⟩:=dB;rw[g] at q;cases q;obtain⟨⟨_,q⟩,_⟩:=K3;rw[g] at q;cases q;obtain⟨⟨_,q⟩,_⟩:=OY;rw[g] at q;cases q
 subst hL0;refine alw x (aq:=aq) pK.symm _ 0 fl5 Z _ _ rfl (auz _) x5 Vw (au d0') aa aa aa λf6 h6 fl6 g6 Q tA KC=>?_;refine ag ?_;refine hk h6 fl6 ⟨at1 qF.f g6.g,λi hi hm m=>?_⟩ Q.j Q.l Q.nO (λq=>by rw[<-Q.o];exact Q.k _) (λho HQ hn=>?_) λe=>?_;rw[g6.f i (aur hi qF.f) (λq=>hm (.inl q)),qF.d i hi hm m];rw[tA λj hj _=>HQ _ (auy hj),hf5 λq=>by rw[I,(o.A q).1,(o.A q).2];exact ho q,Ld λq=>by rw[u.o];exact hn q];obtain⟨z6,w6⟩:=KC e;obtain⟨z5,w5⟩:=hz5 z6;obtain⟨z,w⟩:=yj z5;refine⟨z,λq=>?_,λq=>?_,λd hd=>?_⟩;rw[<-u.o];by_cases l:q∈cD LT;exact w q l;have h0:=Br.2 l;rw[O] at h0;rw[(u.c.a (0,q)).1 (by cases g:B3 (0,q) with|none=>rfl|some b=>rw[g] at h0;cases h0)];exact aEe;rw[<-(o.A q).1,<-(o.A q).2,<-I];by_cases l:q∈cD R;exact w5 q l;have h0:=Br.2 l;rw[K] at h0;rw[(u.c.a (1,q)).1 (by cases g:B3 (1,q) with|none=>rfl|some b=>rw[g] at h0;cases h0)];exact aEe;obtain⟨j,hj,rfl⟩:=avC hd;exact w6 j hj (auz _)
end
end Yv
