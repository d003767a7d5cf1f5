/- A part of the proof of 'TypesZeroUptoCardSaid'. No condition. -/
import Derived.Test.YtakmgamiepdiiaaGreatDoorX03
set_option maxHeartbeats 64000000
set_option maxRecDepth 100000
set_option linter.all false
namespace Yv
variable {a h hh:Hp}{c m n tb:Nat}{d:Bool}{j op:Int}{l:List Tk}{p s:List UInt8}
variable {T:aM->Option CF}
section
variable {hd:Bool}{k:aK->Prop}
def Tw(d:aA T){right:List UInt8}(f:c<h.a)
 (e:∀h' a b,ax h h'->h'.ac a=.a 116 [.a c 0]->h'.ac b=.a 9 [S right]->h.a<=a->h.a<=b->k (.a (.q ⟨152⟩ [] [.a a 0,.a b 0]) h')):aE T (W T) ⟨123⟩ [.a c 0,S right] h k:=by
 rw[ic d.t123];refine ag ?_;exact e _ h.a (h.a+1) aZ aa aa zl zo
theorem Tx(d:aA T)(w:fc l){right:List UInt8}{f i:Nat}(q1:hh.ac f=.a 116 [.a c 0])(q2:hh.ac i=.a 9 [S right])(r:f≠c)(s:i≠c):
 N4 T hh c tb l op hd ⟨152⟩ [.a f 0,.a i 0] (Cu l right):=by
 intro h n k g v q a;have y:=Hp.lt q1 rfl;have z:=Hp.lt q2 rfl;have m:h.ac f=.a 116 [.a c 0]:=by rw[g.f _ y r];omega
 have r2:h.ac i=.a 9 [S right]:=by rw[g.f _ z s];omega
 have y1:=Hp.lt m rfl;have y2:=Hp.lt r2 rfl;rw[ic d.t152];unfold Cu lR at a;refine aB m ?_;refine Cx d v q (λe u g1 c1=>?_) λe u g1=>?_;have p:=lT w q e;rw[atV e] at a;simp[PR.dk] at a;obtain⟨r,j⟩:=bw g1;refine aU j m r2 ?_;refine ke d (c1.am _) p (cY.ly (x:=right) (Hp.ba zm) zl zm) zm λA g2=>?_;obtain⟨s,o⟩:=bH g2;have c2:=(c1.am _).aw g2;cases b:bD (tk l (n+1)) [right] with
 |true=>
  rw[atV b] at a;refine bK b o j m ?_;refine Cw d c2 p λB t=>?_;obtain⟨C,b⟩:=bH t;refine ag ?_;exact a _ (fH b o j)
 |false=>
  rw[b] at a;exact aB b (a _ (eF o j) c2 p zo)
 rw[atS qaa] at a;exact ag (a _ g1)
def aaz(d:aA T)(j:fc l):N4 T hh c tb l op hd ⟨81⟩ [.a c 0] (mU l):=by intro h n k g i b a;unfold mU jR at a;refine NZ d i b (λe f g1 c1=>?_) λe f g1=>?_;rw[atV e] at a;exact a _ g1 c1 (wT j b e zm) zo;rw[atS e] at a;exact a _ g1
def pW(T:aM->Option CF)(c tb:Nat)(l:List Tk)(ex:Int->Bool->Int->Nat->PR Tree):Prop:=
 ∀(h:Hp)(n:Nat)(op:Int)(hd:Bool)(a:Int)(k:aK->Prop),0<=op->op<=128->0<=a->bp h c tb l n op hd->n<l.length->lS c tb l op hd h k (ex op hd a n)->aE T (W T) ⟨176⟩ [.a c 0,.i a] h k
def lS.xn{f:Hp}{r:PR Tree}(g:Pg c h f)(b:lS c tb l op hd h k r):lS c tb l op hd f k r:=by
 cases r with
 |d=>exact b
 |i p e=>exact λh' a=>b h' (g.ab a)
 |c t n=>exact λh' row a c' nd j m=>b h' row (g.ab a) c' (ay.nf (NF.da _) g.g _ _ nd) j m
theorem dO.iv{lo:Nat}{h:Hp}{ts:List Tree}{v:AV}(x:dO lo h ts v):bQ v=some [v]:=by
 cases ts with
 |nil=>simp_all[dO]
 |cons t ts=>obtain⟨b,cap,ex,r,f,rfl,_⟩:=x;rfl
def ay.dT{lo:Nat}{h:Hp}{t:Tree}{row:List AV}(x:ay lo h t row):
 ∃kv,row=[.i t.bi,.i t.gl,.i t.to,.i t.at,S t.bc,kv]/\bQ kv=some [kv]/\dO lo h t.bv kv:=by
 cases t;obtain⟨kv,e,x⟩:=x;exact⟨kv,e,x.iv,x⟩
def ay.of{lo:Nat}{h:Hp}{t:Tree}{kv}(x:dO lo h t.bv kv):ay lo h t [.i t.bi,.i t.gl,.i t.to,.i t.at,S t.bc,kv]:=by cases t;exact⟨kv,rfl,x⟩
@[simp] def aFd{b d:Type}{a:b}{n:Nat}{f:b->Nat->PR d}:(PR.c a n).dk f=f a n:=(rfl)
@[simp] def ahT{a b:Type}{p e:Int}{f:a->Nat->PR b}:(PR.i p e).dk f=.i p e:=(rfl)
def Hi{a:Type}(r:PR a):r.dk .c=r:=by cases r<;>rfl
def NF.g0{lo:Nat}{a b d:Hp}(x:NF lo a b)(g:ax b d):NF lo a d:=x.ab (NF.xn g λ_ _ _=>False.elim)
def NF.gp{lo:Nat}{a b d:Hp}(x:NF lo a b)(g:Pg c b d)(m:c<lo):NF lo a d:=λi r f j e=>by have:=x i r f j e;rw[g.f i (Hp.lt this rfl) zo];omega
def vD{lo b cap r f}{ex:Bool}{t:Tree}(a:h.ac b=.b 72 6 r 0 f)(e:1<=r)(d:lo<=b)(n0:ay lo h t (f 0)):dO lo h [t] (.c b 0 6 1 cap ex):=by simp only[dO,eR,axS];exact⟨b,cap,ex,r,f,rfl,a,e,d,n0⟩
def Tz{lo b cap r f}{ex:Bool}{t u:Tree}(a:h.ac b=.b 72 6 r 0 f)(e:2<=r)(d:lo<=b)(n0:ay lo h t (f 0))(g:ay lo h u (f 1)):dO lo h [t,u] (.c b 0 6 2 cap ex):=by simp only[dO,eR,axS];exact⟨b,cap,ex,r,f,rfl,a,e,d,n0,g⟩
def cU.ss{lo:Nat}{q:Int}{o:Bool}{b:Hp}{k1:aK->Prop}{r:PR Tree}{f:Tree->Nat->PR Tree}(j:cU lo c tb l op hd h k (r.dk f))(g:Pg c h b)(u:∀v a,k (.b v a)->k1 (.b v a))
 (s:∀t m,cU lo c tb l op hd h k (f t m)->∀a row,Pg c b a->bp a c tb l m q o->ay b.a a t row->m<l.length->0<m->k1 (.a (.j row) a)):lS c tb l q o b k1 r:=by
 cases r with
 |d=>exact j
 |i p e=>exact λa g2=>u _ _ (j a (g.ab g2))
 |c t m=>exact s t m j
def cU.FS{lo:Nat}{q:Int}{o:Bool}{b:Hp}{k1:aK->Prop}{r:PR (List Tree)}{f:List Tree->Nat->PR Tree}(j:cU lo c tb l op hd h k (r.dk f))(g:Pg c h b)(u:∀v a,k (.b v a)->k1 (.b v a))
 (s:∀t m,r=.c t m->cU lo c tb l op hd h k (f t m)->∀a kv,Pg c b a->bp a c tb l m q o->m<l.length->0<m->bQ kv=some [kv]->dO b.a a t kv->k1 (.a kv a)):Et c tb l q o b k1 r:=by
 cases r with
 |d=>exact j
 |i p e=>exact λa g2=>u _ _ (j a (g.ab g2))
 |c t m=>exact s t m rfl j
def Et.pass{b:Hp}{k1:aK->Prop}{r:PR (List Tree)}(f:Et c tb l op hd h k r)(g:Pg c h b)(q:∀v a,k (.b v a)->k1 (.b v a))
 (o:∀kv a,k (.a kv a)->k1 (.a kv a)):Et c tb l op hd b k1 r:=by
 cases r with
 |d=>exact f
 |i p e=>exact λa g2=>q _ _ (f a (g.ab g2))
 |c t m=>exact λa kv g2 c2 j s b u=>o _ _ (f a kv (g.ab g2) c2 j s b (dO.nf (NF.da _) g.g _ _ u))
theorem bp.wd{x:Nat}{v:AV}{el:Nat}(b:bp h c tb l n op hd)(q:h.ac x=.a el [v]):x≠c:=by
 obtain⟨⟨cap,ex,b⟩,_⟩:=b
 grind
def cU.er{lo:Nat}{p e:Int}(a:cU lo c tb l op hd h k (.i p e)){h':Hp}(g:Pg c h h'):k (.b (qD p e) h'):=a h' g
variable {ex:Int->Bool->Int->Nat->PR Tree}
def N9(f:aA T)(E:pW T c tb l ex)(q:0<=op)(r:op<=128):Kn T hh c tb l op hd ⟨200⟩ [.a c 0] (λn=>ex op hd 0 n):=by
 intro h n k g b o a;have a:lS c tb l op hd h k ((ex op hd 0 n).dk .c):=by rw[Hi];omega
 rw[ic f.t200];have u:=b.lt;have w:=b.rc;refine ag ?_;refine E _ n op hd 0 _ q r (atY 0) (b.am _) o (a.ss aZ (λv e s=>by simp_all) λt m a e row g2 c2 nd j p=>?_);obtain⟨x,d⟩:=bw g2;obtain⟨kv,rfl,i,y⟩:=nd.dT;refine aB d ?_;exact a _ _ (iQ d) (c2.bj _ zo zo) (ay.nf (((NF.da e).rh _ zm)) zm _ _ nd) j p
def aaA(a:aA T)(d:fc l)(E:pW T c tb l ex)(b:bp h c tb l n op hd)(j:n<l.length)(p:0<=op)(q:op<=128){F:Nat}(g:F<8589934592)
 (i:Et c tb l op hd h k (Kj l F ex op n)):aE T (W T) ⟨206⟩ [.a c 0] h k:=by
 rw[ic a.t206];have o:=b.lt;refine ag ?_;refine Tw a o λt r s g1 q1 q2 u w=>?_;refine ag ?_;have c1:=b.aw g1;exact Kq a d c1 j p q g (λe=>N9 a E zo zo) (λe=>Tx a d q1 q2 (c1.wd q1) (c1.wd q2)) (i.pass g1.ka (λv f m=>by simp_all) λkv f m=>by simp_all)
theorem ahU(f:aA T)(w:fc l)(E:pW T c tb l ex)(H:0<=op)(I:op<=128):Kn T hh c tb l op hd ⟨226⟩ [.a c 0] (Kl l ex op hd):=by
 intro h n k g p u a;rw[ic f.t226];have L:=p.lt;have M:=p.rc;unfold Kl jR at a;refine ag ?_;refine Eo f (p.am _) u (λe y g1 c1=>?_) λe y g1=>?_;rw[atV e] at a;have r:=wT w u e zm;simp[aFd,lR] at a;obtain⟨F,b⟩:=bw g1;refine aB Tk.ca.eq_1 ?_;refine Cx f ((c1.am _).bj _ zo zo) r (λd s g2 c2=>?_) λd s g2=>?_;rw[atV d] at a;have D:=lT w r d;obtain⟨G,d⟩:=bw g2;refine ag ?_;refine E _ (n+1+1) op hd 0 _ H I (atY 0) c2 D (a.ss (eF (gp g2) b) (λv s K=>by simp_all) λt m a z row x c3 nd B C=>?_);obtain⟨N,i⟩:=bw x;obtain⟨kv,rfl,A,P⟩:=nd.dT;refine aU i (gp g2) Tk.ca.eq_1 ?_;obtain⟨m,rfl⟩:∃q,m=q+1:=⟨m- 1,by omega⟩;refine gS f (((c3.am _).bj _ zo zo).am _) zo rfl λJ o=>?_;obtain⟨O,j⟩:=bH o;refine bK j i (gp g2) b ?_;refine a _ _ (qB j i (gp g2) b) (((((c3.am _).bj _ zo zo).am _).aw o).bj _ zo zo) ?_ B C;refine ay.of (t:=aV l (m+1) 29 (tk l n).a (tk l n).a (tk l n).b [t]) ?_;exact vD ((Hp.du zo).trans ((j _ zm).trans (Hp.ba aa))) zl zo
  (by exact ay.nf (((((NF.da z).am _).ph _ zo).am _).g0 o|>.rh _ zo) zo _ _ nd)
 rw[atS qaa] at a;refine ag ?_;obtain⟨G,d⟩:=bw g2;exact a.er (eF (gp g2) b);rw[atS e] at a;refine ag ?_;obtain⟨F,b⟩:=bw g1;exact a.er (iQ b)
theorem aaB{lo:Nat}{h:Hp}:∀{ts:List Tree}{f:Nat->List AV},eR lo h ts f->∀j(a:j<ts.length),ay lo h ts[j] (f j)
 |[],_,_,j,a=>by grind
 |t::ts,f,b,0,_=>by grind [eR]
 |t::ts,f,b,j+1,a=>by exact aaB b.2 j qaa
theorem dO.pj{lo:Nat}{h:Hp}{ts:List Tree}{v:AV}(x:dO lo h ts v)(a:ts≠[]):∃b cap ex r f,v=.c b 0 6 ts.length cap ex/\h.ac b=.b 72 6 r 0 f/\ts.length<=r/\lo<=b/\eR lo h ts f:=by
 cases ts with
 |nil=>grind
 |cons t ts=>
  grind [dO,eR]
theorem aaC{lo:Nat}{h:Hp}{t:Tree}{ts:List Tree}{b cap r f}{ex:Bool}(a:h.ac b=.b 72 6 r 0 f)(e:ts.length+1<=r)(d:lo<=b)(n0:ay lo h t (f 0))(g:eR lo h ts λj=>f (j+1)):dO lo h (t::ts) (.c b 0 6 (ts.length+1) cap ex):=by simp[dO];grind
theorem aaD(g:aA T)(y:fc l)(E:pW T c tb l ex)(x:bp h c tb l n op hd)(C:n<l.length)(R:0<=op)(S:op<=128){F:Nat}(L:F<8589934592){lo:Nat}{sZ:Tree}{row:List AV}(nt:ay lo h sZ row)(A:c<lo)(U:lo<=h.a)
 (s:cU lo c tb l op hd h k (Cv l F ex op sZ n)):aE T (W T) ⟨205⟩ [.a c 0,.j row] h k:=by
 rw[ic g.t205];have hy:=x.rc;obtain⟨kv,rfl,a,nk⟩:=nt.dT;refine ag ?_;refine qC g ((x.am _).am _) C λh1 g1=>?_;obtain⟨n1,d⟩:=bH g1;refine aB Tk.ca.eq_1 ?_;refine Tw g zo λI X Y g2 q1 q2 w1 w2=>?_;obtain⟨n2,e⟩:=bH g2;have c2:=(((x.am _).am _).aw g1).aw g2;refine ag ?_;refine Kq g y c2 C R S L (λH=>ahU g y E zo zo) (λH=>Tx g y q1 q2 (c2.wd q1) (c2.wd q2)) (s.FS (eF e d) (λv I hv=>by simp_all) λts m u s J zW w c3 B D V z=>?_);have Z:=aat u;obtain⟨n3,i⟩:=bw w;obtain⟨m,rfl⟩:∃q,m=q+1:=⟨m- 1,by omega⟩
 by_cases G:ts=[]
 subst G;subst z;refine bK i e d a ?_;rw[NK (rs:=[]) rfl rfl];refine bK i e d a ?_;refine gS g (c3.am _) zo rfl λK o=>?_;obtain⟨Q,p⟩:=bH o;refine cC p i e d a ?_;refine s _ _ (qB p i e d) (((c3.am _).aw o).bj _ zo zo) (ay.of (t:=aV l (m+1) 28 sZ.gl (tk l n).a [] [sZ]) ?_) B D;exact vD ((Hp.du zo).trans ((p _ zm).trans (Hp.ba aa))) zl zo
  (by exact ay.nf ((((((((NF.da h).am _).am _).g0 g1).g0 g2).gp w A).am _).g0 o|>.ph _ zo) zl _ _ nt)
 obtain⟨b,cap,ex,r,f,rfl,M,P,wF,nr⟩:=z.pj G;obtain⟨q,O⟩:∃q,ts.length=q+1:=⟨ts.length- 1,by grind [List.length_pos_iff]⟩;refine bK i e d a ?_;have xb:=Hp.lt M rfl;rw[G2 (n:=q) zo (Hp.ba rfl) (at2 1) (Ke zo (by rw[Hp.io xb];omega) P) (by rw[O];rfl) (rV zo zo)];refine bK i e d a ?_;rw[show 1+(q+1)=ts.length+1 from by omega];refine gS g ((c3.am _).am _) zo rfl λK o=>?_;obtain⟨Q,p⟩:=bH o;simp(disch:=first|exact bh|fail) [p,i,e,d,jJ];refine s _ _ (qB p i e d) ((((c3.am _).am _).aw o).bj _ zo zo) (ay.of (t:=aV l (m+1) 28 sZ.gl (tk l n).a [] (sZ::ts)) ?_) B D;refine aaC ((Hp.du zo).trans ((p _ zm).trans (Hp.ba aa))) zl zo ?_ ?_;rw[wO (by simp[aEt])];exact ay.nf (((((((((NF.da h).am _).am _).g0 g1).g0 g2).gp w A).am _).am _).g0 o|>.ph _ zo) zl _ _ nt;refine Kp (f:=f) (λj N=>?_) (eR.nf ((((NF.da J).am _).am _).g0 o|>.rh _ zo) zo _ _ nr);rw[wO (by grind [oZ])];simp[aEt,dY,dZ,auY,au5,auu];have:=vw f ts.length 0 j N
 grind
end
section
variable {hd:Bool}{k:aK->Prop}
variable {ex:Int->Bool->Int->Nat->PR Tree}
def cY.ahW{b r cap ex t}{x y z w v:List UInt8}(a:h.ac b=.b 9 1 r 0 t)(e:5<=r)(h0:t 0=[S x])(f:t 1=[S y])(g:t 2=[S z])(i:t 3=[S w])(m:t 4=[S v]):cY h (.c b 0 1 5 cap ex) [x,y,z,w,v]:=
 ⟨b,cap,ex,r,t,rfl,a,e,λj d=>by
  have:j=0\/j=1\/j=2\/j=3\/j=4:=by simp at d;omega
  rcases this with rfl|rfl|rfl|rfl|rfl<;>assumption⟩
def ahX(d:fc l)(a:n<l.length)(b:o7 (tk l n)≠0):n+1<l.length:=by refine d n a λh0=>b ?_;simp[o7,h0]
def ahY(g:aA T)(H:fc l)(E:pW T c tb l ex)(R:bp h c tb l n op hd)(D:n<l.length)(o0:0<=op)(o1:op<=128){F:Nat}(hF:F<8589934592)
 (a:lS c tb l op hd h k (Km l F ex op hd n)):aE T (W T) ⟨204⟩ [.a c 0] h k:=by
 rw[ic g.t204];have hx:=R.lt;have hy:=R.rc;unfold Km at a;refine ag ?_;refine qC g ((R.am _).am _) D λh1 g1=>?_;obtain⟨n1,J⟩:=bH g1;have c1:=((R.am _).am _).aw g1;refine aB Tk.ca.eq_1 ?_;refine ahS g (t:=tk l n) λs g2=>?_;obtain⟨n2,K⟩:=bH g2;have c2:=((c1.am _).bj _ zo zo).aw g2;have q1:s.ac h.a=.a 116 [.a c 0]:=bV K J;have q2:s.ac (h.a+1)=.a 72 [.i 0,.i 0,.i 0,.i 0,S [],.o]:=bV K J;have q3:s.ac h1.a=.a 118 (tk l n).ca:=cX K J Tk.ca.eq_1;have f:Pg c h s:=(eF K J);have Ex:NF h.a h s:=((((((NF.da h).am _).am _).g0 g1).am _).ph _ zo).g0 g2;have n2':h.a+2<s.a:=zo;have n3':h.a+2<=h1.a:=zo;have n4':h1.a<s.a:=zo;clear J K n1 n2
 by_cases M:o7 (tk l n)=0
 ·rw[atS (by simpa using M)] at a;refine aS M q1 ?_;refine ke g (c2.am _) D (cY.ahW (x:=[105,110,116]) (y:=[102,108,111,97,116,54,52]) (z:=[108,101,110]) (w:=[112,114,105,110,116]) (v:=[112,97,110,105,99]) (Hp.ba zm) zl zm zm zm zm zm) zm λh3 O=>?_;obtain⟨n3,b⟩:=bH O;have c3:=(c2.am _).aw O;cases e:bD (tk l n) [[105,110,116],[102,108,111,97,116,54,52],[108,101,110],[112,114,105,110,116],[112,97,110,105,99]] with
  |true=>
   rw[atV e] at a;have u:=lT H D e;refine aU e b q1 ?_;refine vB g c3 D λP o C=>?_;obtain⟨V,d⟩:=bw o;refine aU d b q1 ?_;refine aaA g H E C u o0 o1 hF (a.FS (fH d b (gp f)) (λv s N=>by refine ag ?_;exact N) λts m jh a h5 kv A I G U B nk=>?_);obtain⟨m,rfl⟩:∃q,m=q+1:=⟨m- 1,by omega⟩;obtain⟨n5,i⟩:=bw A;refine cq i d b q1 q3 Tk.ca.eq_1 ?_;refine gS g I zo B λQ r=>?_;obtain⟨n6,p⟩:=bH r;refine cq p i d b q2 B ?_;exact a _ _ (Ei p i d b (gp f)) ((I.aw r).bj _ zo zo) (ay.of (t:=aV l (m+1) 32 (tk l n).a (tk l n).a (tk l n).b ts) (dO.nf (((NF.da h5).g0 r).rh _ zo) zo _ _ nk)) G U
  |false=>
   rw[e] at a;simp only[at3,auM] at a;refine aU e b q1 ?_;unfold NX at a;refine Ts g H (c3.am _) D o0 o1 (left:=[40]) (right:=[41]) (λe Z h' L=>?_) (λe h' L=>?_) (λe Z P o C=>?_)
   ·rw[atV e,atV Z] at a;have n':=L.g;have X:=gp L;try simp only[Hp.dC] at n'
    refine ag ?_;exact a.er (fH X b (gp f))
   ·rw[atS (by rw[e];simp)] at a;have n':=L.g;have X:=gp L;try simp only[Hp.dC] at n'
    refine ag ?_;exact a.er (fH X b (gp f))
   rw[atV e,atS Z] at a;obtain⟨V,d⟩:=bw o;have u:=lT H D e;rw[ic g.t225];refine aU d b q1 ?_;refine E _ (n+1) (op+1) false 0 _ zo zo (atY 0) C u (a.ss (fH d b (gp f)) (λv s N=>by simp(disch:=omega) [WK];exact N) λt m a h5 row A I nd G U=>?_);obtain⟨n5,i⟩:=bw A;obtain⟨kv,rfl,B,nk⟩:=nd.dT;simp(disch:=first|exact bh|fail) [i,d,WK];refine⟨m,G,I.bj _ zo zo,λey Q r c6=>?_,λen Q r=>?_⟩;rw[atV ey] at a;obtain⟨n6,p⟩:=bw r;have a:cU h.a c tb l op hd h k (.c (aV l (m+1) 33 (tk l n).a (tk l n).a [] [t]) (m+1)):=a;refine iR p i d b q1 q3 Tk.ca.eq_1 ?_;refine gS g (c6.am _) G rfl λh7 g7=>?_;obtain⟨n7,Y⟩:=bH g7;refine cq Y p i d b q2 ?_;refine a _ _ (zp6 Y p i d b (gp f)) (((c6.am _).aw g7).bj _ zo zo) (ay.of (t:=aV l (m+1) 33 (tk l n).a (tk l n).a [] [t]) ?_) (lT H G ey) zo;exact vD ((Hp.du zo).trans ((Y _ qaf).trans (Hp.ba aa))) zl zo
    (by simp only[dZ,auo];exact ay.nf (((((NF.da h5).rh _ zo).gp r zo).am _).g0 g7|>.rh _ zo) zo _ _ nd)
   rw[atS (by rw[en];simp)] at a;obtain⟨n6,p⟩:=bw r;exact a.er (Ei p i d b (gp f))
 rw[atV (by simpa using M)] at a;have u:=ahX H D M;refine aS M q1 ?_;refine vB g c2 D λh3 O c3=>?_;obtain⟨n3,b⟩:=bw O;obtain⟨⟨cap,Ey,q4⟩,_⟩:=id c3;have sK:cU h.a c tb l op hd h k (.c (aV l (n+1) (o7 (tk l n)) (tk l n).a (tk l n).a (tk l n).b []) (n+1))\/(o7 (tk l n)=25/\hd=false/\bD (tk l (n+1)) [[123]]=true):=by
  by_cases hy:o7 (tk l n)=25/\hd=false/\bD (tk l (n+1)) [[123]]=true
  exact .inr hy;rw[atS hy] at a;exact .inl a
 by_cases j:o7 (tk l n)=25
 cases hd with
 |true=>
  have a:=sK.resolve_right zm;rw[j] at a;refine cq j b q1 q3 q4 Tk.ca.eq_1 ?_;refine gS g c3 zo rfl λP o=>?_;obtain⟨V,d⟩:=bH o;refine aU d b q2 ?_;exact a _ _ (fH d b (gp f)) ((c3.aw o).bj _ zo zo) (ay.of (t:=aV l (n+1) 25 (tk l n).a (tk l n).a (tk l n).b []) rfl) u zo
 |false=>
  refine cq j b q1 q3 q4 Tk.ca.eq_1 ?_;refine ke g (c3.am _) u (cY.ly (x:=[123]) (Hp.ba zm) zl zm) zm λP o=>?_;obtain⟨V,d⟩:=bH o;have C:=(c3.am _).aw o;cases e:bD (tk l (n+1)) [[123]] with
  |true=>
   rw[atV ⟨j,rfl,e⟩] at a;refine cq e d b q1 q3 Tk.ca.eq_1 ?_;refine gS g C zo rfl λh5 A=>?_;obtain⟨n5,i⟩:=bH A;have I:=C.aw A;refine cq i d b q1 q3 Tk.ca.eq_1 ?_;rw[<-Hi (Cv l F ex op _ _)] at a;refine aaD g H E I u o0 o1 hF (lo:=h5.a) (sZ:=aV l (n+1) 8 (tk l n).a (tk l n).a (tk l n).b []) (ay.of rfl) zo zl (a.ss (qB i d b (gp f)) (λv s N=>by refine ag ?_;exact N) λt m a Q row r c6 nd G U=>?_);obtain⟨n6,p⟩:=bw r;obtain⟨kv,rfl,B,nk⟩:=nd.dT;refine cC p i d b q2 ?_;exact a _ _ (Ei p i d b (gp f)) (c6.bj _ zo zo) (ay.nf ((NF.da Q).rh _ zo) zo _ _ nd) G U
  |false=>
   have a:=sK.resolve_right qag;rw[j] at a;refine cq e d b q1 q3 Tk.ca.eq_1 ?_;refine gS g C zo rfl λh5 A=>?_;obtain⟨n5,i⟩:=bH A;refine bK i d b q2 ?_;exact a _ _ (qB i d b (gp f)) ((C.aw A).bj _ zo zo) (ay.of (t:=aV l (n+1) 25 (tk l n).a (tk l n).a (tk l n).b []) rfl) u zo
 have a:=sK.resolve_right (by simp[j]);refine cC j b q1 q3 Tk.ca.eq_1 ?_;refine gS g c3 zo rfl λP o=>?_;obtain⟨V,d⟩:=bH o;refine aU d b q2 ?_;exact a _ _ (fH d b (gp f)) ((c3.aw o).bj _ zo zo) (ay.of (t:=aV l (n+1) (o7 (tk l n)) (tk l n).a (tk l n).a (tk l n).b []) rfl) u zo
end
@[simp ↓] def asp{b:Bool}{x y:Prop}:rU undef b x y=y:=(rfl)
section
variable {hd:Bool}{k:aK->Prop}
variable {ex:Int->Bool->Int->Nat->PR Tree}
def cU.Pi{lo s:Nat}{q:Int}{o:Bool}{b:Hp}{k1:aK->Prop}{r:PR Tree}{f:Tree->Nat->PR Tree}(j:cU lo c tb l op hd h k (r.dk f))(g:Pg c h b)(w:∀v a,k (.b v a)->k1 (.b v a))
 (u:∀t m,cU lo c tb l op hd h k (f t m)->∀a row,Pg c b a->bp a c tb l m q o->ay s a t row->m<l.length->0<m->k1 (.a (.j row) a)):cU s c tb l q o b k1 r:=by
 cases r with
 |d=>exact j
 |i p e=>exact λa g2=>w _ _ (j a (g.ab g2))
 |c t m=>exact u t m j
theorem Kr(u:aA T)(N:fc l)(E:pW T c tb l ex)(o0:0<=op)(o1:op<=128){F:Nat}(hF:F<8589934592){xb rb:Nat}(O:c<hh.a)(Hl:hh.a<=xb)(Ho:hh.a<=rb)(Hq:xb≠rb):∀(g n:Nat)(h:Hp)(x:Tree)(row:List AV)(f:Fr),
 Pg c hh h->bp h c tb l n op hd->n<l.length->0<n->h.ac xb=.a 72 row->ay hh.a h x row->h.ac rb=.a 72 [.i 0,.i 0,.i 0,.i 0,S [],.o]->
 cg 0 f=.a c 0->cg 2 f=.a rb 0->cg 3 f=.a xb 0->cU hh.a c tb l op hd hh k (ye l F ex op hd g x n)->
 W T (.d l177_0) f h [] (bY 0 (finish T (W T) [.b 6 true 2] k))
 |0,_,_,_,_,_,_,_,_,_,_,_,_,_,_,_,a=>a.elim
 |g+1,n,h,x,row,f,gg,hc,U,hz,C,nd,hr,f0,d,f3,a=>by
  obtain⟨kv,rfl,I,nk⟩:=nd.dT;have hcx:=hc.lt;have hcy:=hc.rc;have zt:xb≠tb:=by rintro rfl;obtain⟨_,⟨r,t,ht,_⟩,_⟩:=hc;grind
  have zr:rb≠tb:=by rintro rfl;obtain⟨_,⟨r,t,ht,_⟩,_⟩:=hc;grind
  have y1:=Hp.lt C rfl;have y2:=Hp.lt hr rfl;rw[aP];show W T (.j 1 (.j 2 (.g (.h (z q177 2)) (.i (.t 11) (.g (.h (z q177 3)) (.g (.h (z q177 4)) (.g (.h r177_5) (.g (.g (.h (z q177 6)) (.i (.t 33) (.h r177_7) .k)) (.g (.h (z q177 8)) (.g (.h (z q177 9)) (.i (.t 46) (.h (z q177 10)) .k))))))) (.g (.h (z q177 11)) (.i (.t 50) (.g (.h (z q177 12)) (.g (.h (z q177 13)) (.f r177_14))) (.g (.h (z q177 15)) .m))))))) f h [] _;generalize Hh:CC.g (.h (z q177 8)) (.g (.h (z q177 9)) (.i (.t 46) (.h (z q177 10)) .k))=TC;have tail:∀(H:Hp)(f:Fr)(t4:Nat)(q:Int),Pg c h H->bp H c tb l (n+1+1) op hd->n+1+1<l.length->h.a<=t4->H.ac t4=.a 118 (tk l (n+1)).ca->cg 0 f=.a c 0->cg 2 f=.a rb 0->cg 3 f=.a xb 0->cg 4 f=.a t4 0->cg 5 f=.i q->
   (q=26/\cU hh.a c tb l op hd hh k (ye l F ex op hd g (aV l (n+1+1) 26 x.gl (tk l (n+1)).a (tk l (n+1)).b [x]) (n+1+1))\/
    q=9/\cU hh.a c tb l op hd hh k ((Cv l F ex op (aV l (n+1+1) 9 x.gl (tk l (n+1)).a (tk l (n+1)).b [x]) (n+1+1)).dk λy o=>ye l F ex op hd g y o))->
   W T TC f H [] (bY 2 (bY 1 (bF (W T (.d l177_0)) (bY 0 (finish T (W T) [.b 6 true 2] k))))):=by
   intro H f t4 q gH cH hm ht Hr f0 d f3 f4 f5 a;have B:=gp gH;have nH:=gH.g;subst Hh;rcases a with⟨rfl,a⟩|⟨rfl,a⟩;refine mz f0 d f3 f4 f5 B C Hr Tk.ca.eq_1 ?_;refine gS u (cH.am _) zo rfl λh1 g1=>?_;obtain⟨n1,i⟩:=bH g1;have mV:h1.ac xb=.a 72 [.i x.bi,.i x.gl,.i x.to,.i x.at,S x.bc,kv]:=cX i B C;refine nA f0 d f3 f4 f5 i B C Hr Tk.ca.eq_1 ?_;refine Kr u N E o0 o1 hF O Hl Ho Hq g (n+1+1) _ (aV l (n+1+1) 26 x.gl (tk l (n+1)).a (tk l (n+1)).b [x]) _ _ (fH i B (gp gg)) (((cH.am _).aw g1).bj _ zo zo) hm zo (Hp.dq rfl) (ay.of (t:=aV l (n+1+1) 26 x.gl (tk l (n+1)).a (tk l (n+1)).b [x]) ?_)
    (cX i B hr) zA zA zA a
   exact vD ((Hp.du zo).trans ((i _ zm).trans (Hp.ba aa))) zl zo
    qau
   refine mz f0 d f3 f4 f5 B C Hr Tk.ca.eq_1 ?_;refine gS u (cH.am _) zo rfl λh1 g1=>?_;obtain⟨n1,i⟩:=bH g1;have mV:h1.ac xb=.a 72 [.i x.bi,.i x.gl,.i x.to,.i x.at,S x.bc,kv]:=cX i B C;refine nA f0 d f3 f4 f5 i B C Hr Tk.ca.eq_1 ?_;have key:ay hh.a (h1.bj xb (.a 72 [.i 9,.i x.gl,.i (tk l (n+1)).d,.i (tk l (n+1)).a,S (tk l (n+1)).b,.c H.a 0 6 1 1 true])) (aV l (n+1+1) 9 x.gl (tk l (n+1)).a (tk l (n+1)).b [x]) [.i 9,.i x.gl,.i (tk l (n+1)).d,.i (tk l (n+1)).a,S (tk l (n+1)).b,.c H.a 0 6 1 1 true]:=by
    refine ay.of (t:=aV l (n+1+1) 9 x.gl (tk l (n+1)).a (tk l (n+1)).b [x]) ?_;exact vD ((Hp.du zo).trans ((i _ zm).trans (Hp.ba aa))) zl zo
     qau
   refine aaD u N E (((cH.am _).aw g1).bj _ zo zo) hm o0 o1 hF key O (by grind [Hp.ii]) (a.Pi (fH i B (gp gg)) (λv A hv=>by simp_all) λt m a A row g2 c2 cZ Hg Bd=>?_);obtain⟨n2,s⟩:=bw g2;have J:A.ac xb=.a 72 [.i 9,.i x.gl,.i (tk l (n+1)).d,.i (tk l (n+1)).a,S (tk l (n+1)).b,.c H.a 0 6 1 1 true]:=au s;obtain⟨zX,rfl,wW,Ob⟩:=cZ.dT;refine cq f0 d f3 s i B ?_;exact Kr u N E o0 o1 hF O Hl Ho Hq g m _ t _ _ (qB s i B (gp gg)) (c2.bj _ zo zo) Hg Bd (Hp.dq rfl) (ay.nf ((NF.da A).bj _ J) zo _ _ cZ)
    (mw s i B hr) zA zA zA a
  unfold ye at a;refine cC f0 d f3 C hr ?_;refine ke u (hc.am _) U (cY.ly (x:=[46]) (Hp.ba zm) zl zm) zm λh1 g1=>?_;obtain⟨n1,i⟩:=bH g1;have c1:=(hc.am _).aw g1;cases e:bD (tk l n) [[46]] with
  |true=>
   rw[atV e] at a;have cV:=lT N U e;refine bK e f0 d f3 ?_;refine vB u c1 U λA g2 c2=>?_;obtain⟨n2,s⟩:=bw g2;refine aU f0 d f3 ?_;refine Eo u c2 cV (λek Z Q c3=>?_) λek Z Q=>?_;simp[jR,atV ek,aFd] at a;have jB:=wT N cV ek zm;obtain⟨n3,w⟩:=bw Q
   by_cases p:x.bi=25
   cases hd with
   |true=>
    rw[atS zm] at a;obtain⟨⟨cap,Ey,q4⟩,_⟩:=id c3;refine nA f0 d f3 w s i C p q4 Tk.ca.eq_1 ?_;exact tail _ _ Z.a 26 (fH w s i) ((c3.am _).bj _ zo zo) jB zo (Hp.dq rfl) zA zA zA aa aa (.inl ⟨rfl,a⟩)
   |false=>
    obtain⟨⟨cap,Ey,q4⟩,_⟩:=id c3;refine nA f0 d f3 w s i C p q4 Tk.ca.eq_1 ?_;refine ke u (((c3.am _).bj _ zo zo).am _) jB (cY.ly (x:=[123]) (Hp.ba zm) zl zm) zm λM g4=>?_;obtain⟨n4,K⟩:=bH g4;have P:=(((c3.am _).bj _ zo zo).am _).aw g4;cases eb:bD (tk l (n+1+1)) [[123]] with
    |true=>
     rw[atV ⟨p,rfl,eb⟩] at a;refine aB eb ?_;exact tail _ _ Z.a 9 (qB K w s i) P jB zo (by refine aB K ?_;rfl) zA zA zA aa aa (.inr ⟨rfl,a⟩)
    |false=>
     rw[atS qaa] at a;refine aB eb ?_;exact tail _ _ Z.a 26 (qB K w s i) P jB zo (by refine aB K ?_;rfl) zA zA zA aa aa (.inl ⟨rfl,a⟩)
   rw[atS zo] at a;refine mz f0 d f3 w s i C p Tk.ca.eq_1 ?_;exact tail _ _ Z.a 26 (fH w s i) ((c3.am _).bj _ zo zo) jB zo (Hp.dq rfl) zA zA zA aa aa (.inl ⟨rfl,a⟩);simp[jR,atS ek,ahT] at a;obtain⟨n3,w⟩:=bw Q;refine ag ?_;exact a.er (qB w s i (gp gg))
  |false=>
   rw[atS qaa] at a;refine bK e f0 d f3 ?_;refine ke u (c1.am _) U (cY.ly (x:=[40]) (Hp.ba zm) zl zm) zm λA g2=>?_;obtain⟨n2,s⟩:=bH g2;have c2:=(c1.am _).aw g2;have V:A.ac rb=.a 72 [.i 0,.i 0,.i 0,.i 0,S [],.o]:=cX s i hr;have J:A.ac xb=.a 72 [.i x.bi,.i x.gl,.i x.to,.i x.at,S x.bc,kv]:=cX s i C;have R:Pg c hh A:=(fH s i (gp gg));have cZ:ay hh.a A x [.i x.bi,.i x.gl,.i x.to,.i x.at,S x.bc,kv]:=ay.nf (((((NF.da h).am _).g0 g1).am _).g0 g2) zo _ _ nd;have b8:∀f:Fr,cg 2 f=.a rb 0->cg 3 f=.a xb 0->cU hh.a c tb l op hd hh k (.c x n)->W T (.g (.h (z q177 15)) .m) f A [] (bY 2 (bY 1 (bF (W T (.d l177_0)) (bY 0 (finish T (W T) [.b 6 true 2] k))))):=by intro f d f3 a;exact bK d f3 J V (a _ _ (iQ (gp R)) (c2.bj _ zo zo) (ay.nf ((NF.da A).bj _ V) zo _ _ cZ) U hz)
   generalize hFC:CC.g (.h (z q177 15)) .m=FC at b8;cases ep:bD (tk l n) [[40]] with
   |false=>
    simp_all
   |true=>
    have call:∀f:Fr,cg 0 f=.a c 0->cg 2 f=.a rb 0->cg 3 f=.a xb 0->cU hh.a c tb l op hd hh k ((Kj l F ex op n).dk λts m=>ye l F ex op hd g (aV l m 27 x.gl (tk l n).a [] (x::ts)) m)->
     W T (.g (.h (z q177 12)) (.g (.h (z q177 13)) (.f r177_14))) f A [] (bY 2 (bY 1 (bF (W T (.d l177_0)) (bY 0 (finish T (W T) [.b 6 true 2] k))))):=by
     intro f f0 d f3 a;refine bK f0 d f3 J ?_;refine qC u c2 U λZ Q=>?_;obtain⟨n3,w⟩:=bH Q;have c3:=c2.aw Q;refine cq f0 d f3 w J Tk.ca.eq_1 ?_;refine aaA u N E c3 U o0 o1 hF (a.FS (eF w (gp R)) (λv A hv=>by simp_all) λts m jh a M Ez g4 P hm hz zY zZ=>?_);have bz:=aat jh;obtain⟨n4,K⟩:=bw g4;obtain⟨m,rfl⟩:∃q,m=q+1:=⟨m- 1,by omega⟩;have Y:M.ac xb=.a 72 [.i x.bi,.i x.gl,.i x.to,.i x.at,S x.bc,kv]:=cX K w J;have CE:M.ac rb=.a 72 [.i 0,.i 0,.i 0,.i 0,S [],.o]:=cX K w V;have uh:Pg c hh M:=(fH K w (gp R));have rW:ay hh.a M x [.i x.bi,.i x.gl,.i x.to,.i x.at,S x.bc,kv]:=ay.nf (((NF.da A).g0 Q).gp g4 O) zl _ _ cZ
     by_cases jh:ts=[]
     subst jh;subst zZ;refine cC f0 d f3 Y I ?_;rw[NK (rs:=[]) rfl rfl];refine cC f0 d f3 Y I ?_;refine gS u (P.am _) zo rfl λh5 L=>?_;obtain⟨n5,G⟩:=bH L;have X:h5.ac xb=.a 72 [.i x.bi,.i x.gl,.i x.to,.i x.at,S x.bc,kv]:=bV G Y;refine bK f0 d f3 X ?_;refine Kr u N E o0 o1 hF O Hl Ho Hq g (m+1) _ (aV l (m+1) 27 x.gl (tk l n).a [] [x]) _ _ (eF G (gp uh)) (((P.am _).aw L).bj _ zo zo) hm zo (Hp.dq rfl) (ay.of (t:=aV l (m+1) 27 x.gl (tk l n).a [] [x]) ?_)
      (bV G CE) zA zA zA a
     exact vD ((Hp.du zo).trans ((G _ zm).trans (Hp.ba aa))) zl zo
      (by exact ay.nf ((((NF.da M).am _).g0 L).bj _ X) zo _ _ rW)
     obtain⟨b,cap,Hf,r,fr,rfl,hb,Bg,wF,nr⟩:=zZ.pj jh;obtain⟨q,hq⟩:∃q,ts.length=q+1:=⟨ts.length- 1,by grind [List.length_pos_iff]⟩;refine cC f0 d f3 Y I ?_;have xb':=Hp.lt hb rfl;rw[G2 (n:=q) zo (Hp.ba rfl) (at2 1) (Ke zo (by rw[Hp.io xb'];exact hb) Bg) (by rw[hq];rfl) (rV zo zo)];refine cC f0 d f3 Y I ?_;rw[show 1+(q+1)=ts.length+1 from by omega];refine gS u ((P.am _).am _) zo rfl λh5 L=>?_;obtain⟨n5,G⟩:=bH L;have X:h5.ac xb=.a 72 [.i x.bi,.i x.gl,.i x.to,.i x.at,S x.bc,kv]:=bV G Y;refine bK f0 d f3 X ?_;refine Kr u N E o0 o1 hF O Hl Ho Hq g (m+1) _ (aV l (m+1) 27 x.gl (tk l n).a [] (x::ts)) _ _ (eF G (gp uh)) ((((P.am _).am _).aw L).bj _ zo zo) hm zo (Hp.dq rfl) (ay.of (t:=aV l (m+1) 27 x.gl (tk l n).a [] (x::ts)) ?_)
      (bV G CE) zA zA zA a
     refine aaC ((Hp.du zo).trans ((G _ qaf).trans (Hp.ba aa))) zl zo ?_ ?_;rw[wO (by simp[aEt])];simp only[aEt,dY,dZ,auo,auY,aus];exact ay.nf (((((NF.da M).am _).am _).g0 L).bj _ X) zo _ _ rW;refine Kp (f:=fr) (λj hj=>?_) (eR.nf (((((NF.da M).am _).am _).g0 L).bj _ X) zo _ _ nr);have pO:j<(aEt fr ts.length 0).length:=by rw[oZ];exact hj
     rw[wO (by simp[aEt,oZ];omega)];simp only[aEt,dY,dZ,auo,auY,au5,auu];have:=vw fr ts.length 0 j hj;rw[atT pO] at this;simpa using this
    generalize hPC:CC.g (.h (z q177 12)) (.g (.h (z q177 13)) (.f r177_14))=PC at call
    by_cases p:x.bi=25
    rw[atV ⟨ep,.inl p⟩] at a;refine cq ep f0 d f3 J p ?_;exact call _ zA zA zA a
    by_cases D:x.bi=26
    rw[atV ⟨ep,.inr D⟩] at a;refine cq ep f0 d f3 J D ?_;exact call _ zA zA zA a;rw[atS (by simp[p,D])] at a;refine iR ep f0 d f3 J p D ?_;exact b8 _ zA zA a
end
section
variable {hd:Bool}{k:aK->Prop}
variable {ex:Int->Bool->Int->Nat->PR Tree}
def cY.wX{b r cap ex t}{x y:List UInt8}(a:h.ac b=.b 9 1 r 0 t)(e:2<=r)(h0:t 0=[S x])(f:t 1=[S y]):cY h (.c b 0 1 2 cap ex) [x,y]:=
 ⟨b,cap,ex,r,t,rfl,a,e,λj d=>by
  have:j=0\/j=1:=by simp at d;omega
  rcases this with rfl|rfl<;>assumption⟩
def TD(b:aA T)(i:fc l)(E:pW T c tb l ex)(f:bp h c tb l n op hd)(r:n<l.length)(j:0<=op)(o:op<=128){F:Nat}(g:F<8589934592)
 (a:lS c tb l op hd h k (yf l F ex op hd n)):aE T (W T) ⟨177⟩ [.a c 0] h k:=by
 rw[ic b.t177];have u:=f.lt;have x:=f.rc;unfold yf at a;refine ag ?_;refine ahY b i E (f.am _) r j o g (a.ss aZ (λv e s=>by refine ag ?_;exact s) λt m a e row g2 c2 nd q w=>?_);obtain⟨y,d⟩:=bw g2;obtain⟨kv,rfl,p,z⟩:=nd.dT;refine aB d ?_;exact Kr b i E j o g (hh:=h) (xb:=e.a) (rb:=h.a) u zo zl zo F m _ t _ _ (iQ d) ((c2.am _).bj _ zo zo) q w (Hp.dq rfl)
  (ay.nf (((NF.da e).am _).ph _ zo) qaf _ _ nd) (au d) aa aa aa a
def aaE(f:aA T)(z:fc l)(E:pW T c tb l ex)(D:0<=op)(G:op<=128){F:Nat}(C:F<8589934592):∀(g n:Nat)(h:Hp)(k:aK->Prop),bp h c tb l n op hd->n<l.length->
 lS c tb l op hd h k (G8 l F ex op hd g n)->aE T (W T) ⟨202⟩ [.a c 0] h k
 |0,_,_,_,_,_,a=>a.elim
 |g+1,n,h,k,j,o,a=>by
  rw[ic f.t202];have O:=j.lt;have P:=j.rc;unfold G8 at a;refine ag ?_;refine ke f ((j.am _).am _) o (cY.wX (x:=[45]) (y:=[33]) (Hp.ba zm) zl zm zm) zm λM g1=>?_;obtain⟨Q,b⟩:=bH g1;have c1:=((j.am _).am _).aw g1;cases e:bD (tk l n) [[45],[33]] with
  |true=>
   rw[atV e] at a;have H:=lT z o e;refine aB e ?_;refine vB f c1 o λi g2 c2=>?_;obtain⟨K,d⟩:=bw g2;refine aB Tk.ca.eq_1 ?_;refine aaE f z E D G C g (n+1) _ _ ((c2.am _).bj _ zo zo) H (a.ss (eF d b) (λv i A=>by refine ag ?_;exact A) λt m a J row I c3 nd w B=>?_);obtain⟨R,p⟩:=bw I;obtain⟨m,rfl⟩:∃q,m=q+1:=⟨m- 1,by omega⟩;obtain⟨kv,rfl,u,L⟩:=nd.dT;refine bK p d b Tk.ca.eq_1 ?_;refine gS f (((c3.am _).bj _ zo zo).am _) zo rfl λN s=>?_;obtain⟨S,r⟩:=bH s;refine bK r p d b ?_;refine a _ _ (qB r p d b) (((((c3.am _).bj _ zo zo).am _).aw s).bj _ zo zo) ?_ w B;refine ay.of (t:=aV l (m+1) 30 (tk l n).a (tk l n).a (tk l n).b [t]) ?_;exact vD ((Hp.du zo).trans ((r _ qab).trans (Hp.ba aa))) zl zo
    (by simp only[dZ,auo];exact ay.nf (((((NF.da J).am _).ph _ zo).am _).g0 s|>.rh _ qab) qab _ _ nd)
  |false=>
   rw[atS qag] at a;refine aB e ?_;rw[<-Hi (yf l F ex op hd n)] at a;refine TD f z E c1 o D G C (a.ss (iQ b) (λv i A=>by refine ag ?_;exact A) λt m a i row g2 c2 nd w B=>?_);obtain⟨K,d⟩:=bw g2;obtain⟨kv,rfl,u,L⟩:=nd.dT;refine aS d b ?_;exact a _ _ (eF d b) (c2.bj _ zo zo) (ay.nf ((NF.da i).rh _ zo) zo _ _ nd) w B
def ahZ(d:fc l)(a:n<l.length)(b:0<Bb (tk l n)):n+1<l.length:=by refine d n a λh0=>?_;simp[Bb,h0] at b
def aaF(j:aA T)(V:fc l)(E:pW T c tb l ex)(Y:0<=op)(Z:op<=128){w:Int}(ls:0<=w){xb rb:Nat}(N:c<hh.a)(Hl:hh.a<=xb)(Ho:hh.a<=rb)(Hq:xb≠rb):∀(g n:Nat)(h:Hp)(x:Tree)(row:List AV)(f:Fr),
 Pg c hh h->bp h c tb l n op hd->n<l.length->0<n->h.ac xb=.a 72 row->ay hh.a h x row->h.ac rb=.a 72 [.i 0,.i 0,.i 0,.i 0,S [],.o]->
 cg 0 f=.a c 0->cg 1 f=.i w->cg 4 f=.a rb 0->cg 5 f=.a xb 0->cU hh.a c tb l op hd hh k (G9 l ex op hd w g x n)->
 W T (.d l176_0) f h [] (bY 0 (bF (W T (.g (.h (z q176 6)) .m)) (finish T (W T) [.b 6 true 4] k)))
 |0,_,_,_,_,_,_,_,_,_,_,_,_,_,_,_,_,a=>a.elim
 |g+1,n,h,x,row,f,gg,o,D,hz,G,nd,F,f0,b,f4,f5,a=>by
  obtain⟨kv,rfl,hkv,nk⟩:=nd.dT;have hcx:=o.lt;have hcy:=o.rc;have zt:xb≠tb:=by rintro rfl;obtain⟨_,⟨r,t,s,_⟩,_⟩:=o;rw[G] at s;cases s
  have zr:rb≠tb:=by rintro rfl;obtain⟨_,⟨r,t,s,_⟩,_⟩:=o;rw[F] at s;cases s
  have y1:=Hp.lt G rfl;have y2:=Hp.lt F rfl;rw[aP];show W T (.g (.g (.h (z q176 2)) (.i (.t 14) .k (.n 0))) (.j 1 (.g (.h (z q176 3)) (.g (.h (z q176 4)) (.h (z q176 5)))))) f h [] _;unfold G9 at a;refine cq f0 b f4 f5 G F ?_;refine qC j o D λh1 g1=>?_;obtain⟨n1,I⟩:=bH g1;have c1:=o.aw g1;refine ag ?_;refine aay j (t:=tk l n) λe g2=>?_;obtain⟨n2,J⟩:=bH g2;have c2:=c1.aw g2;have i:e.ac rb=.a 72 [.i 0,.i 0,.i 0,.i 0,S [],.o]:=cX J I F;have X:e.ac xb=.a 72 [.i x.bi,.i x.gl,.i x.to,.i x.at,S x.bc,kv]:=cX J I G;have d:Pg c hh e:=(fH J I (gp gg));have Q:ay hh.a e x [.i x.bi,.i x.gl,.i x.to,.i x.at,S x.bc,kv]:=ay.nf (((NF.da h).g0 g1).g0 g2) zo _ _ nd
  by_cases el:w<Bb (tk l n)
  rw[atV el] at a;have cV:=ahZ V D zo;refine cC f0 b f4 f5 el ?_;refine vB j c2 D λh3 R c3=>?_;obtain⟨n3,y⟩:=bw R;refine cC f0 b f4 f5 Tk.ca.eq_1 ?_;refine aay j (t:=tk l n) λh4 K=>?_;obtain⟨n4,p⟩:=bH K;have c4:=((c3.am _).bj _ zo zo).aw K;refine cC f0 b f4 f5 Tk.ca.eq_1 ?_;refine E _ (n+1) op hd _ _ Y Z zo c4 cV (a.ss (fH p y (gp d)) (λv e hv=>by refine ag ?_;exact hv) λt m a h5 row U P u hm hz5=>?_);obtain⟨n5,A⟩:=bw U;obtain⟨m,rfl⟩:∃q,m=q+1:=⟨m- 1,by omega⟩;obtain⟨kv5,rfl,asq,nk5⟩:=u.dT;have O:h5.ac xb=.a 72 [.i x.bi,.i x.gl,.i x.to,.i x.at,S x.bc,kv]:=mw A p y X;have q5:h5.ac h3.a=.a 118 [.i (tk l n).c,S (tk l n).b,.i (tk l n).a,.i (tk l n).d]:=bV A p;have L:h5.ac rb=.a 72 [.i 0,.i 0,.i 0,.i 0,S [],.o]:=mw A p y i;have qF:Pg c hh h5:=(qB A p y (gp d));have M:ay hh.a h5 x [.i x.bi,.i x.gl,.i x.to,.i x.at,S x.bc,kv]:=ay.nf ((((((NF.da e).gp R N).am _).ph _ zo).g0 K).gp U N) zl _ _ Q;refine cq f0 b f4 f5 O q5 ?_;refine gS j (((P.am _).bj _ zo zo).am _) zo rfl λh6 C=>?_;obtain⟨n6,B⟩:=bH C;have H:h6.ac xb=.a 72 [.i x.bi,.i x.gl,.i x.to,.i x.at,S x.bc,kv]:=bV B O;refine cC f0 b f4 f5 H ?_;refine aaF j V E Y Z ls N Hl Ho Hq g (m+1) _ (aV l (m+1) 31 x.gl (tk l n).a (tk l n).b [x,t]) _ _ (eF B (gp qF)) (((((P.am _).bj _ zo zo).am _).aw C).bj _ zo zo) hm zo (Hp.dq rfl) (ay.of (t:=aV l (m+1) 31 x.gl (tk l n).a (tk l n).b [x,t]) ?_)
   (bV B L) zA zA zA zA a
  refine Tz ((Hp.du zo).trans ((B _ qab).trans (Hp.ba aa))) zl zo ?_ ?_;simp only[dZ,auo];exact ay.nf ((((((NF.da h5).am _).ph _ zo).am _).g0 C).bj _ H) zo _ _ M;simp only[dZ,auo];exact ay.nf ((((((NF.da h5).am _).ph _ zo).am _).g0 C).bj _ H) zo _ _ u;rw[atS el] at a;refine iR f0 b f4 f5 el X i ?_;exact a _ _ (iQ (gp d)) (c2.bj _ zo zo) (ay.nf ((NF.da e).bj _ i) zo _ _ Q) D hz
def aaG(b:aA T)(i:fc l){F:Nat}(j:F<8589934592):∀g:Nat,pW T c tb l (zU l F g)
 |0=>λ_ _ _ _ _ _ _ _ _ _ _ a=>a.elim
 |g+1=>λh n op hd z k o p y f s a=>by
  have E:=aaG b i j g;rw[ic b.t176];have w:=f.lt;have A:=f.rc;unfold zU at a;refine ag ?_;refine aaE b i E o p j F n _ _ (f.am _) s (a.ss aZ (λv e u=>by refine ag ?_;exact u) λt m a e row g2 c2 nd r x=>?_);obtain⟨B,d⟩:=bw g2;obtain⟨kv,rfl,q,C⟩:=nd.dT;refine aB d ?_;exact aaF b i E o p y (hh:=h) (xb:=e.a) (rb:=h.a) w zo zl zo F m _ t _ _ (iQ d) ((c2.am _).bj _ zo zo) r x (Hp.dq rfl)
   (ay.nf (((NF.da e).am _).ph _ zo) qaf _ _ nd) (au d) aa aa aa aa a
end
section
variable {hd o:Bool}{k k1:aK->Prop}
variable {ex:Int->Bool->Int->Nat->PR Tree}
abbrev rX(c:Nat)(h:Hp)(k:aK->Prop){b:Type}(H:PR b->Prop):Prop:=(∀p e,H (.i p e)->∀h',Pg c h h'->k (.b (qD p e) h'))/\¬H .d
def cU.rk{lo:Nat}:rX c h k (cU lo c tb l op hd h k):=⟨λ_ _ b=>b,id⟩
theorem Hx(p:aA T)(t:fc l){m:Type}{H:PR m->Prop}(u:rX c h k H){x:List UInt8}{f:Tk->Nat->PR m}(d:H ((lR l x n).dk f))(q:bp a c tb l n j o)(i:n<l.length)(g:Pg c h a)
 (s:∀v b,k (.b v b)->k1 (.b v b)) (r:bD (tk l n) [x]=true->n+1<l.length->H (f (tk l n) (n+1))->∀b,Pg c a b->bp b c tb l (n+1) j o->k1 (.a (.j (tk l n).ca) b)):aE T (W T) ⟨79⟩ [.a c 0,S x] a k1:=by
 unfold lR at d;refine Cx p q i (λe b g2 c2=>?_) λe b g2=>?_;rw[atV e] at d;exact r e (lT t i e) d b g2 c2;rw[atS qaa] at d;exact s _ _ (u.1 _ _ d b (g.ab g2))
def Hy(m:aA T)(x:fc l){i:Type}{H:PR i->Prop}(t:rX c h k H){q:Int}(w:q≠0){f:Tk->Nat->PR i}(d:H ((jR l q n).dk f))(p:bp a c tb l n j o)(r:n<l.length)(g:Pg c h a)
 (s:∀v b,k (.b v b)->k1 (.b v b)) (u:(tk l n).c=q->n+1<l.length->H (f (tk l n) (n+1))->∀b,Pg c a b->bp b c tb l (n+1) j o->k1 (.a (.j (tk l n).ca) b)):aE T (W T) ⟨80⟩ [.a c 0,.i q] a k1:=by
 unfold jR at d;refine Eo m p r (λe b g2 c2=>?_) λe b g2=>?_;simp_all[wT];rw[atS e] at d;exact s _ _ (t.1 _ _ d b (g.ab g2))
def TF(m:aA T)(u:fc l){i:Type}{H:PR i->Prop}(s:rX c h k H){f:Unit->Nat->PR i}(d:H ((mU l n).dk f))(p:bp a c tb l n j o)(q:n<l.length)(g:Pg c h a)
 (r:∀v b,k (.b v b)->k1 (.b v b)) (t:n+1<l.length->H (f () (n+1))->∀b,Pg c a b->bp b c tb l (n+1) j o->k1 (.a (.p []) b)):aE T (W T) ⟨81⟩ [.a c 0] a k1:=by
 unfold mU jR at d;refine NZ m p q (λe b g2 c2=>?_) λe b g2=>?_;simp_all[wT];rw[atS e] at d;exact r _ _ (s.1 _ _ d b (g.ab g2))
def rX.ss{w:Type}{H:PR w->Prop}(s:rX c h k H){u:Nat}{r:PR Tree}{f:Tree->Nat->PR w}(q:H (r.dk f))(g:Pg c h a)(y:∀v b,k (.b v b)->k1 (.b v b))
 (x:∀t m,H (f t m)->∀b row,Pg c a b->bp b c tb l m j o->ay u b t row->m<l.length->0<m->k1 (.a (.j row) b)):cU u c tb l j o a k1 r:=by
 cases r with
 |d=>exact s.2 q
 |i p e=>exact λb g2=>y _ _ (s.1 _ _ q b (g.ab g2))
 |c t m=>exact x t m q
def rX.FS{u:Type}{H:PR u->Prop}(s:rX c h k H){r:PR (List Tree)}{f:List Tree->Nat->PR u}(q:H (r.dk f))(g:Pg c h a)(x:∀v b,k (.b v b)->k1 (.b v b))
 (w:∀t m,r=.c t m->H (f t m)->∀b kv,Pg c a b->bp b c tb l m j o->m<l.length->0<m->bQ kv=some [kv]->dO a.a b t kv->k1 (.a kv b)):Et c tb l j o a k1 r:=by
 cases r with
 |d=>exact s.2 q
 |i p e=>exact λb g2=>x _ _ (s.1 _ _ q b (g.ab g2))
 |c t m=>exact w t m rfl q
theorem aaH(A:aA T){lo b:Nat}{p:Bool}(w:hh.a<=b):∀(x:Tree)(h:Hp)(row:List AV)(f:Fr),h.ac b=.a 72 row->ay lo h x row->ax hh h->Aa x=some p->
 cg 1 f=.a b 0->(∀h',ax hh h'->k (.a (.d p) h'))->
 W T (.d l207_0) f h [] (bY 0 (bF (W T (.g (.h (z q207 3)) .m)) (finish T (W T) [.a 2] k)))
 |.mk q K to at_ nm E,h,row,f,i,nd,g,m,u,C=>by
  obtain⟨kv,rfl,D,v⟩:=nd.dT;simp[Tree.bi,Tree.gl,Tree.to,Tree.at,Tree.bc,Tree.bv] at i v nd;rw[aP];unfold Aa at m
  by_cases e:q=26
  rw[atV e] at m;cases E with
  |nil=>cases m
  |cons y O=>
   obtain⟨J,cap,H,r,M,rfl,B,L,G,s,F⟩:=v;have d:=s;obtain⟨P,t,N,I⟩:=s.dT;rw[t] at d;refine cC u i e B t ?_;refine aaH A w y _ _ _ (Hp.dq rfl) (ay.nf ((NF.da h).bj _ i) zl _ _ d) (g.bj _ (.inl w)) m zA C
  refine aU u i e ?_
  grind
termination_by x=>sizeOf x
def ah0(e:aA T){lo:Nat}{x:Tree}{row:List AV}{p:Bool}(nd:ay lo h x row)(g:Aa x=some p)(f:∀h',ax h h'->k (.a (.d p) h')):aE T (W T) ⟨207⟩ [.j row] h k:=by rw[ic e.t207];obtain⟨kv,rfl,d,i⟩:=nd.dT;refine aB d ?_;exact aaH e (hh:=h) (b:=h.a) (lo:=lo) zl x _ _ _ (Hp.ba rfl) (ay.nf ((NF.da h).am _) zl _ _ nd) aZ g aa f
def ah1(b:aA T){lo:Nat}{x:Tree}{row:List AV}(nd:ay lo h x row)(g:∀h',ax h h'->k (.a (.d (Hs x)) h')):aE T (W T) ⟨208⟩ [.j row] h k:=by
 rw[ic b.t208];obtain⟨kv,rfl,i,p⟩:=nd.dT;have f:=g _ ((ah.da h).am (.a 72 [.i x.bi,.i x.gl,.i x.to,.i x.at,S x.bc,kv]));unfold Hs at f
 by_cases d:x.bi=27
 simp_all
 by_cases e:x.bi=32
 by_cases m:x.bc=[112,114,105,110,116]
 simp_all;simp_all;simp_all
theorem TH(A:aA T)(hs:fc l)(E:pW T c tb l ex)(o0:0<=op)(o1:op<=128){x:Tree}{O:Bool}{row:List AV}{lo:Nat}(R:bp h c tb l (n+1) op hd)(I:n+1<l.length)(nd:ay lo h x row)(K:c<lo)(Ev:lo<=h.a)
 (b:cU lo c tb l op hd h k (uj l ex op hd x O (n+1))):aE T (W T) ⟨178⟩ [.a c 0,.j row,.d O] h k:=by
 rw[ic A.t178];have hx:=R.lt;have hy:=R.rc;unfold uj at b;obtain⟨kv,rfl,Z,nk⟩:=nd.dT;refine aB Z ?_;refine qC A ((R.am _).am _) I λa g1=>?_;obtain⟨n1,r⟩:=bH g1;have c1:=((R.am _).am _).aw g1;refine aB Tk.ca.eq_1 ?_;generalize Hh:CC.g (.h (z q178 5)) (.i (.t 35) (.g (.h (z q178 6)) (.g (.h (z q178 7)) .m)) (.g (.h (z q178 8)) (.i (.t 53) (.h (z q178 9)) .k)))=TC;have J:∀(H:Hp)(f:Fr),Pg c h H->bp H c tb l (n+1) op hd->H.ac h.a=.a 72 [.i x.bi,.i x.gl,.i x.to,.i x.at,S x.bc,kv]->H.ac (h.a+1)=.a 72 [.i 0,.i 0,.i 0,.i 0,S [],.o]->H.ac a.a=.a 118 (tk l (n+1)).ca->
  ay lo H x [.i x.bi,.i x.gl,.i x.to,.i x.at,S x.bc,kv]->cg 0 f=.a c 0->cg 4 f=.a h.a 0->cg 6 f=.a (h.a+1) 0->cg 7 f=.a a.a 0->
  cU lo c tb l op hd h k (match Aa x with
   |none=>.d
   |some p=>if p=true/\bD (tk l (n+1)) [[61]]=true then(ex op hd 0 (n+1+1)).dk λy m=>.c (aV l m 13 x.gl (tk l (n+1)).a [] [x,y]) m
    else if Hs x=true then .c (aV l (n+1) 20 x.gl x.gl [] [x]) (n+1) else .i (tk l (n+1)).a 4)->
  W T TC f H [] (bY 0 (bF (W T (.g (.h (z q178 10)) .m)) (finish T (W T) [.b 6 true 6] k))):=by
  intro H f gH cH q1 q2 q3 V f0 f4 f6 f7 b;subst Hh;have P:=gp gH;have u5:=Hp.lt q3 rfl;cases X:Aa x with
  |none=>rw[X] at b;exact b.elim
  |some p=>
   rw[X] at b;dsimp only at b;refine iR f0 f4 f6 f7 q1 q2 q3 ?_;refine ah0 A V X λL g2=>?_;obtain⟨U,g⟩:=bH g2;have c2:=cH.aw g2;have U:=ay.nf ((NF.da H).g0 g2) zl _ _ V;generalize Y:CC.g (.h (z q178 8)) (.i (.t 53) (.h (z q178 9)) .k)=UC;have J:∀(N:Hp)(f:Fr),Pg c H N->bp N c tb l (n+1) op hd->cg 0 f=.a c 0->cg 4 f=.a h.a 0->cg 6 f=.a (h.a+1) 0->cg 7 f=.a a.a 0->
    cU lo c tb l op hd h k (if Hs x=true then .c (aV l (n+1) 20 x.gl x.gl [] [x]) (n+1) else .i (tk l (n+1)).a 4)->
    W T UC f N [] (bY 0 (bF (W T (.g (.h (z q178 10)) .m)) (finish T (W T) [.b 6 true 6] k))):=by
    intro N f D c3 f0 f4 f6 f7 b;subst Y;have u:=gp D;have n3:=D.g;refine cq f0 f4 f6 f7 u q1 ?_;refine ah1 A (ay.nf ((NF.da H).gp D K) zl _ _ V) λQ G=>?_;obtain⟨n4,s⟩:=bH G;have B:=c3.aw G;cases ec:Hs x with
    |true=>
     rw[atV ec] at b;refine iR f0 f4 f6 f7 s u q1 ?_;refine gS A (B.am _) zo rfl λh5 w=>?_;obtain⟨n5,i⟩:=bH w;refine fY f0 f4 f6 f7 i s u q2 ?_;refine b _ _ (qB i s u P) (((B.am _).aw w).bj _ zo zo) (ay.of (t:=aV l (n+1) 20 x.gl x.gl [] [x]) ?_) I zo;exact vD ((Hp.du zo).trans ((i _ zm).trans (Hp.ba aa))) zl zo
      (by exact ay.nf ((((((NF.da H).gp D K).g0 G).am _).g0 w).bj _ (by refine aU i s u ?_;omega)) zl _ _ V)
    |false=>
     rw[atS qaa] at b;refine aB f0 ?_;refine Cw A B I λh5 w=>?_;obtain⟨n5,i⟩:=bH w;refine ag ?_;exact b.er (qB i s u P)
   cases p with
   |false=>
    refine aB f0 ?_;exact J _ _ g2.ka c2 zA zA zA zA b
   |true=>
    refine aB f0 ?_;refine He A c2 I (λe h3 D c3=>?_) λe h3 D c3=>?_;rw[atV ⟨rfl,e⟩] at b;obtain⟨n3,u⟩:=bw D;refine bK f0 f4 f6 f7 ?_;refine E _ (n+1+1) op hd 0 _ o0 o1 (atY 0) c3 (lT hs I e) (b.ss (fH u g P) (λv L hv=>by simp_all) λt m b Q TK G B M hm hz=>?_);obtain⟨n4,s⟩:=bw G;obtain⟨m,rfl⟩:∃q,m=q+1:=⟨m- 1,by omega⟩;obtain⟨Ez,rfl,zY,zZ⟩:=M.dT;refine nA f0 f4 f6 f7 s u g q1 q3 Tk.ca.eq_1 ?_;refine gS A (((B.am _).bj _ zo zo).am _) zo rfl λh5 w=>?_;obtain⟨n5,i⟩:=bH w;refine mz f0 f4 f6 f7 i s u g q2 ?_;refine b _ _ (Ei i s u g P) (((((B.am _).bj _ zo zo).am _).aw w).bj _ zo zo) (ay.of (t:=aV l (m+1) 13 x.gl (tk l (n+1)).a [] [x,t]) ?_) hm hz;have F:h5.ac (h.a+1)=.a 72 [.i 0,.i 0,.i 0,.i 0,S [],.o]:=by refine bK i s u g ?_;omega
    exact Tz ((Hp.du zo).trans ((i _ zm).trans (Hp.ba aa))) zl zo (ay.nf ((((((((NF.da L).gp D K).gp G K).am _).ph _ zo).am _).g0 w).bj _ F) zl _ _ U) (ay.nf ((((((NF.da Q).am _).ph _ zo).am _).g0 w).bj _ F) zo _ _ M);rw[atS qaa] at b;obtain⟨n3,u⟩:=bw D;refine aB f0 ?_;exact J _ _ (eF u g) c3 zA zA zA zA b
 by_cases d:O=true/\x.bi=25
 obtain⟨rfl,C⟩:=d;refine aS r C ?_;refine He A ((c1.am _).bj _ zo zo) I (λe L g2 c2=>?_) λe L g2 c2=>?_;rw[atV ⟨rfl,C,e⟩] at b;obtain⟨U,g⟩:=bw g2;refine aS g r ?_;refine E _ (n+1+1) op hd 0 _ o0 o1 (atY 0) c2 (lT hs I e) (b.ss (eF g r) (λv L hv=>by simp_all) λt m b Q TK G B M hm hz=>?_);obtain⟨n4,s⟩:=bw G;obtain⟨m,rfl⟩:∃q,m=q+1:=⟨m- 1,by omega⟩;obtain⟨Ez,rfl,zY,zZ⟩:=M.dT;refine aU s g r ?_;refine gS A (((B.am _).bj _ zo zo).am _) zo rfl λh5 w=>?_;obtain⟨n5,i⟩:=bH w;refine bK i s g r ?_;refine b _ _ (qB i s g r) (((((B.am _).bj _ zo zo).am _).aw w).bj _ zo zo) (ay.of (t:=aV l (m+1) 12 x.gl x.gl x.bc [t]) ?_) hm hz;have F:h5.ac (h.a+1)=.a 72 [.i 0,.i 0,.i 0,.i 0,S [],.o]:=mw i s g r;exact vD ((Hp.du zo).trans ((i _ zm).trans (Hp.ba aa))) zl zo (ay.nf ((((((NF.da Q).am _).ph _ zo).am _).g0 w).bj _ F) zo _ _ M);rw[atS qaa] at b;obtain⟨U,g⟩:=bw g2;refine ag ?_;exact J _ _ (eF g r) c2 (bV g r) (bV g r) (bV g Tk.ca.eq_1) (ay.nf (((((((NF.da h).am _).am _).g0 g1).am _).ph _ zo).gp g2 K) zl _ _ nd) aa aa aa aa b;rw[atS qaa] at b;have b8:=λf=>J ((a.am (.a 118 [.i 0,S [],.i 0,.i 0])).bj a.a (.a 118 [.i (tk l (n+1)).c,S (tk l (n+1)).b,.i (tk l (n+1)).a,.i (tk l (n+1)).d])) f (iQ r) ((c1.am _).bj _ zo zo) (au r) (au r) (au Tk.ca.eq_1)
  (ay.nf ((((((NF.da h).am _).am _).g0 g1).am _).ph _ zo) zl _ _ nd)
 cases O with
 |false=>
  refine aB r ?_;exact b8 _ aa aa aa aa b
 |true=>
  have C:¬x.bi=25:=λe=>d ⟨rfl,e⟩;refine aS r C ?_;exact b8 _ aa aa aa aa b
end
section
variable {b:Hp}{hd A:Bool}{k k1:aK->Prop}
variable {ex:Int->Bool->Int->Nat->PR Tree}
def Kz(s:aA T){lo:Nat}{g:aM}{fs cs:List AV}{r:PR Tree}(f:bp h c tb l n op hd)(v:c<lo)(C:lo<=h.a)
 (y:∀b k1,Pg c h b->bp b c tb l n op true->cU lo c tb l op true b k1 r->aE T (W T) g (fF fs (fF [] cs)) b k1)
 (o:cU lo c tb l op hd h k r):aE T (W T) ⟨199⟩ [.a c 0,.q g fs cs] h k:=by
 rw[ic s.t199];have F:=f.rc;obtain⟨⟨cap,D,q4⟩,_⟩:=id f;refine aB q4 ?_;refine y _ _ aZ (f.am _).mA ?_;cases r with
 |d=>exact o
 |i p e=>
  intro q g2;obtain⟨B,a⟩:=bw g2;refine ag ?_;exact o _ (iQ a)
 |c t m=>
  intro q row g2 c2 nd x z;obtain⟨B,a⟩:=bw g2;obtain⟨kv,rfl,w,G⟩:=nd.dT;obtain⟨⟨u,E,q5⟩,_⟩:=id c2;refine aS a q5 ?_;exact o _ _ (iQ a) ((((c2.am _).bj _ zo zo).mA).bj _ zo zo)
   (ay.nf (((((NF.da q).am _).ph _ zo).rh _ v).bj _ (el:=72) (l:=[.i 0,.i 0,.i 0,.i 0,S [],.o]) (au a)) zl _ _ nd) x z
theorem ah2(e:aA T)(w:fc l)(E:pW T c tb l ex)(z:0<=op)(B:op<=128){lo f g:Nat}{x:Tree}{row:List AV}(p:bp h c tb l (n+1) op hd)(u:n+1<l.length)(q1:h.ac f=.a 116 [.a c 0])(q5:h.ac g=.a 72 row)(nd:ay lo h x row)(q:c<lo)(C:lo<=h.a)
 (a:cU lo c tb l op hd h k (uj l ex op hd x true (n+1))):aE T (W T) ⟨222⟩ [.a f 0,.a g 0] h k:=by
 rw[ic e.t222];have G:=p.rc;obtain⟨kv,rfl,r,I⟩:=nd.dT;have y1:=Hp.lt q1 rfl;have y5:=Hp.lt q5 rfl;refine aS q1 q5 ?_;rw[<-Hi (uj l ex op hd x true (n+1))] at a;refine TH e w E z B (p.am _) u (ay.nf ((NF.da h).am _) zl _ _ nd) q (by grind [Hp.dC]) (a.Pi aZ (λv o F=>by simp_all) λt m a o row g2 c2 i s y=>?_);obtain⟨H,d⟩:=bw g2;obtain⟨K,rfl,J,D⟩:=i.dT;refine aB d ?_;exact a _ _ (iQ d) (c2.bj _ zo zo) (ay.nf ((NF.da o).bj _ (el:=72) (l:=[.i 0,.i 0,.i 0,.i 0,S [],.o]) (au d)) zl _ _ i) s y
theorem ah3(e:aA T)(r:fc l)(E:pW T c tb l ex)(w:0<=op)(x:op<=128){F:Nat}(G:F<8589934592){p:Nat}(i:bp h c tb l n op hd)(I:n<l.length)(q1:h.ac p=.a 116 [.a c 0]){lo:Nat}(B:c<lo)(K:lo<=h.a)
 (a:cU lo c tb l op hd h k ((yf l F ex op hd n).dk λy u=>uj l ex op hd y false u)):aE T (W T) ⟨223⟩ [.a p 0] h k:=by
 rw[ic e.t223];have N:=i.rc;have y1:=Hp.lt q1 rfl;have R:=i.wd q1;refine aB q1 ?_;refine TD e r E (i.am _) I w x G (a.ss aZ (λv g J=>by simp_all) λt m a g row g2 c2 nd o s=>?_);obtain⟨O,d⟩:=bw g2;obtain⟨kv,rfl,H,Q⟩:=nd.dT;obtain⟨m,rfl⟩:∃q,m=q+1:=⟨m- 1,by omega⟩;refine aS d q1 ?_;rw[<-Hi (uj l ex op hd t false (m+1))] at a;refine TH e r E w x c2 o (ay.nf (NF.da g) (kg:=lo) (by grind [Hp.dC]) _ _ nd) B zo (a.Pi (iQ d) (λv g J=>by simp_all) λt m a D row C c3 z o s=>?_);obtain⟨P,f⟩:=bw C;obtain⟨U,rfl,M,L⟩:=z.dT;refine aS f d ?_;exact a _ _ (eF f d) (c3.bj _ zo zo) (ay.nf ((NF.da D).bj _ (el:=72) (l:=[.i 0,.i 0,.i 0,.i 0,S [],.o]) (bV f d)) zl _ _ z) o s
def CH(lo c tb:Nat)(l:List Tk)(op:Int)(hd:Bool)(h:Hp)(k:aK->Prop)(r:PR (Tree×Tree×Tree)):Prop:=
 match r with
 |.c p n=>∀h' a r2 d,Pg c h h'->bp h' c tb l n op hd->ay lo h' p.1 a->ay lo h' p.2.1 r2->ay lo h' p.2.2 d->n<l.length->0<n->k (.a (.p [.j a,.j r2,.j d]) h')
 |.i p e=>∀h',Pg c h h'->k (.b (qD p e) h')
 |.d=>False
def CH.rk{lo:Nat}:rX c h k (CH lo c tb l op hd h k):=⟨λ_ _ a=>a,id⟩
def vF{lo:Nat}:ay lo h zT [.i 0,.i 0,.i 0,.i 0,S [],.o]:=by
 have:dO lo h [] .o:=by rfl
 exact ay.of (t:=zT) this
def cU.lo{lo kg:Nat}{r:PR Tree}(a:cU lo c tb l op hd h k r)(le:lo<=kg):cU kg c tb l op hd h k r:=by
 cases r with
 |d=>exact a
 |i p e=>exact a
 |c t m=>exact λf row g2 c2 nd=>a f row g2 c2 (ay.nf (NF.da _) le _ _ nd)
def PR.wy{e m o:Type}{r:PR e}{f:e->Nat->PR m}{g:m->Nat->PR o}:(r.dk f).dk g=r.dk λa n=>(f a n).dk g:=by cases r<;>rfl
theorem EA{lo x y z:Nat}{u v w g r2 m}{a d e:AO}(q1:h.ac x=.a u g)(q2:h.ac y=.a v r2)(q3:h.ac z=.a w m):NF lo h (((h.bj x a).bj y d).bj z e):=λi r f _ o=>by grind [Hp.du]
theorem ah4(r:aA T)(hs:fc l)(E:pW T c tb l ex)(o0:0<=op)(o1:op<=128){F:Nat}(hF:F<8589934592)(hc:bp h c tb l n op false)(hn:n<l.length)(hz:0<n)
 (a:CH h.a c tb l op false h k (Ks l F ex op n)):aE T (W T) ⟨201⟩ [.a c 0] h k:=by
 rw[ic r.t201];have N:=hc.lt;have hy:=hc.rc;unfold Ks at a;have X:=CH.rk (lo:=h.a) (c:=c) (tb:=tb) (l:=l) (op:=op) (hd:=false) (h:=h) (k:=k);have Z0:bQ .o=some [.o]:=rfl;generalize qE:CC.g (.f r201_12) .m=T4;have CJ:∀(H:Hp)(f:Fr)(i x z:Tree)(J r2 r3:List AV)(m:Nat),Pg c h H->bp H c tb l m op false->H.ac (h.a+1)=.a 72 J->H.ac (h.a+1+1)=.a 72 r2->H.ac (h.a+1+1+1)=.a 72 r3->
  ay h.a H i J->ay h.a H x r2->ay h.a H z r3->m<l.length->0<m->cg 2 f=.a (h.a+1) 0->cg 3 f=.a (h.a+1+1) 0->cg 4 f=.a (h.a+1+1+1) 0->
  CH h.a c tb l op false h k (.c (i,x,z) m)->W T T4 f H [] (finish T (W T) [.b 6 true 2,.b 6 true 3,.b 6 true 4] k):=by
  intro H f i x z J r2 r3 m I Y q2 q3 q4 O Z d3 M hz B f3 f4 a;subst qE;have eH:=gp I;obtain⟨v1,rfl,w1,_⟩:=O.dT;obtain⟨v2,rfl,w2,_⟩:=Z.dT;obtain⟨v3,rfl,w3,_⟩:=d3.dT;exact cq B f3 f4 q2 q3 q4 (a _ _ _ _ (iQ eH) (((Y.bj _ zo zo).bj _ zo zo).bj _ zo zo) (ay.nf (EA q2 q3 q4) zl _ _ O) (ay.nf (EA q2 q3 q4) zl _ _ Z) (ay.nf (EA q2 q3 q4) zl _ _ d3) M hz)
 generalize rq:CC.g (.h (z q201 9)) (.g (.g (.h (z q201 10)) (.i (.t 38) (.h (z q201 11)) .k)) T4)=T3;have vG:∀(H:Hp)(f:Fr)(i x:Tree)(J r2:List AV)(m:Nat),Pg c h H->bp H c tb l m op false->H.ac h.a=.a 116 [.a c 0]->H.ac (h.a+1)=.a 72 J->H.ac (h.a+1+1)=.a 72 r2->H.ac (h.a+1+1+1)=.a 72 [.i 0,.i 0,.i 0,.i 0,S [],.o]->
  ay h.a H i J->ay h.a H x r2->m<l.length->0<m->cg 1 f=.a h.a 0->cg 2 f=.a (h.a+1) 0->cg 3 f=.a (h.a+1+1) 0->cg 4 f=.a (h.a+1+1+1) 0->
  CH h.a c tb l op false h k ((mU l m).dk λ_ s=>(if bD (tk l s) [[123]]=true then .c zT s else(yf l F ex op true s).dk λy u=>uj l ex op true y false u).dk λz v=>.c (i,x,z) v)->
  W T T3 f H [] (finish T (W T) [.b 6 true 2,.b 6 true 3,.b 6 true 4] k):=by
  intro H f i x J r2 m I Y q1 q2 q3 q4 O Z M hz G B f3 f4 a;subst rq;have eH:=gp I;have v4:=Hp.lt q4 rfl;refine cC G B f3 f4 q1 ?_;refine TF r hs X a Y M I (λv D hv=>by simp_all) λR a D g2 c2=>?_;obtain⟨n2,d⟩:=bw g2;refine cq G B f3 f4 d q1 ?_;refine ke r (c2.am _) R (cY.ly (x:=[123]) (Hp.ba zm) zl zm) zm λt K=>?_;obtain⟨n3,e⟩:=bH K;have c3:=(c2.am _).aw K;have p:Pg c H t:=(eF e d);cases eb:bD (tk l (m+1)) [[123]] with
  |true=>
   rw[atV eb] at a;refine bK G B f3 f4 ?_;exact CJ _ _ i x zT _ _ _ (m+1) (I.ab p) c3 (cX e d q2) (cX e d q3) (cX e d q4) (ay.nf ((NF.da H).gp p N) zl _ _ O) (ay.nf ((NF.da H).gp p N) zl _ _ Z) vF R zo zA zA zA a
  |false=>
   rw[atS qaa] at a;refine iR G B f3 f4 e d q1 ?_;refine Kz r c3 (lo:=t.a) zo zl (λb k1 g1 c1 U=>ah3 r hs E o0 o1 hF c1 R (by rw[g1.f _ zo zo];exact cX e d q1) zo g1.g U) (X.ss a (I.ab p) (λv D hv=>by simp_all) λz v a L row C P nd tc yj=>?_);obtain⟨n4,g⟩:=bw C;obtain⟨Ez,rfl,zY,zZ⟩:=nd.dT;refine fY G B f3 f4 g e d q4 ?_;have V:L.ac (h.a+1+1+1)=.a 72 [.i 0,.i 0,.i 0,.i 0,S [],.o]:=mw g e d q4;exact CJ _ _ i x z _ _ _ v (fH g (gp p) eH) (P.bj _ zo zo) (mw g e d q2) (mw g e d q3) (Hp.dq rfl) (ay.nf ((((NF.da H).gp p N).gp C N).bj _ V) zl _ _ O) (ay.nf ((((NF.da H).gp p N).gp C N).bj _ V) zl _ _ Z)
    (ay.nf ((NF.da L).bj _ V) zo _ _ nd) tc yj zA zA zA a
 generalize pY:CC.g (.h (z q201 6)) (.g (.g (.h (z q201 7)) (.i (.t 28) (.h (z q201 8)) .k)) T3)=T2;have k9:∀(H:Hp)(f:Fr)(i:Tree)(J:List AV)(m:Nat),Pg c h H->bp H c tb l m op false->H.ac h.a=.a 116 [.a c 0]->H.ac (h.a+1)=.a 72 J->H.ac (h.a+1+1)=.a 72 [.i 0,.i 0,.i 0,.i 0,S [],.o]->H.ac (h.a+1+1+1)=.a 72 [.i 0,.i 0,.i 0,.i 0,S [],.o]->
  ay h.a H i J->m<l.length->0<m->cg 1 f=.a h.a 0->cg 2 f=.a (h.a+1) 0->cg 3 f=.a (h.a+1+1) 0->cg 4 f=.a (h.a+1+1+1) 0->cg 0 f=.a c 0->
  CH h.a c tb l op false h k ((mU l m).dk λ_ o=>(if(tk l o).c≠7 then ex op true 0 o else .c zT o).dk λx q=>
   (mU l q).dk λ_ s=>(if bD (tk l s) [[123]]=true then .c zT s else(yf l F ex op true s).dk λy u=>uj l ex op true y false u).dk λz v=>.c (i,x,z) v)->
  W T T2 f H [] (finish T (W T) [.b 6 true 2,.b 6 true 3,.b 6 true 4] k):=by
  intro H f i J m I Y q1 q2 q3 q4 O M hz G B f3 f4 f0 a;subst pY;have eH:=gp I;have v4:=Hp.lt q4 rfl;refine cC G B f3 f4 q1 ?_;refine TF r hs X a Y M I (λv D hv=>by simp_all) λR a D g2 c2=>?_;obtain⟨n2,d⟩:=bw g2;refine cq G B f3 f4 d q1 ?_;refine qC r c2 R λt K=>?_;obtain⟨n3,e⟩:=bH K;have c3:=c2.aw K;have p:Pg c H t:=(eF e d)
  by_cases Q:(tk l (m+1)).c=7
  rw[atS zo] at a;refine cq G B f3 f4 Tk.ca.eq_1 Q ?_;exact vG _ _ i zT _ _ (m+1) (I.ab p) c3 (cX e d q1) (cX e d q2) (cX e d q3) (cX e d q4) (ay.nf ((NF.da H).gp p N) zl _ _ O) vF R zo zA zA zA zA a;rw[atV Q] at a;refine mz G B f3 f4 Tk.ca.eq_1 Q e d q1 ?_;refine Kz r c3 (lo:=t.a) zo zl (λb k1 g1 c1 U=>N9 r E o0 o1 b (m+1) k1 (ah.da _) c1 R (cU.lo U g1.g)) (X.ss a (I.ab p) (λv D hv=>by simp_all) λx v a L row C P nd tc yj=>?_);obtain⟨n4,g⟩:=bw C;obtain⟨Ez,rfl,zY,zZ⟩:=nd.dT;refine fY G B f3 f4 g e d q3 ?_;have q3':L.ac (h.a+1+1)=.a 72 [.i 0,.i 0,.i 0,.i 0,S [],.o]:=mw g e d q3;exact vG _ _ i x _ _ v (fH g (gp p) eH) (P.bj _ zo zo) (mw g e d q1) (mw g e d q2) (Hp.dq rfl) (mw g e d q4) (ay.nf ((((NF.da H).gp p N).gp C N).bj _ q3') zl _ _ O)
   (ay.nf ((NF.da L).bj _ q3') zo _ _ nd) tc yj zA zA zA zA a
 refine ag ?_;refine qC r ((((hc.am _).am _).am _).am _) hn λb g1=>?_;obtain⟨n1,w⟩:=bH g1;have c1:=((((hc.am _).am _).am _).am _).aw g1
 by_cases Q:(tk l n).c=7
 rw[atS zo] at a;refine aS Tk.ca.eq_1 Q ?_;exact k9 _ _ zT _ n (iQ w) c1 (au w) (au w) (au w) (au w) vF hn hz aa aa aa aa aa a;rw[atV Q] at a;refine aU Tk.ca.eq_1 Q w ?_;rw[PR.wy] at a;refine Kz r c1 (lo:=b.a) zo zl (λD k1 g2 c2 U=>N9 r E o0 o1 D n k1 (ah.da _) c2 hn (cU.lo U g2.g)) (X.ss a (iQ w) (λv D hv=>by simp_all) λx m a D row g2 c2 nd M Bd=>?_);obtain⟨n2,d⟩:=bw g2;obtain⟨zX,rfl,wW,Ob⟩:=nd.dT;refine aS d w ?_;refine ke r (((c2.am _).bj _ zo zo).am _) M (cY.ly (x:=[123]) (Hp.ba zm) zl zm) zm λt K=>?_;obtain⟨n3,e⟩:=bH K;have c3:=(((c2.am _).bj _ zo zo).am _).aw K;have p1:t.ac h.a=.a 116 [.a c 0]:=cX e d w;have p2:t.ac (h.a+1)=.a 72 [.i 0,.i 0,.i 0,.i 0,S [],.o]:=cX e d w;have p3:t.ac (h.a+1+1)=.a 72 [.i 0,.i 0,.i 0,.i 0,S [],.o]:=cX e d w;have p4:t.ac (h.a+1+1+1)=.a 72 [.i 0,.i 0,.i 0,.i 0,S [],.o]:=cX e d w;have p5:t.ac D.a=.a 72 [.i x.bi,.i x.gl,.i x.to,.i x.at,S x.bc,zX]:=au e;have o8:ay b.a t x [.i x.bi,.i x.gl,.i x.to,.i x.at,S x.bc,zX]:=ay.nf (((((NF.da D).am _).ph _ zo).am _).g0 K) zl _ _ nd;have p:Pg c h t:=(fH e d w);cases eb:bD (tk l m) [[123]] with
 |true=>
  rw[atV eb] at a;exact cC p1 p2 p3 p4 p5 (a _ _ _ _ (iQ (gp p)) (((c3.bj _ zo zo).bj _ zo zo).bj _ zo zo) vF (ay.nf (EA p2 p3 p4) zo _ _ o8) vF M Bd)
 |false=>
  rw[atS qaa] at a;obtain⟨m,rfl⟩:∃q,m=q+1:=⟨m- 1,by omega⟩;rw[PR.wy] at a;refine aB p1 ?_;refine Kz r c3 (lo:=b.a) zo zo (λL k1 C P U=>ah2 r hs E o0 o1 P M (by rw[C.f _ zo zo];omega) (by rw[C.f _ zo zo];omega) (ay.nf ((NF.da t).gp C zo) zl _ _ o8) zo qaK U)
   (X.ss a p (λv D hv=>by simp_all) λi v a L row C P nd tc yj=>?_)
  obtain⟨n4,g⟩:=bw C;obtain⟨Ez,rfl,zY,zZ⟩:=nd.dT;have p2':L.ac (h.a+1)=.a 72 [.i 0,.i 0,.i 0,.i 0,S [],.o]:=bV g p2;refine aB p2' ?_;exact k9 _ _ i _ v (eF g (gp p)) (P.bj _ zo zo) (bV g p1) (Hp.dq rfl) (bV g p3) (bV g p4) (ay.nf ((NF.da L).bj _ p2') zo _ _ nd) tc yj aa aa aa aa aa a
end
section
variable {b:Int}{hd:Bool}{k k1:aK->Prop}
variable {ex:Int->Bool->Int->Nat->PR Tree}{st:Int->Nat->PR Tree}
def CK(T:aM->Option CF)(c tb:Nat)(l:List Tk)(st:Int->Nat->PR Tree):Prop:=
 ∀(h:Hp)(n:Nat)(op:Int)(k:aK->Prop),0<=op->op<=128->bp h c tb l n op false->n<l.length->lS c tb l op false h k (st op n)->aE T (W T) ⟨153⟩ [.a c 0] h k
def cU.Fd{lo i:Nat}{a:Hp}{k1:aK->Prop}{r:PR Tree}(f:cU lo c tb l op hd h k r)(g:Pg c h a)(o:∀v e,k (.b v e)->k1 (.b v e))
 (j:∀t m,cU lo c tb l op hd h k (.c t m)->∀e row,Pg c a e->bp e c tb l m b d->ay i e t row->m<l.length->0<m->k1 (.a (.j row) e)):cU i c tb l b d a k1 r:=by
 rw[<-Hi r] at f;exact f.Pi g o j
def KA(e:aA T)(y:fc l)(z:CK T c tb l st)(H:0<=op)(I:op<=128){F:Nat}(B:F<8589934592)(j:bp h c tb l n op false)(x:n<l.length)
 (o:lS c tb l op false h k (vE l F st op n)):aE T (W T) ⟨125⟩ [.a c 0] h k:=by
 rw[ic e.t125];have K:=j.lt;have L:=j.rc;unfold vE at o;refine ag ?_;refine qC e (j.am _) x λa g1=>?_;obtain⟨N,g⟩:=bH g1;have c1:=(j.am _).aw g1;refine aB Tk.ca.eq_1 ?_;refine Kq e y c1 x H I B (λA i m E g2 c2 w u=>z i m _ E zo zo c2 w u) (λA=>aaz e y) (o.FS (iQ g) (λv i C=>by refine ag ?_;exact C) λts m M o i kv g2 c2 w D f G=>?_);obtain⟨O,p⟩:=bw g2;obtain⟨m,rfl⟩:∃q,m=q+1:=⟨m- 1,by omega⟩;refine ag ?_;refine gS e c2 zo f λJ s=>?_;obtain⟨P,r⟩:=bH s;refine bK r p g f ?_;exact o _ _ (fH r p g) ((c2.aw s).bj _ zo zo) (ay.of (t:=aV l (m+1) 10 (tk l n).a (tk l n).a [] ts) (dO.nf (((NF.da i).g0 s).bj _ (el:=72) (l:=[.i 0,.i 0,.i 0,.i 0,S [],.o]) (cX r p g)) zo _ _ G)) w D
def aaJ(f:aA T)(w:fc l){q:Int}(s:bp h c tb l n op hd)(p:n+1<l.length)
 (m:lS c tb l op hd h k (Ht l q n)):aE T (W T) ⟨174⟩ [.a c 0,.i q] h k:=by
 rw[ic f.t174];have B:=s.lt;have C:=s.rc;unfold Ht at m;refine ag ?_;refine vB f (s.am _) zo λa g1 c1=>?_;obtain⟨D,o⟩:=bw g1;refine aB Tk.ca.eq_1 ?_;refine qC f ((c1.am _).bj _ zo zo) p λz g2=>?_;obtain⟨E,g⟩:=bH g2;have c2:=((c1.am _).bj _ zo zo).aw g2
 by_cases e:(tk l (n+1)).c=1
 rw[atS qag] at m;refine aS Tk.ca.eq_1 e ?_;refine vB f c2 p λA u c3=>?_;obtain⟨F,r⟩:=bw u;have x:=wT w p e zd;refine aU Tk.ca.eq_1 r g ?_;refine gS f ((c3.am _).bj _ zo zo) zo rfl λv j=>?_;obtain⟨y,i⟩:=bH j;refine bK i r g o ?_;exact m _ _ (qB i r g o) ((((c3.am _).bj _ zo zo).aw j).bj _ zo zo) (ay.of (t:=aV l (n+1+1) q (tk l n).a (tk l (n+1)).a (tk l (n+1)).b []) rfl) x zo;rw[atV e] at m;refine aU Tk.ca.eq_1 e g ?_;refine gS f c2 zo rfl λv j=>?_;obtain⟨y,i⟩:=bH j;refine aU i g o ?_;exact m _ _ (fH i g o) ((c2.aw j).bj _ zo zo) (ay.of (t:=aV l (n+1) q (tk l n).a (tk l n).a [] []) rfl) p zo
abbrev aEs:List AV:=[.i 0,.i 0,.i 0,.i 0,S [],.o]
def ah5(u:aA T)(N:fc l)(E:pW T c tb l ex)(o0:0<=op)(o1:op<=128)(V:bp h c tb l n op false)(hn:n<l.length)
 (i:lS c tb l op false h k (Kt l ex op n)):aE T (W T) ⟨173⟩ [.a c 0] h k:=by
 rw[ic u.t173];have X:=V.lt;have hy:=V.rc;unfold Kt at i;refine ag ?_;refine Hx u N cU.rk i (V.am _) hn aZ (λv g A=>by refine ag ?_;exact A) λee cV i a g1 c1=>?_;obtain⟨n1,Q⟩:=bw g1;refine aB Tk.ca.eq_1 ?_;refine Hy u N cU.rk zd i c1 cV (iQ Q) (λv g A=>by refine ag ?_;exact A) λek Z i g g2 c2=>?_;obtain⟨n2,e2⟩:=bw g2;generalize rq:CC.g (.h (z q173 8)) .m=T3;have vG:∀(H:Hp)(f:Fr)(ty e:Tree)(D r6:List AV)(m:Nat),Pg c h H->bp H c tb l m op false->H.ac h.a=.a 72 aEs->H.ac g.a=.a 118 (tk l (n+1)).ca->H.ac (g.a+1)=.a 72 D->H.ac (g.a+1+1)=.a 72 r6->
  ay h.a H ty D->ay h.a H e r6->m<l.length->0<m->cg 0 f=.a c 0->cg 2 f=.a h.a 0->cg 3 f=.i (tk l n).a->cg 4 f=.a g.a 0->cg 5 f=.a (g.a+1) 0->cg 6 f=.a (g.a+1+1) 0->
  cU h.a c tb l op false h k (.c (aV l m 11 (tk l n).a (tk l (n+1)).a (tk l (n+1)).b [ty,e]) m)->W T T3 f H [] (finish T (W T) [.b 6 true 2] k):=by
  intro H f ty e D r6 m w s q1 q4 q5 q6 F d6 I Y f0 U f3 f4 f5 f6 i;subst rq;have S:=gp w;have uH:=w.g;have u1:=s.lt;have u2:=s.rc;obtain⟨v5,rfl,w5,_⟩:=F.dT;obtain⟨v6,rfl,w6,_⟩:=d6.dT;have u3:=Hp.lt q1 rfl;have u4:=Hp.lt q4 rfl;have u5:=Hp.lt q5 rfl;have u6:=Hp.lt q6 rfl;obtain⟨m,rfl⟩:∃q,m=q+1:=⟨m- 1,by omega⟩;refine wM f0 U f3 f4 f5 f6 q1 q4 q5 q6 Tk.ca.eq_1 ?_;refine gS u (s.am _) zo rfl λh7 M=>?_;obtain⟨n7,R⟩:=bH M;have B:h7.ac h.a=.a 72 aEs:=bV R q1;refine aS U B ?_;refine i _ _ (eF R S) (((s.am _).aw M).bj _ zo zo) (ay.of (t:=aV l (m+1) 11 (tk l n).a (tk l (n+1)).a (tk l (n+1)).b [ty,e]) ?_) I Y;refine Tz ((Hp.du zo).trans ((R _ qaf).trans (Hp.ba aa))) zl zo ?_ ?_;simp only[dZ,auo];exact ay.nf ((((NF.da H).am _).g0 M).bj _ B) zl _ _ F;simp only[dZ,auo];exact ay.nf ((((NF.da H).am _).g0 M).bj _ B) zl _ _ d6
 generalize pY:CC.g (.g (.h (z q173 6)) (.i (.t 19) (.h (z q173 7)) .k)) T3=T2;have k9:∀(H:Hp)(f:Fr)(ty:Tree)(D:List AV)(m:Nat),Pg c h H->bp H c tb l m op false->H.ac h.a=.a 72 aEs->H.ac g.a=.a 118 (tk l (n+1)).ca->H.ac (g.a+1)=.a 72 D->H.ac (g.a+1+1)=.a 72 aEs->
  ay h.a H ty D->m<l.length->0<m->cg 0 f=.a c 0->cg 2 f=.a h.a 0->cg 3 f=.i (tk l n).a->cg 4 f=.a g.a 0->cg 5 f=.a (g.a+1) 0->cg 6 f=.a (g.a+1+1) 0->
  cU h.a c tb l op false h k ((if bD (tk l m) [[61]]=true then ex op false 0 (m+1) else .c zT m).dk λe r=>.c (aV l r 11 (tk l n).a (tk l (n+1)).a (tk l (n+1)).b [ty,e]) r)->W T T2 f H [] (finish T (W T) [.b 6 true 2] k):=by
  intro H f ty D m w s q1 q4 q5 q6 F I Y f0 U f3 f4 f5 f6 i;subst pY;have S:=gp w;have uH:=w.g;have u1:=s.lt;have u2:=s.rc;obtain⟨v5,rfl,w5,_⟩:=F.dT;have u3:=Hp.lt q1 rfl;have u4:=Hp.lt q4 rfl;have u5:=Hp.lt q5 rfl;have u6:=Hp.lt q6 rfl;refine aB f0 ?_;refine He u s I (λe y p c3=>?_) λe y p c3=>?_;rw[atV e] at i;obtain⟨n3,j⟩:=bw p;refine aB f0 ?_;refine E _ (m+1) op false 0 _ o0 o1 (atY 0) c3 (lT N I e) (i.ss (w.ab p) (λv g A=>by refine ag ?_;exact A) λt m2 i G TK L O K tc yj=>?_);obtain⟨n4,o⟩:=bw L;obtain⟨Ez,rfl,zY,zZ⟩:=K.dT;have C:G.ac (g.a+1+1)=.a 72 aEs:=cX o j q6;refine aS f6 C ?_;exact vG _ _ ty t _ _ m2 (fH o j S) (O.bj _ zo zo) (cX o j q1) (cX o j q4) (cX o j q5) (Hp.dq rfl) (ay.nf ((((NF.da H).gp p X).gp L X).bj _ C) zl _ _ F) (ay.nf ((NF.da G).bj _ C) zo _ _ K) tc yj zA zA zA zA zA zA i;rw[atS qag] at i;obtain⟨n3,j⟩:=bw p;refine aB f0 ?_;exact vG _ _ ty zT _ _ m (w.ab p) c3 (bV j q1) (bV j q4) (bV j q5) (bV j q6) (ay.nf ((NF.da H).gp p X) zl _ _ F) vF I Y zA zA zA zA zA zA i
 refine aB Tk.ca.eq_1 ?_;refine ke u (((((c2.am _).bj _ zo zo).am _).am _).am _) Z (cY.ly (x:=[61]) (Hp.ba zm) zl zm) zm λy p=>?_;obtain⟨n3,j⟩:=bH p;have c3:=(((((c2.am _).bj _ zo zo).am _).am _).am _).aw p;have p1:y.ac h.a=.a 72 aEs:=cX j e2 Q;have p4:y.ac g.a=.a 118 (tk l (n+1)).ca:=bV j Tk.ca.eq_1;have p5:y.ac (g.a+1)=.a 72 aEs:=au j;have p6:y.ac (g.a+1+1)=.a 72 aEs:=au j;have P:Pg c h y:=(fH j e2 Q);cases e:bD (tk l (n+1+1)) [[61]] with
 |true=>
  rw[atV e] at i;refine ag ?_;exact k9 _ _ zT _ _ P c3 p1 p4 p5 p6 vF Z zo aa aa aa aa aa aa i
 |false=>
  rw[atS qag] at i;refine ag ?_;refine Tp u N c3 Z (i.ss P (λv g A=>by refine ag ?_;exact A) λt m i G TK L O K tc yj=>?_);obtain⟨n4,o⟩:=bw L;obtain⟨Ez,rfl,zY,zZ⟩:=K.dT;have J:G.ac (g.a+1)=.a 72 aEs:=bV o p5;refine aB J ?_;exact k9 _ _ t _ m (eF o (gp P)) (O.bj _ zo zo) (bV o p1) (bV o p4) (Hp.dq rfl) (bV o p6) (ay.nf ((NF.da G).bj _ J) zo _ _ K) tc yj aa aa aa aa aa aa i
end
section
variable {d:Int}{hd i:Bool}{k k1:aK->Prop}
variable {ex:Int->Bool->Int->Nat->PR Tree}{st:Int->Nat->PR Tree}
def ah6{lo b cap r f}{ex:Bool}{t u v:Tree}(e:h.ac b=.b 72 6 r 0 f)(j:3<=r)(g:lo<=b)(n0:ay lo h t (f 0))(m:ay lo h u (f 1))(o:ay lo h v (f 2)):dO lo h [t,u,v] (.c b 0 6 3 cap ex):=by simp only[dO,eR,axS];exact⟨b,cap,ex,r,f,rfl,e,j,g,n0,m,o⟩
def aaK{lo b cap r f}{ex:Bool}{t u v w:Tree}(e:h.ac b=.b 72 6 r 0 f)(j:4<=r)(g:lo<=b)(n0:ay lo h t (f 0))(m:ay lo h u (f 1))(o:ay lo h v (f 2))(p:ay lo h w (f 3)):dO lo h [t,u,v,w] (.c b 0 6 4 cap ex):=by simp only[dO,eR,axS];exact⟨b,cap,ex,r,f,rfl,e,j,g,n0,m,o,p⟩
def aaL(r:aA T)(G:fc l)(E:pW T c tb l ex)(R:CK T c tb l st)(M:0<=op)(N:op<=128){F:Nat}(hF:F<8589934592):∀(g n:Nat)(h:Hp)(k:aK->Prop),bp h c tb l n op false->n<l.length->
 lS c tb l op false h k (Hu l F ex st op g n)->aE T (W T) ⟨171⟩ [.a c 0] h k
 |0,_,_,_,_,_,j=>j.elim
 |g+1,n,h,k,hc,hn,j=>by
  rw[ic r.t171];have hx:=hc.lt;have hy:=hc.rc;unfold Hu at j;refine ag ?_;refine Hx r G cU.rk j (hc.am _) hn aZ (λv s u=>by refine ag ?_;exact u) λee cV j a g1 c1=>?_;obtain⟨n1,K⟩:=bw g1;refine aB Tk.ca.eq_1 ?_;refine Kz r c1 (lo:=a.a) zo zl (λs k1 g2 c2 oh=>N9 r E M N s (n+1) k1 (ah.da _) c2 cV (cU.lo oh g2.g)) (cU.rk.ss j (iQ K) (λv s u=>by refine ag ?_;exact u) λx m j s row g2 c2 cZ hm hz=>?_);obtain⟨n2,Z⟩:=bw g2;obtain⟨zX,rfl,wW,Ob⟩:=cZ.dT;refine ag ?_;refine KA r G R M N hF ((c2.am _).bj _ zo zo) hm (cU.rk.ss j (eF Z K) (λv s u=>by refine ag ?_;exact u) λb m3 j o row g3 c3 o8 yl Oc=>?_);obtain⟨n3,e3⟩:=bw g3;obtain⟨zW,rfl,Hj,Ew⟩:=o8.dT;generalize TN:CC.g (.h (z q171 9)) .m=T9;have Y:Pg c h o:=(fH e3 Z K);have P:∀(H:Hp)(f:Fr)(e:Tree)(r6:List AV)(m:Nat),Pg c o H->bp H c tb l m op false->H.ac o.a=.a 72 [.i b.bi,.i b.gl,.i b.to,.i b.at,S b.bc,zW]->H.ac (o.a+1)=.a 72 r6->
   ay h.a H e r6->m<l.length->0<m->cg 0 f=.a c 0->cg 2 f=.a h.a 0->cg 3 f=.i (tk l n).a->cg 4 f=.a s.a 0->cg 5 f=.a o.a 0->cg 6 f=.a (o.a+1) 0->
   cU h.a c tb l op false h k (.c (aV l m 14 (tk l n).a (tk l n).a [] [x,b,e]) m)->W T T9 f H [] (finish T (W T) [.b 6 true 2] k):=by
   intro H f e r6 m L J q5 q6 d6 hm hz f0 f2 f3 f4 f5 f6 j;subst TN;have eH:=gp L;have uH:=L.g;have u1:=J.lt;have u2:=J.rc;obtain⟨v6,rfl,w6,_⟩:=d6.dT;have u5:=Hp.lt q5 rfl;have u6:=Hp.lt q6 rfl;obtain⟨m,rfl⟩:∃q,m=q+1:=⟨m- 1,by omega⟩;have q1:H.ac h.a=.a 72 aEs:=mw eH e3 Z K;have q4:H.ac s.a=.a 72 [.i x.bi,.i x.gl,.i x.to,.i x.at,S x.bc,zX]:=bV eH e3;refine nA f0 f2 f3 f4 f5 f6 q1 q4 q5 q6 ?_;refine gS r (J.am _) zo rfl λh7 C=>?_;obtain⟨n7,e7⟩:=bH C;have w:h7.ac h.a=.a 72 aEs:=bV e7 q1;refine aS f2 w ?_;refine j _ _ (fH e7 eH (gp Y)) (((J.am _).aw C).bj _ zo zo) (ay.of (t:=aV l (m+1) 14 (tk l n).a (tk l n).a [] [x,b,e]) ?_) hm hz;refine ah6 ((Hp.du zo).trans ((e7 _ qaf).trans (Hp.ba aa))) zl zo ?_ ?_ ?_;simp only[dZ,auo];exact ay.nf (((((((((NF.da s).am _).ph _ zo).gp g3 zo).gp L zo).am _).g0 C).bj _ w)) zo _ _ cZ;simp only[dZ,auo];exact ay.nf ((((((NF.da o).gp L qab).am _).g0 C).bj _ w)) qab _ _ o8;simp only[dZ,auo];exact ay.nf ((((NF.da H).am _).g0 C).bj _ w) zl _ _ d6
  refine ag ?_;refine He r (((c3.am _).bj _ zo zo).am _) yl (λe h4 g4 I=>?_) λe h4 g4 I=>?_;rw[atV e] at j;obtain⟨n4,y⟩:=bw g4;have tc:=lT G yl e;refine ag ?_;refine ke r (I.am _) tc (cY.ly (x:=[105,102]) (Hp.ba zm) zl zm) zm λh5 g5=>?_;obtain⟨n5,e5⟩:=bH g5;have c5:=(I.am _).aw g5;have O:Pg c o h5:=(eF e5 y);have p5:h5.ac o.a=.a 72 [.i b.bi,.i b.gl,.i b.to,.i b.at,S b.bc,zW]:=bV e5 y;have p6:h5.ac (o.a+1)=.a 72 aEs:=bV e5 y;cases ei:bD (tk l (m3+1)) [[105,102]] with
  |true=>
   rw[atV ei] at j;refine ag ?_;refine aaL r G E R M N hF g (m3+1) h5 _ c5 tc (j.ss (Y.ab O) (λv s u=>by refine ag ?_;exact u) λt m j D V g6 c6 B U Q=>?_);obtain⟨n6,A⟩:=bw g6;obtain⟨kv6,rfl,X,nk6⟩:=B.dT;have p:D.ac (o.a+1)=.a 72 aEs:=bV A p6;refine aB p ?_;exact P _ _ t _ m (eF A (gp O)) (c6.bj _ zo zo) (bV A p5) (Hp.dq rfl) (ay.nf ((NF.da D).bj _ p) zo _ _ B) U Q aa aa aa aa aa aa j
  |false=>
   rw[atS (by simp[ei])] at j;refine ag ?_;refine KA r G R M N hF c5 tc (j.ss (Y.ab O) (λv s u=>by refine ag ?_;exact u) λt m j D V g6 c6 B U Q=>?_);obtain⟨n6,A⟩:=bw g6;obtain⟨kv6,rfl,X,nk6⟩:=B.dT;have p:D.ac (o.a+1)=.a 72 aEs:=bV A p6;refine aB p ?_;exact P _ _ t _ m (eF A (gp O)) (c6.bj _ zo zo) (bV A p5) (Hp.dq rfl) (ay.nf ((NF.da D).bj _ p) zo _ _ B) U Q aa aa aa aa aa aa j
  rw[atS qag] at j;obtain⟨n4,y⟩:=bw g4;refine ag ?_;exact P _ _ zT _ m3 (iQ y) I (au y) (au y) vF yl Oc aa aa aa aa aa aa j
end
section
variable {hd o:Bool}{k k1:aK->Prop}
variable {ex:Int->Bool->Int->Nat->PR Tree}{st:Int->Nat->PR Tree}
def rX.ah9{y:Type}{H:PR y->Prop}(u:rX c h k H){q:Nat}{r:PR (Tree×Tree×Tree)}{f:Tree×Tree×Tree->Nat->PR y}(s:H (r.dk f))(g:Pg c h a)(A:∀v b,k (.b v b)->k1 (.b v b))
 (z:∀p m,H (f p m)->∀b w r2 x,Pg c a b->bp b c tb l m j o->ay q b p.1 w->ay q b p.2.1 r2->ay q b p.2.2 x->m<l.length->0<m->k1 (.a (.p [.j w,.j r2,.j x]) b)):CH q c tb l j o a k1 r:=by
 cases r with
 |d=>exact u.2 s
 |i p e=>exact λb g2=>A _ _ (u.1 _ _ s b (g.ab g2))
 |c t m=>exact z t m s
def aaM(y:aA T)(Q:fc l)(E:pW T c tb l ex)(S1:CK T c tb l st)(o0:0<=op)(o1:op<=128){F:Nat}(hF:F<8589934592)(P:bp h c tb l n op false)(hn:n<l.length)
 (d:lS c tb l op false h k (Hv l F ex st op n)):aE T (W T) ⟨172⟩ [.a c 0] h k:=by
 rw[ic y.t172];have R:=P.lt;have hy:=P.rc;unfold Hv at d;refine ag ?_;refine Hx y Q cU.rk d (P.am _) hn aZ (λv u I=>by refine ag ?_;exact I) λee L d a g1 c1=>?_;obtain⟨n1,e1⟩:=bw g1;generalize TN:CC.g (.h (z q172 5)) (.g (.h (z q172 6)) .m)=T9;have X:∀(H:Hp)(f:Fr)(p:Tree×Tree×Tree)(S U V:List AV)(m:Nat),Pg c h H->bp H c tb l m op false->a.a+2<H.a->H.ac h.a=.a 72 aEs->H.ac a.a=.a 72 S->H.ac (a.a+1)=.a 72 U->H.ac (a.a+1+1)=.a 72 V->
  ay h.a H p.1 S->ay h.a H p.2.1 U->ay h.a H p.2.2 V->m<l.length->0<m->cg 0 f=.a c 0->cg 2 f=.a h.a 0->cg 3 f=.i (tk l n).a->cg 4 f=.a a.a 0->cg 5 f=.a (a.a+1) 0->cg 6 f=.a (a.a+1+1) 0->
  cU h.a c tb l op false h k ((vE l F st op m).dk λb q=>.c (aV l q 15 (tk l n).a (tk l n).a [] [p.1,p.2.1,p.2.2,b]) q)->W T T9 f H [] (finish T (W T) [.b 6 true 2] k):=by
  intro H f p S U V m O K hH q1 q4 q5 q6 d4 d5 d6 G J f0 N f3 f4 f5 f6 d;subst TN;have eH:=gp O;have uH:=O.g;have u1:=K.lt;have u2:=K.rc;obtain⟨v4,rfl,w4,_⟩:=d4.dT;obtain⟨v5,rfl,w5,_⟩:=d5.dT;obtain⟨v6,rfl,w6,_⟩:=d6.dT;refine cq f0 N f3 f4 f5 f6 ?_;refine KA y Q S1 o0 o1 hF K G (d.ss O (λv u I=>by refine ag ?_;exact I) λb m d D ah' A c3 o8 G J=>?_);obtain⟨n3,g⟩:=bw A;obtain⟨zW,rfl,Hj,Ew⟩:=o8.dT;obtain⟨m,rfl⟩:∃q,m=q+1:=⟨m- 1,by omega⟩;refine wM f0 N f3 f4 f5 f6 q1 q4 q5 q6 g ?_;refine gS y (((c3.am _).bj _ zo zo).am _) zo rfl λh7 B=>?_;obtain⟨n7,M⟩:=bH B;have e:h7.ac h.a=.a 72 aEs:=cX M g q1;refine aS N e ?_;refine d _ _ (fH M g eH) (((((c3.am _).bj _ zo zo).am _).aw B).bj _ zo zo) (ay.of (t:=aV l (m+1) 15 (tk l n).a (tk l n).a [] [p.1,p.2.1,p.2.2,b]) ?_) G J;refine aaK ((Hp.du zo).trans ((M _ qab).trans (Hp.ba aa))) zl zo ?_ ?_ ?_ ?_;simp only[dZ,auo];exact ay.nf (((((((NF.da H).gp A R).am _).ph _ zo).am _).g0 B).bj _ e) zl _ _ d4;simp only[dZ,auo];exact ay.nf (((((((NF.da H).gp A R).am _).ph _ zo).am _).g0 B).bj _ e) zl _ _ d5;simp only[dZ,auo];exact ay.nf (((((((NF.da H).gp A R).am _).ph _ zo).am _).g0 B).bj _ e) zl _ _ d6;simp only[dZ,auo];exact ay.nf ((((((NF.da D).am _).ph _ zo).am _).g0 B).bj _ e) zo _ _ o8
 refine aB Tk.ca.eq_1 ?_;refine ke y ((((c1.am _).am _).am _).am _) L (cY.ly (x:=[123]) (Hp.ba zm) zl zm) zm λu g2=>?_;obtain⟨n2,C⟩:=bH g2;have c2:=((((c1.am _).am _).am _).am _).aw g2;have p1:u.ac h.a=.a 72 aEs:=bV C e1;have p4:u.ac a.a=.a 72 aEs:=au C;have p5:u.ac (a.a+1)=.a 72 aEs:=au C;have p6:u.ac (a.a+1+1)=.a 72 aEs:=au C;have w:Pg c h u:=(eF C e1);cases eb:bD (tk l (n+1)) [[123]] with
 |true=>
  rw[atV eb] at d;refine ag ?_;exact X _ _ (zT,zT,zT) _ _ _ _ w c2 zo p1 p4 p5 p6 vF vF vF L zo aa aa aa aa aa aa d
 |false=>
  rw[atS (by simp[eb])] at d;refine ag ?_;refine ah4 y Q E o0 o1 hF c2 L zo (cU.rk.ah9 d w (λv u I=>by refine ag ?_;exact I) λp m d D r1 r2 r3 A c3 Y Z d3 G J=>?_);obtain⟨n3,g⟩:=bw A;obtain⟨v4,rfl,w4,_⟩:=Y.dT;obtain⟨v5,rfl,w5,_⟩:=Z.dT;obtain⟨v6,rfl,w6,_⟩:=d3.dT;have i:D.ac a.a=.a 72 aEs:=bV g p4;have r:D.ac (a.a+1)=.a 72 aEs:=bV g p5;have s:D.ac (a.a+1+1)=.a 72 aEs:=bV g p6;refine aU i r s ?_;exact X _ _ p _ _ _ m (eF g (gp w)) (((c3.bj _ zo zo).bj _ zo zo).bj _ zo zo) qaq (bV g p1) aa aa aa (ay.nf (EA i r s) zo _ _ Y) (ay.nf (EA i r s) zo _ _ Z) (ay.nf (EA i r s) zo _ _ d3) G J aa aa aa aa aa aa d
end
section
variable {b:Int}{hd:Bool}{k k1:aK->Prop}
variable {ex:Int->Bool->Int->Nat->PR Tree}{st:Int->Nat->PR Tree}
def aia(o:aA T)(L:fc l)(E:pW T c tb l ex)(S1:CK T c tb l st)(o0:0<=op)(o1:op<=128){F:Nat}(hF:F<8589934592)(hc:bp h c tb l n op false)(A:n<l.length)
 (g:lS c tb l op false h k (Ku l F ex st op n)):aE T (W T) ⟨153⟩ [.a c 0] h k:=by
 rw[ic o.t153];have hx:=hc.lt;have hy:=hc.rc;unfold Ku at g;refine ag ?_;refine qC o (hc.am _) A λa g1=>?_;obtain⟨n1,e1⟩:=bH g1;have c1:=(hc.am _).aw g1;have b8:∀(H M:Hp)(f:Fr)(t:Tree)(row:List AV)(m:Nat),Pg c h H->Pg c H M->bp M c tb l m op false->H.ac h.a=.a 72 aEs->ay H.a M t row->m<l.length->0<m->cg 2 f=.a h.a 0->cU h.a c tb l op false h k (.c t m)->
  ∃kv,row=[.i t.bi,.i t.gl,.i t.to,.i t.at,S t.bc,kv]/\M.ac h.a=.a 72 aEs/\k (.a (.j row) (M.bj h.a (.a 72 row))):=by
  intro H M f t row m g1 g2 c4 q nd hm hz f2 g;obtain⟨kv,rfl,hkv,nk⟩:=nd.dT;have e1:=gp g1;have n1:=g1.g;have e2:=gp g2;have n2:=g2.g;have ao:=Hp.lt q rfl;have q':M.ac h.a=.a 72 aEs:=bV e2 q;exact⟨kv,rfl,q',g _ _ (eF e2 e1) (c4.bj _ zo zo) (ay.nf ((NF.da M).bj _ q') zo _ _ nd) hm hz⟩
 have htk:∀{H:Hp}{f:Fr},True:=λ{_ _}=>trivial;refine aB Tk.ca.eq_1 ?_;refine ke o (((c1.am _).bj _ zo zo).am _) A (cY.ly (x:=[123]) (Hp.ba zm) zl zm) zm λK g2=>?_;obtain⟨n2,e2⟩:=bH g2;have c2:=(((c1.am _).bj _ zo zo).am _).aw g2;have V:K.ac h.a=.a 72 aEs:=bV e2 e1;have p32:K.ac a.a=.a 118 (tk l n).ca:=cX e2 e1 Tk.ca.eq_1;have gg2:Pg c h K:=(eF e2 e1);cases e:bD (tk l n) [[123]] with
 |true=>
  rw[atV e] at g;refine ag ?_;refine KA o L S1 o0 o1 hF c2 A (g.Fd gg2 (λv K w=>by refine ag ?_;exact w) λt m g G N y c9 j Q R=>?_);obtain⟨CL,rfl,q9,g⟩:=b8 _ _ (fO 2 (.a h.a 0) (nQ [])) t N m gg2 y c9 V j Q R aa g;have y9:=Hp.lt q9 rfl;refine aB q9 ?_;exact g
 |false=>
 rw[atS qag] at g;clear e;refine ag ?_;refine ke o ((c2).am _) A (cY.ly (x:=[105,102]) (Hp.ba zm) zl zm) zm λh3 g3=>?_;obtain⟨n3,e3⟩:=bH g3;have c3:=((c2).am _).aw g3;have X:h3.ac h.a=.a 72 aEs:=cX e3 V p32;have p33:h3.ac a.a=.a 118 (tk l n).ca:=mw e3 V p32 Tk.ca.eq_1;have dL:Pg c h h3:=(eF e3 (gp gg2));cases e:bD (tk l n) [[105,102]] with
 |true=>
  rw[atV e] at g;refine ag ?_;refine aaL o L E S1 o0 o1 hF F n _ _ c3 A (g.Fd dL (λv K w=>by refine ag ?_;exact w) λt m g G N y c9 j Q R=>?_);obtain⟨CL,rfl,q9,g⟩:=b8 _ _ (fO 2 (.a h.a 0) (nQ [])) t N m dL y c9 X j Q R aa g;have y9:=Hp.lt q9 rfl;refine aB q9 ?_;exact g
 |false=>
 rw[atS qag] at g;clear e;refine ag ?_;clear V p32 e3;refine ke o ((c3).am _) A (cY.ly (x:=[102,111,114]) (Hp.ba zm) zl zm) zm λM g4=>?_;obtain⟨n4,e4⟩:=bH g4;have c4:=((c3).am _).aw g4;have Y:M.ac h.a=.a 72 aEs:=cX e4 X p33;have p34:M.ac a.a=.a 118 (tk l n).ca:=mw e4 X p33 Tk.ca.eq_1;have uh:Pg c h M:=(eF e4 (gp dL));cases e:bD (tk l n) [[102,111,114]] with
 |true=>
  rw[atV e] at g;refine ag ?_;refine aaM o L E S1 o0 o1 hF c4 A (g.Fd uh (λv K w=>by refine ag ?_;exact w) λt m g G N y c9 j Q R=>?_);obtain⟨CL,rfl,q9,g⟩:=b8 _ _ (fO 2 (.a h.a 0) (nQ [])) t N m uh y c9 Y j Q R aa g;have y9:=Hp.lt q9 rfl;refine aB q9 ?_;exact g
 |false=>
 rw[atS qag] at g;clear e;refine ag ?_;clear X p33 e4;refine ke o ((c4).am _) A (cY.ly (x:=[118,97,114]) (Hp.ba zm) zl zm) zm λh5 g5=>?_;obtain⟨n5,e5⟩:=bH g5;have c5:=((c4).am _).aw g5;have Z:h5.ac h.a=.a 72 aEs:=cX e5 Y p34;have p35:h5.ac a.a=.a 118 (tk l n).ca:=mw e5 Y p34 Tk.ca.eq_1;have qF:Pg c h h5:=(eF e5 (gp uh));cases e:bD (tk l n) [[118,97,114]] with
 |true=>
  rw[atV e] at g;refine ag ?_;refine ah5 o L E o0 o1 c5 A (g.Fd qF (λv K w=>by refine ag ?_;exact w) λt m g G N y c9 j Q R=>?_);obtain⟨CL,rfl,q9,g⟩:=b8 _ _ (fO 2 (.a h.a 0) (nQ [])) t N m qF y c9 Z j Q R aa g;have y9:=Hp.lt q9 rfl;refine aB q9 ?_;exact g
 |false=>
 rw[atS qag] at g;clear e;refine ag ?_;clear Y p34 e5;refine ke o ((c5).am _) A (cY.ly (x:=[98,114,101,97,107]) (Hp.ba zm) zl zm) zm λh6 g6=>?_;obtain⟨n6,e6⟩:=bH g6;have c6:=((c5).am _).aw g6;have p26:h6.ac h.a=.a 72 aEs:=cX e6 Z p35;have p36:h6.ac a.a=.a 118 (tk l n).ca:=mw e6 Z p35 Tk.ca.eq_1;have uo:Pg c h h6:=(eF e6 (gp qF));cases e:bD (tk l n) [[98,114,101,97,107]] with
 |true=>
  rw[atV e] at g;refine ag ?_;refine aaJ o L c6 (lT L A e) (g.Fd uo (λv K w=>by refine ag ?_;exact w) λt m g G N y c9 j Q R=>?_);obtain⟨CL,rfl,q9,g⟩:=b8 _ _ (fO 2 (.a h.a 0) (nQ [])) t N m uo y c9 p26 j Q R aa g;have y9:=Hp.lt q9 rfl;refine aB q9 ?_;exact g
 |false=>
 rw[atS qag] at g;clear e;refine ag ?_;clear Z p35 e6;refine ke o ((c6).am _) A (cY.ly (x:=[99,111,110,116,105,110,117,101]) (Hp.ba zm) zl zm) zm λh7 g7=>?_;obtain⟨n7,e7⟩:=bH g7;have c7:=((c6).am _).aw g7;have p27:h7.ac h.a=.a 72 aEs:=cX e7 p26 p36;have p37:h7.ac a.a=.a 118 (tk l n).ca:=mw e7 p26 p36 Tk.ca.eq_1;have Ab:Pg c h h7:=(eF e7 (gp uo));cases e:bD (tk l n) [[99,111,110,116,105,110,117,101]] with
 |true=>
  rw[atV e] at g;refine ag ?_;refine aaJ o L c7 (lT L A e) (g.Fd Ab (λv K w=>by refine ag ?_;exact w) λt m g G N y c9 j Q R=>?_);obtain⟨CL,rfl,q9,g⟩:=b8 _ _ (fO 2 (.a h.a 0) (nQ [])) t N m Ab y c9 p27 j Q R aa g;have y9:=Hp.lt q9 rfl;refine aB q9 ?_;exact g
 |false=>
 rw[atS qag] at g;clear e;refine ag ?_;clear p26 p36 e7;have r0:∀(q:Int),True:=λ_=>trivial;refine He o c7 A (λe h8 g8 c8=>?_) λe h8 g8 c8=>?_;rw[atV e] at g;have cV:=lT L A e;obtain⟨n8,e8⟩:=bw g8;refine ag ?_;refine qC o c8 cV λG y=>?_;obtain⟨n9,P⟩:=bH y;have c9:=c8.aw y;have p2:G.ac h.a=.a 72 aEs:=cX P e8 p27;have p3:G.ac a.a=.a 118 (tk l n).ca:=cX P e8 p37;have gg9:Pg c h G:=(fH P e8 (gp Ab))
 by_cases k7:(tk l (n+1)).c=7
 rw[atV (.inl k7)] at g;refine aU Tk.ca.eq_1 k7 p3 ?_;refine gS o c9 zo rfl λu r=>?_;obtain⟨U,i⟩:=bH r;refine aS i p2 ?_;exact g _ _ (eF i (gp gg9)) ((c9.aw r).bj _ zo zo) (ay.of (t:=aV l (n+1) 19 (tk l n).a (tk l n).a [] []) rfl) cV zo;refine aS Tk.ca.eq_1 k7 ?_;refine ke o (c9.am _) cV (cY.ly (x:=[125]) (Hp.ba zm) zl zm) zm λu r=>?_;obtain⟨U,i⟩:=bH r;have s:=(c9.am _).aw r;have p2':u.ac h.a=.a 72 aEs:=bV i p2;have p3':u.ac a.a=.a 118 (tk l n).ca:=bV i p3;have TP:Pg c h u:=(eF i (gp gg9));cases eb:bD (tk l (n+1)) [[125]] with
 |true=>
  rw[atV (.inr eb)] at g;refine aS Tk.ca.eq_1 p3' ?_;refine gS o s zo rfl λJ I=>?_;obtain⟨n11,p⟩:=bH I;refine aS p p2' ?_;exact g _ _ (eF p (gp TP)) ((s.aw I).bj _ zo zo) (ay.of (t:=aV l (n+1) 19 (tk l n).a (tk l n).a [] []) rfl) cV zo
 |false=>
  rw[atS (by simp[k7,eb])] at g;refine ag ?_;refine E _ (n+1) op false 0 _ o0 o1 (atY 0) s cV (g.ss TP (λv K w=>by refine ag ?_;exact w) λt m g J aib I B KD hm hz=>?_);obtain⟨n11,p⟩:=bw I;obtain⟨aic,rfl,aid,aie⟩:=KD.dT;obtain⟨m,rfl⟩:∃q,m=q+1:=⟨m- 1,by omega⟩;refine aU p p3' Tk.ca.eq_1 ?_;refine gS o (((B.am _).bj _ zo zo).am _) zo rfl λh12 D=>?_;obtain⟨n12,C⟩:=bH D;have q12:h12.ac h.a=.a 72 aEs:=cX C p p2';refine aB q12 ?_;refine g _ _ (fH C p (gp TP)) (((((B.am _).bj _ zo zo).am _).aw D).bj _ zo zo) (ay.of (t:=aV l (m+1) 19 (tk l n).a (tk l n).a [] [t]) ?_) hm hz;exact vD ((Hp.du zo).trans ((C _ qab).trans (Hp.ba aa))) zl zo
   qao
 rw[atS qag] at g;obtain⟨n8,e8⟩:=bw g8;have p2:h8.ac h.a=.a 72 aEs:=bV e8 p27;have p3:h8.ac a.a=.a 118 (tk l n).ca:=bV e8 p37;have wZ:Pg c h h8:=(eF e8 (gp Ab));refine ag ?_;refine TD o L E c8 A o0 o1 hF (g.ss wZ (λv K w=>by refine ag ?_;exact w) λx m g G N y c9 j hm hz=>?_);obtain⟨n9,P⟩:=bw y;obtain⟨CL,rfl,asr,nk9⟩:=j.dT;obtain⟨m,rfl⟩:∃q,m=q+1:=⟨m- 1,by omega⟩;generalize Hh:CC.g (.h (z q153 23)) .m=TC;have Bh:∀(H:Hp)(f:Fr),Pg c G H->bp H c tb l (m+1) op false->H.ac G.a=.a 72 [.i x.bi,.i x.gl,.i x.to,.i x.at,S x.bc,CL]->cg 0 f=.a c 0->cg 2 f=.a h.a 0->cg 5 f=.a G.a 0->
  cU h.a c tb l op false h k (uj l ex op false x true (m+1))->W T TC f H [] (finish T (W T) [.b 6 true 2] k):=by
  intro H f gH cH q9 f0 f2 f5 g;subst Hh;have eH:=gp gH;have nH:=gH.g;have u9:=Hp.lt q9 rfl;have nd:ay h8.a H x _:=ay.nf ((NF.da G).gp gH zo) zl _ _ j;refine bK f0 f2 f5 q9 ?_;refine TH o L E o0 o1 cH hm nd zo zo (g.Fd (fH eH P (gp wZ)) (λv K w=>by refine ag ?_;exact w) λt m2 g u aif r s KE TQ TR=>?_);obtain⟨U,i⟩:=bw r;obtain⟨aih,rfl,aii,aij⟩:=KE.dT;have q10:u.ac h.a=.a 72 aEs:=mw i eH P p2;refine aS f2 q10 ?_;exact g _ _ (qB i eH P (gp wZ)) (s.bj _ zo zo) (ay.nf ((NF.da u).bj _ q10) zo _ _ KE) TQ TR
 by_cases O:x.bi=25
 refine aB O ?_;refine He o ((c9.am _).bj _ zo zo) hm (λe u r s=>?_) λe u r s=>?_;rw[atV ⟨O,e⟩] at g;obtain⟨U,i⟩:=bw r;refine aB i ?_;refine aaM o L E S1 o0 o1 hF s (lT L hm e) (g.ss (fH i P (gp wZ)) (λv K w=>by refine ag ?_;exact w) λt m2 g J aib I B KD aik ail=>?_);obtain⟨n11,p⟩:=bw I;obtain⟨aic,rfl,aid,aie⟩:=KD.dT;obtain⟨m2,rfl⟩:∃q,m2=q+1:=⟨m2- 1,by omega⟩;have u11:=B.lt;have ass:=B.rc;have u10:=s.lt;have q3:J.ac a.a=.a 118 (tk l n).ca:=mw p i P p3;have u1:=Hp.lt q3 rfl;have q9:J.ac G.a=.a 72 [.i 25,.i x.gl,.i x.to,.i x.at,S x.bc,CL]:=bV p i;have u9:=Hp.lt q9 rfl;refine aU q9 q3 Tk.ca.eq_1 ?_;refine gS o (((B.am _).bj _ zo zo).am _) zo rfl λh12 D=>?_;obtain⟨n12,C⟩:=bH D;have q12:h12.ac h.a=.a 72 aEs:=zg5 C p i P p2;refine aB q12 ?_;refine g _ _ (Ei C p i P (gp wZ)) (((((B.am _).bj _ zo zo).am _).aw D).bj _ zo zo) (ay.of (t:=aV l (m2+1) 16 (tk l n).a (tk l n).a x.bc [t]) ?_) aik ail;exact vD ((Hp.du zo).trans ((C _ qab).trans (Hp.ba aa))) zl zo
  qao
 rw[atS qag] at g;obtain⟨U,i⟩:=bw r;refine ag ?_;exact Bh _ _ (iQ i) s (bV i O) aa aa aa g;rw[atS (by simp[O])] at g;refine aB O ?_;exact Bh _ _ ((ah.am (ah.da _) _).bj _ (.inl zl)) ((c9.am _).bj _ zo zo) (Hp.dq rfl) aa aa aa g
def aaN(g:aA T)(j:fc l)(E:pW T c tb l ex){F:Nat}(i:F<8589934592):∀f:Nat,CK T c tb l (Hw l F ex f)
 |0=>λ_ _ _ _ _ _ _ _ e=>e.elim
 |f+1=>λh n op k p q m o e=>aia g j E (aaN g j E i f) p q i m o e
def aaO(g:aA T){q:Int}(j:c<h.a)
 (i:∀h' e f,ax h h'->h'.ac e=.a 116 [.a c 0]->h'.ac f=.a 3 [.i q]->h.a<=e->h.a<=f->k (.a (.q ⟨150⟩ [] [.a e 0,.a f 0]) h')):aE T (W T) ⟨121⟩ [.a c 0,.i q] h k:=by
 rw[ic g.t121];refine ag ?_;exact i _ h.a (h.a+1) aZ aa aa zl zo
def aaP(i:aA T)(z:fc l){q:Int}{j o:Nat}(q1:hh.ac j=.a 116 [.a c 0])(q2:hh.ac o=.a 3 [.i q])(A:j≠c)(B:o≠c):Kn T hh c tb l op hd ⟨150⟩ [.a j 0,.a o 0] (En l q):=by
 intro h n k g x H e;have J:=Hp.lt q1 rfl;have K:=Hp.lt q2 rfl;have M:=x.lt;have N:=x.rc;have s:h.ac j=.a 116 [.a c 0]:=by rw[g.f _ J A];exact q1
 have r2:h.ac o=.a 3 [.i q]:=by rw[g.f _ K B];exact q2
 have y1:=Hp.lt s rfl;have y2:=Hp.lt r2 rfl;rw[ic i.t150];unfold En at e;refine aB s ?_;refine Hy i z cU.rk zd e (x.am _) H aZ (λv r y=>by refine ag ?_;exact y) λL D e a g1 c1=>?_;obtain⟨A,f⟩:=bw g1;refine aU f s Tk.ca.eq_1 ?_;refine Tp i z ((c1.am _).bj _ zo zo) D (e.ss (iQ f) (λv r y=>by refine ag ?_;exact y) λt m e r row g2 c2 nd G I=>?_);obtain⟨B,p⟩:=bw g2;obtain⟨kv,rfl,F,P⟩:=nd.dT;obtain⟨m,rfl⟩:∃q,m=q+1:=⟨m- 1,by omega⟩;have C:r.ac a.a=.a 118 (tk l n).ca:=bV p Tk.ca.eq_1;have Q:=Hp.lt C rfl;refine cq p f s r2 C Tk.ca.eq_1 ?_;refine gS i (((c2.am _).bj _ zo zo).am _) zo rfl λE w=>?_;obtain⟨O,u⟩:=bH w;have q3:E.ac h.a=.a 72 aEs:=cX u p f;refine aB q3 ?_;refine e _ _ (fH u p f) (((((c2.am _).bj _ zo zo).am _).aw w).bj _ zo zo) (ay.of (t:=aV l (m+1) q (tk l n).a (tk l n).a (tk l n).b [t]) ?_) G I;exact vD ((Hp.du zo).trans ((u _ qab).trans (Hp.ba aa))) zl zo
  (by simp only[dZ,auo];exact ay.nf ((((((NF.da r).am _).ph _ zo).am _).g0 w).bj _ q3) qab _ _ nd)
def aim(g:aA T)(s:fc l)(o0:0<=op)(o1:op<=128)(H:bp h c tb l n op hd)(P:n<l.length)
 (f:lS c tb l op hd h k (Kv l op n)):aE T (W T) ⟨122⟩ [.a c 0] h k:=by
 rw[ic g.t122];have hx:=H.lt;have hy:=H.rc;unfold Kv at f;refine ag ?_;refine Ts g s (((H.am _).am _).am _) P o0 o1 (left:=[40]) (right:=[41]) (λe G h' q=>?_) (λe h' q=>?_) (λe G i g4 V=>?_)
 ·rw[atV e,atV G] at f;have n':=q.g;have E:=gp q;try simp only[Hp.dC] at n'
  refine ag ?_;exact f.er (iQ E)
 ·rw[atS (by rw[e];simp)] at f;have n':=q.g;have E:=gp q;try simp only[Hp.dC] at n'
  refine ag ?_;exact f.er (iQ E)
 rw[atV e,atS G] at f;obtain⟨n4,m⟩:=bw g4;have Y:=lT s P e;rw[ic g.t151];have B:i.ac h.a=.a 116 [.a c 0]:=au m;have p2:i.ac (h.a+1+1)=.a 72 aEs:=au m;have p3:i.ac (h.a+1)=.a 72 aEs:=au m;have C:Pg c h i:=(iQ m);clear m;refine aB B ?_;refine Hy g s cU.rk zd f V Y C (λv h2 I=>by simp(disch:=omega) [WK];exact I) λZ jB f h5 g5 X=>?_;obtain⟨n5,x⟩:=bw g5;refine aU x B Tk.ca.eq_1 ?_;refine Hy g s cU.rk zd f ((X.am _).bj _ zo zo) jB (eF x (gp C)) (λv h2 I=>by simp(disch:=omega) [WK];exact I) λZ J f N g6 c6=>?_;obtain⟨n6,F⟩:=bw g6;have Q:N.ac h5.a=.a 118 (tk l (n+1)).ca:=bV F Tk.ca.eq_1;have p6:=Hp.lt Q rfl;have D:Pg c i N:=(eF F x);refine bK F x B Tk.ca.eq_1 ?_;refine gS (n:=n+1+1) g ((c6.am _).bj _ zo zo) zo rfl λA L=>?_;obtain⟨n7,o⟩:=bH L;have c7:=((c6.am _).bj _ zo zo).aw L;have U:Pg c i A:=(eF o (gp D));have R:A.ac h5.a=.a 118 (tk l (n+1)).ca:=bV o Q;have p8:=Hp.lt R rfl;have p9:A.ac h.a=.a 116 [.a c 0]:=cX o (gp D) B;refine aU R p9 Tk.ca.eq_1 ?_;refine gS (n:=n+1+1) g (((c7.am _).bj _ zo zo).am _) zo rfl λr M=>?_;obtain⟨n8,y⟩:=bH M;have c8:=((((c7.am _).bj _ zo zo).am _).aw M);have j:r.ac (h.a+1+1)=.a 72 aEs:=mw y o (gp D) p2;have u:r.ac (h.a+1)=.a 72 aEs:=mw y o (gp D) p3;have S:Pg c i r:=(eF y (gp U));have u10:=Hp.lt j rfl;simp(disch:=omega) [j,WK];refine⟨n+1+1+1,J,c8.bj _ zo zo,λK O z c9=>?_,λen O z=>?_⟩;rw[atV K] at f;obtain⟨n9,p⟩:=bw z;have w:O.ac (h.a+1)=.a 72 aEs:=bV p u;have u12:=Hp.lt w rfl;refine aS p u ?_;refine f _ _ (fH p (gp S) (gp C)) (c9.bj _ zo zo) (ay.of (t:=aV l (n+1+1+1) 7 (tk l (n+1)).a (tk l (n+1)).a (tk l (n+1)).b [aV l (n+1+1+1) 8 (tk l (n+1+1)).a (tk l (n+1+1)).a (tk l (n+1+1)).b []]) ?_) (lT s J K) zo;have:dO h.a r [aV l (n+1+1+1) 8 (tk l (n+1+1)).a (tk l (n+1+1)).a (tk l (n+1+1)).b []] (.c (A.a+1) 0 6 1 1 true):=by refine vD ((y _ qab).trans (Hp.ba aa)) zl zo ?_;simp only[dZ,auo];exact ay.of (t:=aV l (n+1+1+1) 8 (tk l (n+1+1)).a (tk l (n+1+1)).a (tk l (n+1+1)).b []) rfl
 exact dO.nf ((((NF.da r).bj _ j).gp z hx).bj _ w) zl _ _ this;rw[atS (by rw[en];simp)] at f;obtain⟨n9,p⟩:=bw z;exact f.er (fH p (gp S) (gp C))
end
section
variable {d:Int}{hd e:Bool}{k k1:aK->Prop}
variable {ex:Int->Bool->Int->Nat->PR Tree}{st:Int->Nat->PR Tree}
def ain(f:aA T)(j:fc l)(Y:0<=op)(Z:op<=128){F:Nat}(Q:F<8589934592)(A:bp h c tb l n op hd)(S:n<l.length)
 (b:lS c tb l op hd h k (aE6 l F op n)):aE T (W T) ⟨84⟩ [.a c 0] h k:=by
 rw[ic f.t84];have hx:=A.lt;have hy:=A.rc;unfold aE6 at b;refine ag ?_;refine Hx f j cU.rk b (A.am _) S aZ (λv i g=>by refine ag ?_;exact g) λL K b a g1 c1=>?_;obtain⟨n1,p⟩:=bw g1;refine aB Tk.ca.eq_1 ?_;refine Hy f j cU.rk zd b c1 K (iQ p) (λv i g=>by refine ag ?_;exact g) λek V b i g2 c2=>?_;obtain⟨n2,u⟩:=bw g2;refine aB Tk.ca.eq_1 ?_;refine Hx f j cU.rk b ((c2.am _).bj _ zo zo) V (eF u p) (λv i g=>by refine ag ?_;exact g) λL J b z N c3=>?_;obtain⟨n3,w⟩:=bw N;have p1:z.ac h.a=.a 72 aEs:=cX w u p;have G:z.ac i.a=.a 118 (tk l (n+1)).ca:=bV w Tk.ca.eq_1;have u4:=Hp.lt G rfl;have C:Pg c h z:=(fH w u p);refine aB Tk.ca.eq_1 ?_;refine aaO f zo λh4 b1 b2 E q1 q2 w1 w2=>?_;obtain⟨n4,r⟩:=bH E;have s:=c3.aw E;refine ag ?_;refine Kq f j s J Y Z Q (λM=>aaP f j q1 q2 (s.wd q1) (s.wd q2)) (λM=>aaz f j) (b.FS (eF r (gp C)) (λv i g=>by refine ag ?_;exact g) λts m jh b h5 kv O B R U o X=>?_);obtain⟨n5,x⟩:=bw O;obtain⟨m,rfl⟩:∃q,m=q+1:=⟨m- 1,by omega⟩;have H:h5.ac i.a=.a 118 (tk l (n+1)).ca:=cX x r G;have u5:=Hp.lt H rfl;refine aS H Tk.ca.eq_1 ?_;refine gS f B zo o λP y=>?_;obtain⟨n6,D⟩:=bH y;have I:P.ac h.a=.a 72 aEs:=mw D x r p1;refine aS I o ?_;exact b _ _ (qB D x r (gp C)) ((B.aw y).bj _ zo zo) (ay.of (t:=aV l (m+1) 3 (tk l n).a (tk l (n+1)).a (tk l (n+1)).b ts) (dO.nf (((NF.da h5).g0 y).bj _ I) zo _ _ X)) R U
def aio(i:aA T)(C:fc l)(S1:CK T c tb l st)(o0:0<=op)(o1:op<=128){F:Nat}(hF:F<8589934592)(hc:bp h c tb l n op false)(hn:n<l.length)
 (g:lS c tb l op false h k (Kw l F st op n)):aE T (W T) ⟨85⟩ [.a c 0] h k:=by
 rw[ic i.t85];have hx:=hc.lt;have hy:=hc.rc;unfold Kw at g;refine ag ?_;refine Hx i C cU.rk g (hc.am _) hn aZ (λv j B=>by refine ag ?_;exact B) λee cV g a g1 c1=>?_;obtain⟨n1,e1⟩:=bw g1;generalize pY:CC.g (.h (z q85 5)) (.g (.h (z q85 6)) (.g (.h (z q85 7)) (.g (.h (z q85 8)) (.g (.g (.h (z q85 9)) (.i (.t 38) (.h (z q85 10)) .k)) (.g (.h (z q85 11)) (.g (.h (z q85 12)) .m))))))=T2;have k9:∀(H:Hp)(f:Fr)(r:Tree)(r4:List AV)(o:Nat),Pg c h H->bp H c tb l o op false->H.ac h.a=.a 72 aEs->H.ac a.a=.a 72 r4->H.ac (a.a+1)=.a 72 aEs->ay h.a H r r4->o<l.length->0<o->
  cg 0 f=.a c 0->cg 2 f=.a h.a 0->cg 3 f=.i (tk l n).a->cg 4 f=.a a.a 0->cg 5 f=.a (a.a+1) 0->
  cU h.a c tb l op false h k ((jR l 1 o).dk λu q=>
   (wS l [40] [41] (En l 7) (Cu l [41]) op F q).dk λps s=>(if bD (tk l s) [[123]]=true then .c zT s else Ct l s).dk λty v=>
    (vE l F st op v).dk λb w=>.c (aV l w 5 (tk l n).a u.a u.b [r,aV l s 6 (tk l q).a (tk l q).a [] ps,ty,b]) w)->
  W T T2 f H [] (finish T (W T) [.b 6 true 2] k):=by
  intro H f r r4 o gH cH q1 q4 q5 d4 ho hz f0 f2 f3 f4 f5 g;have eH:=gp gH;have uH:=gH.g;have u1:=cH.lt;have u2:=cH.rc;have u4:=Hp.lt q4 rfl;have u5:=Hp.lt q5 rfl;obtain⟨v4,rfl,w4,_⟩:=d4.dT;rw[<-pY];generalize rq:CC.g (.h (z q85 11)) (.g (.h (z q85 12)) .m)=T3;refine aB f0 ?_;refine Hy i C cU.rk zd g cH ho gH (λv j B=>by refine ag ?_;exact B) λek qy g j g2 c2=>?_;obtain⟨n2,L⟩:=bw g2;refine aS f0 Tk.ca.eq_1 ?_;refine qC i ((c2.am _).bj _ zo zo) qy λX g3=>?_;obtain⟨n3,D⟩:=bH g3;have c3:=((c2.am _).bj _ zo zo).aw g3;have p6:X.ac j.a=.a 118 (tk l o).ca:=bV D Tk.ca.eq_1;have u6:=Hp.lt p6 rfl;have dL:Pg c H X:=(eF D L);refine aS f0 Tk.ca.eq_1 ?_;refine Tw i zo λh4 b1 b2 g4 N x2 w1 w2=>?_;obtain⟨n4,e4⟩:=bH g4;refine aB f0 ?_;refine aaO i zo λh5 b3 b4 g5 x3 x4 w3 w4=>?_;obtain⟨n5,e5⟩:=bH g5;have O:=(c3.aw g4).aw g5;have y1:h5.ac b1=.a 116 [.a c 0]:=by rw[e5 _ (Hp.lt N rfl)];exact N
  have y2:h5.ac b2=.a 9 [S [41]]:=by rw[e5 _ (Hp.lt x2 rfl)];exact x2
  have qF:Pg c H h5:=(fH e5 e4 (gp dL));refine aB f0 ?_;refine Kq i C O qy o0 o1 hF (λeo=>aaP i C x3 x4 (O.wd x3) (O.wd x4)) (λeo=>Tx i C y1 y2 (O.wd y1) (O.wd y2)) (g.FS (gH.ab qF) (λv j B=>by refine ag ?_;exact B) λps s jh g h6 kv g6 c6 hm KC Y nk=>?_);obtain⟨n6,e6⟩:=bw g6;obtain⟨s,rfl⟩:∃q,s=q+1:=⟨s- 1,by omega⟩;have p7:h6.ac j.a=.a 118 (tk l o).ca:=mw e6 e5 e4 p6;have uo:Pg c H h6:=(eF e6 (gp qF));refine aB f0 ?_;refine gS i c6 zo Y λm g7=>?_;obtain⟨n7,P⟩:=bH g7;have c7:=c6.aw g7;have q1':m.ac h.a=.a 72 aEs:=cX P (gp uo) q1;have q4':m.ac a.a=.a 72 [.i r.bi,.i r.gl,.i r.to,.i r.at,S r.bc,v4]:=cX P (gp uo) q4;have q5':m.ac (a.a+1)=.a 72 aEs:=cX P (gp uo) q5;have I:m.ac j.a=.a 118 (tk l o).ca:=bV P p7;have u7:=Hp.lt I rfl;have Ab:Pg c h m:=(fH P (gp uo) eH);have dr:ay h.a m r [.i r.bi,.i r.gl,.i r.to,.i r.at,S r.bc,v4]:=ay.nf (((NF.da H).gp uo hx).g0 g7) zl _ _ d4;have dp:ay h.a m (aV l (s+1) 6 (tk l (o+1)).a (tk l (o+1)).a [] ps) [.i 6,.i (tk l (o+1)).a,.i (tk l s).d,.i (tk l (o+1)).a,S [],kv]:=ay.of (t:=aV l (s+1) 6 (tk l (o+1)).a (tk l (o+1)).a [] ps) (dO.nf ((NF.da h6).g0 g7) zo _ _ nk);have vG:∀(p:Hp)(f:Fr)(ty:Tree)(r5:List AV)(v:Nat),bp p c tb l v op false->p.ac m.a=.a 72 [.i 6,.i (tk l (o+1)).a,.i (tk l s).d,.i (tk l (o+1)).a,S [],kv]->p.ac (a.a+1)=.a 72 r5->NF h.a m p->ay h.a p ty r5->v<l.length->0<v->p.ac h.a=.a 72 aEs->p.ac a.a=.a 72 [.i r.bi,.i r.gl,.i r.to,.i r.at,S r.bc,v4]->p.ac j.a=.a 118 (tk l o).ca->Pg c h p->
   cg 0 f=.a c 0->cg 2 f=.a h.a 0->cg 3 f=.i (tk l n).a->cg 4 f=.a a.a 0->cg 5 f=.a (a.a+1) 0->cg 6 f=.a j.a 0->cg 9 f=.a m.a 0->
   cU h.a c tb l op false h k ((vE l F st op v).dk λb w=>.c (aV l w 5 (tk l n).a (tk l o).a (tk l o).b [r,aV l (s+1) 6 (tk l (o+1)).a (tk l (o+1)).a [] ps,ty,b]) w)->
   W T T3 f p [] (finish T (W T) [.b 6 true 2] k):=by
   intro p f ty r5 v c3 x9 x5 KF d5 B Oc N x4 x6 U f0 f2 f3 f4 f5 f6 f9 g;subst rq;obtain⟨v5,rfl,w5,_⟩:=d5.dT;have t9:=Hp.lt x9 rfl;have t5:=Hp.lt x5 rfl;have t1:=Hp.lt N rfl;have t4:=Hp.lt x4 rfl;have t6:=Hp.lt x6 rfl;refine aB f0 ?_;refine KA i C S1 o0 o1 hF c3 B (g.ss U (λv j B=>by refine ag ?_;exact B) λb w g G asu M c8 Z hm8 hz8=>?_);obtain⟨n8,A⟩:=bw M;obtain⟨kv8,rfl,asv,nk8⟩:=Z.dT;obtain⟨w,rfl⟩:∃q,w=q+1:=⟨w- 1,by omega⟩;refine kC f0 f2 f3 f4 f5 f6 f9 A N x4 x5 x6 (atQ x9 Tk.ca.eq_1) ?_;refine gS i (((c8.am _).bj _ zo zo).am _) zo rfl λh9 g9=>?_;obtain⟨n9,e9⟩:=bH g9;have J:h9.ac h.a=.a 72 aEs:=cX e9 A N;refine aS f2 J ?_;refine g _ _ (fH e9 A (gp U)) (((((c8.am _).bj _ zo zo).am _).aw g9).bj _ zo zo) (ay.of (t:=aV l (w+1) 5 (tk l n).a (tk l o).a (tk l o).b [r,aV l (s+1) 6 (tk l (o+1)).a (tk l (o+1)).a [] ps,ty,b]) ?_) hm8 hz8;have TS:NF h.a p (h9.bj h.a _):=((((((NF.da p).gp M hx).am _).ph _ zo).am _).g0 g9).bj (.a 72 [.i 5,.i (tk l n).a,.i (tk l w).d,.i (tk l o).a,S (tk l o).b,.c (G.a+1) 0 6 4 4 true]) J;refine aaK ((Hp.du zo).trans ((e9 _ qab).trans (Hp.ba aa))) zl zo ?_ ?_ ?_ ?_;simp only[dZ,auo];exact ay.nf (KF.ab TS) zl _ _ dr;simp only[dZ,auo];exact ay.nf (KF.ab TS) zl _ _ dp;simp only[dZ,auo];exact ay.nf TS zl _ _ d5;simp only[dZ,auo];exact ay.nf ((((((NF.da G).am _).ph _ zo).am _).g0 g9).bj _ J) zo _ _ Z
  refine aS f0 Y ?_;refine ke i (((c7.am _).bj _ zo zo).am _) hm (cY.ly (x:=[123]) (Hp.ba zm) zl zm) zm λG M=>?_;obtain⟨n8,A⟩:=bH M;have c8:=(((c7.am _).bj _ zo zo).am _).aw M;have wZ:Pg c m G:=(iQ A);have z9:G.ac m.a=.a 72 [.i 6,.i (tk l (o+1)).a,.i (tk l s).d,.i (tk l (o+1)).a,S [],kv]:=au A;have u9:=Hp.lt z9 rfl;have z5:G.ac (a.a+1)=.a 72 aEs:=bV A q5';have nf8:NF h.a m G:=((((NF.da m).am _).ph _ zo).am _).g0 M;cases Q:bD (tk l (s+1)) [[123]] with
  |true=>
   rw[atV Q] at g;refine aB f0 ?_;exact vG _ _ zT _ (s+1) c8 z9 z5 nf8 vF hm KC (bV A q1') (bV A q4') (bV A I) (Ab.ab wZ) zA zA zA zA zA aa aa g
  |false=>
   rw[atS (by simp[Q])] at g;refine aB f0 ?_;refine Tp i C c8 hm (g.ss (Ab.ab wZ) (λv j B=>by refine ag ?_;exact B) λt v g V aif R c10 KE TQ TR=>?_);obtain⟨n10,y⟩:=bw R;obtain⟨aih,rfl,aii,aij⟩:=KE.dT;have K:V.ac (a.a+1)=.a 72 aEs:=bV y z5;refine aS f5 K ?_;exact vG _ _ t _ v (c10.bj _ zo zo) (bV y z9) (Hp.dq rfl) ((nf8.gp R hx).bj _ K) (ay.nf ((NF.da V).bj _ K) zo _ _ KE) TQ TR (cX y A q1') (cX y A q4') (cX y A I) (fH y (gp wZ) (gp Ab))
    zA zA zA zA zA aa aa g
 refine aB Tk.ca.eq_1 ?_;refine ke i (((c1.am _).am _).am _) cV (cY.ly (x:=[40]) (Hp.ba zm) zl zm) zm λj g2=>?_;obtain⟨n2,L⟩:=bH g2;have c2:=(((c1.am _).am _).am _).aw g2;have p1:j.ac h.a=.a 72 aEs:=bV L e1;have p4:j.ac a.a=.a 72 aEs:=au L;have p5:j.ac (a.a+1)=.a 72 aEs:=au L;have E:Pg c h j:=(eF L e1);cases Q:bD (tk l (n+1)) [[40]] with
 |true=>
  rw[atV Q] at g;refine ag ?_;refine aim i C o0 o1 c2 cV (g.ss E (λv j B=>by refine ag ?_;exact B) λt v g X ah' g3 c3 o8 yl Oc=>?_);obtain⟨n3,D⟩:=bw g3;obtain⟨zW,rfl,Hj,Ew⟩:=o8.dT;have p4':X.ac a.a=.a 72 aEs:=bV D p4;refine aB p4' ?_;exact k9 _ _ t _ v (eF D (gp E)) (c3.bj _ zo zo) (bV D p1) (Hp.dq rfl) (bV D p5) (ay.nf ((NF.da X).bj _ p4') zo _ _ o8) yl Oc aa aa aa aa aa g
 |false=>
  rw[atS (by simp[Q])] at g;refine ag ?_;exact k9 _ _ zT _ (n+1) E c2 p1 p4 p5 vF cV zo aa aa aa aa aa g
end
section
variable {d:Int}{hd m:Bool}{k k1:aK->Prop}
def pZ(lo:Nat)(h:Hp)(v:AV)(ts:List Tree):Prop:=
 ts=[]/\v=.o\/∃b r f,lo<=b/\v=.c b 0 6 ts.length ts.length false/\ts≠[]/\h.ac b=.b 72 6 r 0 f/\ts.length<=r/\eR lo (h.bj b .f) ts f
def pZ.pg{lo:Nat}{h h':Hp}{v ts}(x:pZ lo h v ts)(g:Pg c h h')(z:c<lo):pZ lo h' v ts:=by
 have e:∀i o,lo<=i->h.ac i=o->jN o=false->h'.ac i=o:=λi o hi q y=>by rw[g.f i (Hp.lt q y) zo];exact q
 rcases x with x|⟨b,r,f,a,s,t,u,h5,w⟩;exact .inl x;refine .inr ⟨b,r,f,a,s,t,e b _ a u rfl,h5,eR.nf (lo:=lo) (λi r f hi j=>?_) zl _ _ w⟩
 by_cases p:i=b
 subst p;rw[Hp.dq rfl] at j;cases j;rw[Hp.du p] at j⊢;exact e i _ hi j rfl
def pZ.bv{lo:Nat}{h:Hp}{v ts}(x:pZ lo h v ts):bQ v=some [v]/\dO lo h ts v:=by
 rcases x with⟨rfl,rfl⟩|⟨b,r,f,a,rfl,o,p,h5,q⟩;exact⟨rfl,by simp only[dO]⟩;refine⟨rfl,?_⟩;cases ts with
 |nil=>exact absurd rfl o
 |cons t ts=>
  have e:=eR.nf (lo:=lo) (h':=h) (λi r f _ g=>by
   by_cases j:i=b
   subst j;rw[Hp.dq rfl] at g;cases g;rwa[Hp.du j] at g) zl _ _ q
  simp only[eR] at e;simp only[dO];exact⟨b,_,false,r,f,rfl,p,by simpa using h5,a,e.1,e.2⟩
def aip{lo:Nat}{v:AV}{ts:List Tree}{t:Tree}{row:List AV}{fB:Nat->List AV}(x:pZ lo h v ts)(A:ts.length<8589934592)(nd:ay lo h t row)(hB:lo<=h.a)(q:fB 0=row)
 (nb:∀b,v=.c b 0 6 ts.length ts.length false->ts≠[]->ay lo (h.bj b .f) t row):
 ∃s g,kJ (h.am (.b 72 6 1 0 fB)) 72 6 72 v (.c h.a 0 6 1 1 true)=.b s g/\pZ lo g s (ts++[t])/\h.a<=g.a/\(∀i,i<lo->g.ac i=h.ac i)/\∀i el r,h.ac i=.a el r->g.ac i=.a el r:=by
 rcases x with⟨rfl,rfl⟩|⟨b,r,f,a,rfl,w,o,h5,y⟩;refine⟨_,_,A7 (n:=0) (wN (Hp.ba rfl) zl) rfl zd,?_,by simp;omega,λi hi=>aa,λi el r hi=>by have:=Hp.lt hi rfl;exact au hi⟩;refine .inr ⟨h.a+1,1,_,by omega,rfl,by simp,by refine ag ?_;rfl,by simp,?_⟩;refine Ko (by simp only[eR]) ?_;simp only[aup,dZ,auo,q];exact ay.nf ((((NF.da h).am _).am _).ph _ zo) zl _ _ nd;have xb:=Hp.lt o rfl;refine⟨_,_,A8 (n:=0) (vh:=r) (t:=f) (au o) h5 (wN (Hp.ba rfl) zl) rfl (rV zo zo),?_,by simp only[Hp.dC,Hp.ii];omega,λi hi=>aa,λi el r2 hi=>by
  have:=Hp.lt hi rfl;have:i≠b:=by rintro rfl;rw[hi] at o;cases o
  exact au hi⟩
 refine .inr ⟨(h.am (.b 72 6 1 0 fB)).a,ts.length+1,_,?_,by rw[auk];rfl,by simp,Hp.ba qab,by simp,?_⟩;simp only[Hp.dC];omega;have u:=nb b rfl w;refine Ko (eR.nf (lo:=lo) (h:=h.bj b .f) (λi r f hi e=>?_) zl _ _ (Kp (λj z=>?_) y)) ?_;have p:i≠b:=by rintro rfl;rw[Hp.dq rfl] at e;cases e
 rw[Hp.du p] at e;have:=Hp.lt e rfl;exact au e;simp only[Ti,dZ];rw[atS zo];simp only[Ti,dZ,auo,q];refine ay.nf (lo:=lo) (h:=h.bj b .f) (λi r f hi e=>?_) zl _ _ u;have p:i≠b:=by rintro rfl;rw[Hp.dq rfl] at e;cases e
 rw[Hp.du p] at e;have:=Hp.lt e rfl;exact au e
end
def TU:List (List UInt8):=[[116,114,117,101],[102,97,108,115,101],[114,101,116,117,114,110],[98,114,101,97,107],[99,111,110,116,105,110,117,101],[105,110,116],[98,111,111,108],[115,116,114,105,110,103],[102,108,111,97,116,54,52]]
def Hz(t:Tk):Bool:=
 if t.c=1\/t.c=3\/t.c=4\/t.c=5 then true else if t.c=2 then decide (t.b∈TU) else decide (t.b=[41])||decide (t.b=[125])
def t0:Tk:=⟨0,[],0,0⟩
def vI(t:Tk):List Tk:=if Hz t=true then[⟨7,[],t.d,t.d⟩] else[]
def o9(s:List UInt8):Nat->(Nat->Nat×Int)->Nat->Tk->List Tk->PR (List Tk)
 |0,_,_,_,_=>.d
 |g+1,o,a,d,b=>
  if a<s.length then
   if s.getD a 0∈[32,9,13] then o9 s g o (a+1) d b
   else if s.getD a 0=10 then o9 s g o (a+1) t0 (b++vI d)
   else if aEv (s.drop a) [47,47]=true then o9 s g o (a+(iz (s.drop a) 10).1.length) d b
   else if(fA (o 0) (s.drop a)).2.2 ≠0 then .i a (fA (o 0) (s.drop a)).2.2
   else o9 s g (λi=>o (i+1)) (a+(fA (o 0) (s.drop a)).2.1) ⟨(fA (o 0) (s.drop a)).1,(s.drop a).take (fA (o 0) (s.drop a)).2.1,a,a+(fA (o 0) (s.drop a)).2.1⟩
    (b++[⟨(fA (o 0) (s.drop a)).1,(s.drop a).take (fA (o 0) (s.drop a)).2.1,a,a+(fA (o 0) (s.drop a)).2.1⟩])
  else .c (b++vI d) 0
section
variable {k:aK->Prop}{c:UInt8}
def aiq(m:aA T){t:Tk}(a:∀h',ax h h'->k (.a (.d (Hz t)) h')):aE T (W T) ⟨75⟩ [.j t.ca] h k:=by
 rw[ic m.t75];unfold Hz at a
 by_cases b:t.c=1
 refine aS Tk.ca.eq_1 b ?_;simpa[b] using a _ aZ
 by_cases e:t.c=3
 refine aS Tk.ca.eq_1 e ?_;simpa[e] using a _ aZ
 by_cases f:t.c=4
 refine aS Tk.ca.eq_1 f ?_;simpa[f] using a _ aZ
 by_cases g:t.c=5
 refine aS Tk.ca.eq_1 g ?_;simpa[g] using a _ aZ;rw[atS (by simp[b,e,f,g])] at a
 by_cases d:t.c=2
 rw[atV d] at a;refine aS Tk.ca.eq_1 d ?_;refine Ek m (ws:=TU) ⟨_,_,_,9,_,rfl,Hp.ba aa,by decide,λj l=>?_⟩ zd ?_;exact match j,l with
 |0,_=>rfl
 |1,_=>rfl
 |2,_=>rfl
 |3,_=>rfl
 |4,_=>rfl
 |5,_=>rfl
 |6,_=>rfl
 |7,_=>rfl
 |8,_=>rfl
 |n+9,l=>absurd l (by simp[TU])
 refine ag ?_;exact a _ aZ;rw[atS d] at a
 by_cases i:t.b=[41]
 refine iR Tk.ca.eq_1 b d e f g i ?_;simpa[i] using a _ aZ;refine iR Tk.ca.eq_1 b d e f g i ?_;simpa[i] using a _ aZ
end
def ur(lo:Nat)(h:Hp)(v:AV)(l:List Tk):Prop:=
 l=[]/\v=.o\/∃b r t,lo<=b/\v=.c b 0 4 l.length l.length false/\l≠[]/\h.ac b=.b 118 4 r 0 t/\l.length<=r/\∀j,(a:j<l.length)->t j=l[j].ca
section
variable {k:aK->Prop}{c:UInt8}
def ur.xn{M:Nat->Prop}{lo:Nat}{h h':Hp}{v:AV}{l:List Tk}(x:ur lo h v l)(g:ah M h h')(j:∀i,lo<=i->¬M i):ur lo h' v l:=by rcases x with x|⟨b,r,t,a,e,f,d,h5⟩;exact .inl x;exact .inr ⟨b,r,t,a,e,f,by rw[g.f b (Hp.lt d rfl) (j b a)];exact d,h5⟩
theorem ur.iv{lo:Nat}{v:AV}{l:List Tk}(x:ur lo h v l):bQ v=some [v]:=by rcases x with⟨_,rfl⟩|⟨b,r,t,a,rfl,_⟩<;>rfl
def TV{lo:Nat}{v:AV}{l:List Tk}{t:Tk}{fB:Nat->List AV}(x:ur lo h v l)(y:l.length<1073741824)(hB:lo<=h.a)(m:fB 0=t.ca):
 ∃o a,kJ (h.am (.b 118 4 1 0 fB)) 118 4 40 v (.c h.a 0 4 1 1 true)=.b o a/\ur lo a o (l++[t])/\ah (λi=>lo<=i) h a/\∀i el r,h.ac i=.a el r->a.ac i=.a el r:=by
 rcases x with⟨rfl,rfl⟩|⟨b,r,f,u,rfl,w,d,h5,q⟩;refine⟨_,_,A7 (n:=0) (wN (Hp.ba rfl) zl) rfl zd,?_,fZ,λi el r hi=>by have:=Hp.lt hi rfl;exact au hi⟩;refine .inr ⟨h.a+1,1,_,by omega,rfl,by simp,by refine ag ?_;rfl,by simp,λj g=>?_⟩;obtain rfl:j=0:=by simp at g;omega
 simp[m];have xb:=Hp.lt d rfl;refine⟨_,_,A8 (n:=0) (vh:=r) (t:=f) (au d) h5 (wN (Hp.ba rfl) zl) rfl (rV zo zo),?_,fZ,λi el r2 hi=>by
  have:=Hp.lt hi rfl;have:i≠b:=by rintro rfl;rw[hi] at d;cases d
  exact au hi⟩
 refine .inr ⟨(h.am (.b 118 4 1 0 fB)).a,l.length+1,_,?_,by rw[auk];rfl,by simp,Hp.ba qab,by simp,λj g=>?_⟩;simp only[Hp.dC];omega;rw[auk,ave] at g;simp only[Ti,dZ]
 by_cases e:j=l.length
 subst e;simp[m];rw[atS e,q j zo,ava zo]
def aaQ(m:aA T){lo bT bL:Nat}{a:Tk}{d:List Tk}{v:AV}(f:h.ac bT=.a 118 a.ca)(q:h.ac bL=.a 111 [v])(B:ur lo h v d)(A:d.length<1073741824)(H:bT<lo)(I:bL<lo)(J:lo<=h.a)(G:bT≠bL)
 (b:∀h' x,ah (λi=>i=bT\/i=bL\/lo<=i) h h'->h'.ac bT=.a 118 t0.ca->h'.ac bL=.a 111 [x]->ur lo h' x (d++vI a)->k (.a (.p []) h')):aE T (W T) ⟨74⟩ [.a bT 0,.a bL 0] h k:=by
 rw[ic m.t74];have D:=Hp.lt f rfl;have E:=Hp.lt q rfl;refine aS f Tk.ca.eq_1 ?_;refine aiq m (t:=a) λo g1=>?_;have n:=g0 g1;have K:=g1.g;have j:o.ac bT=.a 118 a.ca:=by rw[n _ D];exact f
 have g:o.ac bL=.a 111 [v]:=by rw[n _ E];exact q
 have l:=B.xn g1 λi _=>id;unfold vI at b;cases e:Hz a with
 |false=>
  rw[atS qag] at b;refine aS j Tk.ca.eq_1 ?_;refine b _ v (ah.bj (g1.ka) _ (.inr (.inl rfl))) (Hp.dq rfl) (au g) ?_;rw[av5];exact l.xn (M:=(·=bT)) (ah.bj (ah.da _) _ (.inr rfl)) λi hi=>zo
 |true=>
  rw[atV e] at b;refine aU j g Tk.ca.eq_1 ?_;obtain⟨w,F,z,r,q1,q2⟩:=TV (t:=⟨7,[],a.d,a.d⟩) (fB:=cx (cx fG 0 [.i 0,S [],.i 0,.i 0]) 0 [.i 7,S [],.i a.d,.i a.d]) l A zo (by simp[Tk.ca]);rw[z];have u:=q2 _ _ _ j;have y:=q2 _ _ _ g;have L:=Hp.lt u rfl;have N:=Hp.lt y rfl;have C:=q1.g;refine bK u y r.iv Tk.ca.eq_1 ?_;refine b _ w ?_ (Hp.dq rfl) aa (r.xn (M:=λi=>i=bT\/i=bL) ?_ λi hi=>by omega);refine ah.bj (ah.bj ?_ _ (.inr (.inr (.inl rfl)))) _ (.inr (.inl rfl));exact(g1.ka).ab (q1.aw λi _ hi=>.inr (.inr hi));exact ah.bj (ah.bj (ah.da _) _ (.inr (.inr rfl))) _ (.inr (.inl rfl))
end
def KG(T:aM->Option CF)(h:Hp):Prop:=∀(s:List UInt8)(k:aK->Prop),s.length<=65536->(∀(b:Int) h',ax h h'->((∀c∈s,c.toNat<128)->b<0)->k (.a (.i b) h'))->aE T (W T) ⟨73⟩ [S s] h k
def tf(b:Int)(o:Nat->Nat×Int)(s:List UInt8):PR (List Tk):=if 65536<s.length then .i 65536 3 else if 0<=b then .i b 8 else o9 s (s.length+1) o 0 t0 []
section
variable {k:aK->Prop}{c:UInt8}
def EC(hh:Hp)(k:aK->Prop)(r:PR (List Tk)):Prop:=
 match r with
 |.c l _=>∀h' v,ax hh h'->ur hh.a h' v l->k (.a (.p [v,.i 0,.i 0]) h')
 |.i p e=>∀h',ax hh h'->k (.a (.p [.o,.i p,.i e]) h')
 |.d=>False
def ur.lo{lo kg:Nat}{v:AV}{l:List Tk}(x:ur lo h v l)(le:kg<=lo):ur kg h v l:=by rcases x with x|⟨b,r,t,d,a⟩;exact .inl x;exact .inr ⟨b,r,t,by omega,a⟩
def air{o:Nat×Int}(h:(fA o s).2.2 =0):0<(fA o s).2.1 :=by unfold fA at h⊢;split at h;split at h;simp[*];split at h;simp at h;split at h;simp at h;simp[*];split at h;split at h;simp[*];omega;simp[*];split at h;simp[*];split at h;simp[*];split at h;simp[*];simp at h
def ais{o:Nat×Int}(e:s≠[]):(fA o s).2.1 <=s.length:=by
 have a:=aav s;have b:=Kh s;have d:=aar s;have f:0<s.length:=by cases s with|nil=>exact absurd rfl e|cons c s=>simp
 unfold fA;split;split;exact a;split;exact a;split<;>exact a;split;split;show max 1 (min o.1 s.length)<=s.length;omega;exact b;split;show min (qO o s).1 s.length<=s.length;omega;split;show 1<=s.length;omega;split;exact d;exact auz _
def ait(e:aEv s [47,47]=true):1<(iz s 10).1.length:=by
 match s,e with
 |[],e=>simp[aEv] at e
 |[c],e=>simp[aEv] at e
 |a::b::r,e=>
  simp[aEv] at e;obtain⟨rfl,rfl⟩:=e;unfold iz;split;rename_i f;have:(47::47::r).idxOf 10=((r.idxOf 10)+1)+1:=by simp[axg]
  have d:=avD f;simp only[auN,this];simp only[atX] at d⊢;omega;simp
def aiu:(iz s c).1.length<=s.length:=by unfold iz;split;simp only[auN];omega;simp
def aiv(x:aA T)(IC:∀h',ax hh h'->Cz T h') (FC:∀h',ax hh h'->CA T h') (hl:s.length<=65536) {bL bT lo:Nat} (l1:bT<lo) (l2:bL<lo) (l3:hh.a<=bL) (l4:hh.a<=bT) (bg:bT≠bL) (yd:1<hh.a):∀(g:Nat)(o:Unit)(a:Nat)(l:Tk)(d:List Tk)(h:Hp)(v:AV)(f:Fr),
 lO (h.ac 1)->ax hh h->lo<=h.a->s.length+1<=a+g->a<=s.length->d.length<=2*a->h.ac bT=.a 118 l.ca->h.ac bL=.a 111 [v]->ur lo h v d->cg 0 f=S s->cg 2 f=.a bL 0->cg 6 f=.a bT 0->cg 7 f=.q ⟨74⟩ [] [.a bT 0,.a bL 0]->cg 8 f=.i a->
 (∀o,EC hh k (o9 s g o a l d))->W T (.d l51_0) f h [] (bY 0 (bF (W T (.g (.h (z q51 24)) (.g (.h (z q51 25)) .m))) (finish T (W T) [.b 1 false 2,.a 3,.a 4] k))):=by
 intro g o;clear o
 induction g with
 |zero=>intro a l d h v f C m E K pQ;omega
 |succ g L=>
  intro a l d h v f C m E K pQ asw B A H f0 y f6 f7 f8 b;have u1:=Hp.lt B rfl;have u2:=Hp.lt A rfl;generalize X:CC.g (.h (z q51 24)) (.g (.h (z q51 25)) .m)=TL at*;generalize hIN:aAX=TI;rw[aP]
  by_cases I:a<s.length
  have P:(a:Int)<s.length:=zo;have hd:=aut I;have vz:(s.drop a).length=s.length- a:=auf ..;have mT:0<(s.drop a).length:=zo;refine iR f0 y f6 f7 f8 P vz ?_;have Co:s.getD a 0=s[a]:=by simp[I]
  have b:∀o,EC hh k (if s[a]∈[32,9,13] then o9 s g o (a+1) l d
   else if s[a]=10 then o9 s g o (a+1) t0 (d++vI l)
   else if aEv (s.drop a) [47,47]=true then o9 s g o (a+(iz (s.drop a) 10).1.length) l d
   else if(fA (o 0) (s.drop a)).2.2 ≠0 then .i a (fA (o 0) (s.drop a)).2.2
   else o9 s g (λi=>o (i+1)) (a+(fA (o 0) (s.drop a)).2.1) ⟨(fA (o 0) (s.drop a)).1,(s.drop a).take (fA (o 0) (s.drop a)).2.1,a,a+(fA (o 0) (s.drop a)).2.1⟩
    (d++[⟨(fA (o 0) (s.drop a)).1,(s.drop a).take (fA (o 0) (s.drop a)).2.1,a,a+(fA (o 0) (s.drop a)).2.1⟩])):=λo=>by
   have:=b o;unfold o9 at this;rwa[atV I,Co] at this
  refine Tf x (s:=[32,9,13]) (c:=s[a]) ?_
  by_cases D:s[a]∈[32,9,13]
  have O:=G0.2 D;refine aS O f8 ?_;refine L (a+1) l d h v _ C m E zo zo zo B A H zA zA zA zA aa λo=>?_;have:=b o;rwa[atV D] at this;have O:¬0<=rf [32,9,13] s[a]:=mt G0.1 D
  by_cases N:s[a].toNat=10
  have r:s[a]=10:=avi.1 N;refine aU O N f7 ?_;refine aaQ x B A H zo l1 l2 E bg λj w g1 q1 q2 q3=>?_;refine aB f8 ?_;refine L (a+1) t0 (d++vI l) j w _ (by rw[g1.f 1 zo zo];exact C) (m.na g1 λi hi=>by omega) qar zo zo ?_ q1 q2 q3 zA zA zA zA aa λo=>?_;rw[auk];unfold vI;split<;>simp<;>omega;have:=b o;rwa[atS D,atV r] at this;have r:¬s[a]=10:=λe=>N (by rw[e];rfl);refine aS O N ?_;refine NJ x zo ?_;cases Z:aEv (s.drop a) [47,47] with
  |true=>
   refine ag ?_;refine Th x (c:=10) zo ?_;have cl:(iz (s.drop a) 10).1.length<=(s.drop a).length:=aiu;have cp:=ait Z;refine aB f8 ?_;refine L (a+(iz (s.drop a) 10).1.length) l d h v _ C m E zo zo zo B A H zA zA zA zA aa λo=>?_;have:=b o;rwa[atS D,atS r,atV Z] at this
  |false=>
   refine ag ?_;refine ahQ x (λh' g=>IC h' (m.ab g)) (λh' g=>FC h' (m.ab g)) zo C λot j xa xb xc xd g1 hx=>?_;have e1:=g0 g1;have n1:=g1.g;have pV:j.ac bT=.a 118 l.ca:=by rw[e1 _ u1];exact B
   have Y:j.ac bL=.a 111 [v]:=by rw[e1 _ u2];exact A
   have Ba:=H.xn g1 λi _=>id;have tl:(fA ot (s.drop a)).2.1 <=(s.drop a).length:=ais (by intro e;rw[e] at mT;simp at mT);have tp:=air (o:=ot) (s:=s.drop a);have b:∀o,EC hh k (if(fA ot (s.drop a)).2.2 ≠0 then .i a (fA ot (s.drop a)).2.2
    else o9 s g o (a+(fA ot (s.drop a)).2.1) ⟨(fA ot (s.drop a)).1,(s.drop a).take (fA ot (s.drop a)).2.1,a,a+(fA ot (s.drop a)).2.1⟩
     (d++[⟨(fA ot (s.drop a)).1,(s.drop a).take (fA ot (s.drop a)).2.1,a,a+(fA ot (s.drop a)).2.1⟩])):=λo=>by
    have:=b λi=>match i with|0=>ot|i+1=>o i
    rwa[atS D,atS r,atS (by simp[Z])] at this
   generalize fA ot (s.drop a)=R at*;obtain⟨q,n,e⟩:=R;simp only at*
   by_cases Q:e=0
   subst Q;obtain⟨z1,z2,z3,z4⟩:=hx rfl;rw[z1,z2,z3,z4];have b:∀o,EC hh k (o9 s g o (a+n) ⟨q,(s.drop a).take n,a,a+n⟩ (d++[⟨q,(s.drop a).take n,a,a+n⟩])):=λo=>by have:=b o;rwa[atS zm] at this
   have tp:=tp rfl;refine cq y f6 f8 pV Y Tk.ca.eq_1 ?_;obtain⟨u,J⟩:∃u,u=(((j.am (.a 118 ta)).bj j.a (.a 118 [.i q,S ((s.drop a).take n),.i 0,.i n])).bj j.a (.a 118 [.i q,S ((s.drop a).take n),.i a,.i n])).bj j.a (.a 118 [.i q,S ((s.drop a).take n),.i a,.i (a+n)]):=⟨_,rfl⟩;have Ae:u.ac j.a=.a 118 [.i q,S ((s.drop a).take n),.i a,.i (a+n)]:=by rw[J];exact Hp.dq rfl
   have TW:u.a=j.a+1:=by rw[J];simp only[Hp.dC,Hp.ii];omega
   have F:ax j u:=by rw[J];exact aZ
   have V:u.ac bT=.a 118 l.ca:=by rw[F.f _ zo id];exact pV
   have U:u.ac bL=.a 111 [v]:=by rw[F.f _ zo id];exact Y
   rw[<-J];obtain⟨w,H2,K,hw,q1,q2⟩:=TV (h:=u) (lo:=lo) (t:=⟨q,(s.drop a).take n,a,a+n⟩) (fB:=cx (cx fG 0 ta) 0 [.i q,S ((s.drop a).take n),.i a,.i (a+n)]) (Ba.xn F λi _=>id) zo zo (by simp[Tk.ca]);rw[TW] at K;rw[K];have pY:=q2 _ _ _ V;have wQ:=q2 _ _ _ U;have G:=q2 _ _ _ Ae;have y1:=Hp.lt pY rfl;have y2:=Hp.lt wQ rfl;have y3:=Hp.lt G rfl;have q1n:=q1.g;have mV:j.a≠bL:=zo;have kT:j.a≠bT:=zo;have nv:lO (H2.ac 1):=by rw[q1.f 1 zo zo,F.f 1 zo id,g1.f 1 zo id];exact C
   refine fY y f6 f8 pY wQ G hw.iv Tk.ca.eq_1 ?_;refine L (a+n) ⟨q,(s.drop a).take n,a,a+n⟩ (d++[⟨q,(s.drop a).take n,a,a+n⟩]) _ w _ (au nv) ?_ qaq zo zo qaG (Hp.dq rfl) aa (hw.xn (M:=λi=>i=bT\/i=bL) (ah.bj (ah.bj (ah.da _) _ (.inr (.inr rfl))) _ (.inr (.inl rfl))) λi hi=>by omega) zA zA zA zA aa b;exact ah.bj (ah.bj (((m.ab g1).ab F).na q1 λi hi=>by omega) _ (.inl l3)) _ (.inl l4);have b:=b λ_=>(0,0);rw[atV Q] at b;refine bK Q y f8 Y ?_;exact b _ (ah.bj ((m.ab g1).ab aZ) _ (.inl zo))
  have P:¬(a:Int)<s.length:=zo;have b:=b λ_=>(0,0);unfold o9 at b;rw[atS I] at b;subst X;refine cq f0 y f6 f7 f8 P ?_;refine aaQ x B A H zo l1 l2 E bg λj w g1 q1 q2 q3=>?_;have v1:=Hp.lt q2 rfl;refine aU y q2 q3.iv ?_;refine b _ _ (ah.bj (m.na g1 λi hi=>by omega) _ (.inl zo)) ((q3.xn (M:=(·=bL)) (ah.bj (ah.da _) _ (.inr rfl)) λi hi=>by omega).lo zo)
def aiw(j:aA T)(w:∀h',ax h h'->Cz T h') (v:∀h',ax h h'->CA T h') (u:∀h',ax h h'->KG T h') (B:s.length<1073741824) (m:lO (h.ac 1))
 (a:∀b o,((∀c∈s,c.toNat<128)->b<0)->EC h k (tf b o s)):aE T (W T) ⟨51⟩ [S s] h k:=by
 rw[ic j.t51];have r:1<h.a:=by obtain⟨t,e,_⟩:=m;exact Hp.lt e rfl
 generalize y:CC.d l51_0=L
 by_cases l:65536<s.length
 have d:(65536:Int)<s.length:=zo;have q:=a (-1) (λ_=>(0,0)) (λ_=>by decide);unfold tf at q;rw[atV l] at q;refine aB d ?_;exact q _ aZ;have d:¬(65536:Int)<s.length:=zo;refine aB d ?_;refine u _ aZ _ _ zo λb g g1 z=>?_;have x:=g0 g1;have A:=g1.g;simp only[Hp.dC] at A;have i:ax h g:=ah.ab aZ g1;have n:g.ac h.a=.a 111 [.o]:=au x;have a:∀o,EC h k (if 0<=b then .i b 8 else o9 s (s.length+1) o 0 t0 []):=λo=>by have:=a b o z;unfold tf at this;rwa[atS l] at this
 by_cases f:0<=b
 have a:=a λ_=>(0,0);rw[atV f] at a;refine aS f n ?_;exact a _ (i.bj _ (.inl zl));have a:∀o,EC h k (o9 s (s.length+1) o 0 t0 []):=λo=>by have:=a o;rwa[atS f] at this
 refine aB f ?_;subst y;refine aiv j w v zo (bL:=h.a) (bT:=g.a) (lo:=g.a+1) zo zo zl zo zo r (s.length+1) () 0 t0 [] _ .o _ ?_ (i.ab aZ) qaf zo zo zm (Hp.ba rfl) (au n) (.inl ⟨rfl,rfl⟩) aa aa aa aa aa a;rw[Hp.io zo,i.f 1 r id];exact m
end
section
open Go (IntKind)
variable {a b:Int}
def bX(op:(n:Nat)->BitVec n->BitVec n->BitVec n)(a b:Int):Int:=match qN op .i32 a b with|.g _ n=>n|_=>0
@[simp] def asy{op}:jI op (.g .i32 a) (.g .i32 b)=.v (.g .i32 (bX op a b)):=rfl
@[simp] def asz:ko .i32 (.s m)=.v (.g .i32 (IntKind.i32.wrap (.ofNat m))):=rfl
@[simp] def asA{k:Int}(h:0<=k):oQ pF (.g .i32 a) (.g .u64 k)=.v (.g .i32 (IntKind.i32.wrap (a*2^(min k.toNat 32)))):=by obtain⟨n,rfl⟩:=at6 h;rfl
@[simp] def asB{k:Int}(h:0<=k):sC (.g .i32 a) (.g .u64 k)=.v (.g .i32 (a.fdiv (2^(min k.toNat 32)))):=by obtain⟨n,rfl⟩:=at6 h;rfl
@[simp] def asC{k:Int}(h:0<=k):sC (.s m) (.g .u64 k)=.v (.s (m/2^(min k.toNat 8))):=by obtain⟨n,rfl⟩:=at6 h;rfl
end
def Bi(o:AO):Prop:=∃t,o=.g 1 256 t/\∀i,i<256->∃x,t i=[.s x]/\x<256/\(x<240->x=2\/x=3\/x=4\/x=19\/x=35\/x=52\/x=68)
def Bj(o:AO):Prop:=∃t,o=.g 2 16 t/\∀i,i<16->∃a b,t i=[.s a,.s b]
def aaR{vh k:Nat}{t:Nat->List AV}(f:k<vh):cellsOf (.g 2 vh t) (k*2) 2=gK 2 (t k):=by have d:k*2/2=k:=zo;have e:k*2% 2=0:=zo;simp only[cellsOf,Ee,Ef,vp,wL,ny,d,e,aEC];rw[avf (by omega:0+2<=2),avf (by omega:k+1<=vh)];rfl
section
variable {k:aK->Prop}{c:UInt8}
abbrev aaS(h:Hp)(s:List UInt8)(k:aK->Prop):Prop:=∀(r:Int)(n:Nat) h',ax h h'->1<=n->n<=s.length->k (.a (.p [.g .i32 r,.i n]) h')
def aix(B:aA T){f:Fr}{r lo hi x0 sz:Nat}(l:ax hh h)(t:h.ac r=.a 237 [.s lo,.s hi])(G:hh.a<=r)(C:sz=2\/sz=3\/sz=4)(H:s.length<1073741824)(f0:cg 0 f=S s)(f4:cg 4 f=.i s.length)(f5:cg 5 f=.s x0)(f8:cg 8 f=.i sz)(f9:cg 9 f=.a r 0)(I:1<=s.length)
 (o:aaS hh s k):W T (CC.g (.g (.h (z q136 11)) (.i (.t 45) (.g (.h (z q136 12)) .m) .k)) (.g (.h (z q136 13)) (.g (.g (.h (z q136 14)) (.i (.t 57) (.g (.h (z q136 15)) .m) .k)) azf))) f h [] (finish T (W T) [.a 2,.a 3] k):=by
 by_cases D:s.length<sz
 have e:(s.length:Int)<sz:=zo;refine bK f0 f4 f8 e ?_;exact o _ 1 _ l zo zo;have e:¬(s.length:Int)<sz:=zo;have J:1<s.length:=zo;generalize y:azf=v;have u:∀d:Fr,cg 0 d=S s->cg 5 d=.s x0->cg 8 d=.i sz->cg 10 d=.s s[1].toNat->W T v d h [] (finish T (W T) [.a 2,.a 3] k):=by
  intro d y0 y5 y8 f10;subst y;unfold azf zt
  by_cases E:sz<=2
  have g:(sz:Int)<=2:=zo;refine cC y0 y5 y8 f10 g ?_;exact o _ 2 _ l zo zo;have g:¬(sz:Int)<=2:=zo;have K:2<s.length:=zo;generalize A:aA2=w;have x:∀d:Fr,cg 0 d=S s->cg 5 d=.s x0->cg 8 d=.i sz->cg 10 d=.s s[1].toNat->cg 11 d=.s s[2].toNat->W T w d h [] (finish T (W T) [.a 2,.a 3] k):=by
   intro d y0 y5 y8 y10 y11;subst A
   by_cases F:sz<=3
   have i:(sz:Int)<=3:=zo;refine cq y0 y5 y8 y10 y11 i ?_;exact o _ 3 _ l zo zo;have i:¬(sz:Int)<=3:=zo;have L:3<s.length:=zo
   by_cases j:s[3].toNat<128
   refine iR y0 y5 y8 y10 y11 i j ?_;exact o _ 1 _ l zo zo
   by_cases q:191<s[3].toNat
   refine fY y0 y5 y8 y10 y11 i j q ?_;exact o _ 1 _ l zo zo;refine fY y0 y5 y8 y10 y11 i j q ?_;exact o _ 4 _ l zo zo
  by_cases j:s[2].toNat<128
  refine cq y0 y5 y8 f10 g j ?_;exact o _ 1 _ l zo zo
  by_cases q:191<s[2].toNat
  refine iR y0 y5 y8 f10 g j q ?_;exact o _ 1 _ l zo zo;refine iR y0 y5 y8 f10 g j q ?_;exact x _ (au y0) (au y5) (au y8) zA aa
 by_cases j:s[1].toNat<lo
 refine iR f0 f4 f8 f9 e t j ?_;exact o _ 1 _ l zo zo
 by_cases q:hi<s[1].toNat
 refine fY f0 f4 f8 f9 e t j q ?_;exact o _ 1 _ l zo zo;refine fY f0 f4 f8 f9 e t j q ?_;exact u _ zA zA zA aa
def aiy(o:aA T)(f:Bi (h.ac 3))(g:Bj (h.ac 4))(y:s.length<1073741824)(A:s≠[])(r:aaS h s k):aE T (W T) ⟨136⟩ [S s] h k:=by
 rw[ic o.t136];obtain⟨t3,f,u⟩:=f;obtain⟨t4,g,v⟩:=g;have G:=Hp.lt g rfl;cases s with
 |nil=>exact absurd rfl A
 |cons c s=>
  have e:=c.toNat_lt;have H:(c::s).length=s.length+1:=rfl;obtain⟨x,t,F,l⟩:=u c.toNat e;generalize j:azV=D;have E:¬((c::s).length:Int)<1:=by simp only[atX];omega
  have d:¬(s.length:Int)+1<1:=zo
  by_cases q:240<=x
  simp(disch:=omega) [d,ri e zl,f,sY e,t,q];exact r _ 1 _ (ah.da _) zo zo;have l:=l zo;have key:∀sz:Nat,(sz=2\/sz=3\/sz=4)->bU (λ_ a b=>a&&&b) x 7=sz->x/16<16->
   W T ((CC.g (.h (z q136 0)) (.g (.h (z q136 1)) (.g (.g (.h (z q136 2)) (.i (.t 16) (.g (.h (z q136 3)) .m) .k)) (.g (.h (z q136 4)) (.g (.h (z q136 5)) (.g (.g (.h (z q136 6)) (.i (.t 23) (.g (.h (z q136 7)) (.g (.h (z q136 8)) .m)) .k)) (.g (.h (z q136 9)) (.g (.h (z q136 10)) azV))))))))) (nQ [S (c::s)]) h [] (finish T (W T) [.a 2,.a 3] k):=by
   intro sz w ex i;obtain⟨a,b,C⟩:=v _ i;have hi:=ri (rw:=2) (n:=16) (b:=4) i zd;have B:sz<256:=zo;rw[j];simp(disch:=omega) [d,ri e zl,f,sY e,t,q,ex,hi,g,aaR i,C,aal B];subst j;exact aix o (hh:=h) (x0:=c.toNat) (lo:=a) (hi:=b) (sz:=sz) aZ (Hp.dq rfl) zl w y aa aa aa aa aa zo r
  subst j;rcases l with rfl|rfl|rfl|rfl|rfl|rfl|rfl;exact key 2 zd zd zd;exact key 3 zd zd zd;exact key 4 zd zd zd;exact key 3 zd zd zd;exact key 3 zd zd zd;exact key 4 zd zd zd;exact key 4 zd zd zd
def aiz(d:aA T)(i:Bi (h.ac 3))(j:Bj (h.ac 4))(o:s.length<1073741824)(g:s≠[])(f:∀(r:Int)(n:Nat) h',ax h h'->1<=n->n<=s.length->((s.getD 0 0).toNat<128->n=1)->k (.a (.p [.g .i32 r,.i n]) h')):aE T (W T) ⟨106⟩ [S s] h k:=by
 rw[ic d.t106];cases s with
 |nil=>exact absurd rfl g
 |cons c s=>
  have v:(c::s).length=s.length+1:=rfl
  by_cases e:c.toNat<128
  refine aB e ?_;exact f _ 1 _ (ah.da _) zo zo λ_=>rfl;refine aB e ?_;refine aiy d i j o g λr n l g1 t u=>?_;refine ag ?_;exact f r n l g1 t u λq=>absurd q e
def aiA(A:aA T)(H:s.length<=65536)(u:Bi (hh.ac 3))(v:Bj (hh.ac 4))(o:∀(b:Int) h',ax hh h'->((∀c∈s,c.toNat<128)->b<0)->k (.a (.i b) h')):∀(m a:Nat)(h:Hp)(f:Fr),s.length<=a+m->a<=s.length->ax hh h->cg 0 f=S s->cg 3 f=.i a->
 W T (.d l73_0) f h [] (bY 0 (bF (W T (.g (.h (z q73 7)) .m)) (finish T (W T) [.a 2] k))):=by
 have F:3<hh.a:=by obtain⟨t,e,_⟩:=u;exact Hp.lt e rfl
 have G:4<hh.a:=by obtain⟨t,e,_⟩:=v;exact Hp.lt e rfl
 intro m
 induction m with
 |zero=>
  intro a h f D B d f0 f3;have g:¬(a:Int)<s.length:=zo;rw[aP];refine aU f0 f3 g ?_;exact o _ _ d λ_=>by decide
 |succ m x=>
  intro a h f D B d f0 f3;rw[aP]
  by_cases g:a<s.length
  have i:(a:Int)<s.length:=zo;have y:(s.drop a).length=s.length- a:=auf ..;refine aU f0 f3 i ?_;refine aiz A (by rw[d.f _ F id];exact u) (by rw[d.f _ G id];exact v) zo (by intro e;rw[e] at y;simp at y;omega) λr n w g1 I J E=>?_;have C:(s.drop a).getD 0 0=s[a]:=by simp[g]
  rw[C] at E
  by_cases j:n=1
  by_cases q:128<=s[a].toNat
  refine bK j f0 f3 q ?_;exact o _ _ (d.ab g1) λh=>by have:=h s[a] (auy g);omega
  refine bK j f0 f3 q ?_;exact x (a+1) w _ zo zo (d.ab g1) zA aa;have l:¬(n:Int)=1:=zo;refine bK j l f0 f3 ?_;exact x (a+n) w _ zo zo (d.ab g1) zA aa;have i:¬(a:Int)<s.length:=zo;refine aU f0 f3 i ?_;exact o _ _ d λ_=>by decide
def aiB(d:aA T)(e:Bi (h.ac 3))(f:Bj (h.ac 4)):KG T h:=by intro s k i g;rw[ic d.t73];refine ag ?_;exact aiA d i e f g s.length 0 h _ zo zo (ah.da _) aa aa
end
section
variable {b:Int}{hd:Bool}{k k1:aK->Prop}
def Od(T:aM->Option CF)(h:Hp):Prop:=∀(s:List UInt8)(k:aK->Prop),s.length<1073741824->(∀v e h',ax h h'->v.length<1073741824->(∀x,ayj s=some x->s.length=3->v=[x]/\e=0)->k (.a (.p [S v,.i e]) h'))->aE T (W T) ⟨118⟩ [S s] h k
def aCH(s:List UInt8):(∃x,ayj s=some x/\s.length=3/\∀o,ayk s o=([x],true))\/∀o,ayk s o=o:=by
 unfold ayk;cases e:ayj s with
 |none=>exact .inr λ_=>rfl
 |some x=>
  by_cases c:s.length=3
  exact .inl ⟨x,rfl,c,λ_=>atV c⟩;exact .inr λ_=>atS c
def aCI(x:UInt8)(a:97<=x.toNat)(e:x.toNat<=122):El [x]=true:=by
 have:∀n:Fin 256,97<=n.val->n.val<=122->El [UInt8.ofNat n.val]=true:=by decide+kernel
 have q:=this ⟨x.toNat,x.toNat_lt⟩ a e;simpa using q
def aiC(g:aA T)(Q:fc l)(U:∀h',Pg c hh h'->Od T h') (V:Pg c hh h) (R:∀n,n<l.length->(tk l n).b.length<1073741824) (F:bp h c tb l n op hd) (P:n<l.length)
 (f:∀o,lS c tb l op hd h k (Ac l o n)):aE T (W T) ⟨83⟩ [.a c 0] h k:=by
 rw[ic g.t83];have S:=R;have R:=F.lt;have hy:=F.rc;refine ag ?_;refine Cx g (F.am _) P (λC a g1 c1=>?_) λC a g1=>?_;have i:=lT Q P C;have f:∀o:List UInt8×Bool,lS c tb l op hd h k (if(tk l (n+1)).c≠5 then .i (tk l (n+1)).a 4 else if(ayk (tk l (n+1)).b o).2 =false then .i (tk l (n+1)).a 9
  else .c (aV l (n+1+1) 2 (tk l n).a (tk l (n+1)).a (ayk (tk l (n+1)).b o).1 []) (n+1+1)):=λo=>by
  have:=f o;unfold Ac lR at this;rw[atV C] at this;exact this
 obtain⟨n1,m⟩:=bw g1;refine aB Tk.ca.eq_1 ?_;refine qC g c1 i λh2 g2=>?_;obtain⟨n2,s⟩:=bH g2;have c2:=c1.aw g2
 by_cases z:(tk l (n+1)).c=5
 have f:∀o:List UInt8×Bool,lS c tb l op hd h k (if(ayk (tk l (n+1)).b o).2 =false then .i (tk l (n+1)).a 9 else .c (aV l (n+1+1) 2 (tk l n).a (tk l (n+1)).a (ayk (tk l (n+1)).b o).1 []) (n+1+1)):=λo=>by have:=f o;rw[atS (by simp[z])] at this;exact this
 refine aS Tk.ca.eq_1 z ?_;refine qC g c2 i λh3 M=>?_;obtain⟨n3,B⟩:=bH M;have c3:=c2.aw M;refine aB Tk.ca.eq_1 ?_;refine U _ (V.ab (fH B s m)) _ _ (S _ i) λv e X N hv4 G=>?_;obtain⟨n4,D⟩:=bH N;have I:=c3.aw N;obtain⟨hB,Z⟩:((e=0->El v=false)->lS c tb l op hd h k (.i (tk l (n+1)).a 9))/\(e=0->El v=true->lS c tb l op hd h k (.c (aV l (n+1+1) 2 (tk l n).a (tk l (n+1)).a v []) (n+1+1))):=by
  rcases aCH (tk l (n+1)).b with⟨x,y,i2,i3⟩|y;obtain⟨rfl,rfl⟩:=G x y i2;have nm:El [x]=true:=by obtain⟨_,_,x1,x2⟩:=azn y;exact aCI x x1 x2
  exact⟨λq=>(by rw[nm] at q;exact absurd (q rfl) zd),λ_ _=>(by have:=f ([],false);rw[i3] at this;simpa using this)⟩;exact⟨λ_=>(by have:=f ([],false);rw[y] at this;simpa using this),λ_ _=>(by have:=f (v,true);rw[y] at this;simpa using this)⟩
 have r:(e=0->El v=false)->∀h5,Pg c X h5->k (.b (qD (tk l (n+1)).a 9) h5):=λq h5 w=>(hB q).er (by have n5:=w.g;have u:=gp w;exact(Ei u D B s m))
 by_cases A:e=0
 refine aB A ?_;refine aag g zo λh5 w=>?_;subst A;obtain⟨n5,u⟩:=bH w;have J:=I.aw w;cases L:El v with
 |false=>
  refine ag ?_;refine Cw g J i λE p=>?_;obtain⟨H,j⟩:=bH p;refine ag ?_;exact r (λ_=>L) _ (eF j u)
 |true=>
  have f:=Z rfl L;refine ag ?_;refine vB g J i λE p c6=>?_;obtain⟨H,j⟩:=bw p;have jB:=wT Q i z zd;refine aB Tk.ca.eq_1 ?_;refine gS g ((c6.am _).bj _ zo zo) zo rfl λY O=>?_;obtain⟨n7,K⟩:=bH O;have q7:Y.ac h.a=.a 72 aEs:=zg7 K j u D B s m;refine aB q7 ?_;exact f _ _ (ZX K j u D B s m) ((((c6.am _).bj _ zo zo).aw O).bj _ zo zo) (ay.of (t:=aV l (n+1+1) 2 (tk l n).a (tk l (n+1)).a v []) rfl) jB zo
 refine aB A ?_;refine Cw g I i λE p=>?_;obtain⟨H,j⟩:=bH p;refine ag ?_;exact r (λq=>absurd q A) _ (iQ j);have f:=f ([],false);rw[atV z] at f;refine aS Tk.ca.eq_1 z ?_;refine Cw g c2 i λE p=>?_;obtain⟨H,j⟩:=bH p;refine ag ?_;exact f.er (fH j s m);have f:=f ([],false);unfold Ac lR at f;rw[atS (by rw[C];simp)] at f;obtain⟨n1,m⟩:=bw g1;refine ag ?_;exact f.er (iQ m)
end
section
variable {s:Hp}{u:Int}{hd y:Bool}{k k1:aK->Prop}
def aaT{lo d:Nat}{v:AV}{ts:List Tree}{t:Tree}{row:List AV}{fB:Nat->List AV}(x:pZ lo h v ts)(p:ts.length<8589934592)(nd:ay d h t row)(s:lo<=d)(j:∀b,v=.c b 0 6 ts.length ts.length false->b<d) (hB:lo<=h.a) (o:fB 0=row):
 ∃g a,kJ (h.am (.b 72 6 1 0 fB)) 72 6 72 v (.c h.a 0 6 1 1 true)=.b g a/\pZ lo a g (ts++[t])/\h.a<=a.a/\(∀i,i<lo->a.ac i=h.ac i)/\∀i el r,h.ac i=.a el r->a.ac i=.a el r:=
 aip x p (ay.nf (λi r f _ e=>e) s _ _ nd) hB o λb m _=>ay.nf (lo:=d) (λi r f hi e=>by rw[Hp.du (by have:=j b m;omega)];exact e) s _ _ nd
def pZ.lt{lo:Nat}{v ts}(x:pZ lo h v ts):∀b,v=.c b 0 6 ts.length ts.length false->b<h.a:=by intro b e;rcases x with⟨_,rfl⟩|⟨d,r,f,s,rfl,g,a,_⟩;cases e;cases e;exact Hp.lt a rfl
theorem pZ.iv{lo:Nat}{v ts}(x:pZ lo h v ts):bQ v=some [v]:=x.bv.1
def bp.my{h h':Hp}{c tb n:Nat}{l op hd}(x:bp h c tb l n op hd)(b:h'.ac c=h.ac c)(e:h'.ac tb=h.ac tb):bp h' c tb l n op hd:=by obtain⟨⟨cap,ex,f⟩,⟨r,t,g,s⟩,le⟩:=x;exact⟨⟨cap,ex,by rw[b];exact f⟩,⟨r,t,by rw[e];exact g,s⟩,le⟩
def aaU(K:aA T)(U:fc l)(VC:∀h',Pg c hh h'->Od T h') (CM:∀n,n<l.length->(tk l n).b.length<1073741824) {lo B:Nat} (hB:B<8589934592) (G:c<lo) (ao:tb<lo) (KJ:hh.a<=lo) {N:aT->Prop} {H:PR (List Tree)->Prop} (J:rX c hh k H) (R:∀v f E,k (.b v E)->N (.c v f E [])):∀(g n:Nat)(h:Hp)(r:List Tree)(v:AV)(f:Fr),
 Pg c hh h->bp h c tb l n 0 false->n<l.length->0<n->pZ lo h v r->lo<=h.a->r.length+g<=B->cg 0 f=.a c 0->cg 6 f=v->(∀o,H (vH l g o n r))->
 (∀h' D M F n',Pg c hh h'->(∀i,i<lo->i≠c->h'.ac i=h.ac i)->bp h' c tb l n' 0 false->pZ lo h' M F->lo<=h'.a->n'<l.length->0<n'->F.length<=B->cg 0 D=.a c 0->(∀i,i<6->cg i D=cg i f)->cg 6 D=M->H (.c F n')->N (.a 0 D h' []))->
 W T (.d l53_1) f h [] N
 |0,_,_,_,_,_,_,_,_,_,_,_,_,_,_,a,_=>(J.2 (a λ_=>([],false))).elim
 |g+1,n,h,r,v,f,A,L,Q,hz,hv,CN,hac,f0,f6,a,pT=>by
  have hx:=L.lt;have hy:=L.rc;rw[aP];refine aB f0 ?_;refine ke K (L.am _) Q (cY.ly (x:=[105,109,112,111,114,116]) (Hp.ba zm) zl zm) zm λs g1=>?_;obtain⟨n1,e1⟩:=bH g1;have c1:=(L.am _).aw g1;have z:Pg c h s:=(iQ e1);have V:=hv.pg z G;cases e:bD (tk l n) [[105,109,112,111,114,116]] with
  |false=>
   have a:=a λ_=>([],false);unfold vH at a;rw[atS qag] at a;refine ag ?_;exact pT _ _ _ _ _ (A.ab z) (λi hi j=>gp z i zo j) c1 V zo Q hz zo zA (λi hi=>by refine ag ?_;repeat rw[atS zo]) zA a
  |true=>
   have a:∀x o,H ((Ac l x n).dk λt m=>(mU l m).dk λ_ q=>vH l g o q (r++[t])):=λx o=>by
    have:=a λi=>match i with|0=>x|i+1=>o i
    unfold vH at this;rw[atV e] at this;exact this
   refine aS f0 f6 ?_;refine aiC K U VC (A.ab z) CM c1 Q λx=>?_;have a:=a x;revert a;cases aEZ:Ac l x n with
   |d=>exact λa=>J.2 (a λ_=>([],false))
   |i p e=>exact λa=>λE g2=>by refine ag ?_;exact R _ _ _ (J.1 _ _ (a λ_=>([],false)) E ((A.ab z).ab g2))
   |c t m=>
    intro a E row g2 c2 nd j KL;obtain⟨n2,e2⟩:=bw g2;have v2:=V.pg g2 G;have D7:=nd.agg;have TX:r.length<8589934592:=zo;have gg2:Pg c h E:=z.ab g2;obtain⟨kv,rfl,P,nk⟩:=nd.dT;refine aS f0 P ?_;obtain⟨w,H2,ha,hw,q1,q2,q3⟩:=aaT (fB:=cx (cx fG 0 aEs) 0 [.i t.bi,.i t.gl,.i t.to,.i t.at,S t.bc,kv]) v2 TX nd zo (λb hb=>V.lt b hb) zo zm;rw[ha];refine aB f0 ?_;have c3:bp H2 c tb l m 0 false:=c2.my (q2 c G) (q2 tb ao);have dL:Pg c hh H2:=⟨by have:=A.g;omega,λi hi C=>by rw[q2 i zo,e2 i (by have:=A.g;omega) C,gp z i (by have:=A.g;omega) C,gp A i hi C]⟩;refine NZ K c3 j (λe O I c4=>?_) λe O I=>?_
    ·have a:∀o,H (vH l g o (m+1) (r++[t])):=λo=>by have:=a o;simp only[PR.dk] at this;unfold mU jR at this;rw[atV e] at this;exact this
     have jB:=wT U j e zd;obtain⟨n4,e4⟩:=bw I;refine ag ?_;refine aaU K U VC CM hB G ao KJ J R g (m+1) O (r++[t]) w _ (dL.ab I) c4 jB zo (hw.pg I G) zo qaG zA aa a ?_;intro h' D M F n' x1 x2 x3 x4 x5 x6 x7 x8 x9 X Y Z;exact pT h' D M F n' x1 (λi hi j=>by rw[x2 i hi j,e4 i zo j,q2 i hi,e2 i zo j,gp z i zo j]) x3 x4 x5 x6 x7 x8 x9 (λi hi=>by rw[X i hi];refine ag ?_;repeat rw[atS zo]) Y Z
    have a:=a λ_=>([],false);simp only[PR.dk] at a;unfold mU jR at a;rw[atS e] at a;refine ag ?_;exact R _ _ _ (J.1 _ _ a O (dL.ab I))
end
section
variable {d:Int}{hd j:Bool}{k k1:aK->Prop}
variable {st:Int->Nat->PR Tree}{F:Nat}
def aiD(C:aA T)(M:fc l){lo u:Nat}(z:c<lo)(D:tb<lo){H:PR (List Tree)->Prop}(O:rX c hh k H){g m:Nat}{h f:Hp}{o:List Tree}{v:AV}{t:Tree}{row:List AV}
 (B:Pg c hh f) (R:∀i,i<lo->i≠c->f.ac i=h.ac i) (c2:bp f c tb l m 0 false) (s:m<l.length) (Q:pZ lo f v o) (nd:ay u f t row) (P:lo<=u) (U:u<=f.a) (I:∀b,v=.c b 0 6 o.length o.length false->b<u) (S:hh.a<=lo)
 (J:o.length<8589934592) (x:H ((mU l m).dk λ_ q=>aE0 l F st g q (o++[t]))):
 ∃w p,kJ (f.am (.b 72 6 1 0 (cx (cx fG 0 aEs) 0 row))) 72 6 72 v (.c f.a 0 6 1 1 true)=.b w p/\
  ∀(k1:aK->Prop),(∀v e,k (.b v e)->k1 (.b v e))->(∀e,Pg c hh e->(∀i,i<lo->i≠c->e.ac i=h.ac i)->bp e c tb l (m+1) 0 false->m+1<l.length->pZ lo e w (o++[t])->lo<=e.a->H (aE0 l F st g (m+1) (o++[t]))->k1 (.a (.p []) e))->aE T (W T) ⟨81⟩ [.a c 0] p k1:=by
 obtain⟨w,p,G,N,q1,q2,q3⟩:=aaT (fB:=cx (cx fG 0 aEs) 0 row) Q J nd P I zo zm;refine⟨w,p,G,λk1 L hd=>?_⟩;have c3:bp p c tb l m 0 false:=c2.my (q2 c z) (q2 tb D);have A:Pg c hh p:=⟨by have:=B.g;omega,λi hi y=>by rw[q2 i zo,gp B i hi y]⟩;refine TF C M O x c3 s A L λK x e r E=>hd e (A.ab r) (λi hi s=>by rw[gp r i zo s,q2 i hi,R i hi s]) E K (N.pg r z) (by have:=r.g;omega) x
def aaV(G:aA T)(U:fc l)(S1:CK T c tb l st){F:Nat}(X:F<8589934592){lo:Nat}(P:c<lo)(ao:tb<lo)(KJ:hh.a<=lo){O:aT->Prop}{H:PR (List Tree)->Prop}(K:rX c hh k H)(J:∀v f p,k (.b v p)->O (.c v f p [])):∀(g n:Nat)(h:Hp)(y:List Tree)(v:AV)(f:Fr),
 Pg c hh h->bp h c tb l n 0 false->n<l.length->0<n->pZ lo h v y->lo<=h.a->y.length+g<8589934592->cg 0 f=.a c 0->cg 6 f=v->H (aE0 l F st g n y)->
 (∀h' C V M n',Pg c hh h'->(∀i,i<lo->i≠c->h'.ac i=h.ac i)->bp h' c tb l n' 0 false->pZ lo h' V M->lo<=h'.a->n'<l.length->0<n'->cg 0 C=.a c 0->(∀i,i<6->cg i C=cg i f)->cg 6 C=V->H (.c M n')->O (.a 2 C h' []))->
 W T (.d l53_0) f h [] O
 |0,_,_,_,_,_,_,_,_,_,_,_,_,_,_,o,_=>(K.2 o).elim
 |g+1,n,h,y,v,f,Q,E,R,hz,u,CN,hac,f0,f6,o,pT=>by
  have hx:=E.lt;have hy:=E.rc;have Bk:=E;obtain⟨⟨cap,ex,q⟩,_,dA⟩:=Bk;rw[aP];unfold aE0 at o
  by_cases el:n+1<l.length
  rw[atV el] at o;have Z:(n:Int)+1<l.length:=zo;refine aU f0 q Z ?_;refine ke G (E.am _) R (cY.ly (x:=[116,121,112,101]) (Hp.ba zm) zl zm) zm λa g1=>?_;obtain⟨n1,e1⟩:=bH g1;have c1:=(E.am _).aw g1;have L:Pg c h a:=(iQ e1);have v1:=u.pg L P;have TX:y.length<8589934592:=zo;have main:∀(t:Tree)(m:Nat)(p:Hp)(kv:AV),H ((mU l m).dk λ_ q=>aE0 l F st g q (y++[t]))->Pg c a p->bp p c tb l m 0 false->ay a.a p t [.i t.bi,.i t.gl,.i t.to,.i t.at,S t.bc,kv]->m<l.length->0<m->
   ∃w B,kJ (p.am (.b 72 6 1 0 (cx (cx fG 0 aEs) 0 [.i t.bi,.i t.gl,.i t.to,.i t.at,S t.bc,kv]))) 72 6 72 v (.c p.a 0 6 1 1 true)=.b w B/\∀k1:aK->Prop,(∀v r,k (.b v r)->k1 (.b v r))->(∀r,(∀D:Fr,cg 0 D=.a c 0->cg 6 D=w->(∀i,i<6->cg i D=cg i f)->W T (.d l53_0) D r [] O)->k1 (.a (.p []) r))->
    aE T (W T) ⟨81⟩ [.a c 0] B k1:=by
   intro t m p kv o g2 c2 nd s N;obtain⟨w,B,I,z⟩:=aiD G U (h:=h) P ao K (Q.ab (L.ab g2)) (λi hi s=>by rw[gp g2 i zo s,gp L i zo s]) c2 s (v1.pg g2 P) nd zo g2.g (λb z=>v1.lt b z) KJ TX o;refine⟨w,B,I,λk1 kp kd=>z _ kp λr g3 x3 c3 nW v3 TY o=>kd r λD y0 y6 yi=>?_⟩;refine aaV G U S1 X P ao KJ K J g (m+1) r (y++[t]) w D g3 c3 nW zo v3 TY qaG y0 y6 o ?_;intro h' C V M n' z1 z2 z3 z4 z5 z6 z7 z8 z9 z10 z11;exact pT h' C V M n' z1 (λi hi s=>by rw[z2 i hi s,x3 i hi s]) z3 z4 z5 z6 z7 z8 (λi hi=>by rw[z9 i hi,yi i hi]) z10 z11
  cases e:bD (tk l n) [[116,121,112,101]] with
  |true=>
   rw[atV e] at o;refine aS f0 f6 ?_;refine ain G U (atY 0) zd X c1 R (K.ss o (Q.ab L) (λv p u=>by refine ag ?_;exact J _ _ _ u) λt m o p row g2 c2 nd s N=>?_);obtain⟨n2,e2⟩:=bw g2;obtain⟨kv,rfl,A,nk⟩:=nd.dT;refine aS f0 A ?_;obtain⟨w,B,I,z⟩:=main t m p kv o g2 c2 nd s N;rw[I];refine aB f0 ?_;refine z _ (λv r u=>by refine ag ?_;exact J _ _ _ u) λr Y=>?_;refine ag ?_;exact Y _ zA aa (λi hi=>by simp(disch:=decide) only[eG hi])
  |false=>
   rw[atS qag] at o;refine aS f0 f6 ?_;refine aio G U S1 (atY 0) zd X c1 R (K.ss o (Q.ab L) (λv p u=>by refine ag ?_;exact J _ _ _ u) λt m o p row g2 c2 nd s N=>?_);obtain⟨n2,e2⟩:=bw g2;obtain⟨kv,rfl,A,nk⟩:=nd.dT;refine aS f0 A ?_;obtain⟨w,B,I,z⟩:=main t m p kv o g2 c2 nd s N;rw[I];refine aB f0 ?_;refine z _ (λv r u=>by refine ag ?_;exact J _ _ _ u) λr Y=>?_;refine ag ?_;exact Y _ zA aa (λi hi=>by simp(disch:=decide) only[eG hi])
  ·rw[atS el] at o;have Z:¬(n:Int)+1<l.length:=zo;refine aU f0 q Z ?_;exact pT _ _ _ _ _ Q (λi hi s=>rfl) E u zo R hz zA (λi hi=>by refine ag ?_;repeat rw[atS zo]) zA o
end
mutual
def yu:Tree->Int->Int->Int
 |.mk q _ _ a _ d,c,b=>if q=0 then b else KN d (if 0<c- 1 then c- 1 else 0) (if c=0 then(if a<b then a else b) else b)
def KN:List Tree->Int->Int->Int
 |[],_,a=>a
 |t::ts,b,a=>KN ts b (yu t b a)
end
mutual
def rY:Tree->Prop
 |.mk _ _ _ _ _ a=>a.length<4294967296/\pq a
def pq:List Tree->Prop
 |[]=>True
 |t::ts=>rY t/\pq ts
end
@[simp] def asE{a b:Int}:wq true (.i a) [.i b]=.v (.i (if b<a then b else a)):=by
 simp only[wq,qk,Ej]
 by_cases c:a<b
 simp[c,show¬b<a by omega]
 by_cases d:a=b
 simp[d];simp[c,d,show b<a by omega]
@[simp] def asF{a b:Int}:wq false (.i a) [.i b]=.v (.i (if a<b then b else a)):=by
 simp only[wq,qk,Ej]
 by_cases c:a<b
 simp[c]
 by_cases d:a=b
 simp[d];simp[c,d]
mutual
theorem aaW(i:aA T):∀(x:Tree)(h:Hp)(row:List AV)(lo:Nat)(f w:Int)(k:aK->Prop),ay lo h x row->rY x->0<=f->f<=64->(∀h',ax h h'->k (.a (.i (yu x f w)) h'))->aE T (W T) ⟨54⟩ [.j row,.i f,.i w] h k
 |.mk q z to a nm B,h,row,lo,f,w,k,nd,p,u,v,d=>by
  unfold rY at p;obtain⟨kv,rfl,l,o⟩:=nd.dT;simp only[Tree.bi,Tree.gl,Tree.to,Tree.at,Tree.bc,Tree.bv] at l o⊢;rw[ic i.t54];generalize s:CC.d l54_0=L;unfold yu at d
  by_cases q0:q=0
  rw[atV q0] at d;refine aS l q0 ?_;exact d _ aZ;rw[atS q0] at d;cases B with
  |nil=>
   simp only[dO] at o;subst o
   by_cases c:f=0
   rw[atV c] at d;refine aS q0 c ?_;subst s;exact KO i [] _ h (λ_=>[]) 0 0 0 0 0 false lo f _ _ k aZ rfl zd trivial u v (λe=>absurd rfl e) aa aa (au c) aa d;rw[atS c] at d;refine aS q0 c ?_;subst s;exact KO i [] _ h (λ_=>[]) 0 0 0 0 0 false lo f _ _ k aZ rfl zd trivial u v (λe=>absurd rfl e) aa aa (au c) aa d
  |cons t ts=>
   simp only[dO] at o;obtain⟨b,cap,ex,r,g,rfl,y,A,E,C,D⟩:=o;have:=Hp.lt y rfl;have m:ay lo (h.am (.a 72 [.i q,.i z,.i to,.i a,S nm,.c b 0 6 (ts.length+1) cap ex])) t (g 0):=ay.nf ((NF.da h).am _) zl _ _ C;have n:eR lo (h.am (.a 72 [.i q,.i z,.i to,.i a,S nm,.c b 0 6 (ts.length+1) cap ex])) ts λj=>g (j+1):=eR.nf ((NF.da h).am _) zl _ _ D
   by_cases c:f=0
   rw[atV c] at d;refine aS q0 c ?_;subst s;exact KO i (t::ts) _ h g b cap r (ts.length+1) 0 ex lo f _ _ k aZ zm p.1 p.2 u v (λ_=>⟨aa,au y,A,by simp only[eR,aue];exact⟨m,n⟩⟩) aa aa (au c) aa d;rw[atS c] at d;refine aS q0 c ?_;subst s;exact KO i (t::ts) _ h g b cap r (ts.length+1) 0 ex lo f _ _ k aZ zm p.1 p.2 u v (λ_=>⟨aa,au y,A,by simp only[eR,aue];exact⟨m,n⟩⟩) aa aa (au c) aa d
theorem KO(u:aA T):∀(ts:List Tree)(h hh:Hp)(g:Nat->List AV)(b cap r len j:Nat)(ex:Bool)(lo:Nat)(a d:Int)(f:Fr)(k:aK->Prop),ax hh h->j+ts.length=len->len<4294967296->pq ts->0<=a->a<=64->
 (ts≠[]->cg 20 f=.c b 0 6 len cap ex/\h.ac b=.b 72 6 r 0 g/\len<=r/\eR lo h ts (λi=>g (j+i)))->cg 21 f=.i len->cg 22 f=.i j->cg 1 f=.i a->cg 2 f=.i d->(∀h',ax hh h'->k (.a (.i (KN ts (if 0<a- 1 then a- 1 else 0) d)) h'))->
 W T (.d l54_0) f h [] (bY 0 (bF (W T (.g (.h (z q54 10)) .m)) (finish T (W T) [.a 6] k)))
 |[],h,hh,g,b,cap,r,len,j,ex,lo,a,d,f,k,p,l,w,n,A,B,x,f21,f22,o,e,c=>by simp only[aup,aud] at l;subst l;rw[aP];refine aU f21 f22 e ?_;unfold KN at c;exact c _ p
 |t::ts,h,hh,g,b,cap,r,len,j,ex,lo,a,d,f,k,p,l,w,n,A,B,x,f21,f22,o,e,c=>by
  obtain⟨f20,q,E,y⟩:=x zm;unfold pq at n;simp only[eR] at y;obtain⟨m,F⟩:=y;simp only[atX] at l;unfold KN at c;have lt:=Hp.lt q rfl;have C:(j:Int)<len:=zo;obtain⟨kv,s,D,H⟩:=m.dT;simp only[aud] at s;rw[aP];refine fY f20 f21 f22 o e q s C ?_;rw[<-s];refine aaW u t _ _ lo _ _ _ (ay.nf (((NF.da h).am _).ph _ zo) zl _ _ m) n.1 (by split<;>omega) (by split<;>omega) λG g1=>?_;have m:=g1.g;have v:=g0 g1;try simp only[Hp.dC,Hp.ii] at m
  refine cC f20 f21 f22 o e ?_;refine KO u ts _ hh g b cap r len (j+1) ex lo a _ _ k (ah.ab p ⟨by omega,λi hi _=>au v⟩) zo w n.2 A B (λ_=>⟨zA,bV v q,E,?_⟩) zA zA zA aa c;refine eR.nf ((((NF.da h).am _).ph _ zo).g0 g1) zl _ _ ?_;simpa only[avg,awR 1] using F
end
section
variable {b:Int}{hd:Bool}{k k1:aK->Prop}
variable {st:Int->Nat->PR Tree}
def CP(c:Nat)(h:Hp)(k:aK->Prop)(r:PR Tree):Prop:=
 match r with
 |.c t _=>∀h' row,Pg c h h'->ay h.a h' t row->k (.a (.j row) h')
 |.i p e=>∀h',Pg c h h'->k (.b (qD p e) h')
 |.d=>False
def CP.rk:rX c h k (CP c h k):=⟨λ_ _ e=>e,id⟩
def aiE(q:aA T)(A:fc l)(VC:∀h',Pg c h h'->Od T h') (Z:∀n,n<l.length->(tk l n).b.length<1073741824) (S1:CK T c tb l st) {F:Nat} (hF:F<4294967296) {size:Int} (J:bp h c tb l n 0 false) (S:n<l.length)
 (i:∀o,CP c h k (Ad l F st size o n)):aE T (W T) ⟨53⟩ [.a c 0,.i size] h k:=by
 rw[ic q.t53];have hx:=J.lt;have hy:=J.rc;generalize jg:CC.d l53_1=L1;generalize pz:CC.d l53_0=L0;have g:=i λ_=>([],false);have jC:rX c h k (CP c h k):=CP.rk;refine ag ?_;refine Cx q (J.am _) S (λw a g1 c1=>?_) λw a g1=>?_
 rotate_left
 unfold Ad lR at g;rw[atS (by rw[w];simp)] at g;obtain⟨n1,u⟩:=bw g1;refine ag ?_;exact g _ (iQ u);have Q:=lT A S w;obtain⟨n1,u⟩:=bw g1;refine ag ?_;refine Eo q c1 Q (λz j g2 c2=>?_) λz j g2=>?_
 rotate_left
 unfold Ad lR jR at g;rw[atV w] at g;simp only[PR.dk] at g;rw[atS z] at g;obtain⟨n2,x⟩:=bw g2;refine ag ?_;exact g _ (eF x u);have U:=wT A Q z zd;obtain⟨n2,x⟩:=bw g2;refine aB Tk.ca.eq_1 ?_;refine NZ q ((c2.am _).bj _ zo zo) U (λD m I c3=>?_) λD m I=>?_
 rotate_left
 unfold Ad lR jR mU jR at g;rw[atV w] at g;simp only[PR.dk] at g;rw[atV z] at g;simp only[] at g;rw[atS D] at g;obtain⟨n3,y⟩:=bw I;refine ag ?_;exact g _ (fH y x u);have Cy:=wT A U D zd;obtain⟨n3,y⟩:=bw I;have p1:m.ac h.a=.a 72 aEs:=cX y x u;have V:m.ac j.a=.a 118 (tk l (n+1)).ca:=bV y Tk.ca.eq_1;have u5:=Hp.lt V rfl;have G:Pg c h m:=(fH y x u);have i:∀o,CP c h k ((vH l F o (n+1+1+1) []).dk λis s=>(aE0 l F st F s is).dk λds v=>.c (.mk 1 0 size (tk l (n+1)).a (tk l (n+1)).b ds) v):=λo=>by have:=i o;unfold Ad lR jR mU jR at this;rw[atV w] at this;simp only[PR.dk] at this;rw[atV z] at this;simp only[] at this;rw[atV D] at this;exact this
 refine ag ?_;subst jg;refine aaU q A VC Z (hh:=h) (lo:=m.a) (k:=k) (B:=F) (H:=λr=>CP c h k (r.dk λis s=>(aE0 l F st F s is).dk λds v=>.c (.mk 1 0 size (tk l (n+1)).a (tk l (n+1)).b ds) v)) zo c3.lt c3.rc G.g ⟨λp e i=>i,id⟩ ?_ F (n+1+1+1) m [] .o _ G c3 Cy zo (.inl ⟨rfl,rfl⟩) zl zm aa aa i ?_;intro v f j M;refine ag ?_;exact M;intro h4 f4 v4 ts n4 g4 X c4 N K L yj hac y0 E y6 i;have y1:cg 1 f4=.i size:=by rw[E 1 zo];simp(disch:=omega)
 have y4:cg 4 f4=.a h.a 0:=by rw[E 4 zo];simp(disch:=omega)
 have y5:cg 5 f4=.a j.a 0:=by rw[E 5 zo];simp(disch:=omega)
 clear E;refine ag ?_;subst pz;refine aaV q A S1 (hh:=h) (F:=F) zo (lo:=m.a) (k:=k) (H:=λr=>CP c h k (r.dk λds v=>.c (.mk 1 0 size (tk l (n+1)).a (tk l (n+1)).b ds) v)) c3.lt c3.rc G.g ⟨λp e i=>i,id⟩ ?_ F n4 h4 ts v4 _ g4 c4 L yj N K zo y0 y6 i ?_;intro v f j M;refine ag ?_;exact M;intro h5 f5 v5 O n5 R Y c5 C hl5 hn5 hz5 z0 P z6 i;have z1:cg 1 f5=.i size:=by rw[P 1 zo];simp(disch:=omega) [y1]
 have z4:cg 4 f5=.a h.a 0:=by rw[P 4 zo];simp(disch:=omega) [y4]
 have z5:cg 5 f5=.a j.a 0:=by rw[P 5 zo];simp(disch:=omega) [y5]
 have hcx:=c3.lt;have q1:h5.ac h.a=.a 72 aEs:=by rw[Y _ zo zo,X _ zo zo,p1]
 have q5:h5.ac j.a=.a 118 (tk l (n+1)).ca:=by rw[Y _ zo zo,X _ zo zo,V]
 have nx5:=R.g;refine fY z1 z4 z5 q5 Tk.ca.eq_1 C.iv z6 q1 ?_;refine i _ _ (iQ (gp R)) (ay.of (t:=.mk 1 0 size (tk l (n+1)).a (tk l (n+1)).b O) (dO.nf ((NF.da h5).bj _ q1) zo _ _ C.bv.2))
end
section
variable {k:aK->Prop}{c:UInt8}
def KP(T:aM->Option CF)(h:Hp):Prop:=∀(s:List UInt8)(k:aK->Prop),s.length<1073741824->(∀(b:Bool) h',ax h h'->(s.length<=8/\(∀c∈s,c.toNat<128)->b=true)->k (.a (.d b) h'))->aE T (W T) ⟨147⟩ [S s] h k
def aBt(j:aA T)(o:∀h',ax h h'->KP T h') (m:s.length<1073741824) (d:∀v e h',ax h h'->v.length<1073741824->k (.a (.p [S v,.i e]) h')):aE T (W T) ⟨118⟩ [S s] h k:=by
 rw[ic j.t118];generalize r:Xy=t;refine ag ?_;refine aak j m (λ_ q g1=>?_) λy v n q g1 x z=>?_;refine ag ?_;exact d [] 4 _ g1 zm
 by_cases f:n=0
 refine aB f ?_;exact d [] 4 _ g1 zm
 by_cases l:n=s.length
 subst l;have g:¬s=[]:=by rintro rfl;exact f rfl
 refine aB g ?_;refine o _ g1 _ _ m λb w g2 _=>?_;cases b with
 |false=>
  refine ag ?_;exact d [] 4 _ (g1.ab g2) zm
 |true=>
  subst r
  by_cases u:4096<v.length
  have a:(4096:Int)<v.length:=zo;refine aB a ?_;exact d [] 3 _ (g1.ab g2) zm;have a:¬(4096:Int)<v.length:=zo;refine aB a ?_;exact d v 0 _ (g1.ab g2) zo
 have i:¬(n:Int)=s.length:=zo;refine aU f l i ?_;exact d [] 4 _ g1 zm
def aiF(d:aA T)(f:∀h',ax h h'->KP T h'):Od T h:=by
 intro s k j i;cases eq:ayj s with
 |some x=>
  by_cases n:s.length=3
  obtain⟨r,rfl,o,q⟩:=azn eq;obtain rfl:r=[]:=auv (by simpa using n);rw[ic d.t118];refine ag ?_;refine aBs d o q zd λt g1=>?_;refine ag ?_;refine f _ g1 _ _ j λb u g2 g=>?_;have g:=g ⟨by simp,λc l=>by simp at l;rcases l with rfl|rfl|rfl<;>first|decide|omega⟩;subst g;refine ag ?_;exact i [x] 0 _ (g1.ab g2) zm λy m _=>by rw[eq] at m;cases m;exact⟨rfl,rfl⟩
  exact aBt d f j λv e h' a b=>i v e h' a b λy _ e=>absurd e n
 |none=>exact aBt d f j λv e h' a b=>i v e h' a b λy e _=>by rw[eq] at e;cases e
end
section
open Go (IntKind)
variable {a b:Int}
@[simp] def asG:cJ (.a (.b .u64)) (.g .u64 a) (.g .u64 b)=some (decide (a=b)):=by simp[cJ,sD,A6,qh]
@[simp] def asH:ko .u64 (.s m)=.v (.g .u64 (IntKind.u64.wrap (.ofNat m))):=rfl
@[simp] def asI{k:Int}(h:0<=k):oQ pF (.g .u64 a) (.g .u64 k)=.v (.g .u64 (IntKind.u64.wrap (a*2^(min k.toNat 64)))):=by obtain⟨n,rfl⟩:=at6 h;rfl
end
section
variable {k:aK->Prop}{c:UInt8}
def EE(d:aA T)(f:8<=s.length)(e:∀w:Int,k (.a (.g .u64 w) h)):aE T (W T) ⟨170⟩ [S s] h k:=by rw[ic d.t170];have:s.length=s.length:=rfl;refine ag ?_;exact e _
def aiG(g:aA T){o:aT->Prop}:∀(m:Nat)(s:List UInt8)(f:Fr),s.length<=m->s.length<1073741824->cg 0 f=S s->(∀i(j:List UInt8),j.length<=s.length->cg 0 i=S j->o (.a 2 i h []))->W T (.d l147_0) f h [] o:=by
 intro m
 induction m with
 |zero=>
  intro s f w v f0 d;have e:¬(32:Int)<s.length:=zo;rw[aP];refine aS f0 e ?_;exact d _ s zl zA
 |succ m x=>
  intro s f w v f0 d;rw[aP]
  by_cases e:32<s.length
  have l:(32:Int)<s.length:=zo;have D:(s.drop 8).length=s.length- 8:=auf ..;have E:(s.drop 16).length=s.length- 16:=auf ..;have F:(s.drop 24).length=s.length- 24:=auf ..;have G:(s.drop 32).length=s.length- 32:=auf ..;simp(maxSteps:=10000000) (disch:=first|exact bh|fail) [f0,l];refine EE g zo λy=>?_;simp(maxSteps:=10000000) (disch:=first|exact bh|fail);refine EE g zo λz=>?_;simp(maxSteps:=10000000) (disch:=first|exact bh|fail);refine EE g zo λA=>?_;simp(maxSteps:=10000000) (disch:=first|exact bh|fail);refine EE g zo λB=>?_;generalize r:bW (λ_ a b=>a&&&b) (bW (λ_ a b=>a|||b) (bW (λ_ a b=>a|||b) y z) (bW (λ_ a b=>a|||b) A B)) 9259542123273814144=t
  by_cases q:t=0
  refine aU f0 r q ?_;exact x (s.drop 32) _ zo zo aa λi j C u=>d i j zo u;refine aU f0 r q ?_;exact d _ s zl zA;have l:¬(32:Int)<s.length:=zo;refine aS f0 l ?_;exact d _ s zl zA
end
section
open Go (IntKind)
variable {k:aK->Prop}{c:UInt8}
abbrev TZ(T:aM->Option CF)(hh:Hp)(s:List UInt8)(d:aT->Prop):Prop:=∀a h'(b:List UInt8),ax hh h'->b.length<s.length->cg 0 a=S b->W T (.d l147_1) a h' [] d
def aiH(m:aA T){u:aT->Prop}{f:Fr}(j:ax hh h)(J:s.length<1073741824)(f0:cg 0 f=S (c::s))(l:TZ T hh (c::s) u):
 W T (CC.g (.h (z q147 4)) (.g (.g (.h (z q147 5)) (.i (.t 24) (.g (.h (z q147 6)) (.g (.f r147_7) (.i (.t 39) (.g (.h (z q147 8)) (.j 2 (.d l147_0))) .k))) .k)) (.n 1))) f h [] (bF (W T azg) (bY 1 (bF (W T (.d l147_1)) u))):=by
 generalize I:azg=TT;generalize x:CC.d l147_0=F;have K:(c::s).length=s.length+1:=rfl;have v:(1:Int)<=(s.length:Int)+1:=zo
 by_cases e:8<s.length
 have q:(8:Int)<s.length:=zo;have L:(s.drop 8).length=s.length- 8:=auf ..;refine aU f0 v q ?_;refine EE m zo λC=>?_
 by_cases n:bW (λ_ a b=>a&&&b) C 9259542123273814144=0
 have t:(8:Int)<=s.length:=zo;generalize o:s.drop 8=d at*
 by_cases G:16<d.length
 have g:(16:Int)<d.length:=zo;have y:(d.drop 8).length=d.length- 8:=auf ..;have A:(d.drop 16).length=d.length- 16:=auf ..;have i:(8:Int)<=d.length:=zo;refine cC n t o g i ?_;refine EE m zo λD=>?_;refine cC n t o g i ?_;refine EE m zo λE=>?_
 by_cases w:bW (λ_ a b=>a&&&b) (bW (λ_ a b=>a|||b) D E) 9259542123273814144=0
 have r:(16:Int)<=d.length:=zo;refine aS w r ?_;subst x;refine aiG m (d.drop 16).length (d.drop 16) _ zl zo aa λH B q1 q2=>?_;refine ag ?_;exact l _ _ B j zo q2;refine aB w ?_;exact l _ _ d j zo aa;have g:¬(16:Int)<d.length:=zo;refine bK n t o g ?_;exact l _ _ d j zo aa;refine aB n ?_;exact l _ _ s j zo aa;have q:¬(8:Int)<s.length:=zo;refine aU f0 v q ?_;exact l _ _ s j zo aa
def aiI(B:aA T){n:aT->Prop}{f:Fr}{b6 lo hi sz:Nat}(b:ax hh h)(g:h.ac b6=.a 237 [.s lo,.s hi])(C:s.length<1073741824)(f0:cg 0 f=S s)(f5:cg 5 f=.i sz)(f6:cg 6 f=.a b6 0)
 (e:∀v h',ax hh h'->cg 2 v=.d false->n (.b v h' [])) (o:TZ T hh s n):
 W T azZ f h [] (bY 1 (bF (W T (.d l147_1)) n)):=by
 by_cases y:sz=2
 subst y
 by_cases q0:s.length<2
 have a:(s.length:Int)<2:=zo;refine bK f0 f5 f6 a ?_;exact e _ _ b aa;have a:¬(s.length:Int)<2:=zo;have w:1<s.length:=zo;have m:(2:Int)<=s.length:=zo
 by_cases d:s[1].toNat<lo
 refine cq f0 f5 f6 g a d ?_;exact e _ _ b aa
 by_cases i:hi<s[1].toNat
 refine iR f0 f5 f6 g a d i ?_;exact e _ _ b aa;refine fY f0 f5 f6 g a d i m ?_;exact o _ _ (s.drop 2) b qam aa
 by_cases z:sz=3
 subst z
 by_cases q0:s.length<3
 have a:(s.length:Int)<3:=zo;refine bK f0 f5 f6 a ?_;exact e _ _ b aa;have a:¬(s.length:Int)<3:=zo;have w:2<s.length:=zo;have m:(3:Int)<=s.length:=zo
 by_cases d:s[1].toNat<lo
 refine cq f0 f5 f6 g a d ?_;exact e _ _ b aa
 by_cases i:hi<s[1].toNat
 refine iR f0 f5 f6 g a d i ?_;exact e _ _ b aa
 by_cases j:s[2].toNat<128
 refine fY f0 f5 f6 g a d i j ?_;exact e _ _ b aa
 by_cases l:191<s[2].toNat
 refine mz f0 f5 f6 g a d i j l ?_;exact e _ _ b aa;refine nA f0 f5 f6 g a d i j l m ?_;exact o _ _ (s.drop 3) b qam aa
 by_cases A:sz=4
 subst A
 by_cases q0:s.length<4
 have a:(s.length:Int)<4:=zo;refine bK f0 f5 f6 a ?_;exact e _ _ b aa;have a:¬(s.length:Int)<4:=zo;have w:3<s.length:=zo;have m:(4:Int)<=s.length:=zo
 by_cases d:s[1].toNat<lo
 refine cq f0 f5 f6 g a d ?_;exact e _ _ b aa
 by_cases i:hi<s[1].toNat
 refine iR f0 f5 f6 g a d i ?_;exact e _ _ b aa
 by_cases j:s[2].toNat<128
 refine fY f0 f5 f6 g a d i j ?_;exact e _ _ b aa
 by_cases l:191<s[2].toNat
 refine mz f0 f5 f6 g a d i j l ?_;exact e _ _ b aa
 by_cases q:s[3].toNat<128
 refine nA f0 f5 f6 g a d i j l q ?_;exact e _ _ b aa
 by_cases x:191<s[3].toNat
 refine wM f0 f5 f6 g a d i j l q x ?_;exact e _ _ b aa;refine pU f0 f5 f6 g a d i j l q x m ?_;exact o _ _ (s.drop 4) b qam aa;have r:¬(sz:Int)=2:=zo;have t:¬(sz:Int)=3:=zo;have u:¬(sz:Int)=4:=zo;refine cq f0 f5 f6 r t u ?_;exact e _ _ b aa
def aiJ(B:aA T)(o:Bi (hh.ac 3))(r:Bj (hh.ac 4)){l:aT->Prop}(K:∀i h',ax hh h'->cg 2 i=.d false->l (.b i h' [])) (E:∀i h',ax hh h'->l (.a 0 i h' [])):∀(m:Nat)(s:List UInt8)(h:Hp)(f:Fr),s.length<=m->s.length<1073741824->ax hh h->cg 0 f=S s->W T (.d l147_1) f h [] l:=by
 have Q:3<hh.a:=by obtain⟨t,e,_⟩:=o;exact Hp.lt e rfl
 have R:4<hh.a:=by obtain⟨t,e,_⟩:=r;exact Hp.lt e rfl
 intro m
 induction m with
 |zero=>
  intro s h f J I d f0;obtain rfl:s=[]:=auv zo;rw[aP];refine aB f0 ?_;exact E _ _ d
 |succ m M=>
  intro s h f J I d f0;cases s with
  |nil=>
   rw[aP];refine aB f0 ?_;exact E _ _ d
  |cons c s=>
   have Y:(c::s).length=s.length+1:=rfl;have A:=c.toNat_lt;have D:TZ T hh (c::s) l:=λi h' P g q v=>M P h' i zo zo g v;rw[aP];show W T az0 f h [] _;unfold az0 zt azg zt;generalize z:aA4=U;generalize j:azZ=V;have C:(0:Int)<(s.length:Int)+1:=zo
   by_cases e:c.toNat<128
   refine aU f0 C e ?_;subst z;subst j;exact aiH B d zo zA D;obtain⟨t3,o,F⟩:=o;obtain⟨t4,r,G⟩:=r;obtain⟨x,N,X,Z⟩:=F c.toNat A;have w:h.ac 3=.g 1 256 t3:=by rw[d.f _ Q id];exact o
   have y:h.ac 4=.g 2 16 t4:=by rw[d.f _ R id];exact r
   have u:x/16<16:=zo;obtain⟨a,b,O⟩:=G _ u;have hi:=ri (rw:=2) (n:=16) (b:=4) u zd;have L:bU (λ_ a b=>a&&&b) x 7<256:=aht;have H:=d.g;simp(disch:=omega) [f0,C,e,ri A zl,w,sY A,N,hi,y,aaR u,O,aal L];subst j;exact aiI B (b6:=h.a) (lo:=a) (hi:=b) (sz:=bU (λ_ a b=>a&&&b) x 7) (d.ab aZ) (Hp.dq rfl) zo zA aa aa K D
def aCJ(r:aA T){b:aT->Prop}(o:∀l,b (.a 0 l h [])):∀(s:List UInt8)(f:Fr),s.length<=8->(∀c∈s,c.toNat<128)->cg 0 f=S s->W T (.d l147_1) f h [] b:=by
 intro s
 induction s with
 |nil=>
  intro f n a f0;rw[aP];refine aB f0 ?_;exact o _
 |cons c s q=>
  intro f n a f0;have t:(c::s).length=s.length+1:=rfl;have e:c.toNat<128:=a c zm;have i:(0:Int)<(s.length:Int)+1:=zo;have j:(1:Int)<=(s.length:Int)+1:=zo;have g:¬(8:Int)<s.length:=zo;rw[aP];generalize m:CC.d l147_1=L;refine cC f0 i e j g ?_;subst m;exact q _ zo (λd hd=>a d (by simp[hd])) aa
def aiK(a:aA T)(i:Bi (h.ac 3))(j:Bj (h.ac 4)):KP T h:=by
 intro s k m b;rw[ic a.t147];generalize l:CC.d l147_1=L;refine ag ?_;subst l
 by_cases c:s.length<=8/\∀c∈s,c.toNat<128
 refine aCJ a (λd=>?_) s _ c.1 c.2 aa;refine ag ?_;exact b true _ (ah.da _) λ_=>rfl;refine aiJ a (hh:=h) i j (λd h' g f=>?_) (λd h' g=>?_) s.length s h _ zl m (ah.da _) aa;refine aB f ?_;exact b false _ g λe=>absurd e c;refine ag ?_;exact b true _ g λ_=>rfl
end
section
open Go (IntKind)
variable {a b:Int}
@[simp] def vJ:lG (.g .u64 a) (.g .u64 b)=.v (.g .u64 (IntKind.u64.wrap (a+b))):=rfl
@[simp] def ru:jb (.g .u64 a) (.g .u64 b)=.v (.g .u64 (IntKind.u64.wrap (a- b))):=rfl
@[simp] def vK:qj (.g .u64 a) (.g .u64 b)=.v (.g .u64 (IntKind.u64.wrap (a*b))):=rfl
@[simp] def KQ(h:b≠0):we (.g .u64 a) (.g .u64 b)=.v (.g .u64 (IntKind.u64.wrap (a.tdiv b))):=by simp only[we,IL,A6,h];rfl
def Oe:tK (.g .u64 a) (.g .u64 b)=some (if a<b then 0 else if a=b then 1 else 2):=by simp only[tK,qk,Ej];rfl
@[simp] def asK:ua (.g .u64 a) (.g .u64 b)=.v (.d (decide (a<b))):=by simp only[ua,mc,Oe];by_cases h:a<b<;>by_cases e:a=b<;>simp[h,e]
@[simp] def asL:vq (.g .u64 a) (.g .u64 b)=.v (.d (decide (a<=b))):=by simp only[vq,mc,Oe];by_cases h:a<b<;>by_cases e:a=b<;>simp[h,e]<;>omega
@[simp] def asM:uc (.g .u64 a) (.g .u64 b)=.v (.d (decide (b<a))):=by simp only[uc,mc,Oe];by_cases h:a<b<;>by_cases e:a=b<;>simp[h,e]<;>omega
@[simp] def asN:vt (.g .u64 a) (.g .u64 b)=.v (.d (decide (b<=a))):=by simp only[vt,mc,Oe];by_cases h:a<b<;>by_cases e:a=b<;>simp[h,e]<;>omega
@[simp] def aED{k:Int}(h:0<=k):sC (.g .u64 a) (.g .u64 k)=.v (.g .u64 (a.fdiv (2^(min k.toNat 64)))):=by obtain⟨n,rfl⟩:=at6 h;rfl
@[simp] def vL:ko .u64 (.i a)=.v (.g .u64 (IntKind.u64.wrap a)):=rfl
@[simp] def Of:ko .u64 (.g .u64 a)=.v (.g .u64 (IntKind.u64.wrap a)):=rfl
@[simp] def asO:ko .i64 (.g .u64 a)=.v (.i (w64 a)):=rfl
@[simp] def T'(h:n<=m)(h':m<256):jb (.s m) (.s n)=.v (.s (m- n)):=by show OR.v (.s (IntKind.u8.wrap ((m:Int)- n)).toNat)=_;rw[Go.IntKind.wrap_u8];congr 2;omega
@[simp] def asQ:cJ .c .x .x=some true:=rfl
@[simp] def asR{t v}:cJ .c (.r t v) .x=some false:=rfl
@[simp] def asS{t v}:cJ .c .x (.r t v)=some false:=rfl
@[simp] def asT:cJ (.i [26,251,264]) (.r 264 (.i a)) (.r 264 (.i b))=some (decide (a=b)):=by simp[cJ,BR,A6]
@[simp] def Og:IntKind.u64.wrap a=a% 18446744073709551616:=Go.IntKind.wrap_u64 ..
end
section
variable {k:aK->Prop}
def Ua:∀l n,(mg l n).length=l
 |0,_=>rfl
 |l+1,n=>by simp only[mg,atX,Ua l]
def Ub:∀l n j,(c:j<(mg l n).length)->(mg l n)[j]=[.s (lF n j)]
 |0,_,_,h=>absurd h (avm _)
 |l+1,n,0,_=>by simp[mg,lF]
 |l+1,n,j+1,h=>by simp only[mg,auu];rw[Ub l _ j (by simpa[mg] using h)];show[AV.s ((n>>>8)>>>(8*j)% 256)]=[AV.s (n>>>(8*(j+1))% 256)];rw[<-awl,show 8+8*j=8*(j+1) from by omega]
def aiL(f:s.length<1152921504606846976):∃t,BX h 5 (S s)=.b (.c h.a 0 1 s.length s.length false) (h.am (.b 5 1 s.length 0 t))/\∀j,(d:j<s.length)->t j=[.s s[j].toNat]:=by refine⟨jy fG 0 (mg s.length (cO (s.map (·.toNat)))),?_,λj d=>?_⟩;simp only[BX,S,ny,show s.length<=1152921504606846975 by omega,auS,cond,alloc];rfl;rw[wO (by rw[Ua];exact d),Ub,Tb _ (λb e=>by obtain⟨c,_,rfl⟩:=auR.1 e;exact UInt8.toNat_lt _)];simp[List.getD,d]
def kh(c:UInt8):Bool:=decide (48<=c.toNat)&&decide (c.toNat<=57)
def jS(s:List UInt8):Nat:=(s.takeWhile kh).length
def aaX{p:UInt8->Bool}:∀{l:List UInt8},l.all p=true->l.takeWhile p=l
 |[],_=>rfl
 |c::l,h=>by simp only[aw2,atW] at h;rw[avL h.1,aaX h.2]
def aiM:jS s<=s.length:=(aw9 _).length_le
def Uc(l:aA T)(t:s.length<1073741824)(c:k (.a (.i (jS s)) h)):aE T (W T) ⟨165⟩ [S s] h k:=by
 rw[ic l.t165];have key:∀(m i:Nat)(f:Fr)(K:aT->Prop),m=s.length- i->i<=s.length->(s.take i).all kh=true->cg 3 f=.i i->cg 0 f=S s->(∀g,cg 3 g=.i (jS s)->K (.a 0 g h []))->W T (.d l165_0) f h [] K:=by
  intro m
  induction m with
  |zero=>
   intro i f K p hi hd f3 f0 c;have e:¬(i:Int)<s.length:=zo;have:jS s=i:=by have o:s.take i=s:=avG zo;rw[o] at hd;unfold jS;rw[aaX hd];omega
   rw[aP];refine aU f3 f0 e ?_;exact c _ qaI
  |succ m r=>
   intro i f K p hi hd f3 f0 c;have j:i<s.length:=zo;have e:(i:Int)<s.length:=zo;rw[aP];have d:kh s[i]=false->jS s=i:=λq=>by
    unfold jS
    conv=>lhs;rw[<-av6 i s,aut j]
    rw[List.takeWhile_append_of_pos (by simpa using hd),awb (by simp[q])];simp;omega
   by_cases c1:s[i].toNat<48
   have:=d (by simp[kh];omega);refine bK f3 f0 e c1 ?_;exact c _ qaI
   by_cases c2:57<s[i].toNat
   have:=d (by simp[kh];omega);refine cC f3 f0 e c1 c2 ?_;exact c _ qaI;refine cC f3 f0 e c1 c2 ?_;refine r (i+1) _ _ zo zo ?_ aa zA c;rw[avb j,List.all_append,hd];simp[kh];omega
 refine ag ?_;refine key _ 0 _ _ rfl zo zm aa aa λg f3=>?_;refine aB f3 ?_;exact c
def Ag(s:List UInt8):Bool:=decide (s≠[])&&decide (jS s=s.length)&&(decide (s.length=1)||decide ((s.headD 0).toNat≠48))
def aaZ(i:aA T)(l:s.length<1073741824)(d:k (.a (.d (Ag s)) h)):aE T (W T) ⟨140⟩ [S s] h k:=by
 rw[ic i.t140];cases s with
 |nil=>refine ag ?_;exact d
 |cons c r=>
  refine ag ?_;refine Uc i l ?_
  by_cases e:jS (c::r)=(c::r).length
  rw[atX] at e
  by_cases f:r=[]
  subst f;simp only[Ag] at d;simp(disch:=omega) [e] at d;refine aB e ?_;exact d;have j:¬((r.length:Int)+1=1):=by have:=auA.2 f;omega
  simp only[Ag] at d;simp(disch:=omega) [e,f] at d;refine aU e f j ?_;exact d;rw[atX] at e;have g:¬((jS (c::r):Int)=r.length+1):=zo;simp only[Ag] at d;simp(disch:=omega) [e] at d;refine aS e g ?_;exact d
end
end Yv
