/- A part of the proof of 'ScopeAlphaUptoCardSaid'. No condition. -/
import Derived.Test.YtjjppojiafpfcaaGreatDoorX00
import Derived.IntWalk
import Derived.Laws.Strings
import Derived.Laws.StructEq
import Derived.Laws.IdiomCopy
import Derived.Laws.Tables
import Derived.Laws.MakeOwn
import Derived.Great.BuildSlice
import Derived.MapKept
import Derived.ChangeKeysEq
import Derived.WideLaws
import Derived.Maps.RangeRun
import Derived.Deep.DeepAppendWide
import Derived.Laws.BytesString
import Derived.RangeFuncLeaves
import Derived.OrdersIn
import Derived.RecoverIn
import Derived.Scope
set_option maxHeartbeats 64000000
set_option maxRecDepth 100000
set_option linter.all false
namespace Yv
open Go
variable {P:Program}{f:Fr}{h:Hp}{w:World}{φ:aH}
def afg{i j:aM}(h:i.n=j.n):i=j:=by cases i;simp_all
theorem Ye{a b:Bool}(h:Jf a b=true):a=b:=by grind[Jf]
theorem MX{a b:Int}(h:mJ a b=true):a=b:=by cases a<;>cases b<;>simp only[mJ,at3] at h<;>rw[at7 h]
theorem afh{a b:IntKind}(h:qh a b=true):a=b:=by cases a<;>cases b<;>first|rfl|(simp[qh,Mm] at h)
def afi{a b:FloatKind}(h:uP a b=true):a=b:=by cases a<;>cases b<;>first|rfl|cases h
mutual
theorem RL:∀(x y:AV),fP x y=true->x=y
 |.B,y,h=>by grind[fP]
 |.g a,y,h=>by cases y<;>simp[fP] at h;rw[Ye h]
 |.i a,y,h=>by cases y<;>simp[fP] at h;rw[MX h]
 |.s a,y,h=>by cases y<;>simp[fP] at h;rw[h]
 |.d k a,y,h=>by cases y<;>simp[fP] at h;grind[afh,MX]
 |.w k a,y,h=>by cases y<;>simp[fP] at h;rw[afi h.1,h.2]
 |.y a b,y,h=>by cases y<;>simp[fP] at h;grind
 |.a i o,y,h=>by cases y<;>simp[fP] at h;grind
 |.u,y,h=>by grind[fP]
 |.c i o r l c e,y,h=>by cases y<;>simp[fP] at h;grind[Ye]
 |.h,y,h=>by grind[fP]
 |.j i,y,h=>by cases y<;>simp[fP] at h;grind
 |.A,y,h=>by grind[fP]
 |.r f a b,y,h=>by cases y<;>simp[fP] at h;obtain⟨⟨d,g⟩,j⟩:=h;rw[afg d,JF _ _ g,JF _ _ j]
 |.C,y,h=>by grind[fP]
 |.q t v,y,h=>by cases y<;>simp[fP] at h;rw[h.1,RL _ _ h.2]
 |.x,y,h=>by grind[fP]
 |.p l,y,h=>by cases y<;>simp[fP] at h;rw[JF _ _ h]
 |.o l,y,h=>by cases y<;>simp[fP] at h;rw[JF _ _ h]
 |.D,y,h=>by grind[fP]
 |.F a,y,h=>by cases y<;>simp[fP] at h;rw[MX h]
 |.G a,y,h=>by cases y<;>simp[fP] at h;rw[MX h]
theorem JF:∀(l m:List AV),zj l m=true->l=m
 |[],m,h=>by grind[zj]
 |x::l,m,h=>by cases m<;>simp[zj] at h;rw[RL _ _ h.1,JF _ _ h.2]
end
def Dn(a:Prop)(_:aK):Prop:=a
def Dn.lh{o:aK}(h:Dn False o):False:=h
def afj{k:Hp->Prop}{l:List Hp}{o:aK}(h:Dn (Jg k l) o):∀g∈l,Dn (k g) o:=h
def HLe(h g:Hp):Prop:=∀i,g.ab i=h.ab i\/g.ab i=.c
theorem R.Yf{φ:aH}{h g:Hp}{w:World}(r:R φ h w)(le:HLe h g):∃ψ:aH,φ.l ψ/\R ψ g w/\(∀i,dH (g.ab i)=true->dH (h.ab i)=true/\ψ.a i=φ.a i):=by
 have b:∀i,dH (g.ab i)=true->g.ab i=h.ab i:=λi hi=>by rcases le i with e|e;omega;rw[e] at hi;cases hi
 refine⟨⟨λi=>φ.f i\/jN (g.ab i)=false,φ.a,φ.c,φ.g,φ.m,φ.k⟩,⟨λi d=>.inl d,λ_ _=>rfl,λ_ _=>rfl,λ_ _=>rfl,λ_ _=>rfl,rfl⟩,⟨λi=>?_,λi=>?_,λi j hi hj=>?_,λi hi=>?_⟩,λi hi=>⟨by grind,rfl⟩⟩;constructor;rintro(d|e);rcases le i with e|e;rw[e];exact(r.k i).1 d;rw[e];rfl;omega;grind;rcases le i with e|e;rw[e];by_cases s:jN (h.ab i)=false;exact(r.f i).bc ⟨λi d=>.inl d,λ_ _=>rfl,λ_ _=>rfl,λ_ _=>rfl,λ_ _=>rfl,rfl⟩ ((r.k i).2 s) zl rfl λ_ m aD todo t _ o p q=>⟨o,p,q,at2 _,λ_=>⟨id,λ_=>rfl,λe a _ hd=>nS (ψ:=⟨λi=>φ.f i\/jN (g.ab i)=false,φ.a,φ.c,φ.g,φ.m,φ.k⟩) ⟨λi d=>.inl d,λ_ _=>rfl,λ_ _=>rfl,λ_ _=>rfl,λ_ _=>rfl,rfl⟩ _ _ hd,by simp⟩⟩;have:h.ab i=.g:=by grind[jN]
 rw[this];trivial;rw[e];trivial;have c:=hi;have n:=hj
 rw[b i hi] at c;rw[b j hj] at n;rw[b i hi,b j hj];exact r.inj i j c n;exact r.l i qaa
theorem eS.Yf{φ ψ a:aH}{h h' g:Hp}{w w':World}(s:eS φ h w ψ w' h')(le:ψ.l a)(c:∀i,dH (g.ab i)=true->dH (h'.ab i)=true/\a.a i=ψ.a i):eS φ h w a w' g where
 n:=s.n.ba le
 l:=s.l
 f:=s.f
 o:=λi hi=>by obtain⟨b,k⟩:=c i hi;rcases s.o i b with⟨j,hj,e⟩|e;grind;omega
 p:=s.p
 d:=s.d
 m:=s.m
structure iq(φ:aH)(f:Fr)(tmps:Array Value):Prop where
 b:∀t,aj φ (an (gz t) f) (tmps.getD t Go.undef)
def iq.Hn{φ:aH}{f:Fr}{tmps:Array Value}(h:iq φ f tmps)(t:Nat)(_:t<512):aj φ (an (gz t) f) (tmps.getD t Go.undef):=h.b t
def iq.bc{φ ψ:aH}{f:Fr}{tmps:Array Value}(h:iq φ f tmps)(le:φ.l ψ):iq ψ f tmps:=⟨λt=>nS le _ _ (h.b t)⟩
theorem RM(p q:Nat)(v:AV)(f:Fr):an p (fO q v f)=if p=q then v else an p f:=by simp_all[an,fO]
theorem iq.iL{φ:aH}{f:Fr}{a:Act}(h:iq φ f a.tmps){d:Option Nat}{x:AV}{v:Value}(hd:∀t,d=some t->t<a.tmps.size/\t<512) (c:aj φ x v):
 iq φ (Yv.put (d.map gz) x f) (a.put d v).tmps:=by
 cases d with
 |none=>exact h
 |some u=>
  refine⟨λt=>?_⟩;simp[au3,Yv.put,Act.put];rw[RM (gz t) (gz u)];show aj φ (if t=u then x else an (gz t) f) _;by_cases e:t=u;simp_all;have:=h.b t;simp_all[Ne.symm]
def MY(a:Act)(d:Option Nat)(v:Value):(a.put d v).tmps.size=a.tmps.size:=by cases d<;>simp[Act.put]
def MZ(a:Act)(d:Option Nat)(v:Value):(a.put d v).defers=a.defers:=by cases d<;>rfl
theorem RN{a b:Type}{f:a->Option b}:∀{l:List a}{r:List b},iJ f l=some r->r.length=l.length/\∀(k:Nat)(x:a),l[k]? =some x->∃y,r[k]? =some y/\f x=some y
 |[],r,h=>by grind[iJ]
 |x::l,r,h=>by simp[iJ] at h;split at h;rename_i y g e hr;cases h;obtain⟨c,d⟩:=RN hr;grind;grind
def Yg{φ:aH}{x:AV}{v:Value}(b:qM x=true)(h:aj φ x v):v.oneCell'=true:=by
 cases x<;>simp only[qM,at3] at b<;>simp only[aj] at h
 case g=>subst h;rfl
 case D=>obtain⟨_,rfl⟩:=h;rfl
 case F=>obtain⟨_,rfl,_⟩:=h;rfl
 case G=>obtain⟨_,rfl,_⟩:=h;rfl
 case i=>subst h;rfl
 case s=>subst h;rfl
 case d=>subst h;rfl
 case w=>subst h;rfl
 case y=>obtain⟨_,rfl,_⟩:=h;rfl
 case a=>obtain⟨_,rfl⟩:=h;rfl
 case u=>subst h;rfl
 case c=>obtain⟨_,_,_,rfl,_⟩:=h;rfl
 case h=>subst h;rfl
 case j=>obtain⟨_,rfl⟩:=h;rfl
 case A=>subst h;rfl
 case r=>obtain⟨_,_,rfl,_⟩:=h;rfl
 case C=>subst h;rfl
 case q=>obtain⟨_,rfl,_⟩:=h;rfl
 case x=>subst h;rfl
theorem Yh{φ:aH}:∀{l:List AV}{vs:List Value},F7 l=true->z7 φ l vs->∀v∈vs,v.oneCell'=true
 |[],vs,_,h=>by grind[z7]
 |x::l,vs,a,h=>by simp[F7,atW] at a;obtain⟨v,r,rfl,c,d⟩:=h;intro u b;rcases atZ.1 b with rfl|b;exact Yg a.1 c;exact Yh a.2 d u b
theorem RP{φ:aH}:∀(d:Nat)(v:Value)(x:AV),mh d v=some x->aj φ x v
 |0,_,_,h=>by simp[mh] at h
 |d+1,v,x,h=>by
  have f:∀(l:List Value)(r:List AV),iJ (mh d) l=some r->z7 φ r l:=λl r e=>by
   obtain⟨i,m⟩:=RN e;refine Gn i.symm λj a o=>?_;have hj:j<l.length:=by grind
   obtain⟨y,g,q⟩:=m j l[j] (atT hj);rw[o] at g;cases g;exact⟨l[j],atT hj,RP d _ _ q⟩
  cases v with
  |bool b=>grind[mh,aj]
  |int k n=>
   cases k<;>simp only[mh] at h
   case u8=>cases n<;>simp only[atU,reduceCtorEq] at h;grind[aj]
   all_goals grind[aj]
  |float k b=>grind[mh,aj]
  |complex=>simp[mh] at h
  |string s=>simp[mh,atU] at h;subst h;exact⟨s,rfl,aff s⟩
  |pointer a=>grind[mh,aj]
  |slice a l c=>
   grind[mh,aj]
  |map r=>grind[mh,aj]
  |chan=>simp[mh] at h
  |func=>simp[mh] at h
  |nilFunc=>grind[mh,aj]
  |iface=>simp[mh] at h
  |nilIface=>grind[mh,aj]
  |agg cs=>
   simp[mh] at h;split at h;rename_i l e;split at h;rename_i p;cases h;exact⟨cs,rfl,f _ _ e,Yh p (f _ _ e)⟩;grind;grind
  |tuple cs=>
   grind[mh,aj]
def jq(φ:aH)(P:Program):Prop:=φ.k=P/\∀g,g<P.globals.size->g<1152921504606846976->φ.f (gid g)/\φ.a (gid g)=g/\φ.c (gid g)=0
def jq.bc{φ ψ:aH}{P:Program}(h:jq φ P)(le:φ.l ψ):jq ψ P:=⟨le.f.trans h.1,λg c e=>by obtain⟨d,a,b⟩:=h.2 g c e;exact⟨le.b _ d,by rw[le.a _ d,a],by rw[le.c _ d,b]⟩⟩
theorem Gv{φ:aH}{P:Program}(G:jq φ P){f:Fr}{a:Act}(e:iq φ f a.tmps){x:Operand}{c:CX}(h:tN P x=some c):aj φ (c.ab f) (a.eval x):=by
 cases x with
 |tmp t=>
  simp only[tN] at h;split at h;rename_i i;cases h;exact e.Hn t i;grind
 |const v=>
  simp[tN] at h;split at h;rename_i y j;cases h;exact RP _ _ _ j;grind
 |global g=>
  simp only[tN] at h;split at h;rename_i b;cases h;obtain⟨d,k,l⟩:=G.2 g b.1 b.2;grind[CX.ab,aj,Act.eval];grind
 |func g=>
  simp[tN,atU] at h;subst h;exact⟨#[],#[],rfl,sJ,sJ⟩
theorem Yi{φ:aH}{P:Program}(G:jq φ P){f:Fr}{a:Act}(b:iq φ f a.tmps):∀{l:List Operand}{cs:List CX},iJ (tN P) l=some cs->z7 φ (jc (λx=>x.ab f) cs) (l.map a.eval)
 |[],cs,h=>by simp[iJ,atU] at h;subst h;rfl
 |x::l,cs,h=>by simp[iJ] at h;split at h;rename_i y r c hr;cases h;exact qS.2 ⟨Gv G b c,Yi G b hr⟩;grind
def M0(n:Next)(v:Value):Prop:=n=.value v\/(n=.skip/\v=Go.undef)
def JG(φ:aH)(d:Df)(b:Deferred):Prop:=
 match d with
 |.a g c=>∃cap args cs,b.target=.fn (.func g.n) cap/\b.args=args/\z7 φ c cs/\cs=args.toList++cap.toList
def Gw(P:Program)(φ:aH)(h:Hp)(w:World)(jk:Result Next):OR->Prop
 |.v x=>∃n v w',jk=.ok n w'/\M0 n v/\aj φ x v/\sL w w'
 |.b x h'=>∃n v w' ψ,jk=.ok n w'/\M0 n v/\R ψ h' w'/\eS φ h w ψ w' h'/\aj ψ x v
 |.c g args=>∃vs w',jk=(callFunc g.n vs).run P w'/\sL w w'/\z7 φ args vs.toList
 |.j d=>∃b w',jk=.ok (.defer b) w'/\sL w w'/\JG φ d b
 |.i x=>∃v w',jk=.halt (.panic v) w'/\sL w w'/\aj φ x v
 |.g l=>∃n v w' ψ h',h'∈l/\jk=.ok n w'/\M0 n v/\R ψ h' w'/\eS φ h w ψ w' h'/\aj ψ wm v
 |.a _=>True
section
variable {a:Act}{o:Oper}
def Good(P:Program)(φ:aH)(h:Hp)(w:World)(f:Fr)(a:Act)(o:Oper)(co:CO):Prop:=Gw P φ h w ((execOp a.eval o).run P w) (aQ co f h)
theorem cy{s:String}:Good P φ h w f a o (.d s):=trivial
theorem gY(G:jq φ P)(b:iq φ f a.tmps){F:CX->CO}{x:Operand}(d:∀c,aj φ (c.ab f) (a.eval x)->Good P φ h w f a o (F c)):Good P φ h w f a o (ap P F x):=by grind[ap,Gv,cy]
def kA(G:jq φ P)(b:iq φ f a.tmps){F:CX->CX->CO}{x y:Operand}(g:∀c d,aj φ (c.ab f) (a.eval x)->aj φ (d.ab f) (a.eval y)->Good P φ h w f a o (F c d)):Good P φ h w f a o (jm P F x y):=
 gY G b λc e=>gY G b λd hd=>g c d e hd
def Yj(φ:aH)(f:Fr)(b:Operand->Value):Option CX->Option Operand->Prop
 |none,none=>True
 |some c,some x=>aj φ (c.ab f) (b x)
 |_,_=>False
def M1(G:jq φ P)(e:iq φ f a.tmps){F:Option CX->CO}{x:Option Operand}(b:∀c,Yj φ f a.eval c x->Good P φ h w f a o (F c)):Good P φ h w f a o (zh P F x):=by unfold zh;split;exact b none trivial;exact gY G e λc d=>b (some c) d
theorem Cc(G:jq φ P)(b:iq φ f a.tmps){F:List CX->CO}{l:List Operand}(c:∀cs,z7 φ (jc (λx=>x.ab f) cs) (l.map a.eval)->Good P φ h w f a o (F cs)):Good P φ h w f a o (qP P F l):=by grind[qP,Yi,cy]
def RQ{jk:Result Next}{x:AV}{v:Value}(hr:jk=.ok (.value v) w)(b:aj φ x v):Gw P φ h w jk (.v x):=⟨_,v,w,hr,.inl rfl,b,.cg w⟩
def dI(P:Program)(φ:aH)(w:World)(s:Sem Value):OR->Prop
 |.v x=>∃v,s.run P w=.ok v w/\aj φ x v
 |.a _=>True
 |_=>False
def iO{co:CO}{s:Sem Value}(e:execOp a.eval o=(do pure (.value (<-s))))(d:dI P φ w s (aQ co f h)):Good P φ h w f a o co:=by
 unfold Good;rw[e];cases hr:aQ co f h with
 |v x=>
  rw[hr] at d;obtain⟨v,k,l⟩:=d;simp_all[RQ]
 |a s=>trivial
 |b=>rw[hr] at d;exact d.elim
 |c=>rw[hr] at d;exact d.elim
 |j=>rw[hr] at d;exact d.elim
 |i=>rw[hr] at d;exact d.elim
 |g=>rw[hr] at d;exact d.elim
end
section
variable {a:Act}{o:Oper}
def afk:(Du:Int)=9223372036854775807:=by rfl
theorem afl(n:Int):0<=IntKind.u8.wrap n:=by grind[IntKind.wrap_u8]
theorem sO(k:IntKind)(n:Int):aj φ (mL k n) (.int k (k.wrap n)):=by cases k<;>simp only[mL,aj,w64];grind[afl,Int.toNat_of_nonneg]
def AZ{k j:IntKind}:qh k j=true->k=j:=by cases k<;>cases j<;>simp[qh,Mm]
theorem Yk{c:Bool}{x y:OR}:(c=true/\cond c x y=x)\/(c=false/\cond c x y=y):=by grind
def RR(b:BinOp)(op:Int->Int->Int):Prop:=(b=.add/\op=Int.add)\/(b=.sub/\op=Int.sub)\/(b=.mul/\op=Int.mul)
def RR.run{b:BinOp}{op:Int->Int->Int}(c:RR b op)(t:TypeId)(k:IntKind)(m n:Int):(binOp b t (.int k m) (.int k n)).run P w=.ok (.int k (k.wrap (op m n))) w:=by rcases c with⟨rfl,rfl⟩|⟨rfl,rfl⟩|⟨rfl,rfl⟩<;>simp[binOp,Op.intArith]<;>rfl
def RS{b:BinOp}{op:Int->Int->Int}(c:RR b op)(t:TypeId){x y:AV}{u v:Value}(d:aj φ x u)(g:aj φ y v):dI P φ w (binOp b t u v) (arith op x y):=by unfold arith;split;subst d g;exact⟨_,c.run t _ _ _,by rfl⟩;subst d g;exact⟨_,c.run t _ _ _,sO _ _⟩;rename_i k m j n;subst d g;rcases@Yk (qh k j) (.v (mL k (op m n))) (.a "arith: kinds") with⟨i,e⟩|⟨_,e⟩;rw[e];obtain rfl:=AZ i;exact⟨_,c.run t _ _ _,sO _ _⟩;rw[e];trivial;trivial
def afm(t:TypeId){x y:AV}{u v:Value}(j:aj φ x u)(k:aj φ y v):dI P φ w (binOp .add t u v) (Mn x y):=by unfold Mn;split;rename_i l m d n;obtain⟨s,rfl,c⟩:=j;obtain⟨s',rfl,b⟩:=k;rcases@Yk (Nat.ble (Nat.add l d) Du) (.v (.y (Nat.add l d) (FM l m n))) (.a "cat") with⟨i,e⟩|⟨_,e⟩;rw[e];refine⟨.string (s++s'),?_,?_⟩;have p:=c.qx;have q:=b.qx;have g:=au1 i;have r:=Int.ofNat_le.2 g;simp_all[afk,binOp,Op.stringOp];exact⟨_,rfl,c.FM b⟩;rw[e];trivial;trivial
def JH{a b:FloatKind}(h:uP a b=true):a=b:=by cases a<;>cases b<;>first|rfl|cases h
def afn(b:BinOp)(op:Ieee.Format->Nat->Nat->Option Nat):Prop:=(b=.add/\op=Ieee.Format.add)\/(b=.sub/\op=Ieee.Format.sub)\/(b=.mul/\op=Ieee.Format.mul)\/(b=.quo/\op=Ieee.Format.div)
def M3{b:BinOp}{op:Ieee.Format->Nat->Nat->Option Nat}(c:afn b op)(t:TypeId){x y:AV}{u v:Value}(g:aj φ x u)(i:aj φ y v):dI P φ w (binOp b t u v) (FO op x y):=by
 unfold FO;split;rename_i k m j n;subst g i;cases d:uP k j with
 |false=>trivial
 |true=>
  obtain rfl:=JH d;cases e:op k.format m n with
  |none=>trivial
  |some r=>
   refine⟨.float k r,?_,by rfl⟩;rcases c with⟨rfl,rfl⟩|⟨rfl,rfl⟩|⟨rfl,rfl⟩|⟨rfl,rfl⟩<;>simp[binOp,Op.floatArith,e]
 trivial
def afo(t:TypeId){x y:AV}{u v:Value}(b:aj φ x u)(c:aj φ y v):dI P φ w (binOp .add t u v) (lG x y):=by unfold lG;split;exact afm t b c;exact M3 (.inl ⟨rfl,rfl⟩) t b c;exact RS (.inl ⟨rfl,rfl⟩) t b c
def afp(t:TypeId){x y:AV}{u v:Value}(b:aj φ x u)(c:aj φ y v):dI P φ w (binOp .sub t u v) (jb x y):=by unfold jb;split;exact M3 (.inr (.inl ⟨rfl,rfl⟩)) t b c;exact RS (.inr (.inl ⟨rfl,rfl⟩)) t b c
def afq(t:TypeId){x y:AV}{u v:Value}(b:aj φ x u)(c:aj φ y v):dI P φ w (binOp .mul t u v) (qj x y):=by unfold qj;split;exact M3 (.inr (.inr (.inl ⟨rfl,rfl⟩))) t b c;exact RS (.inr (.inr ⟨rfl,rfl⟩)) t b c
theorem Yl(a b:Int):mJ a b=true <-> a=b:=by cases a<;>cases b<;>simp only[mJ,iH,Int.ofNat.injEq,Int.negSucc.injEq,at3,reduceCtorEq]
theorem M4(a b:Int):mJ a b=(a==b):=by rw[avA,Yl,av9]
theorem DS(a b:Int):xK a b=decide (a<b):=by rw[avA,axA];cases a<;>cases b<;>simp only[xK,je,au8,at3,false_iff,true_iff,eq_self]<;>omega
theorem sP{s:Sem Value}{c:Bool}{x y:OR}(d:c=true->dI P φ w s x)(b:c=false->dI P φ w s y):dI P φ w s (cond c x y):=by grind
def RT(t:TypeId)(k:IntKind)(m n:Int)(b:n≠0):(binOp .quo t (.int k m) (.int k n)).run P w=.ok (.int k (k.wrap (m.tdiv n))) w:=by simp[binOp,Op.intDiv,b]
def RU(t:TypeId)(k:IntKind)(m n:Int)(b:n≠0):(binOp .rem t (.int k m) (.int k n)).run P w=.ok (.int k (m.tmod n)) w:=by simp[binOp,Op.intDiv,b]
theorem M5{n m:Int}(h:mJ n m=false):n≠m:=λc=>by grind[Yl]
theorem Ym{n m:Nat}(h:Nat.beq n m=false):n≠m:=λc=>by simp_all
theorem afr(t:TypeId){x y:AV}{u v:Value}(c:aj φ x u)(d:aj φ y v):dI P φ w (binOp .quo t u v) (IL x y):=by unfold IL;split;subst c d;refine sP (λ_=>trivial) λb=>⟨_,RT t _ _ _ (M5 b),by rfl⟩;subst c d;refine sP (λ_=>trivial) λb=>⟨_,RT t _ _ _ (by grind[Ym]),sO _ _⟩;subst c d;refine sP (λb=>?_) λ_=>trivial;simp at b;obtain rfl:=AZ b.1;exact⟨_,RT t _ _ _ (M5 b.2),sO _ _⟩;trivial
theorem afs(t:TypeId){x y:AV}{u v:Value}(b:aj φ x u)(c:aj φ y v):dI P φ w (binOp .quo t u v) (we x y):=by unfold we;split;exact M3 (.inr (.inr (.inr ⟨rfl,rfl⟩))) t b c;grind[afr]
theorem afu(t:TypeId){x y:AV}{u v:Value}(c:aj φ x u)(d:aj φ y v):dI P φ w (binOp .rem t u v) (AH x y):=by unfold AH;split;subst c d;refine sP (λ_=>trivial) λb=>⟨_,RU t _ _ _ (M5 b),by rfl⟩;subst c d;refine sP (λ_=>trivial) λb=>⟨_,RU t _ _ _ (by grind[Ym]),?_⟩;rfl;subst c d;refine sP (λb=>?_) λ_=>trivial;simp at b;obtain rfl:=AZ b.1;exact⟨_,RU t _ _ _ (M5 b.2),by rfl⟩;trivial
def RV(b:BinOp)(op:(n:Nat)->BitVec n->BitVec n->BitVec n):Prop:=
 (b=.and/\op=λ_ a b=>a&&&b)\/(b=.or/\op=λ_ a b=>a|||b)\/(b=.xor/\op=λ_ a b=>a^^^b)\/(b=.andNot/\op=λ_ a b=>a&&&~~~b)
def RV.run{b:BinOp}{op:(n:Nat)->BitVec n->BitVec n->BitVec n}(c:RV b op)(t:TypeId)(k:IntKind)(m n:Int):
 (binOp b t (.int k m) (.int k n)).run P w=.ok (.int k (k.wrap (Int.ofNat (op k.bits (BitVec.ofInt k.bits m) (BitVec.ofInt k.bits n)).toNat))) w:=by
 rcases c with⟨rfl,rfl⟩|⟨rfl,rfl⟩|⟨rfl,rfl⟩|⟨rfl,rfl⟩<;>simp[binOp,Op.intBits]
def M6{b:BinOp}{op:(n:Nat)->BitVec n->BitVec n->BitVec n}(c:RV b op)(t:TypeId){x y:AV}{u v:Value}(d:aj φ x u)(e:aj φ y v):
 dI P φ w (binOp b t u v) (jI op x y):=by
 unfold jI;split;subst d e;exact⟨_,c.run t _ _ _,sO _ _⟩;subst d e;exact⟨_,c.run t _ _ _,sO _ _⟩;subst d e;refine sP (λg=>?_) λ_=>trivial;obtain rfl:=AZ g;exact⟨_,c.run t _ _ _,sO _ _⟩;trivial
theorem tU{x:AV}{v:Value}(b:aj φ x v){n:Nat}(h:mM x=some n):∃k,v=.int k n:=by
 cases x<;>simp only[mM,reduceCtorEq] at h<;>simp only[aj] at b
 case i m=>cases m<;>simp only[BP,atU,reduceCtorEq] at h;grind
 case s m=>grind
 case d k m=>cases m<;>simp only[BP,atU,reduceCtorEq] at h;grind
def RW(t:TypeId)(k j:IntKind)(m:Int)(n:Nat):(binOp .shl t (.int k m) (.int j n)).run P w=.ok (.int k (k.wrap (m*2^(min n k.bits)))) w:=by rfl
def RX(t:TypeId)(k j:IntKind)(m:Int)(n:Nat):(binOp .shr t (.int k m) (.int j n)).run P w=.ok (.int k (m.fdiv (2^(min n k.bits)))) w:=by rfl
def afv(t:TypeId){x y:AV}{u v:Value}(b:aj φ x u)(d:aj φ y v):dI P φ w (binOp .shl t u v) (oQ pF x y):=by unfold oQ;split;rename_i n c;obtain⟨j,rfl⟩:=tU d c;unfold W9;split;subst b;exact⟨_,RW t _ _ _ _,sO _ _⟩;subst b;exact⟨_,RW t _ _ _ _,sO _ _⟩;subst b;exact⟨_,RW t _ _ _ _,sO _ _⟩;trivial;trivial
def afw(t:TypeId){x y:AV}{u v:Value}(b:aj φ x u)(d:aj φ y v):dI P φ w (binOp .shr t u v) (sC x y):=by
 unfold sC;split;rename_i n c;obtain⟨j,rfl⟩:=tU d c;unfold Xa;split;subst b;exact⟨_,RX t _ _ _ _,by rfl⟩;rename_i m;subst b;refine⟨_,RX t _ _ _ _,?_⟩;congr 1;have e:(2:Int)^min n IntKind.u8.bits=((2^min n 8:Nat):Int):=by rfl
 rw[e,avH _ (Int.natCast_nonneg _)];rfl;subst b;exact⟨_,RX t _ _ _ _,by rfl⟩;trivial;trivial
def uZ(b:BinOp):Option (Nat->Bool):=
 match b with
 |.lss=>some λo=>Nat.beq o 0
 |.leq=>some λo=>Nat.ble o 1
 |.gtr=>some λo=>Nat.beq o 2
 |.geq=>some λo=>Nat.ble 1 o
 |_=>none
theorem Gx{m n:Int}(h:m<n):uQ m n=0:=by grind[uQ,DS]
theorem RY(m:Int):uQ m m=1:=by simp_all[uQ,DS,M4]
theorem Gy{m n:Int}(h:n<m):uQ m n=2:=by grind[uQ,DS,M4]
def DT{a b:Bool}(h:a=b):Result.ok (Value.bool a) w=.ok (.bool b) w:=by rw[h]
def JI(b:BinOp)(g:Nat->Bool)(c:uZ b=some g)(t:TypeId)(k:IntKind)(m n:Int):(binOp b t (.int k m) (.int k n)).run P w=.ok (.bool (g (uQ m n))) w:=by
 have hr:(binOp b t (.int k m) (.int k n)).run P w=(Op.intCmp b m n).run P w:=by cases b<;>simp only[uZ,reduceCtorEq] at c<;>simp only[binOp,ne_eq,awW,auM]
 rw[hr];rcases axI m n with h|h|h;rw[Gx h];cases b<;>simp only[uZ,atU,reduceCtorEq] at c<;>subst c<;>simp only[Op.intCmp,Sem.run_pure]<;>
  first|exact DT (avf zo)|exact DT (auK zo)
 subst h;rw[RY];cases b<;>simp only[uZ,atU,reduceCtorEq] at c<;>subst c<;>simp only[Op.intCmp,Sem.run_pure]<;>
  first|exact DT (avf zo)|exact DT (auK zo)
 rw[Gy h];cases b<;>simp only[uZ,atU,reduceCtorEq] at c<;>subst c<;>simp only[Op.intCmp,Sem.run_pure]<;>
  first|exact DT (avf zo)|exact DT (auK zo)
theorem Yn:∀(fl j d p i q:Nat)(x y:List UInt8),x.map (·.toNat)=(aEx d p).drop j->y.map (·.toNat)=(aEx i q).drop j->(fl=min x.length y.length)->j+x.length=d->j+y.length=i->
 IK fl j d p i q=if Op.bytesLess x y then 0 else if x=y then 1 else 2
 |0,j,d,p,i,q,x,y,B,C,A,r,s=>by
  simp only[IK];cases x with
  |nil=>
   cases y with
   |nil=>simp at r s;simp_all[Op.bytesLess]
   |cons b y=>
    simp at r s;have u:Nat.beq d i=false:=by cases m:Nat.beq d i with|false=>rfl|true=>simp_all
    have k:Nat.ble d i=true:=by rw[je];omega
    rw[u,k];rfl
  |cons b x=>
   cases y with
   |nil=>
    simp at r s;have u:Nat.beq d i=false:=by cases m:Nat.beq d i with|false=>rfl|true=>simp_all
    have k:Nat.ble d i=false:=by grind[je]
    rw[u,k];rfl
   |cons c y=>grind
 |fl+1,j,d,p,i,q,x,y,B,C,A,r,s=>by
  cases x with
  |nil=>grind
  |cons b x=>
   cases y with
   |nil=>grind
   |cons c y=>
    simp only[atX] at r s A;have v:∀(z:List UInt8)(l n:Nat)(b:UInt8),(b::z).map (·.toNat)=(aEx l n).drop j->j<l->lF n j=b.toNat/\z.map (·.toNat)=(aEx l n).drop (j+1):=by intro z l n b e G;have k:=aui (λl=>l[0]?) e;simp only[aul,avk,auF,aud] at k;rw[MV l n j G] at k;refine⟨by grind,?_⟩;have E:=aui List.tail e;simpa using E
    obtain⟨D,I⟩:=v x d p b B zo;obtain⟨c1,y1⟩:=v y i q c C zo;have H:=Yn fl (j+1) d p i q x y I y1 zo zo zo;simp only[IK,D,c1,Op.bytesLess];by_cases e:b=c;subst e;rw[av1,cond,H];simp;have m:Nat.beq b.toNat c.toNat=false:=by
     cases m:Nat.beq b.toNat c.toNat with
     |false=>rfl
     |true=>rw[iH] at m;exact absurd (UInt8.toNat_inj.1 m) e
    rw[m,cond];by_cases t:b<c;have:Nat.ble b.toNat c.toNat=true:=by rw[je];exact axM (axc.1 t)
    simp[this,t];have:Nat.ble b.toNat c.toNat=false:=by
     cases F:Nat.ble b.toNat c.toNat with
     |false=>rfl
     |true=>
      rw[je] at F;have J:¬b.toNat<c.toNat:=λg=>t (axc.2 g);have K:b.toNat≠c.toNat:=λg=>e (UInt8.toNat_inj.1 g);omega
    simp[this,t,e]
theorem RZ:∀(x:List UInt8),Op.bytesLess x x=false
 |[]=>rfl
 |a::x=>by simp[Op.bytesLess,RZ x]
theorem Yo{l n b n':Nat}{s s':ByteArray}(d:kR l n s)(c:kR b n' s'):v8 l n b n'=if Op.bytesLess s.toList s'.toList then 0 else if s.toList=s'.toList then 1 else 2:=by
 rw[Go.ByteArray.toList_eq,Go.ByteArray.toList_eq];unfold v8;cases g:(Nat.beq l b&&Nat.beq n n') with
 |true=>
  simp at g;have e:=(d.LF c).1 g;grind[RZ]
 |false=>
  have i:s.data.toList.length=l:=by have:=d.qx;simp_all
  have j:s'.data.toList.length=b:=by have:=c.qx;simp_all
  exact Yn _ 0 l n b n' s.data.toList s'.data.toList (by simpa using d.1) (by simpa using c.1) (by grind[je]) zo zo
theorem R0(b:BinOp)(g:Nat->Bool)(c:uZ b=some g)(t:TypeId){l n k n':Nat}{s s':ByteArray}(q:kR l n s)(m:kR k n' s'):
 (binOp b t (.string s) (.string s')).run P w=.ok (.bool (g (v8 l n k n'))) w:=by
 rw[Yo q m];have i:s.toList=s'.toList->Op.bytesLess s.toList s'.toList=false:=λe=>by grind[RZ]
 have hr:(binOp b t (.string s) (.string s')).run P w=(Op.stringOp b s s').run P w:=by grind[binOp]
 rw[hr];have p:(s.toList==s'.toList)=decide (s.toList=s'.toList):=by grind
 have j:(Op.stringOp b s s').run P w=.ok (.bool (match b with|.lss=>Op.bytesLess s.toList s'.toList|.leq=>Op.bytesLess s.toList s'.toList||decide (s.toList=s'.toList)|.gtr=> !(Op.bytesLess s.toList s'.toList||decide (s.toList=s'.toList))|_=> !Op.bytesLess s.toList s'.toList)) w:=by cases b<;>simp only[uZ,reduceCtorEq] at c<;>simp only[Op.stringOp,Sem.run_pure,p]
 rw[j];refine DT ?_;generalize Op.bytesLess s.toList s'.toList=L at*;generalize s.toList=x at*;generalize s'.toList=y at*;by_cases d:x=y;obtain rfl:=i d;rw[if_neg zm,if_pos d];cases b<;>simp only[uZ,atU,reduceCtorEq] at c<;>subst c<;>simp only[avf d]<;>rfl;cases L with
 |true=>
  cases b<;>simp only[uZ,atU,reduceCtorEq] at c<;>subst c<;>rfl
 |false=>
  rw[if_neg zm,if_neg d];cases b<;>simp only[uZ,atU,reduceCtorEq] at c<;>subst c<;>simp only[auK d]<;>rfl
theorem M7(b:BinOp)(g:Nat->Bool)(p:uZ b=some g)(t:TypeId){x y:AV}{u v:Value}(l:aj φ x u)(q:aj φ y v):dI P φ w (binOp b t u v) (mc g x y):=by
 unfold mc;split;rename_i c d;unfold tK at d;split at d;rename_i k m j n;cases i:uP k j with
 |false=>grind
 |true=>
  rw[i] at d;obtain rfl:=JH i;subst l q;cases r:k.format.order m n with
  |none=>grind
  |some od=>
   refine⟨.bool (g c),?_,by rfl⟩;cases b<;>simp only[uZ,reduceCtorEq,atU] at p<;>subst p<;>cases od<;>rw[r] at d<;>cases d<;>simp[binOp,Op.floatCmp,r]<;>rfl
 rename_i C;unfold qk at d;split at d;cases d;subst l q;exact⟨_,JI b g p t _ _ _,by rfl⟩;rename_i m n;cases d;subst l q;refine⟨_,JI b g p t _ _ _,?_⟩;simp[aj];have e:(cond (Nat.beq m n) 1 (cond (Nat.ble m n) 0 2))=uQ (m:Int) (n:Int):=by
  by_cases E:m=n;grind[Nat.beq_refl,RY];have D:Nat.beq m n=false:=by cases F:Nat.beq m n with|false=>rfl|true=>simp_all
  grind[je,Gx,Gy]
 rw[e];rename_i k m j n;cases i:qh k j with
 |false=>grind
 |true=>
  rw[i] at d;cases d;obtain rfl:=AZ i;subst l q;exact⟨_,JI b g p t _ _ _,by rfl⟩
 cases d;obtain⟨s,rfl,B⟩:=l;obtain⟨s',rfl,A⟩:=q;exact⟨_,R0 b g p t B A,by rfl⟩;rename_i m n;cases i:xK n m with
 |false=>grind
 |true=>
  rw[i] at d;cases d;obtain⟨x,rfl,l⟩:=l;subst q;have z:n<m:=by simpa[DS] using i
  refine⟨_,JI b g p t _ _ _,?_⟩;grind[aj,Gy]
 rename_i m n;cases i:xK m n with
 |false=>grind
 |true=>
  rw[i] at d;cases d;obtain⟨x,rfl,l⟩:=l;subst q;have z:m<n:=by simpa[DS] using i
  refine⟨_,JI b g p t _ _ _,?_⟩;grind[aj,Gx]
 grind;trivial
def cF(k:FK)(u v:Value):Option Bool:=
 match k,u,v with
 |.b k,.int i a,.int j c=>if i=k/\j=k then some (decide (a=c)) else none
 |.a,.string s,.string t=>some (s.toList==t.toList)
 |.c,.bool a,.bool b=>some (a==b)
 |_,_,_=>none
def cL:List FK->List Value->List Value->Option Bool
 |[],[],[]=>some true
 |k::ks,x::l,y::r=>
  match cF k x y with
  |some true=>cL ks l r
  |some false=>some false
  |none=>none
 |_,_,_=>none
theorem afx{d:Type}{c:Bool}{x:d}{b:d}(h:cond c (some x) none=some b):c=true/\x=b:=by grind
theorem GA{k:FK}{x y:AV}{b:Bool}(c:sD k x y=some b){u v:Value}(d:aj φ x u)(e:aj φ y v):cF k u v=some b:=by unfold sD at c;split at c;split at c;cases c;subst d e;simp[cF,axQ,M4];rfl;grind;split at c;rename_i m n _;cases c;simp only[aj] at d e;subst d e;simp only[cF,axQ,auo];congr 1;rw[avA,iH,axA];omega;cases c;split at c;obtain⟨g,rfl⟩:=afx c;simp only[atW] at g;obtain rfl:=AZ g.1;obtain rfl:=AZ g.2;simp only[aj] at d e;subst d e;simp only[cF,axQ,auo,M4];rfl;cases c;split at c;cases c;simp only[aj] at d e;obtain⟨s,rfl,i⟩:=d;obtain⟨t,rfl,j⟩:=e;simp only[cF];congr 1;rw[avA,av9,Go.ByteArray.toList_eq,Go.ByteArray.toList_eq,atW,iH,iH,i.LF j];constructor;intro h;have:s.data=t.data:=aw5.1 h;cases s;cases t;simp_all;rintro rfl;rfl;cases c;split at c;rename_i a b _;cases c;simp only[aj] at d e;subst d e;simp only[cF];cases a<;>cases b<;>rfl;cases c;cases c
theorem GB:∀{ks:List FK}{l r:List AV}{b:Bool},yX ks l r=some b->∀{d e:List Value},z7 φ l d->z7 φ r e->cL ks d e=some b
 |[],[],[],b,c,d,e,g,j=>by simp[yX,atU] at c;subst c;subst g;subst j;rfl
 |k::ks,x::l,y::r,b,c,d,e,g,j=>by obtain⟨u,s,rfl,p,i⟩:=g;obtain⟨v,t,rfl,q,m⟩:=j;simp[yX] at c;simp[cL];split at c;rename_i n;rw[GA n p q];exact GB c i m;grind[GA];grind
 |[],[],_::_,_,c,_,_,_,_=>by simp[yX] at c
 |[],_::_,_,_,c,_,_,_,_=>by simp[yX] at c
 |_::_,[],_,_,c,_,_,_,_=>by simp[yX] at c
 |_::_,_::_,[],_,c,_,_,_,_=>by simp[yX] at c
theorem R6:∀{l m:List FK}{X Y:List Value}{b:Bool},cL (l++m) X Y=some b->
 (cL l (X.take l.length) (Y.take l.length)=some false/\b=false)\/(cL l (X.take l.length) (Y.take l.length)=some true/\cL m (X.drop l.length) (Y.drop l.length)=some b)
 |[],m,X,Y,b,h=>.inr ⟨by rfl,by grind⟩
 |k::l,m,[],Y,b,h=>by simp[cL] at h
 |k::l,m,_::_,[],b,h=>by simp[cL] at h
 |k::l,m,x::X,y::Y,b,h=>by simp[auY,cL] at h;simp[atX,awj,awK,cL];split at h;exact R6 h;grind;grind
def qV(P:Program)(t:TypeId)(u:Value)(cs:List Value):Prop:=
 match P.underlying t with
 |some (.struct _)=>∃b,u=.agg b/\b.toList=cs
 |_=>cs=[u]
theorem R7{t:TypeId}{n:Nat}(h:fI P t=some n):∃i,P.info? t=some i/\i.size=n:=by grind[fI]
def vb{t:TypeId}{n:Nat}(h:fI P t=some n)(w:World):(Go.sizeOf t).run P w=.ok n w:=by obtain⟨i,hi,rfl⟩:=R7 h;simp[Go.sizeOf,typeInfo,hi]
def bZ{t:TypeId}{d:TypeDesc}(h:P.underlying t=some d)(w:World):(underlying t).run P w=.ok d w:=by simp[underlying,h]
def GC{t:TypeId}{d:TypeDesc}(h:P.underlying t=some d)(w:World):(isAgg t).run P w=.ok (oR d) w:=by unfold isAgg;rw[Sem.run_bind,bZ h];cases d<;>rfl
theorem Sa{d:Nat}{t:TypeId}{l:List FK}(c:flatK P d t=some l):
 (∃k,l=[.b k]/\P.underlying t=some (.int k))\/(l=[.c]/\P.underlying t=some .bool)\/(l=[.a]/\P.underlying t=some .string)\/
 (∃fs b,d=b+1/\P.underlying t=some (.struct fs)/\P.stoodInHeld t=false/\zf P (flatK P b) 0 fs.toList=some l):=by
 cases d with
 |zero=>simp[flatK] at c
 |succ d=>
  grind[flatK]
def Sb{t:TypeId}{l:List FK}{d:Nat}(i:flatK P d t=some l)(r:fI P t=some l.length){c:Array Value}{off:Nat}
 (m:l.length=1->off<c.size\/∃fs,P.underlying t=some (.struct fs)) (w:World):∃u,(part t c off).run P w=.ok u w/\qV P t u ((c.toList.drop off).take l.length):=by
 have g:∀e,P.underlying t=some e->oR e=false->l.length=1->(∀fs,e≠.struct fs)->∃u,(part t c off).run P w=.ok u w/\qV P t u ((c.toList.drop off).take l.length):=by intro e b p q j;simp_all[part,GC,qV,aut]
 rcases Sa i with⟨k,rfl,b⟩|⟨rfl,b⟩|⟨rfl,b⟩|⟨fs,n,_,b,_,_⟩;exact g _ b rfl rfl (λ_=>by simp);exact g _ b rfl rfl (λ_=>by simp);exact g _ b rfl rfl (λ_=>by simp);simp_all[part,GC,oR,vb,qV]
theorem Sd{k:FK}{u v:Value}{b:Bool}(h:cL [k] [u] [v]=some b):cF k u v=some b:=by grind[cL]
def M8{k:IntKind}{u v:Value}{b:Bool}(h:cF (.b k) u v=some b):∃a c,u=.int k a/\v=.int k c/\b=decide (a=c):=by cases u<;>cases v<;>simp only[cF,reduceCtorEq] at h;simp_all
theorem JK{u v:Value}{b:Bool}(h:cF .a u v=some b):∃s t,u=.string s/\v=.string t/\b=(s.toList==t.toList):=by cases u<;>cases v<;>simp only[cF,reduceCtorEq] at h;grind
theorem M9{u v:Value}{b:Bool}(h:cF .c u v=some b):∃s t,u=.bool s/\v=.bool t/\b=(s==t):=by cases u<;>cases v<;>simp only[cF,reduceCtorEq] at h;grind
def JL(P:Program)(d:Nat):Prop:=∀t ks,flatK P d t=some ks->∀D,d<=D->∀u v c e b w,qV P t u c->qV P t v e->cL ks c e=some b->(Op.equalIn D t u v).run P w=.ok b w
def Se(P:Program)(d:Nat):Prop:=∀fs off ks,zf P (flatK P d) off fs=some ks->∀D,d<=D->∀(X Y:Array Value) b w,cL ks (X.toList.drop off) (Y.toList.drop off)=some b->(Op.eqFields D X Y fs).run P w=.ok b w
theorem Yp{d:Nat}(x:∀j,d=j+1->Se P j):JL P d:=by
 intro t ks p D C u v A B b w c e l;have q:∃i,D=i+1:=by
  cases d with
  |zero=>simp[flatK] at p
  |succ d=>exact⟨D- 1,by omega⟩
 obtain⟨i,rfl⟩:=q;rcases Sa p with⟨k,rfl,g⟩|⟨rfl,g⟩|⟨rfl,g⟩|⟨fs,j,s,g,y,z⟩;simp[qV,g] at c e;subst c;subst e;obtain⟨m,n,rfl,rfl,rfl⟩:=M8 (Sd l);grind[run_equalIn_int];simp[qV,g] at c e;subst c;subst e;obtain⟨m,n,rfl,rfl,rfl⟩:=M9 (Sd l);grind[run_equalIn_bool'];simp[qV,g] at c e;subst c;subst e;obtain⟨m,n,rfl,rfl,rfl⟩:=JK (Sd l);grind[run_equalIn_string];simp[qV,g] at c e;obtain⟨X,rfl,rfl⟩:=c;obtain⟨Y,rfl,rfl⟩:=e;have r:P.fieldsOf t=fs:=by grind[Program.fieldsOf]
 rw[run_equalIn_struct w i t X Y qaa y,r];exact x j s fs.toList 0 ks z i zo X Y b w qaa
theorem Yr{d:Nat}(A:JL P d):Se P d:=by
 intro fs;induction fs with
 |nil=>
  intro off ks c D n X Y b w i;simp[zf,atU] at c;subst c;have:b=true:=by cases B:X.toList.drop off<;>cases C:Y.toList.drop off<;>rw[B,C] at i<;>simp[cL] at i;omega
  simp_all[Op.eqFields]
 |cons f r J=>
  intro off ks c D n X Y b w i;simp only[zf] at c;split at c;grind;rename_i s;have H:f.name≠ "_":=λe=>s (.inl e);have G:f.offset=off:=avt λe=>s (.inr e);split at c;rename_i l j;split at c;rename_i m I;split at c;rename_i q;cases c;have y:l.length=1->off<X.size\/∃fs,P.underlying f.type=some (.struct fs):=λp=>by refine .inl (avt λg=>?_);have:X.toList.drop off=[]:=auJ qaa;rw[this] at i;cases l<;>simp[cL] at p i
  have z:l.length=1->off<Y.size\/∃fs,P.underlying f.type=some (.struct fs):=λp=>by
   refine .inl (avt λg=>?_);have:Y.toList.drop off=[]:=auJ qaa;cases l with
   |nil=>grind
   |cons k l=>grind[cL]
  obtain⟨u,E,t⟩:=Sb j q y w;obtain⟨v,F,x⟩:=Sb j q z w;simp only[Op.eqFields,ne_eq,H,avR,auo,G,Sem.run_bind,E,F,Result.andThen_ok];rcases R6 i with⟨c1,rfl⟩|⟨c1,c2⟩;rw[A _ _ j D n _ _ _ _ _ w t x c1];simp;rw[A _ _ j D n _ _ _ _ _ w t x c1];simp;grind[List.drop_drop];cases c;cases c;cases c
def Sg:∀d,JL P d/\Se P d
 |0=>have A:JL P 0:=Yp (λb h=>by omega);⟨A,Yr A⟩
 |d+1=>have A:JL P (d+1):=Yp (λb h=>by have:b=d:=zo;exact(Sg b).2);⟨A,Yr A⟩
end
section
variable {t:TypeId}{D:Nat}
def ep1{e:TypeId}(b:P.underlying t=some (.pointer e)):(Op.equalIn (D+1) t (.pointer none) (.pointer none)).run P w=.ok true w:=by simp_all[Op.equalIn,bZ]
def ep2{e:TypeId}{a:Addr}(b:P.underlying t=some (.pointer e)):(Op.equalIn (D+1) t (.pointer none) (.pointer (some a))).run P w=.ok false w:=by simp_all[Op.equalIn,bZ]
def ep3{e:TypeId}{a:Addr}(b:P.underlying t=some (.pointer e)):(Op.equalIn (D+1) t (.pointer (some a)) (.pointer none)).run P w=.ok false w:=by simp_all[Op.equalIn,bZ]
def ep4{e:TypeId}{a:Addr}{n:Nat}(c:P.underlying t=some (.pointer e))(b:fI P e=some n):(Op.equalIn (D+1) t (.pointer (some a)) (.pointer (some a))).run P w=.ok true w:=by simp_all[Op.equalIn,bZ,vb,sameAddr]
def afy{i j:Nat}(h:IM i j=true):i=j:=at7 h
theorem Ys{i j:Nat}{o q:Nat}{r:Bool}(b:cond (cond (Nat.beq o q) (IM i j) false) (some true) none=some r):r=true/\i=j/\o=q:=by
 cases c:Nat.beq o q with
 |false=>grind
 |true=>
  rw[c] at b;cases d:IM i j with
  |false=>grind
  |true=>rw[d] at b;cases b;exact⟨rfl,afy d,at7 c⟩
def es1{e:TypeId}{l c d b:Nat}(g:P.underlying t=some (.slice e)):(Op.equalIn (D+1) t (.slice none l c) (.slice none d b)).run P w=.ok true w:=by simp_all[Op.equalIn,bZ]
def es2{e:TypeId}{a:Addr}{l c d b:Nat}(g:P.underlying t=some (.slice e)):(Op.equalIn (D+1) t (.slice none l c) (.slice (some a) d b)).run P w=.ok false w:=by simp_all[Op.equalIn,bZ]
def es3{e:TypeId}{a:Addr}{l c d b:Nat}(g:P.underlying t=some (.slice e)):(Op.equalIn (D+1) t (.slice (some a) l c) (.slice none d b)).run P w=.ok false w:=by simp_all[Op.equalIn,bZ]
def em1{k e:TypeId}(b:P.underlying t=some (.map k e)):(Op.equalIn (D+1) t (.map none) (.map none)).run P w=.ok true w:=by simp_all[Op.equalIn,bZ]
def JM{k e:TypeId}{a:Nat}(b:P.underlying t=some (.map k e)):(Op.equalIn (D+1) t (.map none) (.map (some a))).run P w=.ok false w:=by simp_all[Op.equalIn,bZ]
def em3{k e:TypeId}{a:Nat}(b:P.underlying t=some (.map k e)):(Op.equalIn (D+1) t (.map (some a)) (.map none)).run P w=.ok false w:=by simp_all[Op.equalIn,bZ]
def ef1{a b:Array TypeId}{c:Bool}(d:P.underlying t=some (.func a b c)):(Op.equalIn (D+1) t .nilFunc .nilFunc).run P w=.ok true w:=by simp_all[Op.equalIn,bZ]
def ef2{a b:Array TypeId}{c:Bool}{g:Fn}{x y:Array Value}(d:P.underlying t=some (.func a b c)):(Op.equalIn (D+1) t .nilFunc (.func g x y)).run P w=.ok false w:=by simp_all[Op.equalIn,bZ]
def ef3{a b:Array TypeId}{c:Bool}{g:Fn}{x y:Array Value}(d:P.underlying t=some (.func a b c)):(Op.equalIn (D+1) t (.func g x y) .nilFunc).run P w=.ok false w:=by simp_all[Op.equalIn,bZ]
def ei1{ms:Array (String×TypeId)}(b:P.underlying t=some (.interface ms)):(Op.equalIn (D+1) t .nilIface .nilIface).run P w=.ok true w:=by simp_all[Op.equalIn,bZ]
def ei2{ms:Array (String×TypeId)}{g:TypeId}{x:Value}(b:P.underlying t=some (.interface ms)):(Op.equalIn (D+1) t .nilIface (.iface g x)).run P w=.ok false w:=by simp_all[Op.equalIn,bZ]
def ei3{ms:Array (String×TypeId)}{g:TypeId}{x:Value}(b:P.underlying t=some (.interface ms)):(Op.equalIn (D+1) t (.iface g x) .nilIface).run P w=.ok false w:=by simp_all[Op.equalIn,bZ]
def ei4{ms:Array (String×TypeId)}{g b:TypeId}{x y:Value}(c:P.underlying t=some (.interface ms))(d:g≠b):(Op.equalIn (D+1) t (.iface g x) (.iface b y)).run P w=.ok false w:=by rw[Op.equalIn,Sem.run_bind,bZ c];simp_all
theorem afz{g:TypeId}(h:I8 P g=true):∃i,P.info? g=some i/\i.comparable=true/\P.underlying g=some (.int .i64):=by grind[I8]
theorem ei5{ms:Array (String×TypeId)}{g:TypeId}{a b:Int}(e:P.underlying t=some (.interface ms))(d:I8 P g=true):(Op.equalIn (D+2) t (.iface g (.int .i64 a)) (.iface g (.int .i64 b))).run P w=.ok (a==b) w:=by
 obtain⟨i,c,j,k⟩:=afz d;rw[Op.equalIn,Sem.run_bind,bZ e];show(ite (g≠g) (pure false) _:Sem Bool).run P w=_;rw[if_neg (λh=>h rfl)];have hi:(typeInfo g).run P w=.ok i w:=by simp[typeInfo,c]
 rw[Sem.run_bind,hi];simp_all[Op.equalIn,bZ]
end
section
variable {a:Act}{o:Oper}
theorem afA{g:Nat}(h:BR g (I9 P)=true):I8 P g=true:=by
 have key:∀l:List Nat,BR g l=true->g∈l:=by
  intro l;induction l with
  |nil=>intro h;cases h
  |cons u l b=>
   intro h;unfold BR at h;cases e:Nat.beq g u with
   |true=>simp_all
   |false=>grind
 grind[I9]
theorem Yt(a b:Int):mJ a b=(a==b):=by
 have q:∀m n:Nat,(Nat.beq m n=true) <-> m=n:=λm n=>⟨at7,λe=>e▸av1 m⟩;rw[avA,av9];cases a with
 |ofNat m=>
  cases b with
  |ofNat n=>exact(q m n).trans ⟨λe=>e▸rfl,λe=>Int.ofNat.inj e⟩
  |negSucc n=>exact Iff.intro (λh=>by cases h) (λh=>by grind)
 |negSucc m=>
  cases b with
  |ofNat n=>exact Iff.intro (λh=>by cases h) (λh=>by grind)
  |negSucc n=>exact(q m n).trans ⟨λe=>e▸rfl,λe=>Int.negSucc.inj e⟩
def Yu(b:BinOp)(neg:Bool):Prop:=(b=.eql/\neg=false)\/(b=.neq/\neg=true)
def Cd{b:BinOp}{neg:Bool}(c:Yu b neg){t:TypeId}{u v:Value}{r:Bool}(p:∀k m j n,u=.int k m->v=.int j n->False) (g:∀k m j n,u=.float k m->v=.float j n->False)
 (i:∀k m d j n n',u=.complex k m d->v=.complex j n n'->False) (e:∀m n,u=.string m->v=.string n->False)
 (l:(Op.equalIn 10000 t u v).run P w=.ok r w):(binOp b t u v).run P w=.ok (.bool (if neg then !r else r)) w:=by
 rcases c with⟨rfl,rfl⟩|⟨rfl,rfl⟩;simp_all[binOp,Op.equal,Op.maxDepth];simp_all[binOp,Op.equal,Op.maxDepth]
def Ce{b:BinOp}{t:TypeId}{x y:Operand}{u v:Value}(c:u=.nilIface->v=.nilIface->zg x=true\/zg y=true)
 (d:∀l r,u=.agg l->v=.agg r->P.eqGuardType P.depth t=false):(eqGuard b t x y u v).run P w=.ok () w:=by
 cases u<;>cases v<;>first
  |(cases b<;>simp[eqGuard];done)
  |(have g:=d _ _ rfl rfl;simp_all[eqGuard])
  |(rcases c rfl rfl with g|g
    cases x<;>simp only[zg,at3] at g;simp_all[eqGuard];cases y<;>simp only[zg,at3] at g;simp_all[eqGuard])
theorem Yx{b:BinOp}{neg:Bool}(E:Yu b neg){t:TypeId}{x y:Operand}{k:EK}(C:B1 P t x y=some k){p q:AV}{r:Bool}(s:cJ k p q=some r){u v:Value}(z:aj φ p u)(A:aj φ q v):
 (do eqGuard b t x y u v;binOp b t u v:Sem Value).run P w=.ok (.bool (if neg then !r else r)) w:=by
 have O:∀(F:FK)(I:TypeDesc),P.underlying t=some I->(F=.b (match I with|.int k=>k|_=>.i64)/\(∃k,I=.int k)\/F=.c/\I=.bool\/F=.a/\I=.string)->sD F p q=some r->
  (do eqGuard b t x y u v;binOp b t u v:Sem Value).run P w=.ok (.bool (if neg then !r else r)) w:=by
  intro F I d M hf;have Q:=GA hf z A;rcases M with⟨rfl,k,rfl⟩|⟨rfl,rfl⟩|⟨rfl,rfl⟩;obtain⟨m,n,rfl,rfl,rfl⟩:=M8 Q;rcases E with⟨rfl,rfl⟩|⟨rfl,rfl⟩;simp[eqGuard,binOp,Op.intCmp];rfl;simp[eqGuard,binOp,Op.intCmp];rfl;obtain⟨m,n,rfl,rfl,rfl⟩:=M9 Q;rw[Sem.run_bind,Ce qaa qaa];exact Cd E qaa qaa qaa qaa (run_equalIn_bool' w 9999 t m n d);obtain⟨m,n,rfl,rfl,rfl⟩:=JK Q;rcases E with⟨rfl,rfl⟩|⟨rfl,rfl⟩;rfl;rfl
 unfold B1 at C;split at C;rename_i k' d;cases C;exact O _ _ d (.inl ⟨rfl,_,rfl⟩) s;rename_i d;cases C;exact O _ _ d (.inr (.inl ⟨rfl,rfl⟩)) s;rename_i d;cases C;exact O _ _ d (.inr (.inr ⟨rfl,rfl⟩)) s;rename_i F d;cases C;simp[cJ] at s;split at s;rename_i i m j n;cases J:uP F i&&uP F j with
 |false=>grind
 |true=>
  rw[J] at s;simp only[atW] at J;obtain rfl:=JH J.1;obtain rfl:=JH J.2;simp only[aj] at z A;subst z A;cases s;cases U:F.format.order m n with
  |none=>rcases E with⟨rfl,rfl⟩|⟨rfl,rfl⟩<;>simp[eqGuard,binOp,Op.floatCmp,U]
  |some od=>rcases E with⟨rfl,rfl⟩|⟨rfl,rfl⟩<;>cases od<;>simp[eqGuard,binOp,Op.floatCmp,U]<;>rfl
 grind
 ·rename_i e d;split at C
  case h_2=>grind
  rename_i n hn;cases C;have B:∀(G H:Option Addr),u=.pointer G->v=.pointer H->(Op.equalIn 10000 t u v).run P w=.ok r w->(do eqGuard b t x y u v;binOp b t u v:Sem Value).run P w=.ok (.bool (if neg then !r else r)) w:=by rintro G H rfl rfl hr;rw[Sem.run_bind,Ce qaa qaa];exact Cd E qaa qaa qaa qaa hr
  simp only[cJ] at s;split at s;cases s;subst z;subst A;exact B _ _ rfl rfl (ep1 (D:=9999) d);cases s;obtain⟨_,rfl⟩:=A;subst z;exact B _ _ rfl rfl (ep2 (D:=9999) d);cases s;obtain⟨_,rfl⟩:=z;subst A;exact B _ _ rfl rfl (ep3 (D:=9999) d);obtain⟨rfl,rfl,rfl⟩:=Ys s;obtain⟨_,rfl⟩:=z;obtain⟨_,rfl⟩:=A;exact B _ _ rfl rfl (ep4 (D:=9999) d hn);grind
 rename_i e d;cases C;have B:∀G l c H V T,u=.slice G l c->v=.slice H V T->(Op.equalIn 10000 t u v).run P w=.ok r w->(do eqGuard b t x y u v;binOp b t u v:Sem Value).run P w=.ok (.bool (if neg then !r else r)) w:=by rintro G l c H V T rfl rfl hr;rw[Sem.run_bind,Ce qaa qaa];exact Cd E qaa qaa qaa qaa hr
 simp[cJ] at s;split at s<;>cases s<;>simp only[aj] at z A;subst z;subst A;exact B _ _ _ _ _ _ rfl rfl (es1 (D:=9999) d);obtain⟨_,_,_,rfl,_⟩:=A;subst z;exact B _ _ _ _ _ _ rfl rfl (es2 (D:=9999) d);obtain⟨_,_,_,rfl,_⟩:=z;subst A;exact B _ _ _ _ _ _ rfl rfl (es3 (D:=9999) d);rename_i Z e2 d;cases C;have B:∀G H,u=.map G->v=.map H->(Op.equalIn 10000 t u v).run P w=.ok r w->(do eqGuard b t x y u v;binOp b t u v:Sem Value).run P w=.ok (.bool (if neg then !r else r)) w:=by rintro G H rfl rfl hr;rw[Sem.run_bind,Ce qaa qaa];exact Cd E qaa qaa qaa qaa hr
 simp[cJ] at s;split at s<;>cases s<;>simp only[aj] at z A;subst z;subst A;exact B _ _ rfl rfl (em1 (D:=9999) d);obtain⟨_,rfl⟩:=A;subst z;exact B _ _ rfl rfl (JM (D:=9999) d);obtain⟨_,rfl⟩:=z;subst A;exact B _ _ rfl rfl (em3 (D:=9999) d);rename_i Z e2 e3 d;cases C;have B:(u=.nilFunc\/∃g a c,u=.func g a c)->(v=.nilFunc\/∃g a c,v=.func g a c)->(Op.equalIn 10000 t u v).run P w=.ok r w->(do eqGuard b t x y u v;binOp b t u v:Sem Value).run P w=.ok (.bool (if neg then !r else r)) w:=by intro K tV hr;rw[Sem.run_bind,Ce qaa qaa];refine Cd E ?_ ?_ ?_ ?_ hr<;>rcases K with rfl|⟨_,_,_,rfl⟩<;>intros<;>simp_all
 simp[cJ] at s;split at s<;>cases s<;>simp only[aj] at z A;subst z;subst A;exact B (.inl rfl) (.inl rfl) (ef1 (D:=9999) d);obtain⟨_,_,rfl,_⟩:=A;subst z;exact B (.inl rfl) (.inr ⟨_,_,_,rfl⟩) (ef2 (D:=9999) d);obtain⟨_,_,rfl,_⟩:=z;subst A;exact B (.inr ⟨_,_,_,rfl⟩) (.inl rfl) (ef3 (D:=9999) d);rename_i fs d;split at C;rename_i l hl;split at C;grind;rename_i N;cases C;simp[cJ] at s;split at s;obtain⟨X,rfl,hX,_⟩:=z;obtain⟨Y,rfl,hY,_⟩:=A;have M:=GB s hX hY;have hr:=(Sg 5).1 t l hl 10000 zo (.agg X) (.agg Y) X.toList Y.toList r w qat qat M;rw[Sem.run_bind,Ce qaa (λ_ _ _ _=>by grind)];exact Cd E qaa qaa qaa qaa hr;grind;grind;rename_i ms d;split at C;rename_i W;cases C;have L:zg x=true\/zg y=true:=by grind
 have B:(u=.nilIface\/∃g a,u=.iface g a)->(v=.nilIface\/∃g a,v=.iface g a)->(Op.equalIn 10000 t u v).run P w=.ok r w->(do eqGuard b t x y u v;binOp b t u v:Sem Value).run P w=.ok (.bool (if neg then !r else r)) w:=by intro K tV hr;rw[Sem.run_bind,Ce (λ_ _=>L) qaa];refine Cd E ?_ ?_ ?_ ?_ hr<;>rcases K with rfl|⟨_,_,rfl⟩<;>intros<;>simp_all
 simp[cJ] at s;split at s<;>cases s<;>simp only[aj] at z A;subst z;subst A;exact B (.inl rfl) (.inl rfl) (ei1 (D:=9999) d);obtain⟨_,rfl,_⟩:=A;subst z;exact B (.inl rfl) (.inr ⟨_,_,rfl⟩) (ei2 (D:=9999) d);obtain⟨_,rfl,_⟩:=z;subst A;exact B (.inr ⟨_,_,rfl⟩) (.inl rfl) (ei3 (D:=9999) d);rename_i W;cases C;simp[cJ] at s;split at s;rename_i g1 v1 g2 v2;obtain⟨R,rfl,wD⟩:=z;obtain⟨S,rfl,pM⟩:=A;have B:(Op.equalIn 10000 t (.iface g1 R) (.iface g2 S)).run P w=.ok r w->(do eqGuard b t x y (.iface g1 R) (.iface g2 S);binOp b t (.iface g1 R) (.iface g2 S):Sem Value).run P w=.ok (.bool (if neg then !r else r)) w:=by intro hr;rw[Sem.run_bind,Ce qaa qaa];exact Cd E qaa qaa qaa qaa hr
 cases N:Nat.beq g1 g2 with
 |false=>
  rw[N] at s;cases s;exact B (ei4 (D:=9999) d (λe=>by simp_all))
 |true=>
  obtain rfl:=at7 N;grind[aj,ei5,afA,Yt]
 grind;grind
end
section
variable {a:Act}{o:Oper}
theorem afC{x:AV}{u:Value}(b:aj φ x u):dI P φ w (Op.unary .neg u) (uR x):=by unfold uR;split;subst b;exact⟨_,by rfl,by grind[aj,w64]⟩;subst b;exact⟨_,by rfl,by simpa using sO _ _⟩;trivial
def afD{x:AV}{u:Value}(b:aj φ x u):dI P φ w (Op.unary .not u) (IY x):=by unfold IY;split;subst b;exact⟨_,by rfl,by rfl⟩;trivial
theorem Yy{x:AV}{v:Value}(b:aj φ x v){n:Int}(h:intOf x=some n):∃k,v=.int k n:=by
 cases x<;>simp only[intOf,reduceCtorEq,atU] at h<;>simp only[aj] at b
 case i m=>grind
 case s m=>grind
 grind
def afF{s d:TypeId}{i k:IntKind}(e:P.underlying s=some (.int i))(hd:P.underlying d=some (.int k)){x:AV}{u:Value}(c:aj φ x u):dI P φ w (convert s d u) (aEy k x):=by unfold aEy;split;rename_i n b;obtain⟨j,rfl⟩:=Yy c b;exact⟨_,by simp_all[convert,bZ,Conv.intToInt],sO _ _⟩;trivial
def afG{s d:TypeId}{i:IntKind}{k:FloatKind}(e:P.underlying s=some (.int i))(hd:P.underlying d=some (.float k)){x:AV}{u:Value}(c:aj φ x u):dI P φ w (convert s d u) (IZ k x):=by unfold IZ;split;rename_i n b;obtain⟨j,rfl⟩:=Yy c b;exact⟨.float k (k.nearest n),by simp_all[convert,bZ,Conv.intToFloat],by rfl⟩;trivial
def afH{s d:TypeId}{i k:FloatKind}(g:P.underlying s=some (.float i))(hd:P.underlying d=some (.float k)){x:AV}{u:Value}(e:aj φ x u):dI P φ w (convert s d u) (Mr k x):=by unfold Mr;split;rename_i j b;simp[aj] at e;refine sP (λc=>?_) λ_=>trivial;obtain rfl:=JH c;exact⟨.float j b,by simp_all[convert,bZ,Conv.floatToFloat],by rfl⟩;trivial
def afI{x:AV}{u:Value}{n:Nat}(e:aj φ x u):dI P φ w (Instr.extract u n) (IV x n):=by unfold IV;split;obtain⟨cs,rfl,d⟩:=e;split;rename_i v b;rw[Rx] at b;obtain⟨y,c,hd⟩:=tQ d n v b;rw[at5] at c;exact⟨y,by simp[Instr.extract,c],hd⟩;trivial;trivial
theorem afJ{t:TypeId}{b:TypeDesc}(d:P.underlying t=some b)(c:∀ms,b≠.interface ms) {x:AV} {u:Value} (e:aj φ x u):dI P φ w (Instr.makeInterface t u) (.v (.q t x)):=by refine⟨.iface t u,?_,by simp[aj];grind⟩;simp_all[Instr.makeInterface,bZ]
theorem xV(b o n:Nat):(⟨b,o,none⟩:Addr).add n=⟨b,o+n,none⟩:=by grind[Addr.add]
theorem afK{s:TypeId}{fs:Array Field}{k:Nat}{b:Field}{n:Nat}(e:P.underlying s=some (.struct fs))(d:fs[k]? =some b)(g:fI P b.type=some (n+1)){x:AV}{u:Value}(c:aj φ x u):
 dI P φ w (Instr.fieldAt s u k) (I0 x b.offset):=by
 unfold I0;split;rename_i i o;simp[aj] at c;refine⟨.pointer (some ⟨φ.a i,φ.c i+o+b.offset,none⟩),?_,?_⟩;simp_all[Instr.fieldAt,bZ,Instr.sureAddr,fieldPlace,vb,xV];grind[aj];trivial
theorem afL{t:TypeId}{n off:Nat}{g:TypeDesc}(z:fI P t=some n)(s:P.underlying t=some g){l:List AV}{cs:Array Value}(k:z7 φ l cs.toList)(p:∀c∈cs.toList,c.oneCell'=true):
 dI P φ w (part t cs off) (IP l off n (oR g)):=by
 unfold IP;cases q:oR g with
 |true=>
  simp only[cond];split;rename_i r hr;rw[Gp] at hr;obtain⟨rfl,u⟩:=Gq _ _ _ hr;refine⟨.agg (cs.extract off (off+n)),?_,?_⟩;simp_all[part,GC,vb];simp only[aj];refine⟨_,rfl,?_,?_⟩;have e:(cs.extract off (off+n)).toList=(cs.toList.drop off).take n:=by simp
  rw[e];refine Gn ?_ λj x b=>?_;grind[tP];rw[awO] at b;split at b;rename_i hj;rw[auF] at b;obtain⟨v,d,hd⟩:=tQ k _ _ b;exact⟨v,by rw[auE hj,auF];exact d,hd⟩;cases b;intro c i;refine p c ?_;have e:(cs.extract off (off+n)).toList=(cs.toList.drop off).take n:=by simp[awS]
  rw[e] at i;exact axj (axk i);trivial
 |false=>
  simp only[cond];split;rename_i v d;rw[Rx] at d;obtain⟨y,m,hd⟩:=tQ k off v d;rw[at5] at m;refine⟨y,?_,hd⟩;unfold part;rw[Sem.run_bind,GC s,q];simp[m];trivial
theorem afM{s:TypeId}{fs:Array Field}{k:Nat}{b:Field}{n:Nat}{c:TypeDesc}(r:P.underlying s=some (.struct fs))(q:fs[k]? =some b)(p:fI P b.type=some n)(l:P.underlying b.type=some c){x:AV}{u:Value}(m:aj φ x u):
 dI P φ w (Instr.field s u k) (IQ x b.offset n (oR c)):=by
 unfold IQ;split
 ·obtain⟨cs,rfl,i,d⟩:=m;have e:(Instr.field s (.agg cs) k).run P w=(part b.type cs b.offset).run P w:=by simp_all[Instr.field,bZ,asAgg]
  have:=afL (P:=P) (φ:=φ) (w:=w) (off:=b.offset) p l i d;cases j:IP _ b.offset n (oR c)<;>rw[j] at this<;>try exact this
  obtain⟨v,d,g⟩:=this;exact⟨v,by grind,g⟩
 trivial
theorem afN{c x y:AV}{u v z:Value}(b:aj φ c z)(d:aj φ x u)(e:aj φ y v):dI P φ w (do pure (if<-asBool z then u else v)) (IW c x y):=by unfold IW;split;rename_i t;subst b;refine⟨if t then u else v,by rfl,?_⟩;grind;trivial
def Cf(φ:aH):Option AV->Option Value->Prop
 |none,none=>True
 |some x,some v=>aj φ x v
 |_,_=>False
def zD{n c:Nat}{k:IntKind}{b:BoundsCode}(h:n<=c)(w:World):(Instr.sliceBound (.int k n) c b).run P w=.ok n w:=by simp[Instr.sliceBound,asIntOf,h]
theorem Yz{lo hi:Option AV}{e i:Option Value}{len cap c p q:Nat}{JO:Bool}(h:bounds lo hi len cap=some (p,q))(d:Cf φ lo e)(j:Cf φ hi i)(r:cap<=c)(w:World):
 (Instr.sliceBounds JO len c e i none).run P w=.ok (p,q,c) w/\p<=q/\q<=cap:=by
 unfold bounds at h;split at h;rename_i s n;obtain⟨b,h⟩:=qt h;rw[je] at b;split at h;rename_i l m;obtain⟨g,h⟩:=qt h;rw[je] at g;cases h;refine⟨?_,g,b⟩;cases hi with
 |none=>
  cases i with
  |some _=>exact j.elim
  |none=>
   cases n;cases lo with
   |none=>
    cases e with
    |some _=>exact d.elim
    |none=>simp_all[Instr.sliceBounds]
   |some x=>
    cases e with
    |none=>exact d.elim
    |some v=>
     obtain⟨k,rfl⟩:=tU d m;simp[Instr.sliceBounds,zD g]
 |some y=>
  cases i with
  |none=>exact j.elim
  |some u=>
   obtain⟨t,rfl⟩:=tU j n;cases lo with
   |none=>
    cases e with
    |some _=>exact d.elim
    |none=>cases m;simp[Instr.sliceBounds,zD (at1 b r)]
   |some x=>
    cases e with
    |none=>exact d.elim
    |some v=>
     obtain⟨k,rfl⟩:=tU d m;simp[Instr.sliceBounds,zD g,zD (at1 b r)]
 grind;grind
def afO{t:TypeId}(y:P.underlying t=some .string){x:AV}{u:Value}(v:aj φ x u){lo hi:Option AV}{d e:Option Value}(i:Cf φ lo d)(g:Cf φ hi e):
 dI P φ w (Instr.sliceAt t u d e none) (wh x lo hi):=by
 unfold wh;split;rename_i l n;obtain⟨s,rfl,b⟩:=v;split;rename_i p q r;have j:=b.qx;obtain⟨hr,k,m⟩:=Yz (P:=P) (JO:=false) (c:=s.size) r i g (avp j.symm) w;refine⟨.string (s.extract p q),?_,?_⟩;simp_all[Instr.sliceAt,Instr.slice,bZ];exact⟨_,rfl,b.rc k m⟩;trivial;trivial
def tW{i:Nat}(r:R φ h w)(b:(h.ab i).gl=true):qu φ w i (h.ab i):=by have:=r.f i;cases c:h.ab i<;>rw[c] at b this<;>simp only[AO.gl,at3] at b;exact this;exact this
def afP{i:AO}{off n:Nat}{l:List AV}(h:cellsOf i off n=some l):i.gl=true\/∃rw l5 t,i=.h rw l5 t:=by cases i<;>first|exact .inl rfl|exact .inr ⟨_,_,_,rfl⟩|simp[cellsOf] at h
theorem YA{i:Nat}{off n:Nat}{l:List AV}(r:R φ h w)(d:cellsOf (h.ab i) off n=some l):
 ∃vs:List Value,vs.length=n/\z7 φ l vs/\(∀v∈vs,v.oneCell'=true)/\∀j v,vs[j]? =some v->w.cell? ⟨φ.a i,φ.c i+off+j,none⟩=some v:=by
 obtain⟨o,b,el,c,A,k,d,p,q,s,u⟩:∃(o:AO) (b:Array Value) (el:Nat) (c:Nat×Nat),o.wf/\o.gl=true/\cellsOf o off n=some l/\w.heap[φ.a i]? =some (.cells b el c)/\φ.c i+o.io<=b.size/\
  (∀(j:Nat)(a:AV),o.ip j=some a->∃v,b[φ.c i+j]? =some v/\aj φ a v)/\∀(j:Nat)(v:Value),j<o.io->b[φ.c i+j]? =some v->v.oneCell'=true:=by
  rcases afP d with k|⟨nN,l5,t,y⟩;have ok:=tW r k;obtain⟨b,c,p,H,q,s,u,b6⟩:=ok.b;exact⟨h.ab i,b,_,c,ok.g,k,d,p,q,s,λj v _ F=>u _ v F⟩;have z:=r.f i;rw[y] at z;obtain⟨g,m,b,el,c,x,B,C,D⟩:=z;rw[x] at g;refine⟨.b 0 nN l5 0 t,b,el,c,m,rfl,?_,g,B,C,D⟩;rw[y] at d;exact d
 obtain⟨g,m,x⟩:=afa A k d;by_cases E:n=0;subst E;have:l=[]:=auv g;subst this;exact⟨[],rfl,sJ,by simp,by simp⟩;have G:=m zo;have e:∀j,j<n->((b.toList.drop (φ.c i+off)).take n)[j]? =b[φ.c i+off+j]? :=λj hj=>by grind
 grind[Gn,List.getElem?_of_mem,World.cell?]
theorem YB{t:TypeId}{b:TypeDesc}(r:R φ h w)(p:P.underlying t=some b)(n:oR b=false){x:AV}{u:Value}(c:aj φ x u):dI P φ w (Instr.loadAt t u) (Dw h x):=by
 unfold Dw;split;rename_i i off;simp only[aj] at c;obtain⟨d,rfl⟩:=c;split;rename_i v l j;obtain⟨vs,k,e,m,g⟩:=YA r j;cases vs with
 |nil=>grind
 |cons y vs=>
  have hd:=(qS.1 e).1;have q:=g 0 y zm;refine⟨y,?_,hd⟩;simp_all[Instr.loadAt,Instr.sureAddr,loadVar,GC]
 trivial;trivial
theorem YC{t:TypeId}{b:TypeDesc}{n:Nat}(r:R φ h w)(y:P.underlying t=some b)(q:oR b=true)(A:fI P t=some n){x:AV}{u:Value}(c:aj φ x u):dI P φ w (Instr.loadAt t u) (Dx h n x):=by unfold Dx;split;rename_i i off;simp only[aj] at c;obtain⟨d,rfl⟩:=c;split;rename_i l e;obtain⟨vs,g,k,m,p⟩:=YA r e;have s:=run_loadCells_list (P:=P) w ⟨φ.a i,φ.c i+off,none⟩ vs (λj v z=>by grind[xV]);refine⟨.agg vs.toArray,?_,?_⟩;simp_all[Instr.loadAt,Instr.sureAddr,loadVar,GC,vb];grind[aj];trivial;trivial
theorem afQ{t e:TypeId}{s:Nat}(z:P.underlying t=some (.slice e))(A:fI P e=some (s+1)){x y:AV}{u v:Value}(b:aj φ x u)(m:aj φ y v):dI P φ w (Instr.indexAt t u v) (Dy (s+1) x y):=by unfold Dy;split;rename_i i off nN len cap ex;split;rename_i k l;refine sP (λj=>?_) λ_=>trivial;rw[je] at j;obtain⟨kk,rfl⟩:=tU m l;simp only[aj] at b;obtain⟨d,n,c,rfl,g1,g2,q,g⟩:=b;obtain⟨rfl,r⟩:=g zo;have p:(k:Int)<(len:Int):=zo;refine⟨.pointer (some ⟨φ.a i,φ.c i+off+k*(s+1),none⟩),?_,?_⟩;simp_all[Instr.indexAt,asIntOf,bZ,vb,xV];grind[aj];trivial;trivial
theorem afR{t e:TypeId}{s n:Nat}(m:P.underlying t=some (.array n e))(p:fI P e=some (s+1)){x y:AV}{u v:Value}(b:aj φ x u)(j:aj φ y v):dI P φ w (Instr.indexAt t u v) (yY (s+1) n x y):=by unfold yY;split;rename_i i off;split;rename_i k g;refine sP (λc=>?_) λ_=>trivial;rw[je] at c;obtain⟨kk,rfl⟩:=tU j g;simp only[aj] at b;obtain⟨d,rfl⟩:=b;have l:(k:Int)<(n:Int):=zo;refine⟨.pointer (some ⟨φ.a i,φ.c i+off+k*(s+1),none⟩),?_,?_⟩;simp_all[Instr.indexAt,asIntOf,bZ,vb,xV,Instr.sureAddr];grind[aj];trivial;trivial
def afS{t:TypeId}(p:P.underlying t=some .string){x y:AV}{u v:Value}(i:aj φ x u)(j:aj φ y v):dI P φ w (Instr.index t u v) (nh x y):=by unfold nh;split;rename_i l n;split;rename_i k e;refine sP (λd=>?_) λ_=>trivial;rw[je] at d;obtain⟨kk,rfl⟩:=tU j e;obtain⟨s,rfl,g⟩:=i;obtain⟨b,m,c⟩:=g.ab (show k<l by omega);refine⟨.int .u8 b.toNat,?_,?_⟩;simp_all[Instr.index,asIntOf,bZ];simp only[aj,c];trivial;trivial
theorem afT{t e:TypeId}{s n:Nat}(r:R φ h w)(h0:n≠0)(J:P.underlying t=some (.array n e))(K:fI P e=some (s+1)){x:AV}{u:Value}(C:aj φ x u){lo hi:Option AV}{k l:Option Value}(y:Cf φ lo k)(m:Cf φ hi l):
 dI P φ w (Instr.sliceAt t u k l none) (FQ h (s+1) n x lo hi):=by
 unfold FQ;split
 ·rename_i i off;split
  ·rename_i p q A;refine sP (λb=>?_) λ_=>trivial;have b:=je.1 (aP6.1 b).1;obtain⟨d,rfl⟩:=C;obtain⟨hr,I,z⟩:=Yz (P:=P) (JO:=false) (c:=n) A y m zl w;refine⟨.slice (some (if n=p then⟨φ.a i,φ.c i+off,none⟩ else(⟨φ.a i,φ.c i+off,none⟩:Addr).add (p*(s+1)))) (q- p) (n- p),?_,?_⟩;simp_all[Instr.sliceAt,bZ,Instr.sureAddr,vb]
   ·refine⟨d,_,_,rfl,aQa z p,at2 _,λ_=>rfl,λv=>?_⟩;have j:n≠p:=λe=>v zo;rw[if_neg j,xV];refine⟨by grind,?_⟩;have g:(h.ab i).gl=true:=by
     cases B:h.ab i<;>rw[B] at b<;>simp only[IN,uV,B9] at b<;>first|rfl|skip
     all_goals grind
    obtain⟨wf,_,D,H,E,F,G,_⟩:=tW r g;have L:IN (h.ab i)=(h.ab i).io:=by cases h.ab i<;>simp[IN,AO.io,tR]
    simp at b|-;have:p*(s+1)+(n- p)*(s+1)=n*(s+1):=by rw[<-auC];grind
    omega
  trivial
 exact sP (λb=>absurd (iH.1 (aP6.1 b).1) h0) λ_=>trivial;exact sP (λb=>absurd (iH.1 b) h0) λ_=>trivial;trivial
def aMA{t e:TypeId}{s:Nat}(F:P.underlying t=some (.slice e))(G:fI P e=some (s+1)){x:AV}{u:Value}(g:aj φ x u){lo hi:Option AV}{v y:Option Value}(n:Cf φ lo v)(m:Cf φ hi y):
 dI P φ w (Instr.sliceAt t u v y none) (FQ h (s+1) 0 x lo hi):=by
 unfold FQ;split;split;exact sP (λk=>absurd (je.1 (aP6.1 k).2) zd) λ_=>trivial;trivial;rename_i i off nN len cap ex;refine sP (λk=>?_) λ_=>trivial;obtain rfl:=iH.1 (aP6.1 k).2;split;rename_i p q j;obtain⟨d,b,c,rfl,g1,g2,A,B⟩:=g;obtain⟨hr,C,r⟩:=Yz (P:=P) (JO:=true) (c:=c) j n m g2 w;refine⟨.slice (if c=p then some b else some (b.add (p*(s+1)))) (q- p) (c- p),?_,?_⟩;have e:(if c=p then some b else some (b.add (p*(s+1))))=(if c=p then some b else(some b).map (·.add (p*(s+1)))):=rfl;rw[e];simp_all[Instr.sliceAt,Instr.slice,bZ,vb];have e:(if c=p then some b else some (b.add (p*(s+1))))=some (if c=p then b else b.add (p*(s+1))):=by split<;>rfl
 rw[e];refine⟨d,_,_,rfl,aQa r p,aQa g2 p,λg=>by rw[A g];rfl,λz=>?_⟩;have l:c≠p:=λe=>z zo;obtain⟨rfl,E⟩:=B zo;rw[if_neg l,xV];refine⟨by simp[avg],?_⟩;have:p*(s+1)+(c- p)*(s+1)=c*(s+1):=by rw[<-auC];congr 1;omega
 simp only[uV,B9];omega;trivial;refine sP (λ_=>?_) λ_=>trivial;split;rename_i D j;obtain⟨p,q⟩:=D;have g:u=.slice none 0 0:=g;subst g;obtain⟨hr,C,r⟩:=Yz (P:=P) (JO:=true) (c:=0) j n m zl w;obtain rfl:q=0:=zo;obtain rfl:p=0:=zo;exact⟨.slice none 0 0,by simp_all[Instr.sliceAt,Instr.slice,bZ,vb],rfl⟩;trivial;trivial
def k6(P:Program)(φ:aH)(h:Hp)(w:World)(s:Sem Value):OR->Prop
 |.v x=>∃v w',s.run P w=.ok v w'/\aj φ x v/\sL w w'
 |.b x h'=>∃v w' ψ,s.run P w=.ok v w'/\R ψ h' w'/\eS φ h w ψ w' h'/\aj ψ x v
 |.a _=>True
 |.g l=>∃v w' ψ h',h'∈l/\s.run P w=.ok v w'/\R ψ h' w'/\eS φ h w ψ w' h'/\aj ψ wm v
 |_=>False
theorem vf{co:CO}{s:Sem Value}(p:execOp a.eval o=(do pure (.value (<-s))))(d:k6 P φ h w s (aQ co f h)):Good P φ h w f a o co:=by
 unfold Good;rw[p];cases hr:aQ co f h with
 |v x=>
  rw[hr] at d;obtain⟨v,w',e,k,m⟩:=d;exact⟨.value v,v,w',by simp[e],.inl rfl,k,m⟩
 |b x h'=>
  rw[hr] at d;obtain⟨v,w',ψ,e,k,m,n⟩:=d;exact⟨.value v,v,w',ψ,by simp[e],.inl rfl,k,m,n⟩
 |a s=>trivial
 |g l=>
  rw[hr] at d;obtain⟨v,w',ψ,h',h0,e,k,m,n⟩:=d;exact⟨.value v,v,w',ψ,h',h0,by simp[e],.inl rfl,k,m,n⟩
 |c=>rw[hr] at d;exact d.elim
 |j=>rw[hr] at d;exact d.elim
 |i=>rw[hr] at d;exact d.elim
def GG(P:Program)(φ:aH)(h:Hp)(w:World)(s:Sem Unit):OR->Prop
 |.b x h'=>x=undef/\∃w' ψ,s.run P w=.ok () w'/\R ψ h' w'/\eS φ h w ψ w' h'
 |.a _=>True
 |_=>False
def DX{ψ:aH}:aj ψ undef Go.undef:=by exact⟨#[],rfl,sJ⟩
def Si{co:CO}{s:Sem Unit}(m:execOp a.eval o=(do s;pure .skip))(d:GG P φ h w s (aQ co f h)):Good P φ h w f a o co:=by
 unfold Good;rw[m];cases hr:aQ co f h with
 |b x h'=>
  rw[hr] at d;obtain⟨rfl,w',ψ,e,k,l⟩:=d;exact⟨.skip,Go.undef,w',ψ,by simp[e],.inr ⟨rfl,rfl⟩,k,l,DX⟩
 |a s=>trivial
 |v=>rw[hr] at d;exact d.elim
 |g=>rw[hr] at d;exact d.elim
 |c=>rw[hr] at d;exact d.elim
 |j=>rw[hr] at d;exact d.elim
 |i=>rw[hr] at d;exact d.elim
theorem zH{s:Sem Value}{c:Bool}{x y:OR}(d:c=true->k6 P φ h w s x)(b:c=false->k6 P φ h w s y):k6 P φ h w s (cond c x y):=by grind
theorem YD{s:Sem Unit}{c:Bool}{x y:OR}(d:c=true->GG P φ h w s x)(b:c=false->GG P φ h w s y):GG P φ h w s (cond c x y):=by grind
theorem Sj{s:Sem Value}{o':AO}{k:Nat->AV}{gq:Obj}{v:Value}{z:Nat}(r:R φ h w)(l:s.run P w=.ok v (w.alloc gq))(n:dH o'=true)
 (i:kM (φ.iL h.a w.heap.size 0 z) (w.alloc gq) h.a o') (p:(φ.iL h.a w.heap.size 0 z).f h.a->φ.l (φ.iL h.a w.heap.size 0 z)->aj (φ.iL h.a w.heap.size 0 z) (k h.a) v):k6 P φ h w s (alloc h o' k):=by
 have g:=h.ui;have m:¬φ.f h.a:=λd=>by rw[(r.k _).1 d] at g;grind
 have hh:∀c,c<w.heap.size->(w.alloc gq).heap[c]? =w.heap[c]? :=λc e=>by grind[World.alloc]
 obtain⟨q,st⟩:=MT (h':=h.am o') (w':=w.alloc gq) (b:=w.heap.size) (s:=0) (z:=z) (qv:=none) r g n zm
  (λj=>by rw[Hp.ma];rfl) (.inl rfl) zm zm (λc e _=>hh c e) (λ_ _=>.inr rfl) i rfl rfl rfl
 exact⟨v,_,_,l,q,st,p (.inl rfl) (aH.sf m)⟩
theorem JR{n:Nat}{o':AO}{cs:Array Value}(g:o'.wf)(c:o'.gl=true)(i:o'.io<=cs.size/\(o'.vx=true->o'.io=cs.size))
 (k:∀(j:Nat)(x:AV),o'.ip j=some x->∃v,cs[j]? =some v/\aj (φ.iL n w.heap.size 0 cs.size) x v) (b:∀(j:Nat)(v:Value),cs[j]? =some v->v.oneCell'=true):
 kM (φ.iL n w.heap.size 0 cs.size) (w.alloc (.cells cs o'.el)) n o':=by
 have key:qu (φ.iL n w.heap.size 0 cs.size) (w.alloc (.cells cs o'.el)) n o':=by refine⟨g,λd=>by simp[aH.iL,i.2 d],λ_=>⟨cs,by rw[show(φ.iL n w.heap.size 0 cs.size).a n=w.heap.size from if_pos rfl];exact avw⟩,cs,(0,0),?_,?_,?_,?_,b,?_⟩;have e:(φ.iL n w.heap.size 0 cs.size).a n=w.heap.size:=if_pos rfl;rw[e];exact avw;simp[aH.iL];grind[aH.iL];simp_all[aH.iL];omega
 cases o'<;>first|exact key|simp[AO.gl] at c
theorem GH{t:TypeId}{z:AV}(b:aFE P t=some z):∃i v,P.info? t=some i/\i.zero=some v/\∀ψ,aj ψ z v:=by grind[aFE,RP]
def DY{t:TypeId}{i:TypeInfo}{v:Value}(hi:P.info? t=some i)(b:i.zero=some v)(w:World):(zeroValue t).run P w=.ok v w:=by simp_all[zeroValue,typeInfo]
theorem GI{x:AV}{v:Value}{l:List AV}(b:bQ x=some l)(g:aj φ x v):z7 φ l v.cells.toList/\∀c∈v.cells.toList,c.oneCell'=true:=by
 have one:qM x=true->bQ x=some [x]->z7 φ l v.cells.toList/\∀c∈v.cells.toList,c.oneCell'=true:=by
  intro hi e;rw[e] at b;cases b;have d:=Yg hi g;have:v.cells=#[v]:=by cases v<;>first|rfl|grind[Value.oneCell']
  grind[qS,sJ]
 cases x<;>first
  |exact one rfl rfl
  |grind[bQ]
  |skip
 simp[bQ,atU] at b;subst b;obtain⟨cs,rfl,d,i⟩:=g;exact⟨d,i⟩
theorem YE{t:TypeId}{l:List AV}(r:R φ h w)(c:rO P t=some l):k6 P φ h w (Instr.alloc t true (.tuple #[])) (alloc h (.a t l) λi=>.a i 0):=by
 unfold rO at c;split at c;rename_i z p;obtain⟨i,v,hi,m,hd⟩:=GH p;have g:(Instr.alloc t true (.tuple #[])).run P w=.ok (.pointer (some ⟨w.heap.size,0,none⟩)) (w.alloc (.cells v.cells t)):=by simp[Instr.alloc,DY hi m,newVar,newRow]
 have b:=λψ=>GI (φ:=ψ) c (hd ψ);refine Sj r g rfl (JR (o':=.a t l) trivial rfl ?_ ?_ ?_) λd _=>?_;have:=tP (b φ).1;grind[AO.io];intro j x n;obtain⟨u,k,e⟩:=tQ (b _).1 j x n;exact⟨u,by grind,e⟩;intro j u k;exact(b φ).2 u qaa;grind[aj,aH.iL];grind
theorem afU{t:TypeId}{n:Nat}{x:AV}{u:Value}(r:R φ h w)(i:aj φ x u):k6 P φ h w (Instr.box t u) (IX h t n x):=by
 unfold IX;split;rename_i l g;refine zH (λ_=>?_) λ_=>trivial;have e:(Instr.box t u).run P w=.ok (.pointer (some ⟨w.heap.size,0,none⟩)) (w.alloc (.cells u.cells t)):=by rfl
 have b:=GI g i;by_cases c:jN (h.ab h.a)=true;have m:¬φ.f h.a:=λd=>by rw[(r.k _).1 d] at c;grind
 refine Sj (z:=u.cells.size) r e rfl (JR (o':=.a t l) trivial rfl ?_ ?_ ?_) λd _=>?_;have:=tP b.1;grind[AO.io];intro j y k;obtain⟨v,p,hd⟩:=tQ b.1 j y k;grind[nS,aH.sf];grind;grind[aj,aH.iL];exact absurd h.ui c;trivial
def aIF{b:Nat}:∀(vs:List Value)(o:Nat)(w:World),(w.setCells b o vs).drawn=w.drawn
 |[],_,_=>rfl
 |v::r,o,w=>aIF r (o+1) (w.setCell ⟨b,o,none⟩ v)
theorem Sl{b:Nat}{el:TypeId}{g:Nat×Nat}:∀(vs:List Value)(o:Nat)(w:World)(d:Array Value),w.heap[b]? =some (.cells d el g)->o+vs.length<=d.size->
 ∃e:Array Value,(w.setCells b o vs).heap[b]? =some (.cells e el g)/\e.size=d.size/\(∀j,e[j]? =if o<=j/\j<o+vs.length then vs[j- o]? else d[j]?)/\
  (∀c,c≠b->(w.setCells b o vs).heap[c]? =w.heap[c]?)/\(w.setCells b o vs).heap.size=w.heap.size/\(w.setCells b o vs).os=w.os/\(w.setCells b o vs).output=w.output/\(w.setCells b o vs).tape=w.tape
 |[],o,w,d,i,_=>⟨d,i,rfl,λj=>by grind,λ_ _=>rfl,rfl,rfl,rfl,rfl⟩
 |v::r,o,w,d,i,y=>by
  have p:∀c,(w.setCell ⟨b,o,none⟩ v).heap[c]? =if b=c then some (.cells (d.setIfInBounds o v) el g) else w.heap[c]? :=λc=>by grind[World.setCell]
  obtain⟨e,k,q,s,t,u,l,m,n⟩:=Sl r (o+1) (w.setCell ⟨b,o,none⟩ v) (d.setIfInBounds o v) (by rw[p,if_pos rfl]) qaa;refine⟨e,k,by grind,λj=>?_,λc x=>?_,by simp_all[World.setCells],l,m,n⟩;grind;simp_all[World.setCells,Ne.symm]
theorem Sm{i:Nat}{off:Nat}{l:List AV}{o':AO}{vs:List Value}(r:R φ h w)(d:(h.ab i).gl=true)(b:RC (h.ab i) off l o')(hd:z7 φ l vs)(u:∀v∈vs,v.oneCell'=true):
 R φ (h.dT i o') (w.setCells (φ.a i) (φ.c i+off) vs)/\eS φ h w φ (w.setCells (φ.a i) (φ.c i+off) vs) (h.dT i o')/\
  (∀k,(storeCells ⟨φ.a i,k,none⟩ vs (φ.c i+off- k)).run P w=.ok () (w.setCells (φ.a i) (φ.c i+off) vs)\/φ.c i+off<k):=by
 have T:=tP hd;by_cases h0:vs=[];subst h0;have ok:=tW r d;have p:dH o'=true:=by have:=b.b;cases g:o'<;>rw[g] at this<;>simp[AO.gl] at this<;>rfl
 have z:kM φ w i o':=by obtain⟨q,t,s,C,J,D,E,b6⟩:=ok.b;have key:qu φ w i o':=⟨b.k,λu=>by rw[b.a];exact ok.f (by rw[<-b.f];omega),λg=>by rw[b.h];exact ok.k (by rw[AO.ro,b.i] at g;exact g),q,t,by rw[b.h];omega,C,by rw[b.a];omega,λj x y=>D j x (by rw[b.c,if_neg qaa] at y;omega),E,by rw[b.i];omega⟩;have:=b.b;cases o'<;>first|exact key|simp[AO.gl] at this
 obtain⟨A,st⟩:=JC (h':=h.dT i o') (w':=w) (i:=i) (o':=o') r qar p (λj=>Hp.lj _ _ _ _) rfl (λ_ _=>rfl) z
  (λj L m aD todo K _ _ _ B G H=>⟨B,G,H,at2 _,λ_=>⟨id,λ_=>rfl,λ_ _ _ h=>h,by simp⟩⟩) rfl rfl rfl
 exact⟨A,st,λk=>.inl rfl⟩;have ok:=tW r d;obtain⟨q,t,s,C,J,D,E,b6⟩:=ok.b;have S:0<l.length:=by grind
 have X:=b.g S;have Y:dH (h.ab i)=true:=by cases n:h.ab i<;>rw[n] at d<;>simp[AO.gl] at d<;>rfl
 have p:dH o'=true:=by have:=b.b;cases g:o'<;>rw[g] at this<;>simp[AO.gl] at this<;>rfl
 obtain⟨I,g1,g2,U,M,N,g6,O,Q⟩:=Sl vs (φ.c i+off) w q s zo;have z:kM φ (w.setCells (φ.a i) (φ.c i+off) vs) i o':=by
  have key:qu φ (w.setCells (φ.a i) (φ.c i+off) vs) i o':=by refine⟨b.k,λu=>by rw[b.a];exact ok.f (by rw[<-b.f];omega),λg=>by(obtain⟨a0,F⟩:=ok.k (by rw[AO.ro,b.i] at g;exact g);rw[s] at F;cases F;exact⟨I,by rw[b.h];omega⟩),I,t,by rw[b.h];omega,by omega,by rw[b.a,g2];omega,λj x y=>?_,λj v W=>?_,by rw[b.i,g2];omega⟩;rw[b.c] at y;grind[tQ];grind
  have:=b.b;cases o'<;>first|exact key|simp[AO.gl] at this
 obtain⟨A,st⟩:=JC (h':=h.dT i o') (w':=w.setCells (φ.a i) (φ.c i+off) vs) (i:=i) (o':=o') r qar p (λj=>Hp.lj _ _ _ _) N (λc d=>M c d) z
  (λj L m aD todo K _ _ e B G H=>by grind) g6 O Q (avp (aIF ..).symm)
 refine⟨A,st,λk=>?_⟩;by_cases V:k<=φ.c i+off;refine .inl ?_;rw[run_storeCells_cells (φ.a i) k vs (φ.c i+off- k) w (λj hj=>?_) (λj hj=>?_) u,show k+(φ.c i+off- k)=φ.c i+off by omega];grind[World.cell?];have:=b.d;grind[World.frozen?];exact .inr zo
theorem afV{t:TypeId}{n:Nat}(r:R φ h w)(C:fI P t=some n){x y:AV}{u v:Value}(p:aj φ x u)(q:aj φ y v):GG P φ h w (Instr.storeAt t u v) (FP h n x y):=by
 unfold FP;split;rename_i i off;split;rename_i l m;refine YD (λj=>?_) λ_=>trivial;rw[iH,tR] at j;split;rename_i D b;obtain⟨d,rfl⟩:=p;have c:(h.ab i).gl=true:=by cases k:h.ab i<;>rw[k] at b<;>first|rfl|simp[setCells] at b
 have z:=RD (tW r c).g b;obtain⟨hd,g⟩:=GI m q;obtain⟨s,st,e⟩:=Sm (P:=P) r c z hd g;refine⟨rfl,_,φ,?_,s,st⟩;have B:=(e (φ.c i+off)).resolve_right zo;have A:v.cells.size=n:=by have:=tP hd;grind
 simp_all[Instr.storeAt,Instr.sureAddr,storeVar,vb];trivial;trivial;trivial
theorem YF(v:Value)(b:Array Value)(off:Nat)(d:off+v.cells.size<=b.size):
 (v.cells.zipIdx.foldl (λcs(c,j)=>cs.setIfInBounds (off+j) c) b).size=b.size/\
 ∀k,(v.cells.zipIdx.foldl (λcs(c,j)=>cs.setIfInBounds (off+j) c) b)[k]? =if off<=k/\k<off+v.cells.size then v.cells[k- off]? else b[k]? :=by
 obtain⟨g1,g2⟩:=Great.foldl_set off v.cells.toList 0 b;have e:v.cells.zipIdx.foldl (λcs(c,j)=>cs.setIfInBounds (off+j) c) b=(v.cells.toList.zipIdx 0).foldl (λcs(x:Value×Nat)=>cs.setIfInBounds (off+x.2) x.1) b:=by grind[Array.toList_zipIdx]
 grind
def JS(φ:aH)(get:CX->AV)(zK:Nat->Option (Nat×Nat)):List (Nat×Nat×CX)->List (Nat×Value)->Prop
 |[],[]=>True
 |(off,n,x)::r,(i,v)::s=>zK i=some (off,n)/\aj φ (get x) v/\JS φ get zK r s
 |_,_=>False
theorem So{get:CX->AV}{zK:Nat->Option (Nat×Nat)}:∀{cs:List (Nat×Nat×CX)}{ps:List (Nat×Value)}{l m:List AV}{d:Array Value},JS φ get zK cs ps->AI get l cs=some m->
 z7 φ l d.toList->(∀v∈d.toList,v.oneCell'=true)->∃t,Instr.fill zK d ps=some t/\z7 φ m t.toList/\∀v∈t.toList,v.oneCell'=true
 |[],[],l,m,d,_,b,hd,p=>by simp[AI,atU] at b;subst b;exact⟨d,rfl,hd,p⟩
 |(off,n,x)::r,(i,v)::s,l,m,d,⟨e,G,hr⟩,b,hd,p=>by simp only[AI] at b;split at b;rename_i c D;obtain⟨E,b⟩:=qt b;rw[iH,tR] at E;split at b;rename_i L A;obtain⟨J,C⟩:=MQ _ _ _ _ A;obtain⟨B,q⟩:=GI D G;have H:=tP B;have I:=tP hd;simp only[avc] at H I;obtain⟨M,z⟩:=YF v d off zo;unfold Instr.fill;rw[e];simp only;rw[if_neg qaa];refine So hr b (Gn qaa λj y K=>?_) λu F=>?_;rw[at5,z j];subst C;by_cases hj:off<=j/\j<off+v.cells.size;grind[tQ];grind[tQ];obtain⟨k,g⟩:=aum F;rw[at5,z k] at g;split at g;exact q u (aua (by rw[at5];exact g));exact p u (aua (by rw[at5];exact g));cases b;cases b
 |[],_::_,_,_,_,e,_,_,_=>by simp[JS] at e
 |_::_,[],_,_,_,e,_,_,_=>by simp[JS] at e
theorem Sq{get:CX->AV}{zK:Nat->Option (Nat×Nat)}{F:Nat×Operand->Option (Nat×Nat×CX)}{ev:Operand->Value}
 (d:∀q c,F q=some c->zK q.1 =some (c.1,c.2.1)/\aj φ (get c.2.2) (ev q.2)):∀{ps:List (Nat×Operand)}{cs:List (Nat×Nat×CX)},iJ F ps=some cs->JS φ get zK cs (ps.map λq=>(q.1,ev q.2))
 |[],cs,b=>by simp[iJ,atU] at b;subst b;trivial
 |q::ps,cs,b=>by simp[iJ] at b;split at b;rename_i c r e hr;cases b;obtain⟨g1,g2⟩:=d q c e;exact⟨g1,g2,Sq d hr⟩;grind
def YG{b c:Type}(F:b->Option c):∀l:List b,iJ F l=l.mapM F
 |[]=>rfl
 |x::l=>by simp[iJ,YG F l,List.mapM_cons];cases F x<;>cases l.mapM F<;>rfl
theorem afW{fs:List Field}{pl:List (Nat×Nat)}(b:iJ (λf:Field=>match fI P f.type with|some n=>some (f.offset,n)|none=>none) fs=some pl):
 fs.mapM (λf=>(P.info? f.type).map λi=>(f.offset,i.size))=some pl:=by
 rw[YG] at b;grind[fI]
theorem YH{t:TypeId}{b:Array (Nat×Value)}{cells:Array Value}{s:Sem Value}(d:s=Instr.build t b)(c:P.built t b.toList=some cells):s.run P w=.ok (.agg cells) w:=by grind[run_build]
theorem afX(G:jq φ P)(F:iq φ f a.tmps){t:TypeId}{b:Array (Nat×Operand)}(N:o.op=.build t b):Good P φ h w f a o (Gb P t b.toList):=by
 have B:execOp a.eval o=(do pure (.value (<-Instr.build t (b.map λ(i,x)=>(i,a.eval x))))):=by unfold execOp;grind
 have I:(b.map λ(i,x)=>(i,a.eval x)).toList=b.toList.map λq=>(q.1,a.eval q.2):=by simp
 unfold Gb;split;rename_i fs z u j;split;rename_i pl C;split;rename_i cs p;refine iO B ?_;simp[aQ,FY];split;rename_i L g;obtain⟨i,v,hi,y,r⟩:=GH j;have hd:=r φ;obtain⟨M,rfl,k,l⟩:=hd;have pk:=Sq (φ:=φ) (get:=λx=>x.ab f) (zK:=(pl.toArray[·]?)) (ev:=a.eval) (λq c d=>by grind[Gv]) p
 obtain⟨m,D,E,f3⟩:=So pk g k l;refine⟨.agg m,YH rfl ?_,by simp[aj];grind⟩;unfold Program.built;simp only[hi,u,y,afW C,I,Value.cells];omega;trivial;exact cy;exact cy;rename_i n e z u j;split;rename_i s J;split;rename_i cs p;refine iO B ?_;simp[aQ,FY];split;rename_i L g;obtain⟨i,v,hi,y,r⟩:=GH j;have hd:=r φ;obtain⟨M,rfl,k,l⟩:=hd;obtain⟨A,H,rfl⟩:=R7 J;have pk:=Sq (φ:=φ) (get:=λx=>x.ab f) (zK:=λi=>some (i*A.size,A.size)) (ev:=a.eval) (λq c d=>by split at d;rename_i x K;simp at d;subst d;exact⟨rfl,Gv G F K⟩;grind) p
 obtain⟨m,D,E,f3⟩:=So pk g k l;refine⟨.agg m,YH rfl ?_,by simp[aj];grind⟩;grind[Program.built,Value.cells];trivial;exact cy;exact cy;exact cy
def xW(φ:aH)(rw len:Nat)(t:N3 (List AV))(b:Array Value):Prop:=
 b.size=len*rw/\(∀k,k<len->(dY t k).length=rw)/\(∀k j,k<len->j<rw->∀x,(dY t k)[j]? =some x->∃v,b[k*rw+j]? =some v/\aj φ x v)/\∀(j:Nat)(v:Value),b[j]? =some v->v.oneCell'=true
theorem xW.gq{rw len:Nat}{t:N3 (List AV)}{b:Array Value}{n:Nat}{el:Nat}(d:0<rw)(c:len<=1152921504606846976)(l:xW (φ.iL n w.heap.size 0 (len*rw)) rw len t b):
 kM (φ.iL n w.heap.size 0 (len*rw)) (w.alloc (.cells b el)) n (.b el rw len 0 t):=by
 obtain⟨e,g,i,k⟩:=l;rw[<-e] at i|-;refine JR (o':=.b el rw len 0 t) ⟨d,c,g⟩ rfl ⟨by grind[AO.io],λh=>by cases h⟩ (λj x m=>?_) k;grind[AO.ip,Nat.div_lt_of_lt_mul,aFP]
theorem YI(r:List AV):∀(n k:Nat)(t:N3 (List AV)),k+n<=1152921504606846976->∀j,j<1152921504606846976->dY (qm r n k t) j=if k<=j/\j<k+n then r else dY t j
 |0,k,t,_,j,_=>by rw[if_neg zo];rfl
 |n+1,k,t,b,j,hj=>by simp[qm];rw[YI r n (k+1) _ zo j hj,Gr t k j r zo hj];grind
theorem YJ{r:List AV}{z:Array Value}{rw len:Nat}(g:0<rw)(e:len<=1152921504606846976)(hd:z7 φ r z.toList)(i:∀v∈z.toList,v.oneCell'=true) (hr:r.length=rw) {b:Array Value}
 (l:b=(Array.range (len*rw)).map (z[·% z.size]!)):xW φ rw len (qm r len 0 fG) b:=by
 have p:z.size=rw:=by have:=tP hd;grind
 have key:∀k,k<len->dY (qm r len 0 fG) k=r:=λk c=>by rw[YI r len 0 _ zo k zo,if_pos zo]
 have d:∀j,j<len*rw->∃v,z[j% rw]? =some v/\b[j]? =some v:=λj hj=>by simp_all[avn]
 refine⟨by grind,λk c=>by grind,λk j c hj x n=>?_,λj v m=>?_⟩;grind[tQ,AW,Nat.mul_comm,Nat.mul_add_mod,Nat.mod_eq_of_lt];grind
theorem xW.bc{ψ:aH}(le:φ.l ψ){rw len:Nat}{t:N3 (List AV)}{b:Array Value}(h:xW φ rw len t b):xW ψ rw len t b:=
 ⟨h.1,h.2.1,λk j c hj x d=>by obtain⟨v,e,hd⟩:=h.2.2.1 k j c hj x d;grind[nS],h.2.2.2⟩
theorem GK{s:Sem Value}{o':AO}{k:Nat->AV}{gq:Obj}{v:Value}{z:Nat}(r:R φ h w)(e:s.run P w=.ok v (w.alloc gq))(i:dH o'=true)
 (c:φ.l (φ.iL h.a w.heap.size 0 z)->kM (φ.iL h.a w.heap.size 0 z) (w.alloc gq) h.a o') (j:(φ.iL h.a w.heap.size 0 z).f h.a->φ.l (φ.iL h.a w.heap.size 0 z)->aj (φ.iL h.a w.heap.size 0 z) (k h.a) v):k6 P φ h w s (alloc h o' k):=by
 by_cases b:jN (h.ab h.a)=true;have g:¬φ.f h.a:=λd=>by rw[(r.k _).1 d] at b;grind
 grind[Sj,aH.sf];exact absurd h.ui b
def GL(φ:aH)(get:CX->AV):List (Nat×CX)->List (Nat×Value)->Prop
 |[],[]=>True
 |(i,x)::r,(j,v)::s=>i=j/\aj φ (get x) v/\GL φ get r s
 |_,_=>False
theorem YK{get:CX->AV}{rw len:Nat}(E:len<=1152921504606846976):∀{cs:List (Nat×CX)}{ps:List (Nat×Value)}{t t':N3 (List AV)}{d:Array Value},GL φ get cs ps->wg rw len get cs t=some t'->
 xW φ rw len t d->∃z,Instr.fill (λi=>some (i*rw,rw)) d ps=some z/\xW φ rw len t' z
 |[],[],t,t',d,_,b,g=>by simp[wg,atU] at b;subst b;exact⟨d,rfl,g⟩
 |(i,x)::r,(j,v)::s,t,t',d,⟨l,G,hr⟩,b,g=>by
  subst l;simp only[wg] at b;split at b;rename_i c F;obtain⟨p,b⟩:=qt b;simp only[atW,iH,je,tR,AX] at p;obtain⟨p,hi⟩:=p;obtain⟨C,n⟩:=GI F G;have I:=tP C;simp only[avc] at I;obtain⟨K,L,M,H⟩:=g;have J:i*rw+rw<=len*rw:=by have:=at4 rw (show i+1<=len from hi);grind
  obtain⟨N,A⟩:=YF v d (i*rw) zo;unfold Instr.fill;simp only;rw[if_neg qaa];refine YK E hr b ⟨by grind,λk g=>?_,λk j g hj y q=>?_,λj u m=>?_⟩;grind[Gr];rw[Gr t i k c zo zo] at q;rw[A];split at q;rename_i e;grind[tQ];rename_i e;rw[if_neg ?_];grind;intro hh;rcases Nat.lt_or_gt_of_ne e with D|B;have:=at4 rw (show k+1<=i from D);grind;have:=at4 rw (show i+1<=k from B);rw[auC,avz] at this;omega;rw[A] at m;split at m;exact n u (aua (by rw[at5];exact m));exact H j u m;cases b
 |[],_::_,_,_,_,l,_,_=>by simp[GL] at l
 |_::_,[],_,_,_,l,_,_=>by simp[GL] at l
theorem YL{get:CX->AV}{F:Nat×Operand->Option (Nat×CX)}{ev:Operand->Value}
 (d:∀q c,F q=some c->c.1 =q.1 /\aj φ (get c.2) (ev q.2)):∀{ps:List (Nat×Operand)}{cs:List (Nat×CX)},iJ F ps=some cs->GL φ get cs (ps.map λq=>(q.1,ev q.2))
 |[],cs,b=>by simp[iJ,atU] at b;subst b;trivial
 |q::ps,cs,b=>by simp[iJ] at b;split at b;rename_i c r e hr;cases b;obtain⟨g1,g2⟩:=d q c e;exact⟨g1,g2,YL d hr⟩;grind
def JU{n:Nat}{b len cap c rw z:Nat}{ex:Bool}(e:len<=cap)(d:cap<=c)(g:ex=true->c=cap)(i:c*rw=z):aj (φ.iL n b 0 z) (.c n 0 rw len cap ex) (.slice (some ⟨b,0,none⟩) len c):=by exact⟨.inl rfl,⟨b,0,none⟩,c,rfl,e,d,g,λ_=>⟨by simp[aH.iL],by simp_all[aH.iL]⟩⟩
theorem JV{t:TypeId}{l:List AV}(b:rO P t=some l):∃i v,P.info? t=some i/\i.zero=some v/\∀ψ,z7 ψ l v.cells.toList/\∀c∈v.cells.toList,c.oneCell'=true:=by unfold rO at b;split at b;rename_i z e;obtain⟨i,v,hi,d,hd⟩:=GH e;exact⟨i,v,hi,d,λψ=>GI b (hd ψ)⟩;grind
theorem afZ(G:jq φ P)(I:iq φ f a.tmps)(r:R φ h w){t:TypeId}{n:Nat}{b:Array (Nat×Operand)}(V:o.op=.buildSlice t n b):Good P φ h w f a o (Gc P t n b.toList):=by
 have M:execOp a.eval o=(do pure (.value (<-Instr.buildSlice t n (b.map λ(i,x)=>(i,a.eval x))))):=by unfold execOp;grind
 have U:(b.map λ(i,x)=>(i,a.eval x)).toList=b.toList.map λq=>(q.1,a.eval q.2):=by simp
 unfold Gc;split;rename_i e B;split;rename_i cs z s O L J;split;rename_i y;rw[tR] at y;refine vf M ?_;simp[aQ,FZ];split;rename_i t' l;obtain⟨i,v,hi,C,hd⟩:=JV L;obtain⟨i',g,E⟩:=R7 J;rw[hi] at g;cases g;have pk:=YL (φ:=φ) (get:=λx=>x.ab f) (ev:=a.eval) (λq c A=>by split at A;rename_i x K;simp at A;subst A;exact⟨rfl,Gv G I K⟩;grind) O
 by_cases h0:n=0;subst h0;have m:b.toList.map (λq=>(q.1,a.eval q.2))=[]/\t'=fG:=by
  cases cs with
  |nil=>
   grind[wg,qm,GL]
  |cons q cs=>
   simp[wg] at l;split at l;obtain⟨T,_⟩:=qt l;simp_all;grind
 obtain⟨Q,rfl⟩:=m;have p:(Instr.buildSlice t 0 (b.map λ(i,x)=>(i,a.eval x))).run P w=.ok (.slice (some ⟨w.heap.size,0,none⟩) 0 0) (w.alloc (.cells #[] e)):=by
  have H:b=#[]:=by simp_all
  have D:Array.range 0=#[]:=rfl;simp[Instr.buildSlice,bZ B,Go.sizeOf,typeInfo,hi,H,D,Instr.fill,newRow]
 exact GK (z:=0*(s+1)) r p rfl (λle=>xW.gq zo zo ⟨by simp,λk u=>absurd u (avm _),λk j u=>absurd u (avm _),λj v C=>by grind⟩) λd le=>(JU zl zl (λ_=>rfl) rfl);have zk:=YJ (φ:=φ) (len:=n) (rw:=s+1) zo zo (hd φ).1 (hd φ).2 zo rfl;obtain⟨N,S,F⟩:=YK zo pk l zk;have p:=run_buildSlice w t e n (b.map λ(i,x)=>(i,a.eval x)) N i v B hi C (by rw[E];exact axJ.2 (at1 (axp y.1 y.2.2) zm))
  qaa qaa
 exact GK (z:=n*(s+1)) r p rfl (λle=>xW.gq zo zo (F.bc le)) λd le=>(JU zl zl (λ_=>rfl) rfl);trivial;exact cy;exact cy;exact cy
theorem af1{n':Nat}{el rw n:Nat}{rs:List (List AV)}{c:Nat->Option AV}{cs:Array Value}(b:0<rw)(e:n<=1152921504606846976)(hr:aEQ rs rw n c)(g:n*rw<=cs.size)
 (k:∀(j:Nat)(x:AV),j<n*rw->c j=some x->∃v,cs[j]? =some v/\aj (φ.iL n' w.heap.size 0 cs.size) x v) (d:∀(j:Nat)(v:Value),cs[j]? =some v->v.oneCell'=true):
 kM (φ.iL n' w.heap.size 0 cs.size) (w.alloc (.cells cs el)) n' (jJ el rw n rs):=by
 obtain⟨i,m⟩:=Gs (el:=el) b e hr;refine JR (o':=jJ el rw n rs) i rfl ⟨g,λh=>by cases h⟩ (λj x l=>?_) d;grind[jJ,AO.ip]
def YM{cs:Array Value}(h:∀v∈cs.toList,v.oneCell'=true) (j:Nat) (v:Value) (b:cs[j]? =some v):v.oneCell'=true:=h v (aua (by rw[at5];exact b))
def af2{t:TypeId}{i:TypeInfo}{v:Value}(hi:P.info? t=some i)(b:i.zero=some v):(Instr.alloc t true (.tuple #[])).run P w=.ok (.pointer (some ⟨w.heap.size,0,none⟩)) (w.alloc (.cells v.cells t)):=by simp[Instr.alloc,DY hi b,newVar,newRow]
def YN{n:Nat}{b z:Nat}:aj (φ.iL n b 0 z) (.a n 0) (.pointer (some ⟨b,0,none⟩)):=by simp_all[aj,aH.iL]
theorem af3{rw n:Nat}{l:List AV}{rs:List (List AV)}(c:uO rw n l=some rs):aEQ rs rw n (λj=>l[j]?):=by obtain⟨b,d,e⟩:=aHg _ _ _ c;refine⟨b,λr hr=>?_,λk j g hj=>?_⟩;grind[List.getElem?_of_mem];grind
theorem af4(r:R φ h w){t:TypeId}(u:o.op=.alloc t):Good P φ h w f a o (Ga P t):=by
 have q:execOp a.eval o=(do pure (.value (<-Instr.alloc t true (.tuple #[])))):=by unfold execOp;grind
 unfold Ga;split;split;rename_i n e B s D z A k p;split;split;rename_i rs g;split;rename_i c;rw[tR] at c;refine vf q ?_;obtain⟨i,v,hi,l,hd⟩:=JV p;simp[aQ];have d:=tP (hd φ).1;simp at d;refine GK (z:=v.cells.size) r (af2 hi l) rfl (λle=>?_) λ_ _=>YN;refine af1 zo c.1 (af3 g) zo (λj x hj m=>?_) (YM (hd φ).2);obtain⟨y,C,b⟩:=tQ (hd _).1 j x m;exact⟨y,by grind,b⟩;exact cy;exact cy;grind[vf,aQ,YE];exact cy;grind[vf,aQ,YE,cy];exact cy
theorem af5{t e:TypeId}{s:Nat}{i:TypeInfo}{z:List AV}(r:R φ h w)(q:P.underlying t=some (.slice e))(hi:P.info? e=some i)(D:rO P e=some z)(p:i.size=s+1)(g:gk z=s+1)
 {x y:AV} {u v:Value} (B:aj φ x u) (C:aj φ y v):k6 P φ h w (Instr.makeSlice t u v) (DB h e (s+1) i.bytes z x y):=by
 unfold DB;split;rename_i l c n m;refine zH (λk=>?_) λ_=>trivial;simp at k;obtain⟨F,rfl⟩:=tU B n;obtain⟨E,rfl⟩:=tU C m;obtain⟨i',G,b,A,hd⟩:=JV D;rw[hi] at b;cases b;rw[tR] at g;have j:=run_make (P:=P) w t e i G q hi A F E l c zo zo qaa zo
 simp[awr,p] at j;exact GK (z:=c*(s+1)) r j rfl (λle=>xW.gq zo zo (YJ zo zo (hd _).1 (hd φ).2 g rfl)) λd le=>JU k.1.1 zl (λ_=>rfl) rfl;trivial
theorem af6{t:TypeId}(r:R φ h w):k6 P φ h w (Instr.makeMap t none) (alloc h (.f [] 0) λi=>.j i):=by
 have b:(Instr.makeMap t none).run P w=.ok (.map (some w.heap.size)) (w.alloc (.map #[] 0)):=by rfl
 refine GK (z:=0) r b rfl (λle=>?_) λd le=>?_;refine⟨#[],?_,⟨[],rfl,rfl,by simp⟩,by simp,by simp,by simp,by simp⟩;have e:(φ.iL h.a w.heap.size 0 0).a h.a=w.heap.size:=if_pos rfl;rw[e];exact avw;grind[aj,aH.iL]
theorem af7{fn:Nat}(e:(AP fn).n=fn){l m:List AV}{b vs:List Value}(c:z7 φ l b)(d:z7 φ m vs):dI P φ w (Instr.makeFunc (.func fn) b.toArray vs.toArray) (.v (.r (AP fn) l m)):=by refine⟨_,rfl,?_⟩;grind[aj]
theorem af8{x:Operand}{c:CX}(g:o.op=.nilCheck x)(b:aj φ (c.ab f) (a.eval x)):Good P φ h w f a o (.I c):=by
 unfold Good;simp[aQ];unfold Mq execOp;rw[g];cases i:c.ab f<;>simp only[Gw]<;>rw[i] at b
 case a=>have hd:=b;obtain⟨d,e⟩:=b;simp only[e] at hd|-;exact⟨_,_,w,rfl,.inl rfl,hd,.cg w⟩
 case r=>have hd:=b;obtain⟨fs,cs,e,_⟩:=b;simp only[e] at hd|-;exact⟨_,_,w,rfl,.inl rfl,hd,.cg w⟩
 case q=>have hd:=b;obtain⟨y,e,_⟩:=b;simp only[e] at hd|-;exact⟨_,_,w,rfl,.inl rfl,hd,.cg w⟩
def Sr{x:AV}{v:Value}{b:Bool}(c:aj φ x v):aj φ (.o [x,.g b]) (.tuple #[v,.bool b]):=by exact⟨_,rfl,qS.2 ⟨c,qS.2 ⟨by rfl,sJ⟩⟩⟩
def Nd{s:Sem Value}{ok b:Bool}{x:AV}{v:Value}(d:aj φ x v)(c:s.run P w=.ok (if ok then .tuple #[v,.bool b] else v) w):dI P φ w s (y7 ok x b):=by
 cases ok with
 |true=>exact⟨_,c,Sr d⟩
 |false=>exact⟨_,c,d⟩
theorem af9{p t:TypeId}{z:AV}{ok:Bool}{b:TypeDesc}(k:P.underlying t=some b)(c:∀m,b≠.interface m) (n:aFE P t=some z) {x:AV} {u:Value} (g:aj φ x u):dI P φ w (Instr.typeAssert u p t ok) (IU t z x ok):=by
 obtain⟨i,j,hi,s,hd⟩:=GH n;unfold IU;cases x<;>simp only[dI]<;>simp only[aj] at g
 case x=>
  cases ok with
  |false=>grind
  |true=>
   refine⟨.tuple #[j,.bool false],?_,Sr (hd φ)⟩;unfold Instr.typeAssert;cases b<;>first|exact absurd rfl (c _)|simp_all[bZ,DY]
 case q t' y=>
  obtain⟨v,rfl,l⟩:=g;cases d:Nat.beq t' t with
  |true=>
   rw[iH] at d;subst d;refine Nd l ?_;unfold Instr.typeAssert;cases ok<;>cases b<;>first|exact absurd rfl (c _)|simp[bZ k]
  |false=>
   have r:¬t'=t:=λe=>by simp_all
   cases ok with
   |false=>grind
   |true=>
    refine⟨.tuple #[j,.bool false],?_,Sr (hd φ)⟩;unfold Instr.typeAssert;cases b<;>first|exact absurd rfl (c _)|simp_all[bZ,DY]
theorem af'{ty:TypeId}{b:Array TypeId}{x:AV}{u:Value}(e:aj φ x u):dI P φ w (Builtin.unsafeSliceData_ b ty #[u]) (FX x):=by
 unfold FX;cases x<;>simp only[dI]<;>simp only[aj] at e
 case h=>subst e;exact⟨.pointer none,rfl,by rfl⟩
 case c i off rw len cap ex=>
  obtain⟨d,g,c,rfl,k,l,m,n⟩:=e;cases j:Nat.ble 1 cap with
  |false=>grind
  |true=>
   rw[je] at j;have p:c≠0:=zo;refine⟨.pointer (some g),?_,by grind[aj]⟩;show(if c≠0 then _ else _:Sem Value).run P w=_;simp_all
theorem Ss{t:TypeId}{ty:TypeId}(r:R φ h w){v:TypeDesc}(z:P.underlying t=some v){k:Nat}(p:(k=0/\v=.string)\/(k=1/\∃e,v=.slice e)\/(k=2/\∃q e,v=.map q e)){x:AV}{u:Value}(g:aj φ x u):
 dI P φ w (Builtin.len_ #[t] ty #[u]) (aEW k h x):=by
 have m:∀{c:Bool}{x:AV}{s:Sem Value},(c=true->dI P φ w s (.v x))->dI P φ w s (cond c (.v x) (.a "len: kind")):=λ{c} _ _ hh=>by
  cases c with
  |true=>grind
  |false=>trivial
 cases x<;>simp only[aj] at g<;>first|trivial|skip
 case y l n=>
  refine m λb=>?_;rw[iH] at b;subst b;rcases p with⟨_,rfl⟩|⟨h0,_⟩|⟨h0,_⟩<;>first|(exact absurd h0 zm)|skip
  obtain⟨s,rfl,E⟩:=g;refine⟨.int .i64 l,?_,by rfl⟩;simp[Builtin.len_,bZ z,goInt,E.qx]
 case c i off rw len cap ex=>
  refine m λb=>?_;rw[iH] at b;rcases p with⟨h0,_⟩|⟨_,e,rfl⟩|⟨h0,_⟩<;>first|omega|skip
  obtain⟨d,G,c,rfl,_⟩:=g;refine⟨.int .i64 len,?_,by rfl⟩;simp[Builtin.len_,bZ z,goInt]
 case h=>
  refine m λb=>?_;rw[iH] at b;rcases p with⟨h0,_⟩|⟨_,e,rfl⟩|⟨h0,_⟩<;>first|omega|skip
  subst g;refine⟨.int .i64 0,?_,by rfl⟩;simp[Builtin.len_,bZ z,goInt]
 case A=>
  refine m λb=>?_;rw[iH] at b;rcases p with⟨h0,_⟩|⟨h0,_⟩|⟨_,q,e,rfl⟩<;>first|omega|skip
  subst g;refine⟨.int .i64 0,?_,by rfl⟩;simp[Builtin.len_,bZ z,goInt]
 case j i=>
  simp[aEW];split
  ·rename_i C aD D;refine m λb=>?_;rw[iH] at b;rcases p with⟨h0,_⟩|⟨h0,_⟩|⟨_,q,e,rfl⟩<;>first|omega|skip
   have B:=r.f i;rw[D] at B;obtain⟨F,H,⟨l,J,I,_⟩,_⟩:=B;refine⟨.int .i64 C.length,?_,by grind[aj,tR]⟩;simp_all[Builtin.len_,bZ,goInt,getObj,Sem.run]
  trivial
def JX(P:Program)(c:TypeId)(u v:Value)(b:Bool):Prop:=
 ((∃d,P.underlying c=some d/\Instr.sameNow d u v=some b)\/(∃d,P.underlying c=some d/\oR d=true/\∀w,(Op.equal c u v).run P w=.ok b w))/\(b=true <-> u=v)
theorem aga{s t:ByteArray}:(s.toList==t.toList)=true <-> s=t:=by rw[av9,ByteArray.toList_eq,ByteArray.toList_eq];constructor;intro h;cases s;simp_all;grind
def JY{k:FK}{u v:Value}{b:Bool}(d:cF k u v=some b):b=true <-> u=v:=by
 cases k with
 |b k=>obtain⟨a,c,rfl,rfl,rfl⟩:=M8 d;simp
 |a=>
  obtain⟨s,t,rfl,rfl,rfl⟩:=JK d;rw[aga];simp
 |c=>obtain⟨s,t,rfl,rfl,rfl⟩:=M9 d;simp
theorem Su:∀{ks:List FK}{l r:List Value}{b:Bool},cL ks l r=some b->(b=true <-> l=r)
 |[],[],[],b,c=>by grind[cL]
 |k::ks,x::l,y::r,b,c=>by simp[cL] at c;split at c;rename_i d;have e:=(JY d).1 rfl;rw[Su c,e];simp;rename_i d;cases c;have e:=mt (JY d).2 zm;grind;grind
 |[],[],_::_,_,c=>by simp[cL] at c
 |[],_::_,_,_,c=>by simp[cL] at c
 |_::_,[],_,_,c=>by simp[cL] at c
 |_::_,_::_,[],_,c=>by simp[cL] at c
theorem xX{i:TypeId}{j:EK}(d:qq P i=some j){p q:AV}{b:Bool}(g:cJ j p q=some b){u v:Value}(k:aj φ p u)(r:aj φ q v):JX P i u v b:=by unfold qq at d;split at d;rename_i e;cases d;have c:=GA (show sD .a p q=some b from g) k r;refine⟨.inl ⟨_,e,?_⟩,JY c⟩;obtain⟨m,n,rfl,rfl,rfl⟩:=JK c;grind[Instr.sameNow,beq_toListBytes];rename_i fs e;split at d;rename_i l x;cases d;simp[cJ] at g;split at g;obtain⟨X,rfl,s,_⟩:=k;obtain⟨Y,rfl,t,_⟩:=r;have c:=GB g s t;refine⟨.inr ⟨_,e,rfl,λw=>?_⟩,?_⟩;exact(Sg 5).1 i l x 10000 zo (.agg X) (.agg Y) X.toList Y.toList b w (by simp only[qV,e];grind) (by simp only[qV,e];grind) c;rw[Su c];simp;grind;grind;grind
theorem YO{d:TypeId}{u:Value}:∀(c:List MapEntry)(i:Nat),(∀e∈c,∃b,∀w,(Op.equal d u e.key).run P w=.ok b w/\(b=true <-> u=e.key))->∀w,
 (∃j e,(Instr.findAsking d u c i).run P w=.ok (some (i+j,e.val)) w/\c[j]? =some e/\e.key=u)\/((Instr.findAsking d u c i).run P w=.ok none w/\∀e∈c,e.key≠u)
 |[],i,_,w=>.inr ⟨rfl,by simp⟩
 |e::m,i,hh,w=>by
  obtain⟨b,k⟩:=hh e zm;have hr:=(k w).1;cases b with
  |true=>exact .inl ⟨0,e,by simp[Instr.findAsking,hr],rfl,((k w).2.1 rfl).symm⟩
  |false=>
   have q:e.key≠u:=λs=>by simp_all
   rcases YO m (i+1) (λe r=>hh e qaa) w with⟨j,l,g,n,p⟩|⟨g,n⟩;refine .inl ⟨j+1,l,?_,by grind,p⟩;simp[Instr.findAsking,hr,g];omega;simp_all[Instr.findAsking]
theorem YP{d:TypeDesc}{u:Value}:∀(c:List MapEntry)(i:Nat),(∀e∈c,∃b,Instr.sameNow d u e.key=some b/\(b=true <-> u=e.key))->
 (∃j e,Instr.findNow d u c i=some (some (i+j,e.val))/\c[j]? =some e/\e.key=u)\/(Instr.findNow d u c i=some none/\∀e∈c,e.key≠u)
 |[],i,_=>.inr ⟨rfl,by simp⟩
 |e::k,i,hh=>by
  obtain⟨b,p,hi⟩:=hh e zm;cases b with
  |true=>exact .inl ⟨0,e,by simp[Instr.findNow,p],rfl,(hi.1 rfl).symm⟩
  |false=>
   rcases YP k (i+1) (λe q=>hh e qaa) with⟨j,g,l,m,n⟩|⟨l,m⟩;refine .inl ⟨j+1,g,?_,by grind,n⟩;grind[Instr.findNow];grind[Instr.findNow]
theorem Nf{g:TypeId}{q:EK}(l:qq P g=some q){u:Value}(c:List MapEntry)(hh:∀e∈c,∃b,JX P g u e.key b) (w:World):
 (∃j e,(Instr.findKey g u c).run P w=.ok (some (j,e.val)) w/\c[j]? =some e/\e.key=u)\/((Instr.findKey g u c).run P w=.ok none w/\∀e∈c,e.key≠u):=by
 have m:∀d,P.underlying g=some d->oR d=false->(∃j e,(Instr.findKey g u c).run P w=.ok (some (j,e.val)) w/\c[j]? =some e/\e.key=u)\/((Instr.findKey g u c).run P w=.ok none w/\∀e∈c,e.key≠u):=by
  intro d hd y;have n:∀e∈c,∃b,Instr.sameNow d u e.key=some b/\(b=true <-> u=e.key):=λe t=>by obtain⟨b,s,hi⟩:=hh e t;grind
  grind[YP,MapKept.run_findKey]
 have asks:∀{d:TypeDesc},P.underlying g=some d->oR d=true->(∃j e,(Instr.findKey g u c).run P w=.ok (some (j,e.val)) w/\c[j]? =some e/\e.key=u)\/((Instr.findKey g u c).run P w=.ok none w/\∀e∈c,e.key≠u):=by
  intro d k r;have p:∀a b,Instr.sameNow d a b=none:=λa b=>by cases d<;>first|(simp[oR] at r;done)|rfl
  cases c with
  |nil=>
   simp_all[Instr.findKey,bZ,Instr.findNow]
  |cons e i=>
   have A:Instr.findNow d u (e::i) 0=none:=by simp[Instr.findNow,p]
   have z:(Instr.findKey g u (e::i)).run P w=(Instr.findAsking g u (e::i)).run P w:=by simp_all[Instr.findKey,bZ]
   have n:∀x∈e::i,∃b,∀w,(Op.equal g u x.key).run P w=.ok b w/\(b=true <-> u=x.key):=λx v=>by obtain⟨b,s,hi⟩:=hh x v;simp_all
   grind[YO]
 unfold qq at l;split at l;rename_i k;exact m _ k rfl
 all_goals
  first
  |(cases l;done)
  |skip
 rename_i fs k;exact asks k rfl
def Sw(e:Bool)(n:Nat)(X:Array Value)(f:Go.Field)(_:PUnit):Sem (ForInStep PUnit):=do
 if f.name≠ "_" then
  Instr.checkKey e n f.type (<-part f.type X f.offset)
  pure (.yield .unit)
 else pure (.yield .unit)
def JZ(P:Program)(d:Nat):Prop:=∀t ks,flatK P d t=some ks->∀D,d<=D->∀e u b w,qV P t u b->cL ks b b=some true->(Instr.checkKey e D t u).run P w=.ok () w
def Sx(P:Program)(d:Nat):Prop:=∀fs off ks,zf P (flatK P d) off fs=some ks->∀D,d<=D->∀e(X:Array Value) w,cL ks (X.toList.drop off) (X.toList.drop off)=some true->(forIn fs PUnit.unit (Sw e D X)).run P w=.ok .unit w
def Ng{t:TypeId}{d:TypeDesc}(hd:P.underlying t=some d)(b:(∃k,d=.int k)\/d=.bool\/d=.string)(e:Bool)(n:Nat)(u:Value)(w:World):(Instr.checkKey e (n+1) t u).run P w=.ok () w:=by unfold Instr.checkKey;rw[Sem.run_bind,bZ hd];rcases b with⟨k,rfl⟩|rfl|rfl<;>cases u<;>rfl
theorem YR{d:Nat}(n:∀g,d=g+1->Sx P g):JZ P d:=by
 intro t ks i D r e u q w j s;have l:∃c,D=c+1:=by
  cases d with
  |zero=>simp[flatK] at i
  |succ d=>exact⟨D- 1,by omega⟩
 obtain⟨c,rfl⟩:=l;rcases Sa i with⟨k,rfl,b⟩|⟨rfl,b⟩|⟨rfl,b⟩|⟨fs,g,m,b,v,p⟩;exact Ng b (.inl ⟨_,rfl⟩) e c u w;exact Ng b (.inr (.inl rfl)) e c u w;exact Ng b (.inr (.inr rfl)) e c u w;simp only[qV,b] at j;obtain⟨X,rfl,rfl⟩:=j;unfold Instr.checkKey;rw[Sem.run_bind,bZ b];have:=n g m fs.toList 0 ks p c zo e X w qaa;simp only[Result.andThen];rw[<-Array.forIn_toList,Sem.run_bind];show Result.andThen (Sem.run P (forIn fs.toList PUnit.unit (Sw e c X)) w) _=_;rw[this];rfl
theorem YS{d:Nat}(A:JZ P d):Sx P d:=by
 intro fs;induction fs with
 |nil=>simp
 |cons f r t=>
  intro off ks b D i e X w c;simp only[zf] at b;split at b;grind;rename_i k;have z:f.name≠ "_":=λe=>k (.inl e);have y:=avt λe=>k (.inr e);split at b;rename_i l j;split at b;rename_i m q;split at b;rename_i s;cases b;have p:l.length=1->off<X.size\/∃fs,P.underlying f.type=some (.struct fs):=λn=>by refine .inl (avt λg=>?_);have:X.toList.drop off=[]:=auJ qaa;rw[this] at c;cases l<;>simp[cL] at n c
  obtain⟨u,x,v⟩:=Sb j s p w;rcases R6 c with⟨_,c2⟩|⟨c1,c2⟩;grind;simp[Sw,ne_eq,z,avR,y,Sem.run_bind,x,Result.andThen_ok,A _ _ j D i e u _ w v c1];exact t (off+l.length) m q D i e X w qae;grind;grind;grind
def YT:∀d,JZ P d/\Sx P d
 |0=>have A:JZ P 0:=YR (λb h=>by omega);⟨A,YS A⟩
 |d+1=>have A:JZ P (d+1):=YR (λb h=>by have:b=d:=zo;exact(YT b).2);⟨A,YS A⟩
theorem YU{g:TypeId}{i:EK}(b:qq P g=some i){p:AV}(k:BS i p=true){u:Value}(q:aj φ p u)(e:Bool)(w:World):(Instr.checkKey e 10000 g u).run P w=.ok () w:=by unfold qq at b;split at b;rename_i d;exact Ng d (.inr (.inr rfl)) e 9999 u w;rename_i fs d;split at b;rename_i l n;cases b;simp[BS] at k;split at k;rename_i c;simp[cJ] at c;split at c;rename_i t v r s;obtain⟨X,rfl,j,_⟩:=q;have m:=GB c j j;exact(YT 5).1 g l n 10000 zo e (.agg X) X.toList w qat m;grind;grind;grind;grind
theorem Sy{c:EK}{k:AV}:∀{d:List (AV×AV)},yZ c k d=true->∀e∈d,cJ c k e.1 =some false
 |[],_,e,b=>by grind
 |(i,v)::r,hh,e,b=>by simp[yZ] at hh;split at hh;rename_i g;rcases atZ.1 b with rfl|b;omega;exact Sy hh e b;grind
theorem Nh{c:EK}{k:AV}:∀{b:List (AV×AV)}{r:Option AV},wj c k b=some r->
 (r=none/\∀e∈b,cJ c k e.1 =some false)\/(∃j g v,r=some v/\b[j]? =some (g,v)/\cJ c k g=some true/\∀(d:Nat)(e:AV×AV),b[d]? =some e->d≠j->cJ c k e.1 =some false)
 |[],r,hh=>by simp[wj,atU] at hh;grind
 |(g,v)::b,r,hh=>by simp[wj] at hh;split at hh;rename_i l;obtain⟨m,i⟩:=qt hh;cases i;refine .inr ⟨0,g,v,rfl,rfl,l,λd e n hj=>?_⟩;grind[Sy];rename_i l;rcases Nh hh with⟨rfl,m⟩|⟨j,p,q,rfl,m,i,s⟩;grind;refine .inr ⟨j+1,p,q,rfl,by grind,i,λd e n hj=>?_⟩;grind;grind
theorem agb{c:EK}{k:AV}{d:List (AV×AV)}{r:Option AV}(hh:wj c k d=some r)(e:AV×AV)(g:e∈d):∃b,cJ c k e.1 =some b:=by grind[Nh,List.getElem?_of_mem]
theorem YV{y:TypeId}{z:EK}(n:qq P y=some z){k:AV}{u:Value}(t:aj φ k u){i:List (AV×AV)}{c:List MapEntry}(J:JA φ i c){r:Option AV}(A:wj z k i=some r)(w:World):
 (∃v j m,r=some v/\(Instr.findKey y u c).run P w=.ok (some (j,m.val)) w/\c[j]? =some m/\m.key=u/\aj φ v m.val)\/(r=none/\(Instr.findKey y u c).run P w=.ok none w/\∀e∈c,e.key≠u):=by
 obtain⟨l,E,S,D⟩:=J;have B:l.Perm c:=.of_eq E;have d:∀m∈c,∃(j:Nat) (e:AV×AV),i[j]? =some e/\l[j]? =some m/\aj φ e.1 m.key/\aj φ e.2 m.val:=λm p=>by
  obtain⟨j,hj⟩:=aum (B.mem_iff.2 p);have M:j<i.length:=by grind
  obtain⟨U,q,s,g⟩:=D j i[j] (atT M);grind
 have F:∀m∈c,∃b,JX P y u m.key b:=λm p=>by obtain⟨j,e,q,_,g,_⟩:=d m p;obtain⟨b,K⟩:=agb A e (aua q);exact⟨b,xX n K t g⟩
 have G:=Nf n c F w;rcases Nh A with⟨rfl,s⟩|⟨j0,L,v0,rfl,s,g,I⟩;have R:∀m∈c,m.key≠u:=λm p e=>by obtain⟨j,x,q,_,g,_⟩:=d m p;have:=(xX n (s x (aua q)) t g).2.2 e.symm;grind
 grind;obtain⟨C,N,O,V⟩:=D j0 (L,v0) s;have Q:C∈c:=B.mem_iff.1 (aua N);have T:u=C.key:=(xX n g t O).2.1 rfl;rcases G with⟨j,m,g1,g2,H⟩|⟨g1,g2⟩;obtain⟨j1,e,q1,q2,q3,q4⟩:=d m (aua g2);by_cases hj:j1=j0;grind;have:=(xX n (I j1 e q1 hj) t q3).2.2 H.symm;grind;grind
theorem agc{t E e:TypeId}{q:EK}{z:AV}{ok:Bool}(r:R φ h w)(C:P.underlying t=some (.map E e))(g:qq P E=some q)(J:aFE P e=some z){x k:AV}{u v:Value}(D:aj φ x u)(n:aj φ k v):
 dI P φ w (Instr.lookup t u v ok) (me q h z x k ok):=by
 obtain⟨i,O,hi,K,hd⟩:=GH J;refine sP (λG=>?_) λ_=>trivial;have p:=λb w=>YU g G n b w;cases x<;>simp only[aj] at D<;>first|trivial|skip
 case A=>
  refine Nd (hd φ) ?_;rcases Nf (u:=v) g [] zm w with⟨j,m,_,g2,_⟩|⟨g1,_⟩;grind;simp_all[Instr.lookup,bZ,DY]
 case j i'=>
  obtain⟨d,rfl⟩:=D;simp only[];split;rename_i M aD I;have F:=r.f i';rw[I] at F;obtain⟨L,B,s,_⟩:=F;split;rename_i y l;rcases YV g n s l w with⟨v',j,m,c,g1,g2,N,H⟩|⟨c,_⟩;cases c;refine Nd H ?_;cases ok<;>simp[Instr.lookup,bZ C,getObj,Sem.run,B,p,g1];grind;rename_i l;rcases YV g n s l w with⟨v',j,m,c,_⟩|⟨c,g1,g2⟩;grind;refine Nd (hd φ) ?_;cases ok<;>simp[Instr.lookup,bZ C,getObj,Sem.run,B,p,g1,DY hi K];trivial;trivial
theorem YX{i:EK}{k v:AV}:∀{c d:List (AV×AV)}{b:Bool},AJ i k v c=some (b,d)->
 (b=true/\(∀e∈c,cJ i k e.1 =some false)/\d=c++[(k,v)])\/
 (b=false/\∃j g v0,c[j]? =some (g,v0)/\cJ i k g=some true/\(∀(l:Nat)(e:AV×AV),c[l]? =some e->l≠j->cJ i k e.1 =some false)/\d=c.set j (g,v))
 |[],d,b,hh=>by simp[AJ,atU,avj] at hh;grind
 |(g,v0)::c,d,b,hh=>by simp[AJ] at hh;split at hh;rename_i n;obtain⟨p,m⟩:=qt hh;obtain⟨rfl,rfl⟩:=m;refine .inr ⟨rfl,0,g,v0,rfl,n,λl e q hj=>?_,rfl⟩;grind[Sy];rename_i n;split at hh;rename_i t x hr;obtain⟨rfl,rfl⟩:=hh;rcases YX hr with⟨rfl,p,rfl⟩|⟨rfl,j,r,s,p,m,u,rfl⟩;grind;refine .inr ⟨rfl,j+1,r,s,by grind,m,λl e q hj=>?_,rfl⟩;grind;grind;grind
theorem YY{k:FK}{u v:Value}(d:cF k u v=some true)(n:Nat):Instr.sameBits n u v=true:=by
 cases k with
 |b k=>obtain⟨a,c,rfl,rfl,_⟩:=M8 d;grind[Instr.sameBits]
 |a=>
  obtain⟨s,t,rfl,rfl,e⟩:=JK d;grind[Instr.sameBits,beq_toListBytes]
 |c=>obtain⟨s,t,rfl,rfl,_⟩:=M9 d;grind[Instr.sameBits]
theorem YZ(n:Nat):∀{ks:List FK}{l r:List Value},cL ks l r=some true->(l.zip r).all (λ(x,y)=>Instr.sameBits n x y)=true
 |[],[],[],_=>rfl
 |k::ks,x::l,y::r,b=>by simp[cL] at b;split at b;rename_i c;simp only[List.zip_cons_cons,aw2,YY c n,av8];exact YZ n b;grind;grind
 |[],[],_::_,b=>by rfl
 |[],_::_,_,b=>by simp[cL] at b
 |_::_,[],_,b=>by rfl
 |_::_,_::_,[],b=>by rfl
theorem agd{n:TypeId}{j:EK}(b:qq P n=some j){p q:AV}(c:cJ j p q=some true){u v:Value}(g:aj φ p u)(i:aj φ q v):Instr.sameBits 10000 v u=true:=by have e:=(xX b c g i).2.1 rfl;subst e;unfold qq at b;split at b;cases b;exact YY (GA (show sD .a p q=some true from c) g i) _;split at b;cases b;simp[cJ] at c;split at c;obtain⟨X,rfl,k,_⟩:=g;obtain⟨Y,d,l,_⟩:=i;cases d;have m:=GB c k l;simp only[Instr.sameBits,avX,av8];exact YZ 9999 m;grind;grind;grind
theorem age{b:Array MapEntry}{i:Nat}{m:MapEntry}{F:MapEntry->MapEntry}(hi:b[i]? =some m)(n:(b.toList.map (·.born)).Nodup):
 (b.modify i F).toList=b.toList.map λe=>if e.born=m.born then F e else e:=by
 refine avs λk=>?_;rw[at5,av3,auh,at5];by_cases c:i=k;grind;rw[if_neg c];cases p:b[k]? with
 |none=>rfl
 |some e=>
  have d:e.born≠m.born:=λg=>c (by
   have j:(b.toList.map (·.born))[i]? =some m.born:=by grind
   have l:(b.toList.map (·.born))[k]? =some m.born:=by grind
   grind[List.getElem?_inj])
  grind
theorem Y0{t Q e:TypeId}{M:EK}(r:R φ h w)(ht:P.underlying t=some (.map Q e))(p:qq P Q=some M){x k y:AV}{u v z:Value}(hx:aj φ x u)(C:aj φ k v)(hy:aj φ y z):
 GG P φ h w (Instr.mapUpdate t u v z) (aFk M h x k y):=by
 unfold aFk;refine YD (λGN=>?_) λ_=>trivial;have GO:=λb w=>YU p GN C b w;cases x<;>simp only[aj] at hx<;>first|trivial|skip
 case j i'=>
  obtain⟨d,rfl⟩:=hx;simp only[];split;rename_i A aD O;have ob:=r.f i';rw[O] at ob;obtain⟨g,K,⟨l,A2,bz,pQ⟩,GP,U,DZ,GQ⟩:=ob;have hp:l.Perm g.toList:=.of_eq A2;have zC:dH (h.ab i')=true:=by rw[O];rfl
  have ao:=r.l i' zC;split;rename_i b BT Sz;have s:∀m∈g.toList,∃(j:Nat) (e:AV×AV),A[j]? =some e/\l[j]? =some m/\aj φ e.1 m.key/\aj φ e.2 m.val:=λm D=>by
   obtain⟨j,hj⟩:=aum (hp.mem_iff.2 D);have kL:j<A.length:=by grind
   obtain⟨m',N,H,B⟩:=pQ j A[j] (atT kL);grind
  rcases YX Sz with⟨rfl,H,rfl⟩|⟨rfl,j0,k',v0,H,B,h4,rfl⟩;have X:∀m∈g.toList,∃b,JX P Q v m.key b:=λm D=>by obtain⟨j,e,N,_,B,_⟩:=s m D;exact⟨_,xX p (H e (aua N)) C B⟩
  have bg:∀m∈g.toList,m.key≠v:=λm D e=>by obtain⟨j,x,N,_,B,_⟩:=s m D;have:=(xX p (H x (aua N)) C B).2.2 e.symm;grind
  rcases Nf p g.toList X w with⟨j,m,_,g2,g3⟩|⟨g1,_⟩;grind;have Y:(Instr.mapUpdate t (.map (some (φ.a i'))) v z).run P w=.ok () {w with heap:=w.heap.setIfInBounds (φ.a i') (.map (g.push {key:=v,val:=z,born:=aD}) (aD+1))}:=by simp_all[Instr.mapUpdate,bZ,getObj,setObj,Sem.run]
  have E:=MapKept.heap_set (o':=.map (g.push {key:=v,val:=z,born:=aD}) (aD+1)) K;obtain⟨r',st⟩:=JC (h':=h.dT i' (.f (A++[(k,y)]) (aD+1))) (w':={w with heap:=w.heap.setIfInBounds (φ.a i') (.map (g.push {key:=v,val:=z,born:=aD}) (aD+1))}) (i:=i') (o':=.f (A++[(k,y)]) (aD+1)) r (by rw[O];rfl) rfl (λj=>Hp.lj _ _ _ _) zm (λc hc=>E.2 c hc)
   (by
    refine⟨_,E.1,⟨l++[{key:=v,val:=z,born:=aD}],by grind,by grind,λj e n=>?_⟩,?_,?_,?_,?_⟩;by_cases hj:j<A.length;grind;have pO:j=A.length:=by grind
    subst pO;simp at n;subst n;simp_all;grind;grind;grind;grind[List.range_succ])
   (λj M m vr todo eC _ _ e D5 fQ n=>by rw[e,E.1] at n;cases n;exact⟨g,aD,by rw[e];exact K,by omega,λh=>by omega⟩) rfl rfl rfl
  exact⟨rfl,_,φ,Y,r',st⟩;obtain⟨S,T,p2,p3⟩:=pQ j0 (k',v0) H;have X:∀m∈g.toList,∃b,JX P Q v m.key b:=λm D=>by obtain⟨j,e,q1,_,q3,_⟩:=s m D;by_cases hj:j=j0;subst hj;rw[H] at q1;cases q1;exact⟨_,xX p B C q3⟩;exact⟨_,xX p (h4 j e q1 hj) C q3⟩
  have Ni:S∈g.toList:=hp.mem_iff.1 (aua T);have js:v=S.key:=(xX p B C p2).2.1 rfl;rcases Nf p g.toList X w with⟨j,m,g1,g2,g3⟩|⟨_,g2⟩;have hmm:m=S:=by obtain⟨j1,e,q1,q2,q3,q4⟩:=s m (aua g2);by_cases hj:j1=j0;subst hj;rw[T] at q2;cases q2;rfl;have:=(xX p (h4 j1 e q1 hj) C q3).2.2 g3.symm;cases this
  subst hmm;rw[at5] at g2;have GR:=agd p B C p2;have GS:(Instr.keyThatStays m.key v).run P w=.ok v w:=by simp[Instr.keyThatStays,GR]
  have Y:(Instr.mapUpdate t (.map (some (φ.a i'))) v z).run P w=.ok () {w with heap:=w.heap.setIfInBounds (φ.a i') (.map (g.modify j λe=>{e with key:=v,val:=z}) aD)}:=by simp[Instr.mapUpdate,bZ ht,getObj,setObj,Sem.run,K,GO,g1,g2,GS]
  have E:=MapKept.heap_set (o':=.map (g.modify j λe=>{e with key:=v,val:=z}) aD) K;have G:=age (F:=λe=>{e with key:=v,val:=z}) g2 U;have wF:(l.map (·.born)).Nodup:=(hp.map _).nodup_iff.2 U;have Y1:∀e∈g.toList,(if e.born=m.born then{e with key:=v,val:=z} else e:MapEntry).key=e.key:=λe n=>by
   split;rename_i W;have:e=m:=by
    obtain⟨q,I⟩:=aum n;obtain⟨q',V⟩:=aum Ni;have J:(g.toList.map (·.born))[q]? =some m.born:=by rw[auh,I,<-W];rfl
    have Z:(g.toList.map (·.born))[q']? =some m.born:=by rw[auh,V];rfl
    have:=(aws (at0.1 J).1 U).1 (J.trans Z.symm);subst this;rw[I] at V;cases V;rfl
   rw[this];exact js;rfl
  have L:∀e:MapEntry,(if e.born=m.born then{e with key:=v,val:=z} else e:MapEntry).born=e.born:=λe=>by split<;>rfl
  obtain⟨r',st⟩:=JC (h':=h.dT i' (.f (A.set j0 (k',y)) aD)) (w':={w with heap:=w.heap.setIfInBounds (φ.a i') (.map (g.modify j λe=>{e with key:=v,val:=z}) aD)}) (i:=i') (o':=.f (A.set j0 (k',y)) aD) r (by rw[O];rfl) rfl (λj=>Hp.lj _ _ _ _) zm (λc hc=>E.2 c hc)
   (by
    refine⟨_,E.1,⟨l.map λe=>if e.born=m.born then{e with key:=v,val:=z} else e,by rw[G,A2],by simp[bz],λq e n=>?_⟩,?_,?_,?_,?_⟩;rw[auh];rw[awt] at n;split at n;rename_i I;subst I;split at n;cases n;rw[T];exact⟨_,rfl,by simp only[auo];rw[js];exact p2,by simp only[auo];exact hy⟩;cases n;rename_i I;obtain⟨m1,q1,q2,q3⟩:=pQ q e n;rw[q1];have bg:¬m1.born=m.born:=λW=>by
     have J:(l.map (·.born))[q]? =some m.born:=by rw[auh,q1,<-W];rfl
     have Z:(l.map (·.born))[j0]? =some m.born:=by rw[auh,T];rfl
     exact I ((aws (at0.1 J).1 wF).1 (J.trans Z.symm)).symm
    exact⟨m1,by simp only[au3,bg,auM],q2,q3⟩;rw[G,av4];have:g.toList.map ((·.key)∘λe=>if e.born=m.born then{e with key:=v,val:=z} else e)=g.toList.map (·.key):=avB λe n=>Y1 e n;rw[this];exact GP;rw[G,av4];have:g.toList.map ((·.born)∘λe=>if e.born=m.born then{e with key:=v,val:=z} else e)=g.toList.map (·.born):=avB λe _=>L e;rw[this];exact U;intro e n;rw[G] at n;obtain⟨e0,he0,rfl⟩:=auR.1 n;rw[L];exact DZ e0 he0;rw[G,av4];have:g.toList.map ((·.born)∘λe=>if e.born=m.born then{e with key:=v,val:=z} else e)=g.toList.map (·.born):=avB λe _=>L e;rw[this];exact GQ)
   (λq M m' vr todo eC _ _ e D5 fQ n=>by rw[e,E.1] at n;cases n;exact⟨g,aD,by rw[e];exact K,at2 _,λ_=>⟨λe=>if e.born=m.born then{e with key:=v,val:=z} else e,L,λe a n hd=>by rw[Y1 e n];exact hd,G⟩⟩) rfl rfl rfl
  exact⟨rfl,_,φ,Y,r',st⟩;exact absurd js.symm (g2 S Ni);trivial;trivial
def agf{w:World}{φ:aH}{n:Nat}{o:Obj}{z:Nat}:(w.alloc o).heap[(φ.iL n w.heap.size 0 z).a n]? =some o:=by have e:(φ.iL n w.heap.size 0 z).a n=w.heap.size:=if_pos rfl;rw[e];exact avw
theorem SA:∀b:List (AV×AV),aGh b=b.map (·.1)
 |[]=>rfl
 |e::r=>by simp[aGh,SA r]
theorem agh{t y e:TypeId}{c:EK}(r:R φ h w)(L:P.underlying t=some (.map y e))(v:Qb c=false){x:AV}{u:Value}(i:aj φ x u):k6 P φ h w (Instr.range t u) (FT c h x):=by
 cases x<;>simp only[aj] at i<;>first|trivial|skip
 case j m=>
  obtain⟨d,rfl⟩:=i;simp only[FT,v,awX];split;rename_i H aD g;have k:=r.f m;rw[g] at k;obtain⟨b,J,⟨l,n,G,M⟩,D,N,C,E⟩:=k;have K:l.Perm b.toList:=.of_eq n;have F:φ.a m<w.heap.size:=r.l m (by rw[g];rfl);have q:(Instr.range t (.map (some (φ.a m)))).run P w=.ok (.pointer (some ⟨w.heap.size,0,none⟩)) (w.alloc (.mapIter (some (φ.a m)) aD #[] aD)):=by simp_all[Instr.range,bZ,getObj,Sem.run]
  have B:(w.alloc (.mapIter (some (φ.a m)) aD #[] aD)).heap[φ.a m]? =some (.map b aD):=by grind[MapKept.heap_alloc]
  refine GK (z:=0) r q rfl (λle=>?_) λ_ _=>YN;have A:(φ.iL h.a w.heap.size 0 0).a m=φ.a m:=le.a m d;refine⟨by simp[aH.iL],le.b m d,by grind,λp I s=>?_,#[],by rw[A];exact agf,λp s=>?_⟩;grind;grind[List.filter_eq_self,SA,nS];trivial
theorem jY{s:Sem Value}{m:String}:k6 P φ h w s (.a m):=trivial
theorem Y2:∀(c:Nat)(l:List AV)(x:AV),l[c]? =some x->BU c l=some (x,l.eraseIdx c)
 |_,[],x,b=>by grind
 |0,e::r,x,b=>by simp at b;subst b;rfl
 |c+1,e::r,x,b=>by simp only[BU,Y2 c r x b,aw3]
theorem Y3{e:MapEntry}:∀(l:List MapEntry)(c:Nat),l[c]? =some e->(l.map (·.born)).Nodup->l.filter (λx=> !(x.born==e.born))=l.eraseIdx c
 |[],c,b,_=>by rfl
 |x::l,0,b,d=>by simp_all
 |x::l,c+1,b,d=>by simp only[aul,au6] at d;have:x.born≠e.born:=λh=>d.1 (h▸awJ (aua b));simp only[aw3,awB];rw[if_pos qaa,Y3 l c b d.2]
theorem agi{i m:Nat}{g:EK}{aD:Nat}{todo:List AV}{W:Option AV}{X:List (AV×AV)}{ty:TypeId}(r:R φ h w)(K:h.ab i=.d g m aD todo W)(hm:h.ab m=.f X aD):
 (todo=[]/\(Instr.next (.pointer (some ⟨φ.a i,φ.c i+0,none⟩)) false ty).run P w=.ok (.tuple #[.bool false]) w)\/
 ∃c x v z w',c<todo.length/\todo[c]? =some x/\(Instr.next (.pointer (some ⟨φ.a i,φ.c i+0,none⟩)) false ty).run P w=.ok (.tuple #[.bool true,v,z]) w'/\
  R φ (h.dT i (.d g m aD (todo.eraseIdx c) (some x))) w'/\eS φ h w φ w' (h.dT i (.d g m aD (todo.eraseIdx c) (some x))):=by
 have L:=r.f i;rw[K] at L;obtain⟨H,V,ao,JB,seen,J,hh⟩:=L;have M:=r.f m;rw[hm] at M;obtain⟨p,F,_,GP,xY,O,_⟩:=M;obtain⟨⟨l,q,U,E⟩,_⟩:=hh p F;have I:(leftOf p seen).toList=p.toList.filter λe=> !seen.contains e.born:=by simp[leftOf]
 rw[H,aue];rcases run_next_at (P:=P) w ty (φ.a i) (φ.a m) aD aD seen p aD J F O zl with⟨h0,B⟩|⟨e,b,d,n,B⟩;refine .inl ⟨auv ?_,B⟩;rw[<-U,q.length_eq,<-I];omega;rw[I] at b;obtain⟨c,C⟩:=aum (q.mem_iff.2 b);have D:c<todo.length:=by grind
 obtain⟨e',q1,q2⟩:=E c todo[c] (atT D);rw[C] at q1;cases q1;refine .inr ⟨c,todo[c],e.key,e.val,_,D,atT D,B,?_⟩;have S:d.heap=w.heap:=by rcases n with rfl|rfl<;>rfl
 have N:d.os=w.os:=by rcases n with rfl|rfl<;>rfl
 have sM:d.output=w.output:=by rcases n with rfl|rfl<;>rfl
 have A:d.tape=w.tape:=by rcases n with rfl|rfl<;>rfl
 have Q:w.drawn<=d.drawn:=by rcases n with rfl|rfl<;>first|exact at2 _|exact axX _
 have vi:=MapKept.heap_set (o':=.mapIter (some (φ.a m)) aD (seen.push e.born) aD) J;have u:(ChangeMaps.setBlock d (φ.a i) (.mapIter (some (φ.a m)) aD (seen.push e.born) aD)).heap=w.heap.setIfInBounds (φ.a i) (.mapIter (some (φ.a m)) aD (seen.push e.born) aD):=by show d.heap.setIfInBounds _ _=_;grind
 have T:φ.a m≠φ.a i:=λe=>by grind
 have wF:(l.map (·.born)).Nodup:=(q.map _).nodup_iff.2 ((List.filter_sublist.map _).nodup xY);refine JC (h':=h.dT i (.d g m aD (todo.eraseIdx c) (some todo[c]))) (i:=i) (o':=.d g m aD (todo.eraseIdx c) (some todo[c])) r (by rw[K];rfl) rfl (λj=>Hp.lj ..) qaa (λc C=>by grind) ?_
  (λj g m' vr td cr _ _ e G Y b=>by grind) N sM A Q
 refine⟨H,V,by grind,λG Y b=>?_,seen.push e.born,by grind,λG b=>?_⟩;grind;rw[u,vi.2 _ T,F] at b;cases b;refine⟨⟨l.eraseIdx c,?_,by grind,λk x s=>?_⟩,λk Z=>?_⟩;rw[<-Y3 l c C wF];refine(q.filter _).trans (List.Perm.of_eq ?_);rw[List.filter_filter];refine awY λy _=>?_;rw[avA];simp[and_comm];rw[List.getElem?_eraseIdx] at s|-;split at s;rename_i t;rw[if_pos t];exact E k x s;rename_i t;rw[if_neg t];exact E (k+1) x s;cases Z;exact⟨e.born,e,by simp,(avv.1 b).1,rfl,q2⟩
theorem agl{e:EK}{p q:AV}(r:Qa e=false)(c:cJ e p q=some true){u v:Value}(g:aj φ p u)(j:aj φ q v):u=v:=by
 cases e with
 |a k=>exact(JY (GA (show sD k p q=some true from c) g j)).1 rfl
 |b ks=>
  simp[cJ] at c;split at c;obtain⟨X,rfl,m,_⟩:=g;obtain⟨Y,rfl,n,_⟩:=j;rw[axK ((Su (GB c m n)).1 rfl)];grind
 |h k=>cases r
 |d=>
  simp only[cJ] at c;split at c;grind[aj];grind;grind;obtain⟨_,rfl,rfl⟩:=Ys c;grind[aj];grind
 |i l=>
  simp[cJ] at c;split at c;rename_i g1 z g2 A;obtain⟨x,rfl,B⟩:=g;obtain⟨y,rfl,t⟩:=j;cases s:Nat.beq g1 g2 with
  |false=>grind
  |true=>
   obtain rfl:=at7 s;grind[Yt,aj]
  grind
 |_=>
  simp[cJ] at c;grind[aj]
theorem agm{i:Nat}{off:Nat}(r:R φ h w)(O:aj φ (.a i off) (.pointer (some ⟨φ.a i,φ.c i+off,none⟩))):dI P φ w (Instr.entry (.pointer (some ⟨φ.a i,φ.c i+off,none⟩))) (FU h (.a i off)):=by
 simp only[FU];refine sP (λz=>?_) λ_=>trivial;rw[iH] at z;subst z;split;rename_i ek m aD todo k L;split;rename_i es W M;refine sP (λd=>?_) λ_=>trivial;simp only[atW,avT] at d;obtain⟨d,E⟩:=d;rw[iH] at d;subst d;split;rename_i v K;have s:=r.f i;rw[L] at s;obtain⟨C,dm,Y,X,seen,I,hh⟩:=s;have t:=r.f m;rw[M] at t;obtain⟨c,A,⟨l,B,Z,S⟩,V,xY,U,_⟩:=t;have N:l.Perm c.toList:=.of_eq B;obtain⟨_,n⟩:=hh c A;obtain⟨b,e,p,J,D,u⟩:=n k rfl;rcases Nh K with⟨h0,_⟩|⟨j,k',v',h0,G,H,_⟩;grind;cases h0;obtain⟨g,q1,q2,q3⟩:=S j _ G;have F:e.key=g.key:=agl E H u q2;have Q:g∈c.toList:=N.mem_iff.1 (aua q1);have T:e=g:=by
  obtain⟨x,O⟩:=aum J;obtain⟨y,hy⟩:=aum Q;have e1:(c.toList.map (·.key))[x]? =some g.key:=by grind
  have e2:(c.toList.map (·.key))[y]? =some g.key:=by grind
  grind[List.getElem?_inj]
 subst T;subst D;have q:c.find? (·.born==e.born)=some e:=by rw[<-Array.find?_toList];grind[find_born]
 refine⟨.tuple #[e.key,e.val],?_,by exact⟨_,rfl,qS.2 ⟨u,qS.2 ⟨q3,sJ⟩⟩⟩⟩;rw[C,aue];simp only[Instr.entry,getObj,Sem.run_bind,Sem.run,I,A,Result.andThen,p,bne_self_eq_false,at3,auM,q];rfl;trivial;trivial;trivial
def agp{i:AO}{off rw n:Nat}{l:List (List AV)}(h:kZ i off rw n=some l):i.gl=true:=by cases i<;>first|rfl|simp[kZ] at h
def sS(φ:aH)(n:Nat)(c:Nat->Option AV)(vs:List Value):Prop:=
 vs.length=n/\(∀(j:Nat)(x:AV),j<n->c j=some x->∃v,vs[j]? =some v/\aj φ x v)/\∀v∈vs,v.oneCell'=true
theorem Y4{i:Nat}{o:AO}{b:Array Value}{el:Nat}{g:Nat×Nat}{off rw n:Nat}{rs:List (List AV)}(e:o.wf)(p:w.heap[φ.a i]? =some (.cells b el g))(q:φ.c i+o.io<=b.size)
 (r:∀(j:Nat)(a:AV),o.ip j=some a->∃v,b[φ.c i+j]? =some v/\aj φ a v) (s:∀(j:Nat)(v:Value),j<o.io->b[φ.c i+j]? =some v->v.oneCell'=true) (k:kZ o off rw n=some rs):
 ∃vs:List Value,sS φ (n*rw) (λj=>o.ip (off+j)) vs/\aEQ rs rw n (λj=>o.ip (off+j))/\(0<n*rw->off+n*rw<=o.io)/\
  ∀(j:Nat)(v:Value),vs[j]? =some v->w.cell? ⟨φ.a i,φ.c i+off+j,none⟩=some v:=by
 obtain⟨c,d⟩:=X1 e k;by_cases l:n*rw=0;exact⟨[],⟨l.symm,λj x hj=>by omega,by simp⟩,c,d,by simp⟩;refine⟨(b.toList.drop (φ.c i+off)).take (n*rw),⟨by grind,λj x hj t=>?_,λv m=>?_⟩,c,d,λj v m=>?_⟩;grind;grind[List.getElem?_of_mem];grind[World.cell?]
def Nk{i:Nat}{off rw n:Nat}{rs:List (List AV)}(r:R φ h w)(b:kZ (h.ab i) off rw n=some rs):
 ∃vs:List Value,sS φ (n*rw) (λj=>(h.ab i).ip (off+j)) vs/\aEQ rs rw n (λj=>(h.ab i).ip (off+j))/\(0<n*rw->off+n*rw<=(h.ab i).io)/\
  ∀(j:Nat)(v:Value),vs[j]? =some v->w.cell? ⟨φ.a i,φ.c i+off+j,none⟩=some v:=by
 have ok:=tW r (agp b);obtain⟨l,p,c,m,d,e,g,b6⟩:=ok.b;exact Y4 ok.g c d e (λj v _ k=>g _ v k) b
def agq{o:AO}{off rw n:Nat}{rs:List (List AV)}(h:kZ (wo o) off rw n=some rs):o.gl=true/\wo o=o\/∃rw l5 t,o=.h rw l5 t:=by cases o<;>first|exact .inl ⟨rfl,rfl⟩|exact .inr ⟨_,_,_,rfl⟩|simp[wo,kZ] at h
def agr{i:Nat}{off rw n:Nat}{rs:List (List AV)}(r:R φ h w)(b:kZ (wo (h.ab i)) off rw n=some rs):
 ∃vs:List Value,sS φ (n*rw) (λj=>(wo (h.ab i)).ip (off+j)) vs/\aEQ rs rw n (λj=>(wo (h.ab i)).ip (off+j))/\(0<n*rw->off+n*rw<=(wo (h.ab i)).io)/\
  ∀(j:Nat)(v:Value),vs[j]? =some v->w.cell? ⟨φ.a i,φ.c i+off+j,none⟩=some v:=by
 rcases agq b with⟨_,e⟩|⟨nN,l5,t,q⟩;simp_all[Nk];have d:=r.f i;rw[q] at d b|-;obtain⟨c,g,s,el,u,k,l,m,p⟩:=d;rw[k] at c;exact Y4 (o:=.b 0 nN l5 0 t) g c l m p b
theorem SE:∀(l n:Nat),(mg l n).length=l
 |0,_=>rfl
 |l+1,n=>by simp[mg,SE l]
theorem SF:∀(l n k:Nat),k<l->(mg l n)[k]? =some [.s (lF n k)]
 |l+1,n,0,_=>by rfl
 |l+1,n,k+1,b=>by simp only[mg,auV];rw[SF l _ k zo,X7]
theorem Nl{l n:Nat}:aEQ (mg l n) 1 l (λj=>if j<l then some (.s (lF n j)) else none):=by refine⟨SE l n,λr hr=>?_,λk j b hj=>?_⟩;grind[List.getElem?_of_mem,SE,SF];grind[SF]
theorem Nm{rw n:Nat}{y:AV}{v:Value}{rs:List (List AV)}(r:R φ h w)(q:aj φ y v)(e:rL h rw y=some rs)(p:lenOf y=some n):
 ∃(cs:Array Value) (c:Nat->Option AV),(Builtin.lenOf v).run P w=.ok n w/\(Builtin.firstCells rw n v).run P w=.ok cs w/\aEQ rs rw n c/\sS φ (n*rw) c cs.toList:=by
 cases y<;>simp only[rL,reduceCtorEq] at e<;>simp only[lenOf,atU] at p<;>simp only[aj] at q
 case h=>
  subst q;subst p;cases e;exact⟨#[],λ_=>none,rfl,rfl,⟨rfl,by simp,λk j G=>absurd G (avm _)⟩,⟨by simp,λj x _ u=>zo,by simp⟩⟩
 case c i off nN len cap ex=>
  subst p;obtain⟨d,K,cc,rfl,g1,g2,M,N⟩:=q;obtain⟨vs,g,F,_,O⟩:=agr r e;refine⟨vs.toArray,_,rfl,?_,F,by omega⟩;by_cases h0:len*rw=0;have:vs=[]:=auv (by rw[g.1,h0]);simp_all[Builtin.firstCells,loadCells,loadCellsFrom];have H:=run_loadCells_list (P:=P) w ⟨φ.a i,φ.c i+off,none⟩ vs (λj v t=>by grind[xV]);rw[g.1] at H;grind[Builtin.firstCells]
 case y l m=>
  subst p;obtain⟨s,rfl,B⟩:=q;obtain⟨A,e⟩:=qt e;rw[iH] at A;subst A;cases e;have z:=B.qx;refine⟨(s.extract 0 l).data.map λb=>.int .u8 b.toNat,_,by simp[Builtin.lenOf,z],rfl,Nl,?_⟩;have I:s.extract 0 l=s:=by rw[<-z];simp
  rw[I];refine⟨by simp_all,λj x hj u=>?_,λv t=>?_⟩;rw[axu] at hj;simp[if_pos hj] at u;cases u;obtain⟨b,J,L⟩:=B.ab hj;have Q:s.data[j]? =some b:=by have C:=awd.1 J;obtain⟨D,E⟩:=C;exact auc.2 ⟨D,E⟩
  simp_all[aj];simp at t;obtain⟨b,_,rfl⟩:=t;rfl
def Nn{t u ty e:TypeId}{p:TypeDesc}{i:TypeInfo}{base:Option Addr}{mq qX n:Nat}{v:Value}{cs:Array Value}{w w':World}(g:P.underlying t=some (.slice e))(j:P.underlying u=some p)(q:(∃m,p=.slice m)\/p=.string)
 (hi:P.info? e=some i) (c:(Builtin.lenOf v).run P w=.ok n w) (l:(Builtin.firstCells i.size n v).run P w=.ok cs w) (k:mq+n<=qX)
 (s:∀b,base=some b->(storeCells (b.add (mq*i.size)) cs.toList).run P w=.ok () w') (r:base=none->w'=w):
 (Builtin.append_ #[t,u] ty #[.slice base mq qX,v]).run P w=.ok (.slice base (mq+n) qX) w':=by
 have d:(Go.sizeOf e).run P w=.ok i.size w:=by simp[Go.sizeOf,typeInfo,hi]
 cases base with
 |none=>
  cases r rfl;rcases q with⟨m,rfl⟩|rfl;simp[Builtin.append_,bZ g,bZ j,d,c,l,k];simp[Builtin.append_,bZ g,bZ j,d,c,l,k]
 |some b=>
  have:=s b rfl;rcases q with⟨m,rfl⟩|rfl;simp[Builtin.append_,bZ g,bZ j,d,c,l,k,this];simp[Builtin.append_,bZ g,bZ j,d,c,l,k,this]
def Y5{t u ty e:TypeId}{j:TypeDesc}{i:TypeInfo}{k:Value}{base:Option Addr}{mq qX n:Nat}{v:Value}{cs iI:Array Value}{w:World}(y:P.underlying t=some (.slice e))(z:P.underlying u=some j)(D:(∃x,j=.slice x)\/j=.string)
 (hi:P.info? e=some i) (C:i.zero=some k) (r:(Builtin.lenOf v).run P w=.ok n w) (B:(Builtin.firstCells i.size n v).run P w.drew=.ok cs w.drew) (l:(Builtin.firstCells i.size mq (.slice base mq qX)).run P w.drew=.ok iI w.drew)
 (A:¬mq+n<=qX) (E:mq+n<2^62) (F:¬Builtin.nextslicecap (mq+n) qX*i.bytes>2^48):
 ∃c,mq+n<=c/\(Builtin.append_ #[t,u] ty #[.slice base mq qX,v]).run P w=.ok (.slice (some ⟨w.heap.size,0,none⟩) (mq+n) c) (w.drew.alloc (.cells (iI++cs++Builtin.zeroCells k.cells (c- (mq+n))) e)):=by
 have s:(Go.sizeOf e).run P w=.ok i.size w:=by simp[Go.sizeOf,typeInfo,hi]
 have m:∀w,(typeInfo e).run P w=.ok i w:=λw=>by simp[typeInfo,hi]
 have g:¬(9223372036854775807<((mq:Int)+(n:Int))):=zo;have d:¬(281474976710656<Builtin.nextslicecap (mq+n) qX*i.bytes):=zo;have p:∀w,(zeroValue e).run P w=.ok k w:=λw=>DY hi C w;have q:∀b w,(askRoom b).run P w=.ok () w:=λb w=>by simp
 refine⟨grownCap w (mq+n) qX e,grownCap_ge w (mq+n) qX e,?_⟩;rcases D with⟨x,rfl⟩|rfl;simp[Builtin.append_,bZ y,bZ z,s,r,m,A,g,d,Question.forced,q,l,B,p,newRow,grownCap];simp[Builtin.append_,bZ y,bZ z,s,r,m,A,g,d,Question.forced,q,l,B,p,newRow,grownCap]
def Ck(w:World):sL w w.drew:=⟨rfl,rfl,rfl,rfl,axX _⟩
theorem Y9{s:Sem Value}{h0:Hp}{o':AO}{e g c rw:Nat}{A:Array Value}{cc:Nat->Option AV}{qv:Option Nat}(r:R φ h w)
 (t:s.run P w=.ok (.slice (some ⟨w.heap.size,0,none⟩) g c) (w.drew.alloc (.cells A e))) (M:A.size=c*rw) (p:g<=c)
 (D:∀i,qv=some i->AY (h.ab i)=true) (l:∀j,h0.ab j=if qv=some j then .c else h.ab j) (q:h0.a=h.a)
 (F:o'.wf) (m:o'.gl=true) (Q:o'.vx=false) (N:o'.io=g*rw) (O:o'.el=e) (I:∀(j:Nat)(x:AV),o'.ip j=some x->j<g*rw/\cc j=some x)
 (C:∀(j:Nat)(x:AV),j<g*rw->cc j=some x->∃v,A[j]? =some v/\aj φ x v) (B:∀v∈A.toList,v.oneCell'=true):
 k6 P φ h w s (alloc h0 o' λj=>.c j 0 rw g g false):=by
 have k:=h0.ui;rw[q,l] at k;split at k;cases k;rename_i L;have K:=r.lL (Ck w);have u:¬φ.f h.a:=λd=>by rw[(r.k _).1 d] at k;grind
 have le:φ.l (φ.iL h.a w.heap.size 0 (c*rw)):=aH.sf u;have S:kM (φ.iL h.a w.drew.heap.size 0 A.size) (w.drew.alloc (.cells A o'.el)) h.a o':=by refine JR (w:=w.drew) F m ⟨by simp_all[at4],λh=>by grind⟩ (λj x G=>?_) (YM B);obtain⟨hj,H⟩:=I j x G;obtain⟨v,E,hd⟩:=C j x hj H;exact⟨v,E,nS qae _ _ hd⟩
 have y:dH o'=true:=by cases o'<;>first|rfl|simp[AO.gl] at m
 obtain⟨J,st⟩:=MT (h':=h0.am o') (w':=w.drew.alloc (.cells A e)) (n:=h.a) (o':=o') (b:=w.heap.size) (s:=0) (z:=c*rw) (qv:=qv) K k y D
  (λj=>by grind[Hp.ma]) (.inl rfl) zm zm (λc p _=>by grind[MapKept.heap_alloc]) (λ_ _=>.inr rfl) qae rfl rfl rfl
 refine⟨_,_,_,t,J,(eS.lL (Ck w)).ba st,?_⟩;rw[q];exact JU zl p zm rfl
theorem No{rw:Nat}:∀{rs:List (List AV)}{n:Nat}{c:Nat->Option AV},aEQ rs rw n c->rs.flatten.length=n*rw/\∀j,j<n*rw->rs.flatten[j]? =c j
 |[],n,c,hr=>by have:=hr.a;grind
 |r::rs,n,c,hr=>by
  have b:=hr.a;simp at b;obtain⟨n',rfl⟩:∃n',n=n'+1:=⟨rs.length,b.symm⟩;have g:=hr.d r zm;have e:aEQ rs rw n' (λj=>c (rw+j)):=⟨by omega,λx p=>hr.d x qaa,λk j m hj=>by have:=hr.b (k+1) j zo hj;grind⟩
  obtain⟨i,l⟩:=No e;refine⟨by grind,λj hj=>?_⟩;by_cases d:j<rw;have:=hr.b 0 j zo d;grind;grind
theorem Za{rw n:Nat}{rs:List (List AV)}{c:Nat->Option AV}{vs:List Value}(hr:aEQ rs rw n c)(b:sS φ (n*rw) c vs):z7 φ rs.flatten vs:=by
 obtain⟨e,g⟩:=No hr;refine Gn (by rw[b.1,e]) λj x d=>?_;have hj:j<n*rw:=by grind
 rw[g j hj] at d;exact b.2.1 j x hj d
theorem SH{rw:Nat}:∀{rs:List (List AV)}{o o':AO}{off:Nat},o.wf->rs≠[]->(∀r∈rs,r.length=rw)->yW o off rw rs=some o'->RC o off rs.flatten o'
 |[],_,_,_,_,i,_,_=>absurd rfl i
 |[r],o,o',off,g,_,_,d=>by grind[yW,RD]
 |r::r2::rs,o,o',off,g,_,e,d=>by
  rw[yW] at d;split at d;rename_i p k;have c:=RD g k;have b:=SH (rs:=r2::rs) (o:=p) (o':=o') (off:=off+rw) c.k zm (λx u=>e x qaa) d;have q:r.length=rw:=e r zm;have l:r2.length=rw:=e r2 zm;rw[awu];generalize t:(r2::rs).flatten=m at b|-;have s:m.length>=rw:=by grind
  refine⟨b.k,b.b,b.a.trans c.a,b.i.trans c.i,b.h.trans c.h,λn=>?_,c.d,λj=>?_,b.f.trans c.f⟩;rw[auk] at n|-;have:=b.g zo;rw[c.a] at this;omega;rw[b.c,c.c,auk];by_cases c1:off+rw<=j/\j<off+rw+m.length;rw[if_pos c1,if_pos zo,auq zo];grind;rw[if_neg c1];by_cases c2:off<=j/\j<off+r.length;rw[if_pos c2,if_pos zo,aun zo];rw[if_neg c2,if_neg zo];cases d
def both(m:Nat)(c1 c2:Nat->Option AV)(j:Nat):Option AV:=if j<m then c1 j else c2 (j- m)
theorem Zb{iI rs:List (List AV)}{rw m n:Nat}{c1 c2:Nat->Option AV}(b:aEQ iI rw m c1)(c:aEQ rs rw n c2):aEQ (iI++rs) rw (m+n) (both (m*rw) c1 c2):=by refine⟨by rw[auk,b.a,c.a],λr hr=>?_,λk j g hj=>?_⟩;rcases auj.1 hr with hr|hr;exact b.d r hr;exact c.d r hr;unfold both;by_cases d:k<m;rw[if_pos (AW d hj),<-b.b k j d hj];simp;rw[aun (by rw[b.a];omega)];have e:m*rw<=k*rw:=at4 _ zo;rw[if_neg zo,show k*rw+j- m*rw=(k- m)*rw+j by grind[Nat.mul_sub_right_distrib],<-c.b (k- m) j zo hj];simp;rw[auq (by rw[b.a];omega),b.a]
theorem Np{el rw n:Nat}{rs:List (List AV)}{c:Nat->Option AV}(b:0<rw)(d:n<=1152921504606846976)(hr:aEQ rs rw n c)(j:Nat)(x:AV)(e:(jJ el rw n rs).ip j=some x):j<n*rw/\c j=some x:=by grind[Gs,jJ,AO.ip]
structure SJ(el:Nat)(o:AO)(off rw len n:Nat)(c:Nat->Option AV)(o':AO):Prop where
 m:o'.wf
 b:o'.gl=true
 d:o'.io=(len+n)*rw
 f:o'.el=el
 k:o.el=el
 l:o'.fz=0
 g:o.fz=0
 i:0<len*rw->off+len*rw<=o.io
 a:∀(j:Nat)(x:AV),o'.ip j=some x->j<(len+n)*rw/\both (len*rw) (λj=>o.ip (off+j)) c j=some x
 h:o'.vx=false
theorem ags{el:Nat}{o o':AO}{off rw len n:Nat}{rs:List (List AV)}{c:Nat->Option AV}(y:o.wf)(p:0<rw)(r:len+n<=1152921504606846976)(hr:aEQ rs rw n c)(d:BW el o off rw len n rs=some o'):SJ el o off rw len n c o':=by
 have s:∀iI,o.el=el->o.fz=0->kZ o off rw len=some iI->o'=jJ el rw (len+n) (iI++rs)->SJ el o off rw len n c o':=by rintro iI D E m rfl;obtain⟨F,r2⟩:=X1 y m;have z:=Zb F hr;exact⟨(Gs (el:=el) p r z).1,rfl,rfl,rfl,D,rfl,E,r2,λj x e=>Np p r z j x e,rfl⟩
 cases o with
 |a G l=>
  simp[BW] at d;split at d;rename_i iI m;obtain⟨g,C⟩:=qt d;rw[iH] at g;cases C;exact s iI g.symm rfl m rfl;grind
 |b G nN l5 fz t=>
  simp only[BW] at d;obtain⟨g,d⟩:=qt d;simp only[atW,iH] at g;obtain⟨rfl,rfl⟩:=g;cases q:(Nat.beq rw nN&&Nat.beq off 0&&Nat.ble len l5) with
  |false=>
   rw[q] at d;split at d;rename_i iI m;cases d;exact s iI rfl rfl m rfl;grind
  |true=>
   rw[q] at d;simp only[axT,atU] at d;subst d;simp only[atW,iH,je] at q;obtain⟨⟨rfl,rfl⟩,B⟩:=q;obtain⟨_,I,J⟩:=y;have H:=hr.a;have key:∀k,k<len+n->dY (jy t len rs) k=if k<len then dY t k else rs.getD (k- len) []:=λk i=>by grind[Jz]
   refine⟨⟨p,r,λk i=>?_⟩,rfl,rfl,rfl,rfl,rfl,rfl,λ_=>?_,λj x e=>?_,rfl⟩;have i:k<len+n:=i;rw[key k i];split;grind;rw[aub,atT zo,avo];exact hr.d _ (auy _);simp_all[AO.io,at4];simp only[AO.ip,uV] at e;split at e;rename_i hj;have i:j/rw<len+n:=auw qaa;have v:j% rw<rw:=avn _ p;refine⟨hj,?_⟩;rw[key _ i] at e;unfold both;split at e;rename_i A;have u:j<len*rw:=by have:=AW A v;rwa[aFP] at this
   rw[if_pos u];simp only[AO.ip,aue];rw[if_pos (aur u (at4 _ B))];omega;rename_i A;have:=hr.b (j/rw- len) (j% rw) zo v;rw[e] at this;rw[this];congr 1;rw[awT];have g:=at4 rw (show len<=j/rw by omega);grind[aFP];grind
 |_=>simp[BW] at d
def Zd{bytes b iI:Nat}(hr:room bytes b=true)(c:iI<b):b<=1152921504606846975/\¬Builtin.nextslicecap b iI*bytes>2^48:=by unfold room at hr;simp at hr;exact⟨by omega,axJ.2 (growslice_fits_wide c (at1 (at4 _ zo) hr.1))⟩
theorem Ze{z:Array Value}(c:∀v∈z.toList,v.oneCell'=true) (d:0<z.size) {n:Nat}:∀v∈(Builtin.zeroCells z n).toList,v.oneCell'=true:=by intro v b;simp[Builtin.zeroCells,awC,auR] at b;grind[Nat.mod_lt]
theorem Zf{m n rw:Nat}{c1 c2:Nat->Option AV}{A B Z:Array Value}(d:sS φ (m*rw) c1 A.toList)(g:sS φ (n*rw) c2 B.toList)(p:∀v∈Z.toList,v.oneCell'=true):
 (∀(j:Nat)(x:AV),j<(m+n)*rw->both (m*rw) c1 c2 j=some x->∃v,(A++B++Z)[j]? =some v/\aj φ x v)/\∀v∈(A++B++Z).toList,v.oneCell'=true:=by
 have l:A.size=m*rw:=by simpa using d.1
 have e:(m+n)*rw=m*rw+n*rw:=auC _ _ _;refine⟨λj x hj c=>?_,λv b=>?_⟩;unfold both at c;split at c;rename_i i;obtain⟨v,b,hd⟩:=d.2.1 j x i c;grind;rename_i k;obtain⟨v,b,hd⟩:=g.2.1 _ x zo c;grind;simp only[axv,auj] at b;rcases b with(b|b)|b;exact d.2.2 v b;exact g.2.2 v b;grind
theorem Zg{i:Nat}{off rw len cc:Nat}{b:Addr}{vs:List Value}(c:vs.length=len*rw)(e:∀(j:Nat)(v:Value),vs[j]? =some v->w.cell? ⟨φ.a i,φ.c i+off+j,none⟩=some v)
 (d:len*rw≠0->b=⟨φ.a i,φ.c i+off,none⟩):(Builtin.firstCells rw len (.slice (some b) len cc)).run P w=.ok vs.toArray w:=by
 grind[Builtin.firstCells,run_loadCells_list,xV]
theorem agt{t u ty e:TypeId}{l:TypeDesc}{i:TypeInfo}{z:List AV}(r:R φ h w)(E:P.underlying t=some (.slice e))(F:P.underlying u=some l)(J:(∃Q,l=.slice Q)\/l=.string)
 (hi:P.info? e=some i) (S:rO P e=some z) (K:0<i.size) (A1:z.length=i.size) {y:AV} {v:Value} (H:aj φ y v):k6 P φ h w (Builtin.append_ #[t,u] ty #[.slice none 0 0,v]) (kJ h e i.size i.bytes .h y):=by
 unfold kJ;split;rename_i rs n C D;obtain⟨cs,c,I,W,ra,cf⟩:=Nm (P:=P) r H C D;obtain⟨L,g,V,k,q,b⟩:=Nm (P:=P) (r.lL (Ck w)) H C D;cases n with
 |zero=>
  exact⟨.slice none 0 0,w,Nn (base:=none) (mq:=0) (qX:=0) (w':=w) E F J hi I W zl (λad h=>by grind) (λ_=>rfl),by rfl,.cg w⟩
 |succ n=>
  refine zH (λY=>?_) λ_=>jY;obtain⟨i',M,d,zI,hd⟩:=JV S;rw[hi] at d;cases d;obtain⟨qW,fX⟩:=Zd (iI:=0) Y zo;obtain⟨O,p,s⟩:=Y5 (w:=w) (base:=none) (mq:=0) (qX:=0) (iI:=#[]) E F J hi zI I k rfl zo zo qaa;rw[aue] at s p;have N:M.cells.size=i.size:=by have:=tP (hd φ).1;grind
  have X:L.size=(n+1)*i.size:=by simpa using b.1
  obtain⟨T,U⟩:=Zf (φ:=φ) (m:=0) (n:=n+1) (rw:=i.size) (c1:=λ_=>none) (c2:=g) (A:=#[]) (B:=L) (Z:=Builtin.zeroCells M.cells (O- (n+1))) ⟨by simp,λj x hj=>by omega,by simp⟩ b (Ze (hd φ).2 zo);have hb:∀j,both (0*i.size) (λ_=>none) g j=g j:=λj=>by simp_all[both]
  refine Y9 (o':=jJ e i.size (n+1) rs) (e:=e) (rw:=i.size) (cc:=g) (qv:=none) (h0:=h) r s ?_ p zm (λj=>by simp) rfl (Gs (el:=e) K zo q).1 rfl rfl rfl rfl (λj x G=>Np K zo q j x G) (λj x hj G=>T j x qaa qaa) U;simp only[awa,X,size_zeroCells,N];rw[show(#[]:Array Value).size=0 from rfl,aue,<-auC];grind
 exact jY
theorem Zh{o:AO}(h:o.gl=true):AY o=true:=by cases o<;>first|rfl|simp[AO.gl] at h
def Ns{o:AO}(h:o.gl=true):dH o=true:=by cases o<;>first|rfl|simp[AO.gl] at h
theorem Zi{rw:Nat}{rs:List (List AV)}{o o':AO}{off:Nat}(d:rs≠[])(b:yW o off rw rs=some o'):o.gl=true:=by
 cases rs with
 |nil=>grind
 |cons r rs=>
  simp[yW] at b;split at b;rename_i e c;cases o<;>first|rfl|simp[setCells] at c
  grind
def agu{el:Nat}{o o':AO}{off rw len n:Nat}{rs:List (List AV)}(b:BW el o off rw len n rs=some o'):o.gl=true:=by cases o<;>first|rfl|simp[BW] at b
theorem agv{el rw off len n c:Nat}{i:Nat}{o':AO}{_rs:List (List AV)}{cc:Nat->Option AV}{vs:List Value}{s:Sem Value}(r:R φ h w)(m:(h.ab i).gl=true)(E:0<rw)(g:SJ el (h.ab i) off rw len n cc o')
 (_hd:φ.f i) (p:sS φ (n*rw) cc vs) (D:len+n<=c) (cP:φ.c i+off+c*rw<=φ.g i)
 (I:∀w',(storeCells ⟨φ.a i,φ.c i+off+len*rw,none⟩ vs).run P w=.ok () w'->s.run P w=.ok (.slice (some ⟨φ.a i,φ.c i+off,none⟩) (len+n) c) w'):
 k6 P φ h w s (alloc (h.dT i .c) o' λj=>.c j 0 rw (len+n) (len+n) false):=by
 unfold alloc;have e:jN ((h.dT i .c).ab (h.dT i .c).a)=true:=(h.dT i .c).ui;have u:(h.dT i .c).a=h.a:=Hp.my (Hp.Or (uY (Ns m)));rw[u,Hp.lj] at e;split at e;cases e;rename_i lK;have J:¬φ.f h.a:=λd=>by rw[(r.k _).1 d] at e;grind
 have le:φ.l (φ.iL h.a (φ.a i) (φ.c i+off) (φ.g i)):=aH.sf J;have ok:=tW r m;obtain⟨y,K,F,b2,b3,b4,G,b6⟩:=ok.b;have V:=p.1;have e1:(len+n)*rw=len*rw+n*rw:=auC _ _ _;have e2:(len+n)*rw<=c*rw:=at4 _ D;obtain⟨X,g1,g2,A,L,B,g6,M,N⟩:=Sl vs (φ.c i+off+len*rw) w y F zo;have C:=run_storeCells_cells (P:=P) (φ.a i) (φ.c i+off+len*rw) vs 0 w (λj hj=>by
  have:φ.c i+off+len*rw+0+j<y.size:=zo;simp_all[World.cell?]) (λj hj=>by
  have T:=b6 (φ.c i+off+len*rw+0+j);rw[g.g] at T;grind[World.frozen?]) p.2.2
 rw[aud] at C;have zJ:kM (φ.iL h.a (φ.a i) (φ.c i+off) (φ.g i)) (w.setCells (φ.a i) (φ.c i+off+len*rw) vs) h.a o':=by
  have q1:(φ.iL h.a (φ.a i) (φ.c i+off) (φ.g i)).a h.a=φ.a i:=if_pos rfl;have q2:(φ.iL h.a (φ.a i) (φ.c i+off) (φ.g i)).c h.a=φ.c i+off:=if_pos rfl;have q3:(φ.iL h.a (φ.a i) (φ.c i+off) (φ.g i)).g h.a=φ.g i:=if_pos rfl;have key:qu (φ.iL h.a (φ.a i) (φ.c i+off) (φ.g i)) (w.setCells (φ.a i) (φ.c i+off+len*rw) vs) h.a o':=by refine⟨g.m,(λh=>by rw[g.h] at h;grind),(λh=>by rw[AO.ro,g.l] at h;cases h),X,K,by rw[q1,g.f,<-g.k];omega,by omega,by rw[q2,g.d,g2];omega,λj x W=>?_,λj v l=>?_,λj O Q S=>?_⟩;obtain⟨hj,t⟩:=g.a j x W;rw[q2,A];unfold both at t;split at t;rename_i ao;grind[nS];rename_i GV;obtain⟨v,l,Y⟩:=p.2.1 _ x zo t;exact⟨v,by grind,nS le _ _ Y⟩;rw[A] at l;split at l;exact p.2.2 v (aua l);exact G j v l;have:=b6 j O Q (by rw[<-g2];exact S);rw[g.g] at this;rw[q2];omega
  have:=g.b;cases o'<;>first|exact key|simp[AO.gl] at this
 obtain⟨Z,st⟩:=MT (h':=(h.dT i .c).am o') (w':=w.setCells (φ.a i) (φ.c i+off+len*rw) vs) (n:=h.a) (o':=o') (b:=φ.a i) (s:=φ.c i+off) (z:=φ.g i) (qv:=some i) r e (Ns g.b)
  (λk U=>by cases U;exact Zh m)
  (λj=>by rw[Hp.ma,u];split;rfl;show(h.dT i .c).ab j=_;rw[Hp.lj];by_cases hj:j=i;rw[if_pos hj,if_pos (by rw[hj])];rw[if_neg hj,if_neg (by simpa using Ne.symm hj)]) (.inr ⟨i,rfl,rfl⟩) (by rw[B];exact r.l i (Ns m)) (avp B.symm) (λc hc H=>L c H) (λaW aD=>.inl (by rw[g1];simp)) zJ g6 M N (avp (aIF ..).symm)
 refine⟨_,_,_,I _ C,Z,st,?_⟩;rw[u];have q:(φ.iL h.a (φ.a i) (φ.c i+off) (φ.g i)).f h.a:=.inl rfl;simp only[aj];exact⟨q,_,c,rfl,at2 _,D,by simp,λ_=>⟨by simp[aH.iL],by simp only[aH.iL,auo];omega⟩⟩
theorem agx{i:Nat}{off m:Nat}(r:R φ h w)(c:(h.ab i).gl=true)(t:0<m->off+m<=(h.ab i).io):
 ∃vs:List Value,sS φ m (λj=>(h.ab i).ip (off+j)) vs/\∀(j:Nat)(v:Value),vs[j]? =some v->w.cell? ⟨φ.a i,φ.c i+off+j,none⟩=some v:=by
 have ok:=tW r c;obtain⟨b,q,g,k,l,n,p,b6⟩:=ok.b;by_cases d:m=0;exact⟨[],⟨d.symm,λj x hj=>by omega,by simp⟩,by simp⟩;refine⟨(b.toList.drop (φ.c i+off)).take m,⟨by grind,λj x hj s=>?_,λv e=>?_⟩,λj v e=>?_⟩;grind;grind[List.getElem?_of_mem];grind[World.cell?]
theorem Zk{t u ty e:TypeId}{l:TypeDesc}{i:TypeInfo}{z:List AV}{h0:Hp}{o':AO}{qv:Option Nat}{b:Option Addr}{len cc n:Nat}{v:Value}{c1 c2:Nat->Option AV}(r:R φ h w)(H:P.underlying t=some (.slice e))(I:P.underlying u=some l)(Q:(∃D,l=.slice D)\/l=.string)
 (hi:P.info? e=some i) (L:rO P e=some z) (mO:0<i.size) (A1:z.length=i.size) (Y:¬len+n<=cc) (W:room i.bytes (len+n)=true)
 (G:∀k,qv=some k->AY (h.ab k)=true) (d:∀j,h0.ab j=if qv=some j then .c else h.ab j) (Z:h0.a=h.a)
 (J:o'.wf) (E:o'.gl=true) (X:o'.vx=false) (U:o'.io=(len+n)*i.size) (V:o'.el=e) (S:∀(j:Nat)(x:AV),o'.ip j=some x->j<(len+n)*i.size/\both (len*i.size) c1 c2 j=some x)
 (A:(Builtin.lenOf v).run P w=.ok n w) (g:∃cs:Array Value,(Builtin.firstCells i.size n v).run P w.drew=.ok cs w.drew/\sS φ (n*i.size) c2 cs.toList)
 (p:∃iI:Array Value,(Builtin.firstCells i.size len (.slice b len cc)).run P w.drew=.ok iI w.drew/\sS φ (len*i.size) c1 iI.toList):
 k6 P φ h w (Builtin.append_ #[t,u] ty #[.slice b len cc,v]) (alloc h0 o' λj=>.c j 0 i.size (len+n) (len+n) false):=by
 obtain⟨cs,O,m⟩:=g;obtain⟨iI,lo,co⟩:=p;obtain⟨i',zv,c,zI,hd⟩:=JV L;rw[hi] at c;cases c;obtain⟨qW,F⟩:=Zd (iI:=cc) W zo;obtain⟨C,s,B⟩:=Y5 (ty:=ty) (w:=w) (base:=b) (mq:=len) (qX:=cc) (iI:=iI) H I Q hi zI A O lo Y zo F;have y:zv.cells.size=i.size:=by have:=tP (hd φ).1;grind
 have T:cs.size=n*i.size:=by simpa using m.1
 have q:iI.size=len*i.size:=by simpa using co.1
 obtain⟨M,N⟩:=Zf (φ:=φ) co m (Ze (n:=C- (len+n)) (hd φ).2 zo);refine Y9 r B ?_ s G d Z J E X U V S (λj x hj K=>M j x hj K) N;simp[awa,T,q,size_zeroCells,y];rw[<-auC,<-auC];grind
theorem agy{t u ty e:TypeId}{L:TypeDesc}{i:TypeInfo}{z:List AV}(r:R φ h w)(C:P.underlying t=some (.slice e))(D:P.underlying u=some L)(F:(∃e',L=.slice e')\/L=.string)
 (hi:P.info? e=some i) (Z:rO P e=some z) (m:0<i.size) (O:z.length=i.size) {q:Nat} {off nN len cap:Nat} {ex:Bool} {y:AV} {x v:Value} (p:aj φ (.c q off nN len cap ex) x) (Y:aj φ y v):
 k6 P φ h w (Builtin.append_ #[t,u] ty #[x,v]) (kJ h e i.size i.bytes (.c q off nN len cap ex) y):=by
 have J:=p;obtain⟨hd,s,c,rfl,x1,x2,x3,N⟩:=p;unfold kJ;split;rename_i rs n S W;obtain⟨cs,c2,E,l2,l,B⟩:=Nm (P:=P) r Y S W;cases n with
 |zero=>
  have h0:=auv (by rw[B.1,awN]);exact⟨.slice (some s) len c,w,Nn (base:=some s) (mq:=len) (qX:=c) (w':=w) C D F hi E l2 zo (λb I=>by rw[h0];rfl) (λI=>by rfl),J,.cg w⟩
 |succ n=>
  simp;refine zH (λT=>?_) λ_=>jY;simp at T;obtain⟨rfl,tX⟩:=T;have A:rs≠[]:=by intro e;have:=l.a;grind
  have SG:len+(n+1)<=1152921504606846975:=by simp_all[room]
  refine zH (λgD=>?_) λsM=>?_;rw[je] at gD;split;rename_i o' X;have g:=Zi A X;have sp:=SH (tW r g).g A l.d X;obtain⟨r',st,cS⟩:=Sm (P:=P) r g sp (Za l B) B.2.2;refine⟨.slice (some s) (len+(n+1)) c,_,φ,Nn (base:=some s) (mq:=len) (qX:=c) C D F hi E l2 zo (λb I=>?_) (λI=>by grind),r',st,?_⟩;grind[xV];grind[aj];exact jY;have aoY:¬len+(n+1)<=cap:=λdA=>by grind[je]
  have H:∃cs:Array Value,(Builtin.firstCells i.size (n+1) v).run P w.drew=.ok cs w.drew/\aEQ rs i.size (n+1) c2/\sS φ ((n+1)*i.size) c2 cs.toList:=by obtain⟨G,c',_,K,Nr,d⟩:=Nm (P:=P) (r.lL (Ck w)) Y S W;obtain⟨f1,f2⟩:=No l;obtain⟨f1',f2'⟩:=No Nr;exact⟨G,K,l,d.1,λj x hj p=>d.2.1 j x hj qaa,d.2.2⟩
  obtain⟨G,s1,s2,s3⟩:=H;cases ex with
  |true=>
   split;rename_i o1 qy;split at qy;rename_i iI A3;cases qy;obtain⟨vs,M,v2,v3,v4⟩:=Nk (r.lL (Ck w)) A3;have Q:=Zb v2 l;have aoZ:=x3 rfl;refine Zk (qv:=none) (h0:=h) (c1:=λj=>(h.ab q).ip (off+j)) (c2:=c2) r C D F hi Z m O zo tX zm (λj=>by simp) rfl (Gs (el:=e) m zo Q).1 rfl rfl rfl rfl (λj x p=>Np m zo Q j x p) E ⟨G,s1,s3⟩ ⟨vs.toArray,?_,by omega⟩;refine Zg (φ:=φ) (i:=q) (off:=off) M.1 v4 λA=>(N ?_).1;grind;grind;exact jY
  |false=>
   split;rename_i o1 V;have g:=agu V;have gs:=ags (tW r g).g m zo l V;by_cases U:len+(n+1)<=c;obtain⟨e1,e2⟩:=N zo;refine agv (vs:=cs.toList) (_rs:=rs) r g m gs hd B U e2 λw' lJ=>?_;simp_all[Nn,xV];have kz:=agx (r.lL (Ck w)) g gs.i;obtain⟨vs,M,v4⟩:=kz;refine Zk (qv:=some q) (h0:=h.dT q .c) (c1:=λj=>(h.ab q).ip (off+j)) (c2:=c2) r C D F hi Z m O U tX (λk hk=>by grind[Zh]) (λj=>by grind[Hp.lj]) (Hp.my (Hp.Or (uY (Ns g)))) gs.m gs.b gs.h gs.d gs.f gs.a E ⟨G,s1,s3⟩ ⟨vs.toArray,?_,by omega⟩
   refine Zg (φ:=φ) (i:=q) (off:=off) M.1 v4 λA=>(N ?_).1;grind;exact jY
 exact jY
theorem Zm:∀{rs:List (List AV)}{l:List Nat},bytesRow rs=some l->rs=(l.map λb=>[.s b])/\∀b∈l,b<256
 |[],l,hh=>by simp[bytesRow,atU] at hh;grind
 |r::rs,l,hh=>by unfold bytesRow at hh;split at hh;grind;rename_i b k e;cases e;obtain⟨c,hh⟩:=qt hh;rw[je] at c;split at hh;rename_i j d;cases hh;obtain⟨g,i⟩:=Zm d;grind;grind;grind
theorem Zn{rw n k:Nat}{y:AV}{v:Value}{rs:List (List AV)}(r:R φ h w)(q:aj φ y v)(e:Mp h rw k y=some rs)(p:lenOf y=some n)(B:k<=n):
 ∃(cs:Array Value) (c:Nat->Option AV),(Builtin.lenOf v).run P w=.ok n w/\(Builtin.firstCells rw k v).run P w=.ok cs w/\aEQ rs rw k c/\sS φ (k*rw) c cs.toList:=by
 cases y<;>simp only[Mp,reduceCtorEq] at e<;>simp only[lenOf,atU] at p<;>simp only[aj] at q
 case h=>
  subst q;subst p;have:k=0:=zo;subst this;cases e;exact⟨#[],λ_=>none,rfl,rfl,⟨rfl,by simp,λk j B=>absurd B (avm _)⟩,⟨by simp,λj x _ u=>zo,by simp⟩⟩
 case c i off nN len cap ex=>
  subst p;obtain⟨d,K,cc,rfl,g1,g2,M,N⟩:=q;obtain⟨vs,g,F,_,Q⟩:=Nk r e;refine⟨vs.toArray,_,rfl,?_,F,by omega⟩;by_cases h0:k*rw=0;have:vs=[]:=auv (by rw[g.1,h0]);simp_all[Builtin.firstCells,loadCells,loadCellsFrom];have G:=run_loadCells_list (P:=P) w ⟨φ.a i,φ.c i+off,none⟩ vs (λj v t=>by grind[xV]);rw[g.1] at G;grind[Builtin.firstCells]
 case y l m=>
  subst p;obtain⟨s,rfl,C⟩:=q;obtain⟨A,e⟩:=qt e;rw[iH] at A;subst A;cases e;have z:=C.qx;have O:(s.extract 0 k).data=s.data.extract 0 k:=by simp
  have H:s.data.size=l:=z;refine⟨(s.extract 0 k).data.map λb=>.int .u8 b.toNat,_,by simp[Builtin.lenOf,z],rfl,Nl,?_⟩;refine⟨by grind,λj x hj u=>?_,λv t=>?_⟩;rw[axu] at hj;simp[if_pos hj] at u;cases u;obtain⟨b,I,L⟩:=C.ab (show j<l by omega);have S:s.data[j]? =some b:=by obtain⟨D,E⟩:=awd.1 I;exact auc.2 ⟨D,E⟩
  have J:(s.data.extract 0 k)[j]? =some b:=by grind
  simp_all[aj];simp only[awC,auR] at t;obtain⟨b,_,rfl⟩:=t;rfl
theorem agA{t u ty e:TypeId}{rw:Nat}(r:R φ h w)(F:P.underlying t=some (.slice e))(N:fI P e=some rw)(J:0<rw){x y:AV}{d v:Value}(q:aj φ x d)(b:aj φ y v):
 k6 P φ h w (Builtin.copy_ #[t,u] ty #[d,v]) (FV h rw x y):=by
 have B:=vb N;unfold FV;split
 ·rename_i n m p g;cases x<;>simp only[lenOf,atU,reduceCtorEq] at p<;>simp only[aj] at q
  case h=>
   subst p;subst q;have L:(Builtin.lenOf v).run P w=.ok m w:=by cases y<;>simp only[lenOf,atU,reduceCtorEq] at g<;>simp only[aj] at b;obtain⟨s,rfl,E⟩:=b;rw[<-g,<-E.qx];rfl;obtain⟨_,_,_,rfl,_⟩:=b;rw[<-g];rfl;subst b;rw[<-g];rfl
   have z:∃cs,(Builtin.firstCells rw 0 v).run P w=.ok cs w:=by cases y<;>simp only[lenOf,atU,reduceCtorEq] at g<;>simp only[aj] at b;obtain⟨s,rfl,E⟩:=b;exact⟨_,rfl⟩;obtain⟨_,I,_,rfl,_⟩:=b;simp_all[Builtin.firstCells,loadCells,loadCellsFrom];subst b;exact⟨_,rfl⟩
   obtain⟨cs,z⟩:=z;have K:Nat.min m 0=0:=Nat.min_zero m;refine⟨.int .i64 0,w,?_,by rfl,.cg w⟩;simp[Builtin.copy_,bZ F,B,L,z,goInt]
  case y=>exact jY
  case c i off nN len cap ex=>
   subst p;obtain⟨hd,I,c,rfl,x1,x2,x3,T⟩:=q;simp;split;rename_i l;obtain⟨cs,cc,G,H,j,k⟩:=Zn (P:=P) r b l g (Nat.min_le_left m len);have h0:Nat.min m len=0:=by have:=j.a;grind
   have O:=auv (by rw[k.1,h0,awN]);refine⟨.int .i64 (Nat.min m len),w,?_,by rfl,.cg w⟩;simp[Builtin.copy_,bZ F,B,G,H,goInt,O,storeCells];rename_i rs U l;obtain⟨cs,cc,G,H,j,k⟩:=Zn (P:=P) r b l g (Nat.min_le_left m len);split;rename_i o' D;have A:rs≠[]:=zo;have C:=Zi A D;have S:=SH (tW r C).g A j.d D;obtain⟨Q,st,M⟩:=Sm (P:=P) r C S (Za j k) k.2.2;have Z:0<Nat.min m len:=by have:=j.a;grind
   have V:Nat.min m len<=len:=Nat.min_le_right m len;obtain⟨W,X⟩:=T zo;have Y:=(M (φ.c i+off)).resolve_right zo;refine⟨.int .i64 (Nat.min m len),_,φ,?_,Q,st,by rfl⟩;simp_all[Builtin.copy_,bZ,goInt];exact jY;exact jY
 exact jY
theorem agB{l:List Nat}{vs:List Value}{n:Nat}{c:Nat->Option AV}(d:aEQ (l.map λb=>[.s b]) 1 n c) (e:sS φ (n*1) c vs):l.length=n/\vs=l.map λb=>.int .u8 (Int.ofNat b):=by
 have g:l.length=n:=by simpa using d.a
 refine⟨g,avs λj=>?_⟩;by_cases hj:j<n;have i:=d.b j 0 hj zo;obtain⟨v,k,hd⟩:=e.2.1 j (.s l[j]) zo qaa;grind[aj];rw[auI (by have:=e.1;omega),auI qaa]
def Zo:∀(l:List Nat)(s:ByteArray),((l.map Int.ofNat).foldl (λr n=>r.push (UInt8.ofNat n.toNat)) s).data.toList=s.data.toList++l.map UInt8.ofNat
 |[],s=>by simp
 |b::l,s=>by simp;rw[Zo l];simp
theorem agC{l:List Nat}(d:∀b∈l,b<256):kR l.length (cO l) ((l.map Int.ofNat).foldl (λr n=>r.push (UInt8.ofNat n.toNat)) ByteArray.empty):=by
 refine MW _ l ?_;rw[Zo];simp[ByteArray.empty,ByteArray.emptyWithCapacity,au4,av4];have:l.map (UInt8.toNat∘UInt8.ofNat)=l:=by
  conv=>rhs;rw[<-axU l]
  exact avB λb c=>by simp_all
 simp[this];rfl
end
abbrev FW(ro:Option Nat):Fence:={fn:=λ_=>True,depth:=none,alive:=false,round:=ro}
section
variable {ro:Option Nat}{n:Nat}
def J5(m:Machine):m.fenced P (FW ro):=fenced_wide P m
theorem agD{k:Nat}:(FW ro).room k:=λ_ h=>by grind
def Nu{m b:Machine}:StepsIn (Machine.fenced P (FW ro)) P m b <-> Steps P m b:=stepsIn_wide
def SO{f:FuncId}{args:Array Value}{w:World}{R:Ending->World->Prop}:CallsIn (FW ro) n P f args w R <-> Calls P f args w R:=callsIn_wide (n:=n)
def agE{row:String}{args:Array Value}{w:World}{R:Value->World->Prop}(h:Rows P row args w R):RowsIn (FW ro) n P row args w R:=
 λc cs _=>let⟨v,w',r,s⟩:=h c cs;⟨v,w',r,Nu.2 s⟩
theorem agF{o:Oper}{a:Act}{w:World}{K:Act->World->Prop}{Q:Exit->Act->World->Prop}(b:ro=none\/∀c,o.op≠.defer c) (h:o.wp P a w K Q):o.wpIn (FW ro) 0 P a w K Q:=by
 refine⟨λ_ _=>trivial,?_⟩;have d:o.semAt ro a.eval=execOp a.eval o:=by rcases b with rfl|b;rfl;grind[Oper.semAt_eq]
 rw[d];unfold Oper.wp at h;generalize(execOp a.eval o).run P w=r at*;cases r with
 |ok x w'=>
  cases x<;>simp only[Oper.upon] at h<;>first|exact h|exact h.elim|skip
  refine⟨λc=>qaa,SO.2 (h.mono λe f g=>?_)⟩;omega;exact⟨λc=>qaa,agE h⟩
 |halt x w'=>cases x<;>simp only[Oper.upon] at h<;>first|exact h|exact h.elim
theorem agG{aF:Array Oper}{Q:Exit->Act->World->Prop}{i:Nat}{K K':Act->World->Prop}{a:Act}{w:World}(d:ro=none\/∀(i:Nat)(o:Oper),aF[i]? =some o->∀c,o.op≠.defer c) (j:¬LetsOut Q)
 (e:∀a w,K a w->K' a w) (h:wpOp P aF Q i K a w):wpOpIn (FW ro) 0 P aF Q i K' a w:=by
 unfold wpOp at h;unfold wpOpIn;cases b:aF[i]? with
 |none=>grind
 |some o=>
  rw[b] at h;simp only at h|-;split at h;rename_i f;rw[if_pos f];rcases h with h|h;exact Oper.wpIn_mono e (agF (d.imp id λg=>g i o b) h);grind;grind
def Zp{md:Region.Mode}{aF:Array Oper}{Q:Exit->Act->World->Prop}(d:ro=none\/∀(i:Nat)(o:Oper),aF[i]? =some o->∀c,o.op≠.defer c) (e:¬LetsOut Q):
 ∀(b:Nat)(listed:Array Bool)(a:Act)(w:World),wpAny P md aF Q b listed a w->wpAnyIn (FW ro) 0 P md aF Q b listed a w
 |0,_,_,_,h=>h
 |b+1,_,_,_,h=>⟨h.1,λi hi=>agG d e (λa' w' h'=>Zp d e b _ a' w' h') (h.2 i hi)⟩
def JQ(P:Program)(ro:Option Nat)(c:Code)(Q:Exit->Act->World->Prop):Nat->Exit->Act->World->Prop
 |0,e,a,w=>(match e with|.goto _=>False|e=>Q e a w)
 |n+1,e,a,w=>(match e with
  |.goto l=>(match findLabel c l with|some r=>r.wpIn (FW ro) 0 P (JQ P ro c Q n) a w|none=>Q (.goto l) a w)
  |e=>Q e a w)
def agH{c:Code}{Q:Exit->Act->World->Prop}{n:Nat}{a:Act}{w:World}(h:c.wpIn (FW ro) 0 P (JQ P ro c Q n) a w):(Code.scope c).wpIn (FW ro) 0 P Q a w:=by
 intro b k cs v t hr;have D:Go.step P (lone (b.atR a (.code (.scope c)::k)) cs w)=.next (lone (b.atR a (.code c::.inScope c::k)) cs w):=step_lone_go qab;have u:∀(a:Act)(w:World),Go.step P (lone (b.atR a (.inScope c::k)) cs w)=.next (lone (b.atR a k) cs w):=λa w=>step_lone_go qab;have key:∀(n:Nat)(q:Code)(a:Act)(w:World),q.wpIn (FW ro) 0 P (JQ P ro c Q n) a w->
  ∃e a' w',Q e a' w'/\ArrivesIn (Machine.fenced P (FW ro)) P (lone (b.atR a (.code q::.inScope c::k)) cs w) b k cs e a' w':=by
  intro n;induction n with
  |zero=>
   intro q a w h;obtain⟨e,g,i,d,f⟩:=h b (.inScope c::k) cs v t hr;cases e with
   |normal=>exact⟨.normal,g,i,d,StepsIn.trans f (.one (J5 _) (u _ _))⟩
   |exit id=>exact⟨.exit id,g,i,d,λo j=>f.1 o qas,λp j=>f.2 p qas⟩
   |goto l=>exact d.elim
   |ret=>exact⟨_,g,i,d,f⟩
   |panic B=>exact⟨_,g,i,d,f⟩
   |outgrown=>exact⟨_,g,i,d,f⟩
  |succ n C=>
   intro q a w h;obtain⟨e,g,i,d,f⟩:=h b (.inScope c::k) cs v t hr;cases e with
   |normal=>exact⟨.normal,g,i,d,StepsIn.trans f (.one (J5 _) (u _ _))⟩
   |exit id=>exact⟨.exit id,g,i,d,λo j=>f.1 o qas,λp j=>f.2 p qas⟩
   |goto l=>
    simp[JQ] at d;cases m:findLabel c l with
    |some r=>
     rw[m] at d;obtain⟨x,s,y,z,A⟩:=C r g i d;exact⟨x,s,y,z,.of_steps (f.1 _ (by simp[gotoIn,m])) A⟩
    |none=>
     rw[m] at d;exact⟨.goto l,g,i,d,λo j=>f.1 o (by simp[gotoIn,m,j]),λp j=>f.2 p (by simp[gotoIn,m,j])⟩
   |ret=>exact⟨_,g,i,d,f⟩
   |panic B=>exact⟨_,g,i,d,f⟩
   |outgrown=>exact⟨_,g,i,d,f⟩
 obtain⟨e,g,i,d,f⟩:=key n c a w h;exact⟨e,g,i,d,.of_steps (.one (J5 _) D) f⟩
theorem agI{f:FuncId}{fn:Func}{c:Code}{args:Array Value}{u:FrameMode}{w:World}{R:Ending->FrameMode->World->Prop}
 (m:P.funcs[f]? =some fn) (q:fn.body=some c)
 (h:∀(nZ:Frame)(cs:List Frame),nZ.mode=u->c.wpS P (bodyPostS P fn nZ cs R) {tmps:=args++Array.replicate (fn.ntmps- args.size) Go.undef,defers:=[]} (nZ::cs) w):
 CallsDIn (FW none) n P f args u w R:=by
 refine⟨auW,λnZ cs p _=>?_⟩
 let b:Frame:={(default:Frame) with fn:=f,kind:=.deferred}
 have k:Frame.enter P f args .deferred=b.at {tmps:=args++Array.replicate (fn.ntmps- args.size) Go.undef,defers:=[]} [.code c]:=by grind[Frame.enter,Frame.at]
 obtain⟨e,a',r,w',i,j⟩:=h nZ cs p b [] rfl rfl;rw[<-k] at j;cases e with
 |normal=>
  obtain⟨hd,g,rfl,v,hr,d⟩:=i;exact⟨.returned v,g,w',_,d,Nu.2 (Steps.trans j (.one step_end)),rfl,rfl,rfl,hd,fn,m,hr⟩
 |ret=>
  obtain⟨hd,g,rfl,v,hr,d⟩:=i;obtain⟨todo,o⟩:=j;exact⟨.returned v,g,w',_,d,Nu.2 o,rfl,rfl,rfl,hd,fn,m,hr⟩
 |panic chain=>
  obtain⟨hd,g,rfl,d⟩:=i;obtain⟨todo,o⟩:=j;exact⟨.panicked chain,g,w',_,d,Nu.2 o,rfl,rfl,rfl,hd,fn,m⟩
 |exit id=>exact i.elim
 |goto l=>exact i.elim
 |outgrown=>
  obtain⟨g,d⟩:=i;exact⟨.outgrown,g,w',b,d,j.resolve_left qaa,rfl,rfl,auW⟩
def GW(ro:Option Nat)(P:Program)(c:Code)(Q:Exit->Act->World->Prop)(a:Act)(w:World):Prop:=
 ∀(b:Frame)(k:List Item)(cs:List Frame),b.roundOf=ro->∃e a' w',Q e a' w'/\ArrivesIn (Machine.fenced P (FW ro)) P (lone (b.atR a (.code c::.inLoop c::k)) cs w) b k cs e a' w'
variable {c:Code}{Q:Exit->Act->World->Prop}{a:Act}
def agK(d:GW ro P c Q a w):(Code.loop c).wpIn (FW ro) 0 P Q a w:=
 λb k cs f _ _=>let⟨e,a',w',q,r⟩:=d b k cs f;⟨e,a',w',q,.of_steps (.one (J5 _) stepR_loop) r⟩
def agL(r:c.wpIn (FW ro) 0 P (Exit.then (GW ro P c Q) Q) a w):GW ro P c Q a w:=by
 intro b k cs j;obtain⟨e,g,h,d,f⟩:=r b (.inLoop c::k) cs j trivial agD;cases e with
 |normal=>
  obtain⟨m,i,o,p,q⟩:=d b k cs j;exact⟨m,i,o,p,.of_steps (StepsIn.trans f (.one (J5 _) stepR_inLoop)) q⟩
 |exit id=>exact⟨_,g,h,d,.pass (x:=.inLoop c) rfl (λ_ _=>.inl zm) f⟩
 |goto l=>exact⟨_,g,h,d,.pass (x:=.inLoop c) rfl (λ_ _=>.inl zm) f⟩
 |ret=>exact⟨_,g,h,d,.pass (x:=.inLoop c) rfl (λ_ _=>.inl zm) f⟩
 |panic s=>exact⟨_,g,h,d,.pass (x:=.inLoop c) rfl (λ_ _=>.inl zm) f⟩
 |outgrown=>exact⟨_,g,h,d,.pass (x:=.inLoop c) rfl (λ_ _=>.inl zm) f⟩
end
structure kB where
 φ:aH
 h:Hp
 w:World
def JG.bc{φ ψ:aH}(le:φ.l ψ){d:Df}{e:Deferred}(h:JG φ d e):JG ψ d e:=by
 cases d with
 |a g l=>
  obtain⟨cap,args,cs,c,i,j,k⟩:=h;exact⟨cap,args,cs,c,i,Gm le _ _ j,k⟩
def Cm(φ:aH):List Df->List Deferred->Prop
 |[],[]=>True
 |d::ds,e::c=>JG φ d e/\Cm φ ds c
 |_,_=>False
def Cm.bc{φ ψ:aH}(le:φ.l ψ):∀{ds:List Df}{c:List Deferred},Cm φ ds c->Cm ψ ds c
 |[],[],h=>h
 |_::_,_::_,h=>⟨h.1.bc le,h.2.bc le⟩
 |[],_::_,h=>h.elim
 |_::_,[],h=>h.elim
structure St(P:Program)(b:kB)(nt:Nat)(φ:aH)(f:Fr)(h:Hp)(ds:List Df)(a:Act)(w:World):Prop where
 r:R φ h w
 c:eS b.φ b.h b.w φ w h
 i:iq φ f a.tmps
 j:Cm φ ds a.defers
 k:nt<=a.tmps.size
 g:jq φ P
def Nv(P:Program)(b:kB)(nt:Nat):aT->Exit->Act->World->Prop
 |.c f h ds,e,a,w=>e=.normal/\∃φ,St P b nt φ f h ds a w
 |.a id f h ds,e,a,w=>e=.exit id/\∃φ,St P b nt φ f h ds a w
 |.g id f h ds,e,a,w=>e=.goto id/\∃φ,St P b nt φ f h ds a w
 |.b f h ds,e,a,w=>e=.ret/\∃φ,St P b nt φ f h ds a w
 |.d v f h ds,e,a,w=>∃c φ,e=.panic [{v:=c,recovered:=false}]/\aj φ v c/\St P b nt φ f h ds a w
def Nw(b:kB):aK->Ending->World->Prop
 |.a v h,e,w=>∃φ u,e=.returned u/\aj φ v u/\R φ h w/\eS b.φ b.h b.w φ w h
 |.b v h,e,w=>∃φ u,e=.panicked [{v:=u,recovered:=false}]/\aj φ v u/\R φ h w/\eS b.φ b.h b.w φ w h
def Enters(P:Program)(g:Nat):Prop:=∀(vs:Array Value)(w:World),(callFunc g vs).run P w=.ok (.enter g vs) w
def zN(P:Program)(c:mj):Prop:=
 ∀(fn:aM)(args:List AV)(h:Hp)(k:aK->Prop)(o:aK)(φ:aH)(w:World)(vs:Array Value),Dn (c fn args h k) o->R φ h w->jq φ P->
  z7 φ args vs.toList->Enters P fn.n/\Calls P fn.n vs w λe w'=>∃co,Dn (k co) o/\Nw ⟨φ,h,w⟩ co e w'
def mS(P:Program):Prop:=
 ∀(φ:aH)(h:Hp)(w:World)(f:Fr)(a:Act)(o:Oper),R φ h w->jq φ P->iq φ f a.tmps->Good P φ h w f a o (eX P o.op)
section
variable {b:kB}{nt:Nat}{ψ:aH}{ds:List Df}{a:Act}
theorem St.iL(s:St P b nt φ f h ds a w){w':World}{h':Hp}(n:R ψ h' w')(e:eS φ h w ψ w' h'){d:Option Nat}(hd:∀t,d=some t->t<nt/\t<512) {x:AV} {v:Value} (m:aj ψ x v):
 St P b nt ψ (Yv.put (d.map gz) x f) h' ds (a.put d v) w' where
 r:=n
 c:=s.c.ba e
 i:=(s.i.bc e.n).iL (λt l=>⟨aur (hd t l).1 s.k,(hd t l).2⟩) m
 j:=by rw[MZ];exact s.j.bc e.n
 k:=by rw[MY];exact s.k
 g:=s.g.bc e.n
def St.lL(s:St P b nt φ f h ds a w){w':World}(d:sL w w'):St P b nt φ f h ds a w':=
 ⟨s.r.lL d,s.c.ba (eS.lL d),s.i,s.j,s.k,s.g⟩
def St.qr(s:St P b nt φ f h ds a w){w':World}(e:sL w w'){d:Option Nat}(hd:∀t,d=some t->t<nt/\t<512) {x:AV} {v:Value} (g:aj φ x v):
 St P b nt φ (Yv.put (d.map gz) x f) h ds (a.put d v) w':=s.iL (s.r.lL e) (eS.lL e) hd g
theorem wJ{aF:Array Oper}{o:Oper}{c:CI}(e:kq P nt aF o=some c):
 (∀t,o.dst=some t->t<nt/\t<512)/\c.c=o.dst.map gz/\c.b=eX P o.op/\
  ((o.guard=none/\c.a=none)\/∃j bb d,o.guard=some (j,bb)/\(aF[j]?).bind (·.dst)=some d/\d<nt/\d<512/\c.a=some (gz d,bb)):=by
 grind[kq]
theorem Zq(s:St P b nt φ f h ds a w){aF:Array Oper}{o:Oper}{c:CI}(i:kq P nt aF o=some c){t:Bool}(l:jO c.a f=some t):
 Region.wanted o (yielded aF a.tmps)=t:=by
 obtain⟨_,_,_,⟨k,e⟩|⟨j,bb,d,k,hj,m,n,e⟩⟩:=wJ i;grind[jO,Region.wanted];simp[jO] at l;have q:=s.i.Hn d n;have p:=aur m s.k;have g:a.tmps[d]? =some (a.tmps.getD d Go.undef):=by simp_all
 grind[Region.wanted,yielded,aj]
theorem agM{H:mj}{ro:Option Nat}(C:zN P H)(O:mS P){aF:Array Oper}{o:Oper}{c:CI}(W:kq P nt aF o=some c){kp:aT->Prop}{k:AR}{oo:aK}
 (s:St P b nt φ f h ds a w) (I:ro=none\/∀c,o.op≠.defer c) (hd:Dn (sG H kp ds c.c f h (aQ c.b f h) k) oo)
 {K:Act->World->Prop} (B:∀ψ f' h' L a' w',St P b nt ψ f' h' L a' w'->Dn (k L f' h') oo->K a' w'):
 o.wpIn (FW ro) 0 P a w K (λe a' w'=>∃out,Dn (kp out) oo/\Nv P b nt out e a' w'):=by
 obtain⟨E,A,R,_⟩:=wJ W;have p:=O φ h w f a o s.r s.g s.i;rw[<-R] at p;unfold Good at p;refine⟨λ_ _=>trivial,?_⟩;have F:o.semAt ro a.eval=execOp a.eval o:=by rcases I with rfl|I;rfl;grind[Oper.semAt_eq]
 rw[F];generalize vl:(execOp a.eval o).run P w=jk at p|-;cases r:aQ c.b f h with
 |v x=>
  rw[r] at hd p;obtain⟨n,v,w',rfl,D,q,z⟩:=p;rw[A] at hd;have J:=B _ _ _ _ _ _ (s.qr z E q) hd;rcases D with rfl|⟨rfl,rfl⟩;grind[Oper.uponIn_value];grind[Oper.uponIn_skip]
 |b x h'=>
  rw[r] at hd p;obtain⟨n,v,w',ψ,rfl,D,y,m,q⟩:=p;rw[A] at hd;have J:=B _ _ _ _ _ _ (s.iL y m E q) hd;rcases D with rfl|⟨rfl,rfl⟩;grind[Oper.uponIn_value];grind[Oper.uponIn_skip]
 |g l=>
  rw[r] at hd p;obtain⟨n,v,w',ψ,h',Y,rfl,D,y,m,q⟩:=p;rw[A] at hd;have U:=afj hd h' Y;have J:=B _ _ _ _ _ _ (s.iL y m E q) U;rcases D with rfl|⟨rfl,rfl⟩;grind[Oper.uponIn_value];grind[Oper.uponIn_skip]
 |c g args=>
  rw[r] at hd p;obtain⟨vs,w',rfl,z,N⟩:=p;rw[A] at hd;have s':=s.lL z;obtain⟨Q,S⟩:=C g args h _ oo φ w' vs hd s'.r s'.g N;rw[Q vs w',Oper.uponIn_enter];refine⟨λc=>qaa,SO.2 (S.mono λe SP X=>?_)⟩;obtain⟨co,M,G⟩:=X;cases co with
  |a v h'=>
   obtain⟨ψ,u,rfl,q,y,m⟩:=G;exact B _ _ _ _ _ _ (s'.iL y m E q) M
  |b v h'=>
   obtain⟨ψ,u,rfl,q,y,m⟩:=G;exact⟨.d v f h' ds,M,u,ψ,rfl,q,⟨y,s'.c.ba m,s'.i.bc m.n,s'.j.bc m.n,s'.k,s'.g.bc m.n⟩⟩
 |j d=>
  rw[r] at hd p;obtain⟨V,w',rfl,z,T⟩:=p;rw[A] at hd;have s':=s.lL z;have Z:St P b nt φ f h (d::ds) {a with defers:=V::a.defers} w':=⟨s'.r,s'.c,s'.i,⟨T,s'.j⟩,s'.k,s'.g⟩;exact B _ _ _ _ _ _ (Z.qr (.cg w') E DX) hd
 |i x=>
  rw[r] at hd p;obtain⟨v,w',rfl,z,q⟩:=p;exact⟨.d x f h ds,hd,v,φ,rfl,q,s.lL z⟩
 |a t=>
  rw[r] at hd;exact hd.lh.elim
theorem aII{p:mj}{ro:Option Nat}(C:zN P p)(O:mS P){aF:Array Oper}(d:ro=none\/∀(i:Nat)(o:Oper),aF[i]? =some o->∀c,o.op≠.defer c) {kp:aT->Prop} {oo:aK}:
 ∀(l:List CI)(k:Nat){φ:aH}{f:Fr}{h:Hp}{ds:List Df}{a:Act}{w:World},(∀(j:Nat)(c:CI),l[j]? =some c->∃o,aF[k+j]? =some o/\kq P nt aF o=some c)->
  St P b nt φ f h ds a w->Dn (qQ p kp l ds f h) oo->
  wpOpsIn (FW ro) 0 P aF (λe a' w'=>∃out,Dn (kp out) oo/\Nv P b nt out e a' w') (List.range' k l.length) a w
 |[],k,_,f,h,ds,a,w,_,s,hd=>⟨.c f h ds,hd,rfl,_,s⟩
 |c::l,k,φ,f,h,ds,a,w,u,s,hd=>by
  obtain⟨o,z,m⟩:=u 0 c rfl;have q:aF[k]? =some o:=z;rw[atX,awD];simp only[wpOpsIn,q];simp[qQ] at hd;have r:∀(j:Nat)(c:CI),l[j]? =some c->∃o,aF[k+1+j]? =some o/\kq P nt aF o=some c:=λj x hj=>by obtain⟨o',D,E⟩:=u (j+1) x qaa;grind
  cases n:jO c.a f with
  |none=>rw[n] at hd;exact hd.lh.elim
  |some t=>
   rw[n] at hd;have B:=Zq s m n;cases t with
   |true=>
    rw[if_pos B];exact agM C O m s (d.imp id λg=>g k o q) hd λψ f' h' F a' w' s' v=>aII C O d l (k+1) r s' v
   |false=>
    rw[if_neg qaa];obtain⟨A,y,_,_⟩:=wJ m;rw[y] at hd;exact⟨λ_ _=>trivial,aII C O d l (k+1) r (s.qr (.cg w) A DX) hd⟩
theorem Ny{aF:Array Oper}{l:List CI}(e:iJ (kq P nt aF) aF.toList=some l):l.length=aF.size/\∀(j:Nat)(c:CI),l[j]? =some c->∃o,aF[0+j]? =some o/\kq P nt aF o=some c:=by
 obtain⟨g,d⟩:=RN e;refine⟨by omega,λj c hj=>?_⟩;have m:j<aF.size:=by grind
 obtain⟨y,k,i⟩:=d j aF[j] qaa;grind
end
end Yv
