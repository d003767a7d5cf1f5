/- A part of the proof of 'ScopeAlphaUptoCardSaid': an evaluator of open calls, its soundness, and what the functions come to. There is no further condition. -/
import Derived.Test.YtjjppojiafpfcaaGreatDoorX08
import Derived.Test.YtjjppojiafpfcaaGreatDoorRows
import Derived.ProofKit
import Derived.Shelf.Vars
import Derived.LaidMore
import Derived.Carry
import Derived.Test.YtjjppojiafpfcaaGreatDoorCards
import Derived.Test.YtjjppojiafpfcaaGreatDoorTie
import Derived.Deep.DeepHandedRow
import Derived.Lib.LaidTab
import Derived.Lay
set_option maxHeartbeats 64000000
set_option maxRecDepth 100000
set_option linter.all false
namespace Yv
variable {B:Nat->Nat}{D:aC}{O:Orc}{P:Go.Program}{ds:List Doc}{f h':Hp}{fE nE:List UInt8->Int}{new s:List UInt8}{p:Int}{pb ub:Nat}{rs:List (PR Tree)}{v:AV}{w:Go.World}
variable {T:aM->Option CF}
section
open Classical
variable {w:l6}{fs:List Tree}{aq:List (List UInt8)}(H:Wsp w fs aq)
def aLM{E:fM}{u:dx}{x:Tree}{ms:List KM}{aN:Bool}{ar:KM}(a:∀s,u∈(fU E ms aN ar x s).a.b):∀{ts:List Tree}{s:WS},x∈ts->u∈(jF E ms aN ar ts s).a.b
 |t::ts,s,h=>by rw[aGu];rcases atZ.1 h with rfl|h;exact(aFU (E:=E) ts ms aN ar _).f.f _ (a s);exact aLM a h
def aOR{E:fM}{k f t a:Int}{nm:List UInt8}{ks:List Tree}{ms:List KM}{aN:Bool}{ar:KM}{u:dx}(i:k=5)(h:ks.length=4)(d:∀s,u∈(fU E [] false aX (ks.headD zT) ⟨aX,aX,s⟩).a.b) (s:WS):u∈(fU E ms aN ar (.mk k f t a nm ks) s).a.b:=by
 subst i
 match ks,h,d with
 |[b,.mk q r v x y ps,j,.mk l m n o p e],_,d=>
  have g:=(aGV (E:=E) (s:=⟨aX,aX,(fU E [] false aX b ⟨aX,aX,s.a⟩).a⟩) b).f;have a3:=(aGW (E:=E) ps (tj E b ⟨aX,aX,(fU E [] false aX b ⟨aX,aX,s.a⟩).a⟩)).f;have a4:=(aF9 (E:=E) j [] false aX ⟨aX,aX,(oD E ps (tj E b ⟨aX,aX,(fU E [] false aX b ⟨aX,aX,s.a⟩).a⟩)).a⟩).f;have key:∀(P:WS)(c:Sc),ScL c (jF E [aX] true aX e ⟨P.m,P.b,c⟩).a:=λP c=>(aFU (E:=E) e [aX] true aX ⟨P.m,P.b,c⟩).f;exact(g.ba (a3.ba (a4.ba (key _ _)))).f _ (d s.a)
def aOS{E:fM}{t x:Tree}(b:t.bi=1)(d:x∈t.fg){u:dx}(c:∀s,u∈(fU E [] false aX x s).a.b) (s:WS):u∈(fU E [] false aX t s).a.b:=by
 cases t with
 |mk k f e a nm ks=>
  have b:=b;subst b;rw[aF8 zm zm zm];exact(aJn (E:=E)).f.f _ (aLM c d)
theorem aLN{bu:List UInt8->List aC}{u:dx}:∀{ts:List Tree}{j i:Nat}{t:Tree}{s:Sc},ts[i]? =some t->(∀s,u∈(fU (C3 fs aq bu (j+i)) [] false aX t s).a.b)->u∈(uB fs aq bu ts j s).b
 |t::ts,j,0,x,s,h,a=>by cases h;exact(aHV ts (j+1) _).f _ (a _)
 |t::ts,j,i+1,x,s,h,a=>by unfold uB;refine aLN (i:=i) h λs=>?_;grind
include H
theorem Wsp.kok{i:Nat}{t x:Tree}(v:fs[i]? =some t)(E:x∈t.fg):KRn w (aq.getD i []) i x:=by
 have T:=aua v;have tw:=H.G t T x E;refine⟨λM=>?_,λW M kr=>?_,λW M e=>?_⟩;have q:=((aH1 (aq:=aq) fs 0 .z).2.2 i t v x E).2 M;rw[aue] at q;have ld:=H.ld _ q;have P:=H.ST _ q qaa;have P:=P;refine⟨?_,P⟩;have e:=aui aC.a (aF' ld);have e:(w.d ⟨2,x.bj,i,x.at,aq.getD i []⟩).a=(w.R i).nm x.at x.bj:=e;rw[<-e];unfold l6.d l6.k;have R:=H.tpi.n _ q (.inl rfl);have R:=R;by_cases c:(⟨2,x.bj,(i:Nat),x.at,aq.getD i []⟩:aC)=w.D;grind;rw[if_neg c,if_neg];rintro⟨u,D,S⟩;have k:=H.aJz u;rw[<-D] at k;exact c (aLJ (H.l.a _) R k S);have m:x.bi=5:=by have:=tw.k;omega
 rcases tw.r m with h|⟨a,b,c,d,e,f,g,h,y,hy,yn,hr,rfl⟩;omega;rw[hr];refine⟨by simp[Tree.fg],?_,yn⟩;show(w.R i).nm g y=w.k (aq.getD i []) y;have mem:(⟨i,g,y,(qH (C3 fs aq (SD fs aq).a i) [] y).isSome,(qH (C3 fs aq (SD fs aq).a i) [] y).getD qG⟩:dx)∈(SC fs aq).b:=by
  refine aLN (i:=i) (j:=0) v λs=>?_;refine aOS (H.K t T) E (λs=>?_) s;cases x with
  |mk xk xf xt xa xn Z=>
   refine aOR m (tw.f m) (λs=>?_) s;grind[aOQ,C3]
 have X:=H.lnk.1 _ mem;have Y:(w.R i).nm g y=w.n y (qH (C3 fs aq (SD fs aq).a i) [] y):=by
  unfold Ren.nm l6.n;have h:(w.M ((i:Int)).toNat g=true/\y=w.D.a) <-> ((qH (C3 fs aq (SD fs aq).a i) [] y).isSome=true/\(qH (C3 fs aq (SD fs aq).a i) [] y).getD qG=w.D):=X;have e:∀o:Option aC,(o.isSome=true/\o.getD qG=w.D) <-> o=some w.D:=λo=>by cases o<;>simp
  grind
 rw[Y];unfold l6.n l6.k qH EU aEC;show(if(match(((fs.getD i zT).fg).find? λx=>decide (x.bi=2)&&decide (x.bj=y)) with|some x=>some ⟨1,y,i,x.at,y⟩|none=>uy ((SD fs aq).a (aq.getD i [])) y)=some w.D then w.a else y)=_;have gt:fs.getD i zT=t:=by grind
 rw[gt];cases im:t.fg.find? (λx=>decide (x.bi=2)&&decide (x.bj=y)) with
 |some z=>
  have zm:=avP im;have U:=List.find?_some im;simp at U;rw[if_neg (λq=>H.n.1 qaa),if_neg];rintro⟨u,D,S⟩;have k:=H.aJz u;have nf:=H.l.b _ (H.imp v zm U.1).2 i rfl;grind[uy]
 |none=>
  by_cases c:(w.D.b=2\/w.D.b=3)/\aq.getD i []=w.D.g/\y=w.D.a;have k:=H.aJz c.1;rw[<-c.2.1] at k;rw[if_pos c,if_pos (by rw[c.2.2];exact aOO (H.l.a _) k)];rw[if_neg c,if_neg];intro q;have V:=avP q;have dp:=List.find?_some q;obtain⟨u,D,_⟩:=H.tpi.t _ _ V;grind
 have m:x.bi=5:=by have:=tw.k;omega
 have:=tw.f m;grind
def Wsp.dr:DR w (SD fs aq) (SD (w.F 0 fs) aq):=
 aLd H.B H.aOP H.n H.F fs 0 ⟨λ_=>rfl,rfl,rfl,λc q=>by cases w.q q<;>rfl⟩ (λi t h x a=>by rw[aue];exact H.kok h a) H.ld
omit H in
theorem aH3{j:Nat}:∀{fs:List Tree}{i:Nat},(w.F j fs)[i]? =(fs[i]?).map (w.R (j+i)).T
 |[],i=>by rfl
 |t::fs,0=>by rfl
 |t::fs,i+1=>by unfold l6.F;rw[auV,aH3,auV,show j+1+i=j+(i+1) by omega]
theorem Wsp.env(i:Nat)(hi:i<fs.length):aHP w (C3 fs aq (SD fs aq).a i) (C3 (w.F 0 fs) aq (SD (w.F 0 fs) aq).a i):=by
 obtain⟨t,c⟩:∃t,fs[i]? =some t:=⟨_,atT hi⟩;have gt:fs.getD i zT=t:=by grind
 have b:(w.F 0 fs).getD i zT=(w.R i).T t:=by simp_all[aH3]
 refine⟨rfl,rfl,H.dr.b,λq d hd=>?_,λs=>?_,λx a f=>?_,H.n.1,H.I,H.L,H.J,H.N,H.B⟩;obtain⟨k,_,m⟩:=H.tpi.t q d hd;exact H.ST d m zo;show((w.F 0 fs).getD i zT).fg.find? _=(((fs.getD i zT).fg).find? _).map _;rw[gt,b];have kd:((w.R i).T t).fg=(w.R i).L t.fg:=by cases t;rfl
 rw[kd];have:∀{ks:List Tree},(∀x∈ks,x∈t.fg)->((w.R i).L ks).find? (λx=>decide (x.bi=2)&&decide (x.bj=s))=(ks.find? λx=>decide (x.bi=2)&&decide (x.bj=s)).map (w.R i).T:=by
  intro ks;induction ks with
  |nil=>intro _;rfl
  |cons x ks g=>
   intro h;show((w.R i).T x::(w.R i).L ks).find? _=_;have e:(decide (((w.R i).T x).bi=2)&&decide (((w.R i).T x).bj=s))=(decide (x.bi=2)&&decide (x.bj=s)):=by rw[aHI];by_cases k:x.bi=2;rw[aGO,(H.imp c (h x (au0 ..)) k).1];grind
   grind
 exact this λx h=>h;have a:x∈(fs.getD i zT).fg:=a;rw[gt] at a;exact H.C t (aua c) x a f
omit H in
theorem aOT{aq:List (List UInt8)}:∀(ts:List Tree)(j:Nat)(s:jv),(∀a,∀d∈s.b a,d∈s.d/\(d.b=4\/d.b=5))->∀a,∀d∈(jG aq ts j s).b a,d∈(jG aq ts j s).d/\(d.b=4\/d.b=5):=by
 have mA:∀(s:jv)(e:Kk)(b:aC),(∀a,∀d∈s.b a,d∈s.d/\(d.b=4\/d.b=5))->(b.b=4\/b.b=5)->∀a,∀d∈iY s.b e (s.b e++[b]) a,d∈b::s.d/\(d.b=4\/d.b=5):=by grind[iY]
 have fl:∀(ic:List UInt8)(j:Nat)(ks:List Tree)(key:List UInt8)(s:jv),(∀a,∀d∈s.b a,d∈s.d/\(d.b=4\/d.b=5))->∀a,∀d∈(yL ic key j ks s).b a,d∈(yL ic key j ks s).d/\(d.b=4\/d.b=5):=by
  intro ic j ks;induction ks with
  |nil=>intro _ _ h;exact h
  |cons z ks f=>intro key s h;unfold yL;grind
 have dl:∀(ts:List Tree)(s:jv)(ic:List UInt8)(j:Nat),(∀a,∀d∈s.b a,d∈s.d/\(d.b=4\/d.b=5))->∀a,∀d∈(tB ic j ts s).b a,d∈(tB ic j ts s).d/\(d.b=4\/d.b=5):=by
  intro ts;induction ts with
  |nil=>intro _ _ _ h;exact h
  |cons y ts c=>
   intro s ic j h;have g:∀b:aC,∀a,∀d∈s.b a,d∈b::s.d/\(d.b=4\/d.b=5):=λb a d hd=>⟨aug _ (h a d hd).1,(h a d hd).2⟩;unfold tB;refine c _ _ _ ?_;unfold kX;split;grind;split;grind;split;grind;grind
 intro ts;induction ts with
 |nil=>intro _ _ h;exact h
 |cons y ts c=>intro j s h;unfold jG;exact c _ _ (dl _ _ _ _ h)
omit H in
theorem aOU{aq:List (List UInt8)}{P:aC->Prop}:∀(ts:List Tree)(j:Nat)(s:jv),(∀d∈s.c,P d)->(∀t∈ts,∀x∈t.fg,x.bi=2->∀i:Nat,P ⟨1,x.bj,i,x.at,x.bj⟩)->∀d∈(jG aq ts j s).c,P d:=by
 have fl:∀(ic:List UInt8)(j:Nat)(ks:List Tree)(key:List UInt8)(s:jv),(yL ic key j ks s).c=s.c:=by
  intro ic j ks;induction ks with
  |nil=>intro _ _;rfl
  |cons z ks b=>grind[yL]
 have dl:∀(ts:List Tree)(s:jv)(ic:List UInt8)(j:Nat),(∀d∈s.c,P d)->(∀x∈ts,x.bi=2->∀i:Nat,P ⟨1,x.bj,i,x.at,x.bj⟩)->∀d∈(tB ic j ts s).c,P d:=by
  intro ts;induction ts with
  |nil=>intro _ _ _ h _;exact h
  |cons y ts a=>
   grind[tB,kX]
 intro ts;induction ts with
 |nil=>intro _ _ h _;exact h
 |cons y ts a=>grind[jG]
def Wsp.ren:(SC (w.F 0 fs) aq).b=(SC fs aq).b.map w.u/\(SC (w.F 0 fs) aq).a=(SC fs aq).a/\DOk aq (SD (w.F 0 fs) aq):=by obtain⟨a,b⟩:=aLe (w:=w) (NP:=w.F 0 fs) (aHU:=(SD (w.F 0 fs) aq).a) fs 0 (s:=⟨⟨0,0,0⟩,(SD fs aq).d,[]⟩) (s':=⟨⟨0,0,0⟩,(SD (w.F 0 fs) aq).d,[]⟩) H.p (λi hi=>by rw[aue];exact H.env i hi) rfl H.dr.g rfl H.gd;refine⟨a,b,H.dr.ok H.l ⟨λc q d hd=>?_,λd hd=>?_,λq d hd=>?_⟩⟩;obtain⟨m,k⟩:=aOT (aq:=aq) fs 0 l9 (λ_ _ h=>(awg h).elim) (c,q) d hd;exact H.ST d m zo;have k:=H.tpi.i d hd;have ne:d≠w.D:=λe=>H.n.1 (e▸k);exact⟨aOU (aq:=aq) (P:=λd=>d.a≠w.a) fs 0 l9 (λ_ h=>(awg h).elim) (λt f x g k i=>H.C t f x g k) d hd,ne⟩;obtain⟨k,_,m⟩:=H.tpi.t q d hd;exact H.ST d m zo
end
def aEV(l:List Int)(a:Int):Nat->Nat
 |0=>0
 |k+1=>if a<l.getD k 0 then aEV l a k else k+1
def aFD(l:List Int)(a:Int):List Int:=l.take (aEV l a l.length)++a::l.drop (aEV l a l.length)
def aJA(l:List Int)(a:Int):∀k,aEV l a k<=k
 |0=>at2 _
 |k+1=>by unfold aEV;split;exact at1 (aJA l a k) (axX k);omega
theorem aLO(l:List Int)(a:Int):∀k i,aEV l a k<=i->i<k->a<l.getD i 0
 |0,_,_,h=>absurd h (avm _)
 |k+1,i,b,d=>by unfold aEV at b;split at b;by_cases c:i=k;grind;exact aLO l a k i b zo;omega
theorem aLP(l:List Int)(a:Int):∀k,0<aEV l a k->¬a<l.getD (aEV l a k- 1) 0
 |0,h=>absurd h (Nat.lt_irrefl _)
 |k+1,h=>by unfold aEV at h|-;split at h<;>rename_i c;rw[if_pos c];exact aLP l a k h;grind
theorem aLQ{l:List Int}{a x:Int}:x∈aFD l a <-> x=a\/x∈l:=by grind[aFD,List.take_append_drop]
theorem aOV{l:List Int}{a:Int}:(aFD l a).length=l.length+1:=by grind[aFD]
abbrev Asc(l:List Int):Prop:=l.Pairwise (·<·)
theorem aOW{l:List Int}{a:Int}(h:Asc l)(f:a∉l):Asc (aFD l a):=by
 have e:=aJA l a l.length;have c:∀x∈l.drop (aEV l a l.length),a<x:=by intro x b;obtain⟨i,hi,rfl⟩:=avC b;rw[auf] at hi;have:=aLO l a l.length (aEV l a l.length+i) (aEg ..) zo;grind
 have d:∀x∈l.take (aEV l a l.length),x<a:=by intro x b;obtain⟨i,hi,rfl⟩:=avC b;rw[auN] at hi;have q:=aLP l a l.length zo;grind[List.pairwise_iff_getElem]
 refine au9.2 ⟨h.sublist (List.take_sublist ..),avx.2 ⟨c,h.sublist (aQj ..)⟩,λx b y g=>?_⟩;grind
open Classical in
noncomputable def aED(D:aC):List dx->(Nat->List Int)->Nat->List Int
 |[],m=>m
 |u::a,m=>aED D a (if u.f=true/\u.d=D then λ(j:Nat)=>if u.a=(j:Int) then aFD (m j) u.c else m j else m)
def pl0(D:aC)(j:Nat):List Int:=if D.c=j then[D.f] else[]
theorem aLR{D:aC}{j:Nat}{x:Int}:∀(a:List dx)(m:Nat->List Int),x∈aED D a m j <-> x∈m j\/∃u∈a,u.f=true/\u.d=D/\u.a=j/\u.c=x
 |[],m=>by simp[aED]
 |u::a,m=>by unfold aED;rw[aLR a];by_cases c:u.f=true/\u.d=D;rw[if_pos c];by_cases e:u.a=(j:Int);rw[if_pos e,aLQ];grind;grind;grind
theorem aLS{D:aC}:∀(a:List dx)(m:Nat->List Int),a.Pairwise (λu v=>u.a=v.a->u.c≠v.c)->(∀u∈a,∀j:Nat,u.f=true->u.d=D->u.a=j->u.c∉m j)->(∀j,Asc (m j))->∀j,Asc (aED D a m j)
 |[],_,_,_,h=>h
 |u::a,m,p,n,h=>by obtain⟨k,f⟩:=avx.1 p;refine aLS a _ f (λv b j i e d=>?_) λj=>?_;have g:=n v (aug _ b) j i e d;split;grind[aLQ];omega;split;rename_i c;grind[aOW];grind
theorem aLT{D:aC}{j:Nat}:∀(a:List dx)(m:Nat->List Int),(aED D a m j).length<=(m j).length+a.length
 |[],m=>at2 _
 |u::a,m=>by refine at1 (aLT a _) ?_;rw[atX];split;grind[aOV];omega
def rnS(s iI new:List UInt8):List Int->Nat->List UInt8
 |[],a=>s.drop a
 |p::ps,a=>(s.drop a).take (p.toNat- a)++new++rnS s iI new ps (p.toNat+iI.length)
structure aFb(s iI:List UInt8)(L:List Int):Prop where
 c:L.Pairwise λ(p q:Int)=>p+iI.length<=q
 b:∀p∈L,0<=p/\∃q,s.drop p.toNat=iI++q
def aFb.tl{s iI:List UInt8}{p:Int}{L:List Int}(x:aFb s iI (p::L)):aFb s iI L:=⟨(avx.1 x.c).2,λq h=>x.b q (aug _ h)⟩
theorem aFb.fit{s iI:List UInt8}{p:Int}{L:List Int}(h0:iI≠[])(x:aFb s iI L)(h:p∈L):p+iI.length<=s.length:=by obtain⟨a,q,e⟩:=x.b p h;have:=aui List.length e;grind[List.length_pos_iff]
theorem aLU{R:Ren}{s:List UInt8}(h0:R.b≠[]):∀(L:List Int)(a:Nat),aFb s R.b L->(∀p∈L,(a:Int)<=p)->(∀x:Int,a<=x->(R.M x=true <-> x∈L))->rnS s R.b R.d L a=spl R 0 a (s.drop a)
 |[],a,_,_,b=>by
  have:=aGT (R:=R) (s.drop a) (a:=a) (r:=[]) (λi hi _=>by grind)
  grind[rnS,spl]
 |p::L,a,x,k,b=>by
  have u:=k p (au0 ..);have o:=x.fit h0 (au0 ..);obtain⟨m,q,e⟩:=x.b p (au0 ..);have w:0<R.b.length:=auA.2 h0;have n:=(avx.1 x.c).1;have d:s.drop a=(s.drop a).take (p.toNat- a)++(R.b++q):=by grind[List.take_append_drop,List.drop_drop]
  have f:((s.drop a).take (p.toNat- a)).length=p.toNat- a:=by grind
  have l:=aLU h0 L (p.toNat+R.b.length) x.tl (λz h=>by grind) (λy v=>by grind)
  have g:s.drop (p.toNat+R.b.length)=q:=by grind[List.drop_drop,List.drop_left]
  unfold rnS;rw[l,g,d,aGT _ (λi t j=>?_),f,show a+(p.toNat- a)=p.toNat by omega,aHL h0 ((b _ zo).2 (by rw[aQf m];exact au0 ..)),av7,<-d];cases c:R.M i with
  |false=>rfl
  |true=>
   rw[f] at j;rcases atZ.1 ((b i zo).1 c) with h|h;omega;have:=n _ h;omega
def shS(L:List Int)(b x:Int):Int:=x+b*(L.filter λp=>decide (p<x)).length
theorem aOX{L:List Int}{b x y:Int}(h:∀p∈L,p<x <-> p<y):shS L b y=shS L b x+(y- x):=by grind[shS,List.filter_congr]
theorem aLV:∀{L:List Int}{x y:Int},Asc L->x∈L->(∀p∈L,p≠x->(p<y <-> p<x))->x<y->(L.filter λp=>decide (p<y)).length=(L.filter λp=>decide (p<x)).length+1
 |[],_,_,_,h,_,_=>(awg h).elim
 |p::L,x,y,e,h,b,f=>by obtain⟨g,a⟩:=avx.1 e;by_cases c:p=x;grind[List.filter_congr];have i:=aLV a qaa (λq d=>b q (aug _ d)) f;grind
theorem aOY{R:Ren}{s:List UInt8}{L:List Int}(h0:R.b≠[])(x:aFb s R.b L)(j:∀a,R.M a=true <-> a∈L) (f:R.c=shS L (R.d.length- R.b.length)):aHM R:=by have l:=auA.2 h0;have k:Asc L:=x.c.imp λ{a b} h=>zo;refine⟨?_,λa n h=>?_,λa g i=>?_⟩;rw[f];unfold shS;rw[List.filter_eq_nil_iff.2 λp d=>by have:=(x.b p d).1;grind];simp;rw[f,aOX (x:=(a:Int)) (y:=((a+n:Nat):Int)) λp d=>?_];omega;have:=(x.b p d).1;refine⟨λq=>by omega,λq=>?_⟩;by_cases c:p<a;omega;have e:=h p.toNat zo zo;grind;have m:=(j a).1 g;rw[f];unfold shS;rw[aLV (x:=(a:Int)) (y:=((a+R.b.length:Nat):Int)) k m (λp d ne=>?_) zo,Int.natCast_add,Int.natCast_add,Int.mul_add];omega;have:=(x.b p d).1;refine⟨λq=>?_,λq=>by omega⟩;by_cases c:p<a;omega;have e:=i p.toNat zo zo;grind
def aFY(f:List UInt8->Int×Nat×Int)(s:List UInt8)(a:Nat)(t:Tk):Prop:=
 ∃i:Nat,i<s.length/\t.a=((a+i:Nat):Int)/\(f (s.drop i)).2.2 =0/\t.c=(f (s.drop i)).1 /\t.b=(s.drop i).take (f (s.drop i)).2.1
abbrev Apt(t u:Tk):Prop:=t.b≠[]->u.b≠[]->t.a+t.b.length<=u.a
section
variable {f:List UInt8->Int×Nat×Int}
def aFY.sh{s:List UInt8}{a k:Nat}{t:Tk}(x:aFY f (s.drop k) (a+k) t):aFY f s a t:=by obtain⟨i,e,g,b,c,d⟩:=x;rw[aP2] at b c d;rw[auf] at e;exact⟨k+i,by omega,by omega,b,c,d⟩
theorem aJB{t u:Tk}(h:u∈vI t):u.b=[]:=by grind[vI]
theorem aG7:∀{g a:Nat}{s:List UInt8}{d:Tk}{l:List Tk}{n:Nat},aEP f g a s d=.b l n->(∀t∈l,t.b≠[]->aFY f s a t)/\l.Pairwise Apt
 |0,_,_,_,_,_,h=>by cases h
 |g+1,a,[],d,l,n,h=>by cases h;refine⟨λt b k=>absurd (aJB b) k,?_⟩;unfold vI;split;grind;simp
 |g+1,a,c::s,d,l,n,h=>by rw[aFu] at h;split at h;obtain⟨x,y⟩:=aG7 h;exact⟨λt b k=>(show aFY f ((c::s).drop 1) (a+1) t from x t b k).sh,y⟩;split at h;obtain⟨v,m,j,p⟩:=R3 h;cases p;obtain⟨x,y⟩:=aG7 j;refine⟨λt b k=>?_,au9.2 ⟨?_,y,λt b u _ k=>absurd (aJB b) k⟩⟩;rcases auj.1 b with b|b;grind[aJB];exact(show aFY f ((c::s).drop 1) (a+1) t from x t b k).sh;grind[vI];split at h;obtain⟨x,y⟩:=aG7 h;exact⟨λt b k=>(x t b k).sh,y⟩;split at h;grind;rename_i w;obtain⟨v,m,j,p⟩:=R3 h;cases p;obtain⟨x,y⟩:=aG7 j;refine⟨λt b k=>?_,avx.2 ⟨λu q z r=>?_,y⟩⟩;rcases atZ.1 b with rfl|b;exact⟨0,by simp,rfl,by grind,rfl,rfl⟩;exact(x t b k).sh;obtain⟨i,_,e,_⟩:=x u q r;grind
theorem aH4{s:List UInt8}{l:List Tk}{n:Nat}(h:aER f s (s.length+1) 0 t0 []=.b l n):(∀t∈l,t.b≠[]->aFY f s 0 t)/\l.Pairwise Apt:=by rw[aF6] at h;obtain⟨c,m,a,b⟩:=R3 h;grind[aG7]
theorem aOZ{l:List Tk}(p:l.Pairwise Apt){t u:Tk}(a:t∈l)(b:u∈l)(c:t.b≠[])(d:u.b≠[])(h:t.a<u.a):t.a+t.b.length<=u.a:=by obtain⟨i,hi,rfl⟩:=avC a;obtain⟨j,hj,rfl⟩:=avC b;grind[List.pairwise_iff_getElem]
theorem aFY.in_{s:List UInt8}{t:Tk}(x:aFY f s 0 t):∃i:Nat,t.a=(i:Int)/\i<s.length/\∃q,s.drop i=t.b++q:=by obtain⟨i,a,b,_,_,c⟩:=x;grind[List.take_append_drop]
end
theorem aLW(h0:(azS nE fE s).2.2 =0)(h:(azS nE fE s).1 =1):El (s.take (azS nE fE s).2.1)=true:=by grind[azS]
theorem aFv{x:List UInt8}(h:El x=true):∃c q,x=c::q/\c∈wP/\x∉Cr/\gu x=x.length/\x.length<=40:=by
 unfold El at h;simp at h;obtain⟨⟨⟨⟨b,a⟩,d⟩,_⟩,e⟩:=h
 match x,b,a with
 |c::q,_,a=>
  refine⟨c,q,rfl,?_,e,a,d⟩;grind[aad]
theorem aO0(h:El (s.take (azS nE fE s).2.1)=true):(azS nE fE s).1 =1:=by
 obtain⟨c,q,e,g,b,_⟩:=aFv h;have a:∃r,s=c::r:=by
  cases s with
  |nil=>grind
  |cons d r=>
   cases n:(azS nE fE (d::r)).2.1 with
   |zero=>grind
   |succ m=>grind
 obtain⟨r,rfl⟩:=a;have i:0<gu (c::r):=by grind[aJh]
 unfold azS at b|-;grind
def QD(l:List Tk)(new:List UInt8):Bool->Int->List UInt8->Prop:=λb a nm=>nm≠new/\(b=false/\nm=[]\/∃t∈l,t.a=a/\t.b=nm/\(b=true->t.c=1))
section
variable {l:List Tk}{n:Nat}(h:aER (azS nE fE) s (s.length+1) 0 t0 []=.b l n)(o:¬new<:+:s)(h0:new≠[])
include h o h0
theorem aLX{t:Tk}(a:t∈l):t.b≠new:=by intro e;obtain⟨i,_,_,q,b⟩:=((aH4 h).1 t a qaa).in_;exact o ⟨s.take i,q,by grind[List.take_append_drop]⟩
omit o h0 in
theorem aLY{t:Tk}(a:t∈l)(b:t.c=1)(ne:t.b≠[]):El t.b=true:=by obtain⟨i,_,_,z,k,e⟩:=(aH4 h).1 t a ne;grind[aLW]
omit o h0 in
theorem aO1{t:Tk}(b:t∈l)(a:El t.b=true):t.c=1:=by obtain⟨c,q,d,_⟩:=aFv a;obtain⟨i,_,_,z,k,e⟩:=(aH4 h).1 t b qaa;grind[aO0]
omit o h0 in
theorem aLZ:∀t∈l,t.c=1->t.b≠[]:=by
 have key:∀{g a:Nat}{s:List UInt8}{b:Tk}{l:List Tk}{n:Nat},aEP (azS nE fE) g a s b=.b l n->∀t∈l,t.c=1->t.b≠[]:=by
  intro g;induction g with
  |zero=>intro _ _ _ _ _ h;cases h
  |succ g p=>
   intro a s b l n h t i k;have q:∀{u:Tk},u∈vI b->u.c=7:=by grind[vI]
   cases s with
   |nil=>
    grind[aEP]
   |cons c s=>
    rw[aFu] at h;split at h;grind;split at h;obtain⟨j,m,e,d⟩:=R3 h;grind;split at h;grind;split at h;grind;rename_i z;obtain⟨j,m,e,d⟩:=R3 h;cases d;rcases atZ.1 i with rfl|i;grind[aLW,aFv];grind
 rw[aF6] at h;obtain⟨j,m,e,d⟩:=R3 h;grind
omit o h0 in
theorem aL0(m:Nat)(k:(tk (l++[fD s]) m).c=1):(tk (l++[fD s]) m).b∉K5:=by
 have c:tk (l++[fD s]) m∈l:=by grind[fD,adh,adi]
 obtain⟨_,_,_,_,w,_⟩:=aFv (aLY h c k (aLZ h _ c k));simp_all[K5,Cr]
omit o h0 in
theorem aO2:TkW (λ_ _ _=>True) (l++[fD s]):=⟨λ_=>trivial,λ_ _ _=>trivial,aL0 h,λ_=>trivial⟩
theorem aO3:TkW (QD l new) (l++[fD s]):=by
 have cs:∀m,tk (l++[fD s]) m∈l\/(tk (l++[fD s]) m).b=[]/\(tk (l++[fD s]) m).c=0:=by intro m;by_cases c:m<(l++[fD s]).length;rcases auj.1 (adh c) with q|q;grind;rw[awQ] at q;rw[q];exact .inr ⟨rfl,rfl⟩;grind[adi]
 refine⟨λm=>?_,λb m k=>?_,aL0 h,λa=>⟨h0.symm,.inl ⟨rfl,rfl⟩⟩⟩;rcases cs m with c|c;exact⟨aLX h o h0 c,.inr ⟨_,c,rfl,rfl,nofun⟩⟩;rw[c.1];exact⟨h0.symm,.inl ⟨rfl,rfl⟩⟩;rcases cs m with c|c;exact⟨aLX h o h0 c,.inr ⟨_,c,rfl,rfl,λ_=>k⟩⟩;omega
omit o h0 in
theorem aO4{R:Ren}{L:List Int}(b:∀a,R.M a=true <-> a∈L) (y:Asc L) (r:El R.b=true) (k:∀p∈L,∃t∈l,t.a=p/\t.b=R.b):aFb s R.b L/\aG3 R s l:=by
 obtain⟨_,_,B,_⟩:=aFv r;have ne:R.b≠[]:=by grind
 obtain⟨z,ap⟩:=aH4 h;have pl:aFb s R.b L:=by refine⟨y.imp_of_mem λ{p q} g w lt=>?_,λp g=>?_⟩;obtain⟨t,t1,t2,t3⟩:=k p g;obtain⟨u,A,F,G⟩:=k q w;have:=aOZ ap t1 A qaa qaa zo;grind;obtain⟨t,t1,t2,t3⟩:=k p g;obtain⟨i,e,_,q,v⟩:=(z t t1 qaa).in_;grind
 have pos:0<R.b.length:=auA.2 ne;refine⟨pl,⟨λi hi m=>?_,λp m=>?_,λp g=>?_⟩⟩;have m:=(b _).1 m;obtain⟨_,q,e⟩:=pl.b _ m;refine⟨⟨q,e⟩,λp D E=>?_⟩;cases c:R.M p with
 |false=>rfl
 |true=>
  have c:=(b _).1 c;obtain⟨j,hj,C⟩:=avC m;obtain⟨j2,x,v⟩:=avC c;rcases aQk j j2 with d|d|d;have:=aP0.1 pl.c j j2 hj x d;omega;grind;grind[List.pairwise_iff_getElem]
 obtain⟨t,t1,t2,t3⟩:=k _ ((b _).1 m);exact⟨t,t1,t2,aO1 h t1 (t3▸r),t3⟩;cases c:R.M p with
 |false=>rfl
 |true=>
  have:=pl.fit ne ((b _).1 c);omega
end
def aO5{c:UInt8}(h:128<=c.toNat)(a:¬240<=aEv c.toNat):(aEv c.toNat% 8=2\/aEv c.toNat% 8=3\/aEv c.toNat% 8=4)/\128<=(aFc (aEv c.toNat/16)).1 :=
 (by decide+kernel:∀n,n<256->128<=n->¬240<=aEv n->(aEv n% 8=2\/aEv n% 8=3\/aEv n% 8=4)/\128<=(aFc (aEv n/16)).1) _ c.toNat_lt h a
theorem aH5{q:Nat×Nat}{s:List UInt8}{i:Nat}(h:aEO q s i=true)(a:128<=q.1):∃c,s[i]? =some c/\128<=c.toNat:=by grind[aEO]
def aGz{q:Nat×Nat}{s s':List UInt8}{i:Nat}(h:s[i]? =s'[i]?):aEO q s i=aEO q s' i:=by unfold aEO;rw[h]
theorem aO6{c:UInt8}{r:List UInt8}(h:128<=c.toNat)(hd:aEF (c::r)≠1):∃u r2,r=u++r2/\(∀x∈u,128<=x.toNat)/\aEF (c::r)=u.length+1/\∀a,aEF (c::(u++a))=u.length+1:=by
 unfold aEF at hd;simp only at hd;split at hd;omega;rename_i m;have n:(aEO (aFc (aEv c.toNat/16)) (c::r) 1&&(decide (aEv c.toNat% 8<=2)||aEO (128,191) (c::r) 2)&&(decide (aEv c.toNat% 8<=3)||aEO (128,191) (c::r) 3))=true:=by grind
 obtain⟨d,ac⟩:=aO5 h m;have j:∀g,(aEO (aFc (aEv c.toNat/16)) (c::g) 1&&(decide (aEv c.toNat% 8<=2)||aEO (128,191) (c::g) 2)&&(decide (aEv c.toNat% 8<=3)||aEO (128,191) (c::g) 3))=true->aEF (c::g)=aEv c.toNat% 8:=by simp_all[aEF,if_neg]
 have f:=n;simp at f;obtain⟨⟨q1,q2⟩,q3⟩:=f;obtain⟨c1,g1,t⟩:=aH5 q1 ac;obtain⟨b,rfl⟩:∃b,r=c1::b:=by cases r with|nil=>grind|cons x y=>grind
 rcases d with d|d|d;refine⟨[c1],b,rfl,λx k=>by grind,by grind,λa=>?_⟩;rw[j,d];rfl;rw[d];simpa using(aGz (s:=c::c1::b) (s':=c::([c1]++a)) rfl).symm.trans q1;obtain⟨c2,g2,l⟩:=aH5 (q2.resolve_left zo) zm;obtain⟨r2,rfl⟩:∃r2,b=c2::r2:=by cases b with|nil=>grind|cons x y=>grind
 refine⟨[c1,c2],r2,rfl,λx k=>by grind,by grind,λa=>?_⟩;rw[j,d];rfl;have o:=(aGz (q:=aFc (aEv c.toNat/16)) (s:=c::c1::c2::r2) (s':=c::([c1,c2]++a)) (i:=1) rfl).symm.trans q1;have p:=(aGz (q:=(128,191)) (s:=c::c1::c2::r2) (s':=c::([c1,c2]++a)) (i:=2) rfl).symm.trans (q2.resolve_left zo);grind;obtain⟨c2,g2,l⟩:=aH5 (q2.resolve_left zo) zm;obtain⟨r2,rfl⟩:∃r2,b=c2::r2:=by cases b with|nil=>grind|cons x y=>grind
 obtain⟨c3,w,v⟩:=aH5 (q3.resolve_left zo) zm;obtain⟨e,rfl⟩:∃e,r2=c3::e:=by cases r2 with|nil=>grind|cons x y=>grind
 refine⟨[c1,c2,c3],e,rfl,λx k=>by grind,by grind,λa=>?_⟩;rw[j,d];rfl;have o:=(aGz (q:=aFc (aEv c.toNat/16)) (s:=c::c1::c2::c3::e) (s':=c::([c1,c2,c3]++a)) (i:=1) rfl).symm.trans q1;have p:=(aGz (q:=(128,191)) (s:=c::c1::c2::c3::e) (s':=c::([c1,c2,c3]++a)) (i:=2) rfl).symm.trans (q2.resolve_left zo);have z:=(aGz (q:=(128,191)) (s:=c::c1::c2::c3::e) (s':=c::([c1,c2,c3]++a)) (i:=3) rfl).symm.trans (q3.resolve_left zo);grind
theorem aH6{c:UInt8}{r:List UInt8}(h:c.toNat<128):aEF (c::r)=1:=by grind[aEF,aEv]
theorem aL1:∀(w:List UInt8){g a:Nat}{r:List UInt8},(∀c∈w,c.toNat<128)->w.length<=g->aEH g (w++r) a=aEH (g- w.length) r (a+w.length)
 |[],g,a,r,_,_=>by simp
 |c::w,0,_,_,_,h=>by grind
 |c::w,g+1,a,r,b,h=>by
  simp at h;rw[auY];have e:aEH (g+1) (c::(w++r)) a=aEH g (w++r) (a+1):=by show(if aEF (c::(w++r))=1/\128<=c.toNat then _ else _)=_;simp_all[aH6,if_neg]
  rw[e,aL1 w (λx d=>b x (aug _ d)) zo,atX,show g+1- (w.length+1)=g- w.length by omega,show a+1+w.length=a+(w.length+1) by omega]
theorem aL2(w:List UInt8){r:List UInt8}(b:∀c∈w,c.toNat<128) (hr:∀g a,aEH g r a<0):∀(g a:Nat),aEH g (w++r) a<0:=by
 induction w with
 |nil=>grind
 |cons c w d=>
  intro g a;cases g with
  |zero=>unfold aEH;simp
  |succ g=>
   simp_all[aEH,aH6,if_neg]
theorem aO7{c:UInt8}(h:c∈wP):c.toNat<128:=by
 have:∀c∈wP,c.toNat<128:=by decide
 grind
section
variable {iI:List UInt8}(N:aF5 iI new)
include N
theorem Sp.aL3:∀(u:List UInt8){r s':List UInt8},(∀x∈u,128<=x.toNat)->Sp iI new (u++r) s'->∃a,s'=u++a/\Sp iI new r a
 |[],r,s',_,h=>⟨s',rfl,h⟩
 |x::u,r,s',f,h=>by rcases h.ut N with⟨e,_⟩|⟨c,q,l,b,m,d⟩|⟨c,q,l,b,o,_⟩;grind;obtain⟨rfl,rfl⟩:=b;obtain⟨a,rfl,n⟩:=Sp.aL3 u (λy k=>f y (aug _ k)) d;grind;grind[List.mem_cons_self,aO7]
theorem aO8(v:∀c∈iI,c.toNat<128) (x:∀c∈new,c.toNat<128):∀(n:Nat)(s s':List UInt8),s.length<=n->Sp iI new s s'->∀(g a:Nat),s.length<=g->aEH g s a<0->∀(d a':Nat),aEH d s' a'<0:=by
 intro n;induction n with
 |zero=>
  intro s s' l h g a k b d a';rcases h.ut N with⟨_,rfl⟩|⟨c,q,y,m,_⟩|⟨c,q,y,m,_⟩;cases d<;>(unfold aEH;simp);grind;grind
 |succ n o=>
  intro s s' l h g a k b d a';have A:0<iI.length:=by obtain⟨c,q,e,_⟩:=N.a;grind
  cases h with
  |i=>cases d<;>(unfold aEH;simp)
  |j h=>
   rename_i r z;simp at l k;rw[aL1 iI v zo] at b;exact aL2 new x (o _ _ zo h _ _ zo b) d a'
  |g c h=>
   rename_i r z;simp at l k;obtain⟨g,rfl⟩:∃g0,g=g0+1:=⟨g- 1,by omega⟩;unfold aEH at b;cases d with
   |zero=>unfold aEH;simp
   |succ d=>
    by_cases f:c.toNat<128;rw[aH6 f,if_neg zo] at b;unfold aEH;rw[aH6 f,if_neg zo];exact o _ _ zo h _ _ zo b _ _;have f:128<=c.toNat:=zo;split at b;omega;rename_i nd;obtain⟨u,r2,rfl,w,m,p⟩:=aO6 f λq=>nd ⟨q,f⟩;obtain⟨q,rfl,t⟩:=Sp.aL3 N u w h;simp at l k;unfold aEH;rw[m,awK,aPZ] at b;rw[p,if_neg zo,awK,aPZ];exact o _ _ zo t _ _ zo b _ _
def aO9(b:∀c∈iI,c.toNat<128) (d:∀c∈new,c.toNat<128) {s s':List UInt8} (h:Sp iI new s s') (a:¬0<=aFh s):¬0<=aFh s':=by have:=aO8 N b d s.length s s' zl h s.length 0 zl (by unfold aFh at a;omega) s'.length 0;unfold aFh;omega
end
theorem aL4:∀{s:List UInt8},aEt aFL s=s.length->∀c∈s,c.toNat<128
 |[],_,c,h=>(awg h).elim
 |x::s,h,c,a=>by
  unfold aEt at h;split at h;rename_i e;simp at h;rcases atZ.1 a with rfl|a;have:∀c∈wP++rj,c.toNat<128:=by decide
  grind[aFL];exact aL4 h c a;grind
def aL5{x:List UInt8}(h:El x=true):∀c∈x,c.toNat<128:=by obtain⟨c,q,rfl,a,_,b,_⟩:=aFv h;refine aL4 ?_;simp_all[aGr]
section
open Classical
mutual
theorem wfT.bc{Q c:Bool->Int->List UInt8->Prop}(h:∀b a nm,Q b a nm->c b a nm):∀{t:Tree},wfT Q t->wfT c t
 |.mk ..,w=>by unfold wfT at w|-;exact⟨λk=>h _ _ _ (w.1 k),w.2.1,w.2.2.1,w.2.2.2.1,wfL.bc h w.2.2.2.2⟩
theorem wfL.bc{Q c:Bool->Int->List UInt8->Prop}(h:∀b a nm,Q b a nm->c b a nm):∀{ts:List Tree},wfL Q ts->wfL c ts
 |[],_=>by unfold wfL;grind
 |t::ts,w=>by unfold wfL at w|-;exact⟨wfT.bc h w.1,wfL.bc h w.2⟩
end
def aEL.bc{Q i:Bool->Int->List UInt8->Prop}(h:∀b a nm,Q b a nm->i b a nm) {t:Tree} (x:aEL Q t):aEL i t:=
 ⟨x.w.bc h,x.k,x.f,x.s,λk=>(x.r k).imp id λ⟨a,b,c,d,e,f,g,p,y,y1,y2,y3,y4⟩=>⟨a,b,c,d,e,f,g,p,y,y1,h _ _ _ y2,y3,y4⟩⟩
theorem aL6{Q:Bool->Int->List UInt8->Prop}:∀{ts:List Tree},(∀t∈ts,wfT Q t)->wfL Q ts
 |[],_=>by unfold wfL;grind
 |t::ts,h=>by exact⟨h t (au0 ..),aL6 λx a=>h x (aug _ a)⟩
mutual
theorem aJC:∀{t:Tree}{lo hi L:Int},gX lo hi t->hi<=L->aG1 L t
 |.mk k f c a nm ks,lo,hi,L,h,b=>by
  unfold gX at h;split at h;exact⟨λ_=>by omega,aG8 h.1 zo⟩;split at h;have:=gZ.le h.2;exact⟨λ_=>by omega,aG8 h.2 b⟩;split at h
  match ks,h with
  |r::ks,h=>
   have:=gZ.le h.2;exact⟨λ_=>by omega,aJC h.1 zo,aG8 h.2 b⟩
  exact⟨λq=>by omega,aG8 h.2 b⟩
theorem aG8:∀{ts:List Tree}{lo hi L:Int},gZ lo hi ts->hi<=L->aG2 L ts
 |[],_,_,_,_,_=>by unfold aG2;grind
 |t::ts,lo,hi,L,h,c=>by obtain⟨md,b,a⟩:=h;have:=gZ.le a;exact⟨aJC b zo,aG8 a c⟩
end
structure aFj(O:Orc)(s:List UInt8)(t:Tree)(l:List Tk):Prop where
 g:s.length<=65536
 c:¬0<=aFh s
 a:∃n,aER (azS O.a O.b) s (s.length+1) 0 t0 []=.b l n
 b:∃n,sj (l++[fD s]) s.length (aET O)=.b t n
 f:¬yu t 64 (s.length+1)<=s.length
theorem aL7{O:Orc}{s:List UInt8}{t:Tree}{n:Nat}(h:Al O s=.b t n):∃l,aFj O s t l:=by obtain⟨l,m,a,h⟩:=R3 h;obtain⟨t2,c,b,h⟩:=R3 h;unfold aE0 at a;split at a;grind;split at a;grind;split at h;grind;cases h;exact⟨l,by omega,by omega,⟨_,a⟩,⟨_,b⟩,by omega⟩
structure aFw(o:List Doc)(new:List UInt8):Prop where
 z:∃n,new=List.replicate (n+2) 122
 a:∀d∈o,¬new<:+:d.a
theorem aFw.ne{o:List Doc}{new:List UInt8}(x:aFw o new):new≠[]:=by obtain⟨n,e⟩:=x.z;grind
structure Wk(O:Orc)(o:List Doc)(rs:List (PR Tree))(aq:List (List UInt8)):Prop where
 A:Ay O o rs aq
 F:∀r∈rs,BF r
 C:Ih (rs.map pB) aq
 B:Lv (rs.map pB) aq
 G:(SC (rs.map pB) aq).a.e=0
 J:o.length<=6
 I:∀d∈o,d.a.length<=9000
def wr(b:Nat->List Int)(new:List UInt8)(D:aC):l6:=⟨λj a=>decide (a∈b j),λj=>shS (b j) ((new.length:Int)- D.a.length),new,D⟩
section
variable {o:List Doc}{aq:List (List UInt8)}(x:Wk O o rs aq)
include x
theorem Wk.doc{i:Nat}{t:Tree}(h:(rs.map pB)[i]? =some t):∃hi:i<o.length,∃l,aFj O o[i].a t l:=by
 rw[auh] at h;cases e:rs[i]? with
 |none=>grind
 |some r=>
  rw[e] at h;obtain⟨hi,e⟩:=at0.1 e;have hd:i<o.length:=by have:=x.A.a;omega
  refine⟨hd,?_⟩;have ok:=x.F r (e▸auy hi);have a:=x.A.r i hi hd;rw[e] at a;cases h;cases r with
  |b t n=>exact aL7 a.symm
  |d=>cases ok
  |c=>cases ok
def Wk.Ha{i:Nat}{t:Tree}(h:(rs.map pB)[i]? =some t):rG 9006 0 9000 t:=amx x.I x.A x.F t (aua h)
def Wk.If:Pv (λd=>∃q,d∈(SD (rs.map pB) aq).a q) (SC (rs.map pB) aq):=(Wb x.J x.I x.A x.F).2 vW
def Wk.pi:(rs.map pB).length=o.length:=by rw[avd,x.A.a]
variable (N:aFw o new)
include N
theorem Wk.PP{i:Nat}{t:Tree}(h:(rs.map pB)[i]? =some t){hi:i<o.length}{l:List Tk}(d:aFj O o[i].a t l):t.bi=1/\QD l new false t.at t.bj/\(∀y∈t.fg,aEL (QD l new) y)/\wfT (QD l new) t:=by obtain⟨n,a⟩:=d.a;obtain⟨m,tr⟩:=d.b;exact aLA (aO3 a (N.a _ (auy hi)) N.ne) _ _ t m tr
def Wk.wf:wfL (nq new) (rs.map pB):=aL6 λt a=>by obtain⟨i,h⟩:=aum a;obtain⟨hi,l,d⟩:=x.doc h;exact(x.PP N h d).2.2.2.bc λ_ _ _ q=>q.1
def Wk.tw:∀t∈rs.map pB,∀y∈t.fg,aEL (nq new) y:=λt a y b=>by obtain⟨i,h⟩:=aum a;obtain⟨hi,l,d⟩:=x.doc h;exact((x.PP N h d).2.2.1 y b).bc λ_ _ _ q=>q.1
omit N in
theorem Wk.od:∀t∈rs.map pB,∃lo hi,gX lo hi t:=λt a=>by obtain⟨i,h⟩:=aum a;exact⟨_,_,(x.Ha h).WP⟩
theorem Wk.QQ:(∀u∈(SC (rs.map pB) aq).b,∃(i:Nat) (t:Tree),(rs.map pB)[i]? =some t/\u.a=i/\(u.c,0,u.b)∈st t)/\∀d∈(SC (rs.map pB) aq).c,aFa aq (rs.map pB) d:=
 aJy _ 0 _ (λi t h=>by grind) (x.wf N) (λ_ h=>(awg h).elim) (aJx _ 0 l9 (λi t h=>by grind) (x.tw N) λ_ h=>(awg h).elim)
omit N in
theorem Wk.uu:∀u∈(SC (rs.map pB) aq).b,∀v∈(SC (rs.map pB) aq).b,u.a=v.a->u.c=v.c->u=v:=λu a v b d e=>by obtain⟨i,hi,rfl⟩:=avC a;obtain⟨j,hj,rfl⟩:=avC b;rcases aQk i j with c|c|c;have:=aP0.1 x.If.a i j hi hj c;omega;grind;have:=aP0.1 x.If.a j i hj hi c;omega
omit N in
theorem Wk.nm:∀u∈(SC (rs.map pB) aq).b,u.f=true->u.d.a=u.b/\u.d∈(SC (rs.map pB) aq).c:=λu a h=>⟨(x.If.b u a).c h,(x.If.b u a).b h⟩
def Wk.lnk:Lnk (SC (rs.map pB) aq).b (SC (rs.map pB) aq).c:=aLG x.od (x.QQ N).1 (x.QQ N).2 x.uu x.nm
theorem Wk.aL8{d:aC}(hd:d∈(SC (rs.map pB) aq).c)(k:d.b≠1):∃(i:Nat) (t:Tree),(rs.map pB)[i]? =some t/\d.c=i/\(d.f,d.b,d.a)∈st t/\∃hi:i<o.length,∃l,aFj O o[i].a t l/\d.a≠new/\∃y∈l,y.a=d.f/\y.b=d.a/\y.c=1:=by obtain⟨i,t,h,e,_,s,g,_⟩:=(x.QQ N).2 d hd;obtain⟨hi,l,f⟩:=x.doc h;obtain⟨q1,q2⟩:=aH2 (Q:=QD l new) (λ_ _ q=>⟨q.1,.inr (q.2.elim (λc=>by grind) λ⟨y,a,b,c,_⟩=>⟨y,a,b,c,nofun⟩)⟩) t (x.PP N h f).2.2.2 _ s k;grind
theorem Wk.aO'{u:dx}(f:u∈(SC (rs.map pB) aq).b)(ne:u.b≠[]):∃(i:Nat) (t:Tree),(rs.map pB)[i]? =some t/\u.a=i/\(u.c,0,u.b)∈st t/\∃hi:i<o.length,∃l,aFj O o[i].a t l/\∃y∈l,y.a=u.c/\y.b=u.b:=by obtain⟨i,t,h,e,s⟩:=(x.QQ N).1 u f;obtain⟨hi,l,d⟩:=x.doc h;obtain⟨_,q2⟩:=aH2 (Q:=QD l new) (λ_ _ q=>⟨q.1,.inr (q.2.elim (λc=>by grind) λ⟨y,a,b,c,_⟩=>⟨y,a,b,c,nofun⟩)⟩) t (x.PP N h d).2.2.2 _ s qaa;grind
end
structure Pk(us:List dx)(D:aC):Prop where
 b:∃u∈us,u.f=true/\u.d=D
 a:D.b≠1
section
variable {z:List Doc}{aq:List (List UInt8)}(x:Wk O z rs aq)(N:aFw z new)(K:Pk (SC (rs.map pB) aq).b D)
include x K
def Wk.dn:D∈(SC (rs.map pB) aq).c/\D.b≠4/\D.b≠5:=by obtain⟨u,a,h,rfl⟩:=K.b;have o:=x.If.b u a;exact⟨o.b h,(o.a h).2,(o.a h).1⟩
noncomputable def plW(rs:List (PR Tree))(aq:List (List UInt8))(D:aC):Nat->List Int:=aED D (SC (rs.map pB) aq).b (pl0 D)
omit x K in
theorem aL9{j:Nat}{a:Int}:a∈plW rs aq D j <-> (D.c=j/\D.f=a)\/∃u∈(SC (rs.map pB) aq).b,u.f=true/\u.d=D/\u.a=j/\u.c=a:=by unfold plW;grind[aLR,pl0]
include N
theorem Wk.Po(j:Nat):Asc (plW rs aq D j):=by have L:=x.lnk N;refine aLS _ _ (x.If.a.imp λ{u v} h e=>by omega) (λu a j h e d=>?_) (λj=>?_) j;unfold pl0;split;rename_i c;rw[awQ];exact L.c u a D (x.dn K).1 (d.trans c.symm);grind;unfold pl0;split;grind;simp
theorem Wk.Zoa:El D.a=true/\D.a≠new:=by obtain⟨i,t,_,_,_,hi,l,a,ne,y,b,_,e,k⟩:=x.aL8 N (x.dn K).1 K.a;obtain⟨n,c⟩:=a.a;grind[aLY,aLZ]
theorem Wk.Hn{j:Nat}{a:Int}(h:a∈plW rs aq D j):∃t,(rs.map pB)[j]? =some t/\(∃k nm,(a,k,nm)∈st t)/\∃hj:j<z.length,∃l,aFj O z[j].a t l/\∃y∈l,y.a=a/\y.b=D.a:=by rcases aL9.1 h with⟨b,n⟩|⟨u,g,b,n,v,w⟩;obtain⟨i,t,e,d,s,hi,l,m,_,y,o,f,p,_⟩:=x.aL8 N (x.dn K).1 K.a;grind;have nm:=(x.nm u g b).1;obtain⟨c,q,r,_⟩:=aFv (x.Zoa N K).1;obtain⟨i,t,e,d,s,hi,l,m,y,o,f,p⟩:=x.aO' N g qaa;grind
omit x K N in
theorem aPa{u d:List UInt8}(e:rZ u=some d):yF d=true:=by grind[rZ]
omit K N in
theorem Wk.aPb{j:Nat}:32∉aq.getD j []:=by by_cases h:j<z.length;intro q;have nb:=aPa (x.A.d j h);unfold yF at nb;simp at nb;exact absurd (nb.2 32 q) zd;rw[aub,auI (by have:=x.A.b;omega)];grind
omit x K N in
theorem aL'{E:Edg}{d:List UInt8}{g:Nat}{n:List UInt8}:∀{b q:List (List UInt8)},aFz E aq d g b q->n∈b->n∈aq
 |[],_,_,h=>(awg h).elim
 |m::b,q,h,a=>by unfold aFz at h;rcases atZ.1 a with rfl|a;grind;exact aL' h.2 a
omit K in
theorem Wk.imn:∀t∈rs.map pB,∀y∈t.fg,y.bi=2->y.bj≠new:=by
 intro t n y o k e;obtain⟨i,hi,h⟩:=avC n;have b:=x.C i hi;rw[h] at b;have m:=aL' b.2 (auR.2 ⟨y,avv.2 ⟨o,avf k⟩,rfl⟩);obtain⟨j,hj,g⟩:=avC m;have c:j<(rs.map pB).length:=by rw[x.pi,<-x.A.b];omega
 have d:=(x.C j c).1;rw[aub,atT hj] at d;have a:=atT c;obtain⟨hd,l,f⟩:=x.doc a;exact(x.PP N a f).2.1.1 (d.trans (g.trans e))
omit x K in
theorem aFw.nb:new∉K5:=by obtain⟨n,e⟩:=N.z;grind[K5]
theorem Wk.wsp:Wsp (wr (plW rs aq D) new D) (rs.map pB) aq:=by
 obtain⟨d,e⟩:=x.Zoa N K;obtain⟨c,q,g,_,f,_⟩:=aFv d;exact{
  K:=λt b=>by obtain⟨i,h⟩:=aum b;exact(x.Ha h).b
  G:=x.tw N
  p:=x.wf N
  O:=x.od
  l:=⟨x.B.1,x.B.2.1,x.B.2.2⟩
  r:=x.G
  C:=x.imn N
  F:=λj=>x.aPb
  Q:=x.uu
  A:=x.nm
  D:=K.b
  n:=⟨K.a,(x.dn K).2⟩
  M:=λj a=>by show decide (a∈plW rs aq D j)=true <-> _;rw[axA];exact aL9
  B:=e
  I:=by show D.a≠[];grind
  L:=N.ne
  J:=λh=>f ((by decide:∀w∈K5,w∈Cr) _ h)
  N:=N.nb}
def Wk.aMa{j:Nat}{t:Tree}(h:(rs.map pB)[j]? =some t){hj:j<z.length}{l:List Tk}(g:aFj O z[j].a t l):aFb z[j].a D.a (plW rs aq D j)/\aG3 ((wr (plW rs aq D) new D).R j) z[j].a l:=by obtain⟨n,d⟩:=g.a;refine aO4 (R:=(wr (plW rs aq D) new D).R j) d (λa=>axA) (x.Po N K j) (x.Zoa N K).1 λp i=>?_;obtain⟨t2,e,_,r,o,c,y,k,f,m⟩:=x.Hn N K i;obtain⟨q,b⟩:=c.a;rw[d] at b;cases b;exact⟨y,k,f,m⟩
end
theorem aJD:∀n,aEt aFL (List.replicate n 122)=n
 |0=>rfl
 |n+1=>by rw[aQg];unfold aEt;rw[if_pos qab,aJD n]
theorem aFw.nm{p:List Doc}{new:List UInt8}(N:aFw p new)(c:new.length<=40):El new=true:=by
 obtain⟨n,e⟩:=N.z;have ws:new∉Cr:=by
  intro h;have:∀w∈Cr,w.head?≠some 122:=by decide
  grind
 have d:gu new=new.length:=by rw[aGr,e,aQg];simp[if_pos aGQ];grind[aJD]
 have b:new≠[95]:=by grind
 simp_all[El]
theorem aFw.ok{p:List Doc}{new iI:List UInt8}(N:aFw p new)(f:new.length<=40)(d:El iI=true):aF5 iI new:=by obtain⟨c,q,e,b,_⟩:=aFv d;obtain⟨n,g⟩:=N.z;exact⟨⟨c,q,e,b⟩,⟨List.replicate (n+1) 122,by grind⟩,by grind[aJD],N.nm f⟩
def aFj.par{O:Orc}{s:List UInt8}{t:Tree}{l:List Tk}(d:aFj O s t l):∃n,Al O s=.b t n:=by
 obtain⟨n,h⟩:=d.a;obtain⟨m,tr⟩:=d.b;refine⟨m,?_⟩;have e:aE0 O s=.b l n:=by unfold aE0;rw[if_neg (by have:=d.g;omega),if_neg d.c];omega
 unfold Al;rw[e];show(sj (l++[fD s]) s.length (aET O)).dC _=_;rw[tr];show(if yu t 64 (s.length+1)<=s.length then _ else _)=_;rw[if_neg d.f]
def aFj.Ha{O:Orc}{s:List UInt8}{t:Tree}{l:List Tk}(d:aFj O s t l):rG (s.length+6) 0 s.length t:=by obtain⟨n,e⟩:=d.par;have:=V8 O s (by have:=d.g;omega);rw[e] at this;exact this
section
variable {p:List Doc}{aq:List (List UInt8)}(x:Wk O p rs aq)(N:aFw p new)(K:Pk (SC (rs.map pB) aq).b D)
include x N K
theorem Wk.aPc{j:Nat}{t:Tree}(h:(rs.map pB)[j]? =some t){hj:j<p.length}(f:new.length<=40)(z:(spl ((wr (plW rs aq D) new D).R j) 0 0 p[j].a).length<=65536):
 ∃n,Al O (spl ((wr (plW rs aq D) new D).R j) 0 0 p[j].a)=.b (((wr (plW rs aq D) new D).R j).T t) n:=by
 obtain⟨_,l,b⟩:=x.doc h;obtain⟨g,_⟩:=x.Zoa N K;obtain⟨pl,dr⟩:=x.aMa N K h b;obtain⟨_,_,_,_,r,_⟩:=aFv g;obtain⟨_,_,_,_,d,_⟩:=aFv (N.nm f);have ok:aF5 ((wr (plW rs aq D) new D).R j).b ((wr (plW rs aq D) new D).R j).d:=N.ok f g;have u:((wr (plW rs aq D) new D).R j).b≠[]:=by obtain⟨c,q,e,_⟩:=ok.a;grind
 have sh:=aOY (s:=p[j].a) u pl (λa=>axA) rfl;obtain⟨n,o⟩:=b.a;obtain⟨m,tr⟩:=b.b;have wp:[112,114,105,110,116]∈Cr:=by decide
 have v:[112,97,110,105,99]∈Cr:=by decide
 have y:=aOz ok sh dr o;have k:=aOA ok sh dr (λe=>r (show D.a∈Cr from(show D.a=_ from e)▸wp)) (λe=>r (show D.a∈Cr from(show D.a=_ from e)▸v)) (λe=>d (show new∈Cr from(show new=_ from e)▸wp)) (λe=>d (show new∈Cr from(show new=_ from e)▸v)) o (aET O);rw[tr] at k;have w:=aO9 ok (aL5 g) (aL5 (N.nm f)) (aF7 (R:=(wr (plW rs aq D) new D).R j) u p[j].a.length (a:=0) (s:=p[j].a) zl λi hi E=>(dr.a i hi qaa).1) b.c;have dp:=aOy (R:=(wr (plW rs aq D) new D).R j) (L':=((spl ((wr (plW rs aq D) new D).R j) 0 0 p[j].a).length:Int)) (aJC b.Ha.WP (atY _)) b.f;exact aFj.par ⟨z,w,⟨_,y⟩,⟨_,k⟩,dp⟩
omit x N K in
def ayh(w:l6)(p:List Doc):List Doc:=p.mapIdx λj d=>⟨d.b,spl (w.R j) 0 0 d.a,d.c⟩
omit x N K in
theorem aFO{w:l6}:(ayh w p).length=p.length:=List.length_mapIdx
omit x N K in
theorem aGa{w:l6}{j:Nat}(h:j<p.length):(ayh w p)[j]'(by rw[aFO];omega)=⟨p[j].b,spl (w.R j) 0 0 p[j].a,p[j].c⟩:=List.getElem_mapIdx
omit x N K in
theorem aMb{R:Ren}(t:Tree):(R.T t).fg=R.L t.fg:=by cases t;rfl
omit x N K in
theorem aMc{R:Ren}:∀ts:List Tree,(R.L ts).length=ts.length
 |[]=>rfl
 |t::ts=>by show(R.L ts).length+1=_;rw[aMc ts];rfl
omit x N K in
theorem aMd{R:Ren}:∀{ts:List Tree},(∀y∈ts,y.bi=2->R.nm y.at y.bj=y.bj)->aEK (R.L ts)=aEK ts
 |[],_=>rfl
 |t::ts,h=>by have b:=aMd λy a=>h y (aug _ a);unfold aEK at b|-;show((R.T t::R.L ts).filter _).map _=_;grind[aHI,aGO]
omit x N K in
theorem aMe{w:l6}:∀{fs:List Tree}{j:Nat}{ds:List (List UInt8)},(∀i t,fs[i]? =some t->aEK ((w.R (j+i)).T t).fg=aEK t.fg)->aEG (w.F j fs) ds=aEG fs ds
 |[],_,_,_=>rfl
 |_::_,_,[],_=>rfl
 |t::fs,j,d::ds,h=>by show aFn d ((w.R j).T t).fg++aEG (w.F (j+1) fs) ds=aFn d t.fg++aEG fs ds;rw[aMe λi u a=>by have:=h (i+1) u a;grind];unfold aFn;have:=h 0 t rfl;grind
omit x N K in
theorem aMf{w:l6}:∀{fs:List Tree}{j:Nat},(Ls (w.F j fs)).length=(Ls fs).length
 |[],_=>rfl
 |t::fs,j=>by have a:=aMf (w:=w) (fs:=fs) (j:=j+1);unfold Ls at a|-;show((((w.R j).T t)::w.F (j+1) fs).flatMap _).length=_;grind[aMb,aMc]
theorem Wk.aPd{j:Nat}{t:Tree}(h:(rs.map pB)[j]? =some t):(((wr (plW rs aq D) new D).R j).T t).bj=t.bj:=by
 rw[aGO];refine if_neg λc=>?_;have m:=aw1 c.1;obtain⟨t2,e,⟨k,nm,s⟩,_⟩:=x.Hn N K m;rw[h] at e;cases e;have f:=x.Ha h;have kd:=f.b;have r:=(aGx f.j).1;cases t with
 |mk tk b g a d ks=>
  have kd:=kd;subst kd;rcases auj.1 s with s|s;rw[aJw qab qab zm] at s;grind;have:=(r _ s).1;omega
theorem Wk.again{c:List (PR Tree)}{l:List (List UInt8)}(L:new.length<=40)(E:∀d∈ayh (wr (plW rs aq D) new D) p,d.a.length<=65536) (y:Ay O (ayh (wr (plW rs aq D) new D) p) c l):
 l=aq/\(∀r∈c,BF r)/\Ih (c.map pB) aq/\Lv (c.map pB) aq/\(SC (c.map pB) aq).b=(SC (rs.map pB) aq).b.map (wr (plW rs aq D) new D).u/\(SC (c.map pB) aq).a.e=0:=by
 have H:=x.wsp N K;generalize m:wr (plW rs aq D) new D=w at*;have dl:l=aq:=by have P:=y.b;have V:=x.A.b;rw[aFO] at P;refine List.ext_getElem zo λi T U=>?_;have hi:i<p.length:=zo;have a:=y.d i (by rw[aFO];omega);rw[aGa hi] at a;have b:=x.A.d i hi;grind
 have R:=y.a;rw[aFO] at R;have rt:∀j(hj:j<c.length) t,(rs.map pB)[j]? =some t->∃n,c[j]=.b ((w.R j).T t) n:=by intro j hj t h;have hd:j<p.length:=zo;have e:=y.r j hj (by rw[aFO];omega);rw[aGa hd] at e;have tl:=E _ (auy (by rw[aFO];omega:j<(ayh w p).length));rw[aGa hd] at tl;subst m;obtain⟨n,S⟩:=x.aPc N K h (hj:=hd) L tl;grind
 have f:∀j,j<c.length->∃t,(rs.map pB)[j]? =some t:=λj hj=>⟨_,atT (by rw[x.pi];omega)⟩;have o:∀r∈c,BF r:=by intro r hr;obtain⟨j,hj,rfl⟩:=avC hr;obtain⟨t,h⟩:=f j hj;obtain⟨n,e⟩:=rt j hj t h;rw[e];trivial
 have NP:c.map pB=w.F 0 (rs.map pB):=by refine avs λj=>?_;rw[aH3,aue,auh];by_cases hj:j<c.length;obtain⟨t,h⟩:=f j hj;obtain⟨n,e⟩:=rt j hj t h;rw[atT hj,e,h];rfl;rw[auI zo,auI (by rw[x.pi];omega)];rfl
 obtain⟨Q,r2,q⟩:=H.ren;have imp:∀i t,(rs.map pB)[i]? =some t->aEK ((w.R (0+i)).T t).fg=aEK t.fg:=λi t h=>by rw[aMb,aue];exact aMd λz M k=>(H.imp h M k).1
 refine⟨dl,o,?_,?_,?_,?_⟩;rw[NP];intro j hj;have u:j<(rs.map pB).length:=by grind
 have g:(w.F 0 (rs.map pB))[j]=(w.R j).T (rs.map pB)[j]:=by have:=aH3 (w:=w) (j:=0) (fs:=rs.map pB) (i:=j);grind
 obtain⟨a,b⟩:=x.C j u;have s:(rs.map pB)[j]? =some (rs.map pB)[j]:=atT u;have v:=x.aPd N K s;rw[m] at v;have im:=imp j _ s;rw[aue] at im;unfold aGm;rw[g,v,im,aMe imp,aMf];exact⟨a,b⟩;rw[NP];exact⟨q.c,q.b,q.a⟩;rw[NP];exact Q;rw[NP,r2];exact x.G
end
mutual
theorem aMg:∀{t:Tree}{lo hi:Int},gX lo hi t->lo+(st t).length<=hi
 |.mk k f b a nm ks,lo,hi,h=>by
  have e:(own k a nm ks).length<=1:=by grind[own]
  unfold gX at h;unfold st;rw[auk];split at h;have:=aGA h.1;omega;split at h;have:=aGA h.2;omega;split at h
  match ks,h with
  |r::ks,h=>
   have c:=aMg h.1;have d:=aGA h.2;grind[stL]
  rename_i c1 c2 c3;have:=aGA h.2;grind[aJw]
theorem aGA:∀{ts:List Tree}{lo hi:Int},gZ lo hi ts->lo+(stL ts).length<=hi
 |[],lo,hi,h=>by have h:lo<=hi:=h;unfold stL;grind
 |t::ts,lo,hi,h=>by obtain⟨md,a,b⟩:=h;have c:=aMg a;have d:=aGA b;grind[stL]
end
theorem aMh{k a:Int}{nm:List UInt8}{ks:List Tree}(h:k=2\/k=3\/k=4\/k=5):(own k a nm ks).length=1:=by rcases h with rfl|rfl|rfl|rfl;rfl;rfl;rfl;rfl
theorem aMi{ic key:List UInt8}{j:Nat}:∀(ts:List Tree)(s:jv),(∀t∈ts,t.bi=4)->(yL ic key j ts s).d.length<=s.d.length+(stL ts).length
 |[],s,_=>by unfold yL stL;simp
 |.mk k f b a nm ks::ts,s,h=>by have g:k=4:=h _ (au0 ..);have d:=aMi (ic:=ic) (key:=key) (j:=j) ts;refine at1 (d _ λt c=>h t (aug _ c)) ?_;have e:stL (.mk k f b a nm ks::ts)=(own k a nm ks++stL ks)++stL ts:=rfl;grind[aMh]
theorem aPe{Q:Bool->Int->List UInt8->Prop}{ic:List UInt8}{j:Nat}:∀(t:Tree)(s:jv),aEL Q t->(kX ic j t s).d.length<=s.d.length+(st t).length
 |.mk k f b a nm ks,s,w=>by have kd:k=2\/k=3\/k=5:=w.k;have o:=aMh (k:=k) (a:=a) (nm:=nm) (ks:=ks) zo;unfold kX st;split;grind;split;rename_i c;refine at1 (aMi _ _ (w.s c)) ?_;grind[Tree.fg];grind
theorem aMj{Q:Bool->Int->List UInt8->Prop}{ic:List UInt8}{j:Nat}:∀(ts:List Tree)(s:jv),(∀t∈ts,aEL Q t)->(tB ic j ts s).d.length<=s.d.length+(stL ts).length
 |[],s,_=>by unfold tB stL;simp
 |t::ts,s,h=>by unfold tB stL;have a:=aPe (ic:=ic) (j:=j) t s (h t (au0 ..));have b:=aMj (ic:=ic) (j:=j) ts (kX ic j t s) λx c=>h x (aug _ c);grind
theorem aMk{Q:Bool->Int->List UInt8->Prop}{aq:List (List UInt8)}{hi:Nat}:∀(ts:List Tree)(j:Nat)(s:jv),(∀t∈ts,(∀y∈t.fg,aEL Q y)/\gZ 0 hi t.fg)->(jG aq ts j s).d.length<=s.d.length+ts.length*hi
 |[],_,s,_=>by unfold jG;simp
 |t::ts,j,s,h=>by unfold jG;obtain⟨d,e⟩:=h t (au0 ..);have a:=aMj (ic:=aq.getD j []) (j:=j) t.fg s d;have b:=aMk (aq:=aq) ts (j+1) (tB (aq.getD j []) j t.fg s) λx f=>h x (aug _ f);have c:=aGA e;grind[Nat.add_mul]
theorem aMl{O:Orc}{p:List Doc}(z:p.length<=6)(hd:∀d∈p,d.a.length<=65536) {rs:List (PR Tree)} {aq:List (List UInt8)} (x:Ay O p rs aq) (ok:∀r∈rs,BF r):O5 (rs.map pB) aq:=by
 have g:∀t∈rs.map pB,rG 65542 0 65536 t/\∀y∈t.fg,aEL (λ_ _ _=>True) y:=by
  intro t f;obtain⟨r,hr,e⟩:=auR.1 f;obtain⟨i,hi,s⟩:=avC hr;have j:i<p.length:=by have:=x.a;omega
  have o:=x.r i hi j;have B:=hd _ (auy j);rw[s] at o;have k:=ok r hr;subst e;cases r with
  |b t m=>
   obtain⟨l,d⟩:=aL7 o.symm;obtain⟨n,v⟩:=d.a;obtain⟨w,tr⟩:=d.b;exact⟨d.Ha.up zo zo,(aLA (aO2 v) _ _ t w tr).2.2.1⟩
  |d=>cases k
  |c=>cases k
 obtain⟨a,b,_,d⟩:=adx (aq:=aq) (rs.map pB) 0 l9 DG0 λt f=>(g t f).1;have C:(rs.map pB).length<=6:=by rw[avd,x.a];omega
 refine⟨λt h=>⟨(g t h).1.fh,(g t h).1.PH zm⟩,λt h=>(g t h).1.d,?_,λfl=>?_⟩;have:=aMk (Q:=λ_ _ _=>True) (aq:=aq) (hi:=65536) (rs.map pB) 0 l9 λt f=>⟨(g t f).2,(g t f).1.c⟩;have:(l9.d).length=0:=rfl;omega;have A:=(ady (aq:=aq) (bu:=(jG aq (rs.map pB) 0 l9).a) (Pd:=λd=>∃q,d∈(jG aq (rs.map pB) 0 l9).a q) (λq d hd=>⟨q,hd⟩) a (λi hi x u e=>by have:=d i hi x u e;grind) (rs.map pB) 0 ⟨fl,(jG aq (rs.map pB) 0 l9).d,[]⟩ (λi=>by grind) (λt f=>(g t f).1) (λ_ h=>h) .nil (λ_ h=>by grind)).2.2;grind
end
def Wj(s:List UInt8):Option (Int×Nat×Int):=
 if 0<gu s then
  if s.take (gu s)∈Cr then some (2,gu s,0) else if 40<gu s then none else if El (s.take (gu s))=false then none else some (1,gu s,0)
 else if 0<dU s then if zS s=true then none else if dU s=1 then some (3,1,0) else none
 else if s.head?=some 34 then none
 else if w9 s [59]=true then some (7,1,0) else if 0<o6 s then some (6,o6 s,0) else none
abbrev aH7(O:Orc):Prop:=∀s,s.length=1/\dU s=1->O.a s=0
section
variable (i:aH7 O)
include i
theorem amG{s:List UInt8}{r}(h:Wj s=some r):azS O.a O.b s=r/\r.2.2 =0:=by
 cases s with
 |nil=>rw[show Wj []=none by rfl] at h;grind
 |cons c s=>
  have q0:∀{x:List UInt8},¬(c::s).head?=some 34->(aEA (c::s))=(0,0):=λ{_} n=>aKZ λe=>n qaa;unfold Wj at h;unfold azS;split at h<;>rename_i b;grind;rw[if_neg b];split at h<;>rename_i d;split at h<;>rename_i a;grind;split at h<;>rename_i g;cases h;refine⟨?_,rfl⟩;have f:aE' c=true:=by grind[aE2,aEt]
  simp_all[aE2,aEt];grind;rw[if_neg d];split at h<;>rename_i a;grind;rw[q0 (x:=[]) a,if_neg zm];grind
end
def Fk(s:List UInt8):Nat->Nat->Tk->List Tk->Option (List Tk)
 |0,_,_,_=>none
 |g+1,a,c,b=>
  if a<s.length then
   if s.getD a 0∈[32,9,13] then Fk s g (a+1) c b
   else if s.getD a 0=10 then Fk s g (a+1) t0 (b++vI c)
   else if w9 (s.drop a) [47,47]=true then none
   else match Wj (s.drop a) with
    |none=>none
    |some r=>Fk s g (a+r.2.1) ⟨r.1,(s.drop a).take r.2.1,a,a+r.2.1⟩ (b++[⟨r.1,(s.drop a).take r.2.1,a,a+r.2.1⟩])
  else some (b++vI c)
theorem PA{O:Orc}(i:aH7 O)(s:List UInt8):∀(g a:Nat)(d:Tk)(b l:List Tk),Fk s g a d b=some l->aER (azS O.a O.b) s g a d b=.b l 0
 |0,_,_,_,_,h=>by cases h
 |g+1,a,d,b,l,h=>by unfold Fk at h;unfold aER;split at h<;>rename_i c;rw[if_pos c];split at h<;>rename_i c1;rw[if_pos c1];exact PA i s g _ _ _ _ h;rw[if_neg c1];split at h<;>rename_i c2;rw[if_pos c2];exact PA i s g _ _ _ _ h;rw[if_neg c2];split at h<;>rename_i c3;grind;rw[if_neg c3];split at h;grind;rename_i r e;obtain⟨f,j⟩:=amG i e;rw[f,if_neg zo];exact PA i s g _ _ _ _ h;grind
def PB(l:List Tk):Bool:=l.all λt=> !bD t [[105,109,112,111,114,116]]
theorem adI{l:List Tk}(h:PB l=true)(n:Nat):¬bD (tk l n) [[105,109,112,111,114,116]]=true:=by rcases avh n l.length with c|c;have:=auO.1 h _ (adh c);grind;rw[adi c];decide
theorem amH{l:List Tk}(h:PB l=true)(f:Nat)(o o':List UInt8->List UInt8×Bool)(n:Nat)(a:List Tree):vH l o f n a=vH l o' f n a:=by
 cases f with
 |zero=>rfl
 |succ f=>simp_all[vH,adI]
theorem amI{l:List Tk}(h:PB l=true)(sz:Nat)(o o':List UInt8->List UInt8×Bool):sj l sz o=sj l sz o':=by unfold sj Ad;grind[amH]
def PD:List UInt8->List UInt8×Bool:=λ_=>([],false)
def Il(s:List UInt8):List Tk:=((Fk s (s.length+1) 0 t0 []).getD [])++[fD s]
def Im(s:List UInt8):Tree:=pB (sj (Il s) s.length PD)
def Io(s:List UInt8):Bool:=decide (s.length<=9000)&&(Fk s (s.length+1) 0 t0 []).isSome&&PB (Il s)&&(match sj (Il s) s.length PD with|.b _ _=>true|_=>false)&& !decide (yu (Im s) 64 (s.length+1)<=s.length)&&s.all λc=>decide (c.toNat<128)
theorem adJ{O:Orc}(i:aH7 O){s:List UInt8}(h:Io s=true):s.length<=9000/\∃n,Al O s=.b (Im s) n:=by
 simp only[Io,atW,auU,avT,awn,auO] at h;obtain⟨⟨⟨⟨⟨m,o⟩,p⟩,e⟩,u⟩,v⟩:=h;refine⟨m,?_⟩;obtain⟨l,el⟩:=awk.1 o;have j:=PA i s _ _ _ _ _ el;have k:Il s=l++[fD s]:=by unfold Il;grind
 have f:¬0<=aFh s:=by have:=aL2 s (r:=[]) v (λg a=>by cases g<;>(unfold aEH;simp)) s.length 0;grind[aFh]
 refine aFj.par (l:=l) ⟨by omega,f,⟨_,j⟩,?_,u⟩;rw[<-k,amI p _ (aET O) PD];unfold Im;revert e;generalize sj (Il s) s.length PD=q;intro e;cases q with
 |b t n=>exact⟨n,rfl⟩
 |d=>grind
 |c=>grind
def amJ:Io (nG Pe).a=true:=by rfl
def amK:Io (nG Pf).a=true:=by rfl
section
variable (i:aH7 O){body:List UInt8}{L:List Int}
def Fl:List (List UInt8):=[[112]]
def adK:rZ (nG body).b=some [112]:=(by rfl:rZ [102,105,108,101,58,47,47,47,112,47,97,46,103,111]=some [112])
include i in
theorem adL{rs:List (PR Tree)}{aq:List (List UInt8)}(g:Io (nG body).a=true)(x:Ay O [nG body] rs aq):∃n,rs=[.b (Im (nG body).a) n]/\aq=Fl:=by
 obtain⟨c,f,a,b,_⟩:=x
 match rs,aq,c,f,a,b with
 |[r],[d],_,_,a,b=>
  obtain⟨n,e⟩:=(adJ i g).2;have a:=a 0 zm zm;have d:=b 0 zm;rw[show([nG body][0]'zm)=nG body from rfl] at a d;exact⟨n,by grind,by cases d;rfl⟩
theorem amL{t f:Tree}(a:t.fg=[f])(c:f.bi=5)(h0:(f.fg.headD zT).bi=0)(b:t.bj=[112]):Ih [t] Fl/\Lv [t] Fl:=by
 have e:jG Fl [t] 0 l9=⟨vQ (λ_=>[]) [112] [⟨3,f.bj,0,f.at,[112]⟩],[],[⟨3,f.bj,0,f.at,[112]⟩],l9.b⟩:=by unfold jG jG;rw[a];unfold tB tB kX;rw[if_neg zo,if_neg zo,if_pos h0];rfl
 refine⟨λj hj=>?_,?_⟩;obtain rfl:j=0:=by grind
 refine⟨b,?_⟩;grind[aEK,aFz];unfold Lv;rw[e];refine⟨λq=>by show(([]:List aC).map _).Nodup;simp,λd h=>(awg h).elim,λq=>?_⟩;grind[vQ]
def aJE(t:Tree):Bool:=decide (t.bj=[112])&&(match t.fg with|[f]=>decide (f.bi=5)&&decide ((f.fg.headD zT).bi=0)|_=>false)
theorem amM{t:Tree}(h:aJE t=true):Ih [t] Fl/\Lv [t] Fl:=by unfold aJE at h;grind[amL]
def Da(body:List UInt8):Sc:=Lw [Im (nG body).a] Fl vW
include i in
theorem adM(a:Io (nG body).a=true)(g:aJE (Im (nG body).a)=true)(q:(Da body).b.length<1000000)
 (p:(Da body).a.e≠0->L=[(Da body).a.e,w64 ((Da body).a.a- 10)]) (r:(Da body).a.e=0->L=vX (Da body).b):Told O body L:=by
 have o:=(adJ i a).1;have m:∀d∈[nG body],d.a.length<=9000:=λd hd=>by grind
 obtain⟨k,l⟩:=amM g;refine⟨adn _ _ zo,?_,by rw[adK];simp,λrs aq x ok=>(Wb zm m x ok).1,λrs aq f x h b=>?_,λrs aq s x j b=>?_⟩;grind[nG];obtain⟨n,rfl,rfl⟩:=adL i a x;rcases h with e|⟨_,c⟩;subst e;exact absurd rfl b;have e:f=(Da body).a:=c k l;grind;obtain⟨n,rfl,rfl⟩:=adL i a x;obtain⟨_,_,_,e⟩:=j;have e:s=Da body:=e;grind
include i in
theorem adN:Told O Pe Ph:=adM i amJ qab qam (λh=>absurd qab h) λ_=>by rfl
include i in
theorem adO:Told O Pf Pj:=adM i amK qab qam (λ_=>by rfl) λh=>absurd h qam
end
section
variable {T:aM->Option CF}
variable {h g:Hp}{k:aK->Prop}{f:List Doc}{sub:List UInt8}
theorem aPf{a b:List UInt8}(l:a.length=b.length):Nat.beq (cO (a.map (·.toNat))) (cO (b.map (·.toNat)))=decide (a=b):=by rw[tZ];by_cases e:a=b;grind;have:cO (a.map (·.toNat))≠cO (b.map (·.toNat)):=λq=>e (aha (by unfold S;grind));grind
theorem aMm:∀(k j:Nat),j+k+sub.length<=s.length+1->decide (0<=aeS (cO (s.map (·.toNat))) (cO (sub.map (·.toNat))) sub.length k j)=(List.range' j k).any λi=>decide ((s.drop i).take sub.length=sub)
 |0,_,_=>rfl
 |k+1,j,h=>by
  have e:Yv.sub (cO (s.map (·.toNat))) j (j+sub.length)=cO (((s.drop j).take sub.length).map (·.toNat)):=by grind[Te]
  rw[awD,List.any_cons,<-aMm k (j+1) zo];grind[aeS,aPf]
theorem aPg(h:sub≠[]):((List.range' 0 (s.length+1- sub.length)).any λi=>decide ((s.drop i).take sub.length=sub))=decide (sub<:+:s):=by rw[avA,awE,axA];constructor;rintro⟨i,hi,e⟩;exact⟨s.take i,(s.drop i).drop sub.length,by grind[List.take_append_drop]⟩;rintro⟨a,b,rfl⟩;refine⟨a.length,aQi.2 ⟨auz _,by grind⟩,avf ?_⟩;grind
theorem aMn(b:aA T)(i:cellsOf (h.ab 0) 0 1=some [.D])(h0:sub≠[])(d:s.length<=1073741824)(a:k (.a (.g (decide (sub<:+:s))) h)):aE T (W T) ⟨21⟩ [S s,S sub] h k:=by
 unfold aE;rw[b.t21];show aFm 0 _ h k;unfold aFm S;rw[i];have pos:0<sub.length:=auA.2 h0;simp only[ny,ao2,wL,show(1<=sub.length) from pos,d,auS,avl,cond];by_cases c:sub.length<=s.length+1;have e:=aMm (s:=s) (sub:=sub) (s.length+1- sub.length) 0 zo;rw[aPg h0] at e;rw[<-e] at a;revert a;generalize aeS _ _ _ _ _=y;cases y with
 |ofNat n=>simp
 |negSucc n=>simp
 have:s.length+1- sub.length=0:=zo;rw[this];have n:¬sub<:+:s:=λq=>by grind
 rw[auK n] at a;exact a
theorem aPh{n:Nat}:List.replicate n (122:UInt8)<:+:List.replicate (n+1) 122:=by grind
theorem vV.ph(x:vV h v f){j:Nat}(hj:j<f.length):∃b cap ex r t,v=.c b 0 3 f.length cap ex/\tC (h.ab b) r t/\f.length<=r/\∀j,(hj:j<f.length)->t j=f[j].fj:=by rcases x with⟨rfl,_⟩|x;grind;omega
theorem aPi(C:aA T)(G:cellsOf (h.ab 0) 0 1=some [.D])(hd:vV h v f)(Z:f.length<1073741824)(X:∀d∈f,d.a.length<=9000) (R:∀n,n<=9000->aFw f (List.replicate (n+2) 122)->k (.a (S (List.replicate (n+2) 122)) h)):aE T (W T) ⟨8⟩ [v] h k:=by
 rw[aJ C.t8];generalize K:CC.f (.g (z q8 7)) .k=E;generalize F:CC.d l8_1=L;refine ag ?_;subst F;have key:∀(m i n:Nat)(a:Fr),i+m=f.length->n<=9000->(∀j(hj:j<f.length),j<i->¬List.replicate (n+2) 122<:+:f[j].a)->an 0 a=v->an 3 a=S (List.replicate (n+2) 122)->an 4 a=.i i->
  W T (.d l8_1) a h [] (bY 0 (bF (W T E) (finish T (W T) [.a 2] k))):=by
  intro m;induction m with
  |zero=>
   intro i n a hi A o f0 f3 f4;obtain rfl:i=f.length:=zo;rw[aP];refine bK f0 f3 f4 (hd.pi (H:=h)) ?_;subst K;refine aB f3 ?_;exact R n A ⟨⟨n,rfl⟩,λd m=>by obtain⟨j,hj,rfl⟩:=avC m;grind⟩
  |succ m D=>
   intro i n a hi A o f0 f3 f4;have u:i<f.length:=zo;have P:(i:Int)<f.length:=zo;have Y:=X _ (auy u);obtain⟨b,cap,ex,r,t,I,J,hr,U⟩:=hd.ph u;have lb:=J.lt;have p:=J.yV (by omega:i<r) (U i u);rw[aP];generalize F:CC.d l8_1=L at D|-;unfold l8_1 zt;generalize l:CC.d l8_0=M;refine bK f0 f4 (hd.pi (H:=h)) P ?_;have N:∀(w n:Nat)(a:Fr),n+w=9000->(∀j(hj:j<f.length),j<i->¬List.replicate (n+2) 122<:+:f[j].a)->an 0 a=v->an 3 a=S (List.replicate (n+2) 122)->an 4 a=.i i->
    W T (.d l8_0) a h [] (bY 2 (bY 1 (bF (W T (.g (z q8 6))) (bF (W T L) (bY 0 (bF (W T E) (finish T (W T) [.a 2] k))))))):=by
    intro w;induction w with
    |zero=>
     intro n a A o f0 f3 f4;have V:¬List.replicate (n+2) 122<:+:f[i].a:=λq=>by grind
     rw[aP];rw[I] at f0;refine cC f0 f3 f4 u p ?_;refine aMn C G zm zo ?_;refine aS V f4 ?_;refine D (i+1) n _ zo zo (λj hj B=>?_) qae (au f3) aa;by_cases e:j=i;grind;grind
    |succ w y=>
     intro n a A o f0 f3 f4;rw[aP];generalize l:CC.d l8_0=M at y|-;have x:=f0;rw[I] at x;refine cC x f3 f4 u p ?_;refine aMn C G zm zo ?_;by_cases c:List.replicate (n+2) 122<:+:f[i].a;have Q:lG (S (List.replicate (n+2) 122)) (S [122])=.v (S (List.replicate (n+1+2) 122)):=by rw[Tc zn,show n+1+2=n+2+1 by omega,List.replicate_succ' (n:=n+2)]
     refine aU c f3 Q ?_;subst l;refine y (n+1) _ zo (λj hj B q=>o j hj B (aPh.trans q)) (au f0) aa (au f4);refine aS c f4 ?_;subst l;refine D (i+1) n _ zo zo (λj hj B=>?_) (au f0) (au f3) aa;by_cases e:j=i;subst e;exact c;exact o j hj zo
   subst l;exact N (9000- n) n _ zo o (au f0) (au f3) (au f4)
 exact key f.length 0 0 _ zo zd (λj hj h=>absurd h (avm _)) aa aa aa
end
section
variable {h l:Hp}{k:aK->Prop}{L:List Int}{a b x:Int}
theorem aPj{el l5 n o:Nat}{t:N3 (List AV)}{fz:Nat}(hr:o+n<=l5):kZ (.b el 1 l5 fz t) o 1 n=some (dw t n o):=by simp only[kZ,tZ,ny,vp,Ef,Ee,axV,axW,hr,auS,avl,cond]
theorem tD.sl(y:tD h v L){lo hi:Option AV}{p q:Nat}(d:∀cap,L.length<=cap->bounds lo hi L.length cap=some (p,q)) (c:p<=q) (f:q<=L.length) {H:Hp}:
 ∃w,FQ H 1 0 v lo hi=.v w/\lenOf w=some (q- p)/\∀c:Hp,(∀i r t,h.ab i=.b 3 1 r 0 t->c.ab i=h.ab i)->rL c 1 w=some (((L.drop p).take (q- p)).map λa=>[.i a]):=by
 rcases y with⟨rfl,rfl⟩|⟨i,cap,ex,r,t,⟨rfl,g⟩,hi,hr,m⟩;have d:=d 0 zl;simp at d f;refine⟨.h,?_,?_,λc _=>?_⟩;simp_all[FQ];show some 0=_;grind;rw[show q- p=0 by omega];rfl;refine⟨.c i (0+p*1) 1 (q- p) (cap- p) ex,?_,rfl,λH e=>?_⟩;simp_all[FQ];have:rL H 1 (.c i (0+p*1) 1 (q- p) (cap- p) ex)=some (dw t (q- p) p):=by simp[rL,e i r t hi,hi,wo];grind[aPj]
 rw[this];refine aui some (avs λj=>?_);grind[vw,oZ]
theorem aMo{H:Hp}{el rw g:Nat}{x y:AV}(j:rL H rw y=some [])(i:lenOf y=some 0)(m:x=.h\/∃a b c d e f,x=.c a b c d e f):kJ H el rw g x y=.v x:=by unfold kJ;grind
theorem xx.is{lo:Nat}(x:xx lo h v L):v=.h\/∃a b c d e f,v=.c a b c d e f:=by rcases x with⟨_,rfl⟩|⟨_,_,_,_,_,rfl,_⟩;grind;grind
def aPk{n K:Nat}(h:K<=n):∀cap,n<=cap->bounds none (some (.i (K:Int))) n cap=some (0,K):=λcap c=>by have:K<=cap:=zo;simp_all[bounds]
def aMp{n K:Nat}(h:K<=n):∀cap,n<=cap->bounds (some (.i (K:Int))) none n cap=some (K,n):=λcap c=>by simp_all[bounds]
theorem aPl(HT:aA T)(F:tD h v L)(hl:L.length<536870912)(hk:∀h' v',ax h h'->xx h.a h' v' (aFD L a)->k (.a v' h')):aE T (W T) ⟨9⟩ [v,.i a] h k:=by
 rw[aJ HT.t9];generalize qE:CC.f (.g (z q9 4)) _=X;generalize Y:CC.d l9_0=Lp;refine aB (F.pi (H:=h)) ?_;subst Y;have Z:∀(d:Fr)(K:Nat),aEV L a L.length=K->an 0 d=v->an 1 d=.i a->an 5 d=.i K->W T X d h [] (finish T (W T) [.a 4] k):=by
  intro d K hK f0 j f5;have u:=aJA L a L.length;rw[hK] at u;subst qE;obtain⟨R,M,l1,s1⟩:=F.sl (H:=h) (aPk u) (auz _) u;have w:=s1 h λ_ _ _ e=>rfl;have ek:List.take (K- 0) (List.drop 0 L)=L.take K:=by rfl
  rw[ek] at s1 w;have tl:(L.take K).length=K:=by grind
  unfold aFD at hk;rw[hK] at hk;generalize Vj:CC.f (.g (z q9 6)) _=T6;have a1:∃G f,(kJ h 3 1 8 .h R=.b G f\/kJ h 3 1 8 .h R=.v G/\f=h)/\xx h.a f G (L.take K)/\ax h f:=by by_cases I:K=0;subst I;exact⟨.h,h,.inr ⟨aMo w l1 (.inl rfl),rfl⟩,.inl ⟨rfl,rfl⟩,ah.cg _⟩;obtain⟨v',H',ea,hI,g⟩:=(show xx h.a h .h [] from .inl ⟨rfl,rfl⟩).ss (K:=L.take K) (y:=R) zm zl qaa zo (ah.cg _) w qaa;exact⟨v',H',.inl ea,by grind,g h zl (ah.cg _)⟩
  obtain⟨G,f,p,I1,g1⟩:=a1;have rest:∀d:Fr,an 0 d=v->an 1 d=.i a->an 5 d=.i K->an 6 d=G->W T T6 d f [] (finish T (W T) [.a 4] k):=by
   intro d f0 j f5 f6;subst Vj;obtain⟨S,e2,Q,s2⟩:=F.sl (aMp u) u zl (H:=f);generalize HA:CC.f (.g (z q9 7)) _=T7;refine aS j f6 ?_;generalize J:(f.am _:Hp)=U;have O:ax f U:=by rw[<-J];exact aZ
   obtain⟨t1,u1,E4⟩:∃t1,U.ab f.a=.b 3 1 1 0 t1/\t1 0=[.i a]:=⟨_,by rw[<-J];exact Hp.bv rfl,by simp⟩;clear J;have n1:=g1.g;obtain⟨v2,P,N,V,g2⟩:=I1.ss zo n1 (K:=[a]) (y:=.c f.a 0 1 1 1 true) zm zm O (aNV (a:=0) u1 E4) rfl;have D:=g2 h zl g1;rw[N];subst HA;obtain⟨S,e2,Q,s2⟩:=F.sl (aMp u) u zl (H:=P);have o:=s2 P λi r t e=>D.f i (Hp.lt e rfl) id;have ed:(L.drop K).take (L.length- K)=L.drop K:=avG qaa;rw[ed] at o;have n2:=D.g;by_cases I:L.drop K=[];have l0:L.length- K=0:=by simp_all
   rw[l0] at Q;rw[I] at o;have B:kJ P 3 1 8 v2 S=.v v2:=aMo o Q V.is;simp_all;obtain⟨v3,h3,B,I3,g3⟩:=V.ss qaa n2 (K:=L.drop K) (y:=S) I qaa (ah.cg _) o qaa;refine bK f0 f5 e2 B ?_;grind
  rcases p with p|⟨p,rfl⟩;simp_all;simp_all
 have key:∀(n:Nat)(d:Fr),n<=L.length->aEV L a n=aEV L a L.length->an 0 d=v->an 1 d=.i a->an 5 d=.i n->W T (.d l9_0) d h [] (bY 0 (bF (W T X) (finish T (W T) [.a 4] k))):=by
  intro n;induction n with
  |zero=>
   intro d hn m f0 j f5;rw[aP];refine aB f5 ?_;exact Z _ 0 m.symm (au f0) (au j) (au f5)
  |succ n ih=>
   intro d hn m f0 j f5;have A:n<L.length:=zo;obtain⟨q,cap,ex,r,t,rfl,hb,hr,ht⟩:=F.ph A;have E:=ht n A;have C:an 5 d=.i ((n:Int)+1):=f5;have pos:(0:Int)<(n:Int)+1:=zo;have m:(if a<L.getD n 0 then aEV L a n else n+1)=aEV L a L.length:=m;rw[aub,atT A,avo] at m;have jr:n<r:=zo;have M:((n:Int)+1- 1)=n:=zo;rw[aP];generalize Y:CC.d l9_0=Lp at ih|-;by_cases c:a<L[n];rw[if_pos c] at m;refine mz f0 j C pos M A hb E c ?_;refine ih _ zo m (au f0) (au j) aa;rw[if_neg c] at m;refine mz f0 j C pos M A hb E c ?_;exact Z _ (n+1) m.symm (au f0) (au j) (au f5)
 exact key L.length _ zl rfl aa aa aa
def aPm{c:Nat}(d:-131072<=b/\b<=131072)(g:c<=1048576):-137438953472<=b*c/\b*c<=137438953472:=by have e:b*c<=131072*(c:Int):=aP' d.2 zo;have f:-131072*(c:Int)<=b*c:=aP' d.1 zo;omega
theorem aMq(C:aA T)(w:tD h v L)(M:L.length<=1048576)(N:-1073741824<=x/\x<=1073741824)(G:-131072<=b/\b<=131072)(K:k (.a (.i (shS L b x)) h)):aE T (W T) ⟨11⟩ [.i x,v,.i b] h k:=by
 rw[aJ C.t11];generalize B:CC.f (.g (z q11 7)) .k=E;generalize o:CC.d l11_0=D;refine ag ?_;subst o;have key:∀(n j:Nat)(d:Fr),j+n=L.length->an 0 d=.i x->an 1 d=v->an 2 d=.i b->an 7 d=.i (shS (L.take j) b x)->an 8 d=.i j->W T (.d l11_0) d h [] (bY 0 (bF (W T E) (finish T (W T) [.a 6] k))):=by
  intro n;induction n with
  |zero=>
   intro j d hj f0 e f f7 f8;obtain rfl:j=L.length:=zo;rw[aP];refine bK e f7 f8 (w.pi (H:=h)) ?_;subst B;refine aB f7 ?_;omega
  |succ n m=>
   intro j d hj f0 e f f7 f8;have i:j<L.length:=zo;have u:(j:Int)<L.length:=zo;obtain⟨q,cap,ex,r,t,rfl,A,hr,I⟩:=w.ph i;have y:=I j i;have O:j<r:=zo;have F:((L.take j).filter λp=>decide (p<x)).length<=1048576:=at1 (aQd _ _) qaa;have J:=aPm G F;have g:shS (L.take (j+1)) b x=shS (L.take j) b x+if L[j]<x then b else 0:=by unfold shS;rw[avb i,List.filter_append,auk,awB,List.filter_nil];by_cases c:L[j]<x;grind;grind
   have sb:-275951648768<=shS (L.take j) b x/\shS (L.take j) b x<=275951648768:=by unfold shS;omega
   rw[aP];generalize o:CC.d l11_0=D at m|-;by_cases c:L[j]<x;rw[if_pos c] at g;refine mz f0 e f f7 f8 u A y c ?_;refine m (j+1) _ zo (au f0) (au e) (au f) ?_ aa;rw[g];exact au f7;rw[if_neg c,Int.add_zero] at g;refine mz f0 e f f7 f8 u A y c ?_;refine m (j+1) _ zo (au f0) (au e) (au f) ?_ aa;rw[g];exact au f7
 refine key L.length 0 _ zo aa aa aa ?_ aa;have:shS (L.take 0) b x=x:=by unfold shS;simp
 rw[this];exact aa
end
section
variable {h:Hp}{k:aK->Prop}{L:List Int}{iI:List UInt8}
theorem aPn(M:aA T)(E:tD h v L)(P:aFb s iI L)(h0:iI≠[])(hs:s.length<=65536)(V:L.length<=65536)(F:new.length<=65536)(hk:k (.a (.o [S (rnS s iI new L 0),.g true]) h)):aE T (W T) ⟨10⟩ [S s,v,S iI,S new] h k:=by
 rw[aJ M.t10];generalize K:CC.f (.g (z q10 10)) .k=Q;generalize C:CC.d l10_0=O;refine ag ?_;subst C;have key:∀(n j:Nat)(p:Nat)(out:List UInt8)(d:Fr),j+n=L.length->out++rnS s iI new (L.drop j) p=rnS s iI new L 0->p<=s.length->out.length<=p+j*new.length->(∀q∈L.drop j,(p:Int)<=q)->an 0 d=S s->an 1 d=v->an 2 d=S iI->an 3 d=S new->an 10 d=S out->an 11 d=.i p->an 12 d=.i j->
  W T (.d l10_0) d h [] (bY 0 (bF (W T Q) (finish T (W T) [.a 8,.a 9] k))):=by
  intro n;induction n with
  |zero=>
   intro j p out d hj f X B o f0 i u f3 f10 f11 f12;obtain rfl:j=L.length:=zo;rw[List.drop_length] at f;have f:out++s.drop p=_:=f;have mb:=axp V F;have hc:lG (S out) (S (s.drop p))=.v (S (rnS s iI new L 0)):=by grind[Tc]
   rw[aP];refine aU i f12 (E.pi (H:=h)) ?_;subst K;simp_all
  |succ n G=>
   intro j p out d hj f X B o f0 i u f3 f10 f11 f12;have g:j<L.length:=zo;have y:(j:Int)<L.length:=zo;obtain⟨b,cap,ex,r,t,rfl,D,hr,Z⟩:=E.ph g;have I:=Z j g;have J:j<r:=zo;rw[aut g] at f o;have m:=auy g;have Y:=o _ (au0 ..);obtain⟨q0,q,e⟩:=P.b _ m;have ft:=P.fit h0 m;have rR:∀q∈L.drop (j+1),L[j]+iI.length<=q:=λq w=>by have:=P.c.sublist (aQj j L);rw[aut g] at this;exact(avx.1 this).1 q w
   generalize hz:L[j]=c at*;obtain⟨c,rfl⟩:=at6 q0;rw[awr] at e;have f:out++((s.drop p).take ((c:Int).toNat- p)++new++rnS s iI new (L.drop (j+1)) ((c:Int).toNat+iI.length))=_:=f;rw[awr] at f;have sl:wh (S s) (some (.i (c:Int))) (some (.i ((c:Int)+iI.length)))=.v (S iI):=by rw[asa zo zo zo];have:((c:Int)+iI.length).toNat- (c:Int).toNat=iI.length:=zo;rw[this,awr,e,aP5]
   have c1:¬(c:Int)<p:=zo;have c2:¬(s.length:Int)<(c:Int)+iI.length:=zo;have pz:(p:Int)<=c:=zo;have zs:(c:Int)<=s.length:=zo;have mb:j*new.length<=65536*65536:=axp zo F;have lt:((s.drop p).take (c- p)).length<=c- p:=List.length_take_le _ _;have A:lG (S out) (S ((s.drop p).take (c- p)))=.v (S (out++(s.drop p).take (c- p))):=Tc zo;have U:lG (S (out++(s.drop p).take (c- p))) (S new)=.v (S (out++(s.drop p).take (c- p)++new)):=Tc (by rw[auk];omega);have zp:(c:Int).toNat- (p:Int).toNat=c- p:=zo;have N:wh (S s) (some (.i (p:Int))) (some (.i (c:Int)))=.v (S ((s.drop p).take (c- p))):=by rw[asa zo zo zo,zp,awr]
   rw[aP];generalize C:CC.d l10_0=O at G|-;unfold l10_0 zt;generalize R:CC.f (.g (z q10 7)) (.g (z q10 8))=R8;generalize ju:CC.h r10_5=Dr;refine aU i f12 y ?_;subst ju;rw[lI,aEE];simp only[ku,GX,GY];simp(disch:=omega) [-asa,f0,i,u,f3,f10,f11,f12,g,y,D,I,J,c1,c2,sl];subst R;simp(disch:=omega) [-asa,-Tc,f0,i,u,f3,f10,f11,f12,g,y,D,I,J,N,A,U];refine G (j+1) (c+iI.length) (out++(s.drop p).take (c- p)++new) _ zo (by rw[<-f];simp only[av7]) zo ?_ (λq w=>by have:=rR q w;omega) (au f0) (au i) (au u) (au f3) aa aa aa;rw[auk,auk,auC];omega
 exact key L.length 0 0 [] _ zo zm (auz _) zm (λq o=>(P.b q (by simpa using o)).1) aa aa aa aa aa aa aa
end
section
open Classical
variable {T:aM->Option CF}
def PlA(h:Hp)(pb N:Nat)(l:Nat->List Int):Prop:=∃t,h.ab pb=.b 40 1 N 0 t/\∀j,j<N->∃w,t j=[w]/\tD h w (l j)
def aMr{D:aC}:∀(a b:List dx)(m:Nat->List Int),aED D (a++b) m=aED D b (aED D a m)
 |[],_,_=>rfl
 |u::a,b,m=>by show aED D (a++b) _=aED D b (aED D a _);rw[aMr a b]
section
variable {h:Hp}{k:aK->Prop}{lv:AV}{d:List dx}{u:dx}{N:Nat}{l:Nat->List Int}
def PlA.g0(x:PlA h pb N l)(g:ax h h'):PlA h' pb N l:=by obtain⟨t,e,y⟩:=x;exact⟨t,(g.f _ (Hp.lt e rfl) id).trans e,λj hj=>by obtain⟨w,a,b⟩:=y j hj;exact⟨w,a,b.g0 g⟩⟩
theorem PlA.dT(x:PlA h pb N l)(g:ax h h'){j:Nat}{w:AV}{M:List Int}(I:tD h' w M){t:N3 (List AV)}(e:h.ab pb=.b 40 1 N 0 t):PlA (h'.dT pb (.b 40 1 N 0 (cx t j [w]))) pb N λi=>if i=j then M else l i:=by
 have p:=Hp.lt e rfl;have kp:∀i r t2,h'.ab i=.b 3 1 r 0 t2->(h'.dT pb (.b 40 1 N 0 (cx t j [w]))).ab i=h'.ab i:=λi r t2 q=>by refine Hp.fv λc=>?_;subst c;rw[g.f _ p id,e] at q;grind
 obtain⟨t2,m,y⟩:=x;rw[e] at m;cases m;refine⟨_,Hp.fp rfl,λi hi=>?_⟩;rw[dZ];show∃b,_/\tD _ b (if i=j then M else l i);by_cases c:i=j;rw[if_pos c,if_pos c];exact⟨w,rfl,I.kp kp⟩;rw[if_neg c,if_neg c];obtain⟨a,n,o⟩:=y i hi;exact⟨a,n,(o.g0 g).kp kp⟩
theorem aPo(HT:aA T)(hn:pA f lv d)(VT:d.length<268435456)(hd:∀w∈d,w.f=true->w.d=u.d->0<=w.a/\w.a<N) (hu:f.ab ub=.a 37 u.fj) (p0:∃t,f.ab pb=.b 40 1 N 0 t) (hN:N<1048576):∀(n i:Nat)(h:Hp)(m:Fr)(K:aT->Prop),i+n=d.length->ah (·=pb) f h->
 PlA h pb N (aED u.d (d.take i) (pl0 u.d))->an 7 m=lv->an 8 m=.a ub 0->an 11 m=.c pb 0 1 N N true->an 12 m=.i i->
 (∀f' h',(∀q,q<=11->an q f'=an q m)->ah (·=pb) f h'->PlA h' pb N (aED u.d d (pl0 u.d))->K (.a 0 f' h' []))->W T (.d l3_2) m h [] K:=by
 intro n;obtain⟨tp,hp⟩:=p0;have lpB:=Hp.lt hp rfl;have X:=Hp.lt hu rfl;have Y:ub≠pb:=λe=>by grind
 induction n with
 |zero=>
  intro i h m K hi g x f7 f8 f11 f12 V;obtain rfl:i=d.length:=zo;rw[List.take_length] at x;rw[aP];refine aU f7 f12 (hn.pi (H:=h)) ?_;exact V _ _ (λq p=>by repeat rw[qA,if_neg zo]) g x
 |succ n ih=>
  intro i h m K hi g x f7 f8 f11 f12 V;have o:i<d.length:=zo;have C:(i:Int)<d.length:=zo;obtain⟨q,t,rfl,p,ht⟩:∃q t,lv=.c q 0 9 d.length d.length false/\f.ab q=.b 37 9 d.length 0 t/\∀j,(hj:j<d.length)->t j=d[j].fj:=by rcases hn with⟨rfl,_⟩|⟨_,x⟩;grind;omega
  have lq:=Hp.lt p rfl;have nq:q≠pb:=λe=>by grind
  have B:=(g.f _ lq nq).trans p;have s:=(g.f _ X Y).trans hu;have r:=ht i o;have D:aED u.d (d.take (i+1)) (pl0 u.d)=if d[i].f=true/\d[i].d=u.d then λ(j:Nat)=>if d[i].a=(j:Int) then aFD (aED u.d (d.take i) (pl0 u.d) j) d[i].c else aED u.d (d.take i) (pl0 u.d) j else aED u.d (d.take i) (pl0 u.d):=by rw[avb o,aMr];rfl
  have U:=hd _ (auy o);have ln:∀j,(aED u.d (d.take i) (pl0 u.d) j).length<536870912:=λj=>by grind[aLT,pl0]
  generalize d[i]=w at*;simp only[dx.fj] at r s;have Q:cJ (.b [.b .i64,.a,.b .i64,.b .i64,.a]) (.p [.i w.d.b,S w.d.a,.i w.d.c,.i w.d.f,S w.d.g]) (.p [.i u.d.b,S u.d.a,.i u.d.c,.i u.d.f,S u.d.g])=some (decide (w.d=u.d)):=K2;rw[aP];generalize hL:CC.d l3_2=L at ih|-;unfold l3_2 zt;generalize hR:CC.g (z q3 20)=R;generalize ju:CC.h r3_19=Dr;have next:∀(M:Fr)(F:Hp),(∀q,q<=12->an q M=an q m)->ah (·=pb) f F->PlA F pb N (aED u.d (d.take (i+1)) (pl0 u.d))->W T R M F [] (bF (W T L) K):=by
   intro M F Ci g1 x1;have E:=(Ci 12 zo).trans f12;subst hR;refine aB E ?_;refine ih (i+1) F _ K zo g1 x1 ?_ ?_ ?_ aa λf' h' hf=>V f' h' λq p=>?_;simp_all;simp_all;simp_all
   ·rw[hf q p]
    repeat rw[qA,if_neg zo]
    grind
  by_cases c:w.f=true/\w.d=u.d
  ·rw[if_pos c] at D;obtain⟨d0,d1⟩:=U c.1 c.2;obtain⟨j,ej⟩:=at6 d0;have hj:j<N:=zo;have x2:=x;obtain⟨t2,A,y⟩:=x;obtain⟨z,ez,I⟩:=y j hj;have le:=Hp.lt A rfl;have c1:=c.1;rw[ej] at r;rw[avf c.2] at Q;refine wM f7 f8 f11 f12 o C B r s Q c1 ?_;subst ju;rw[lI,aEE];generalize ku r3_19 _=fm;simp(disch:=omega) [f7,f8,f11,f12,o,C,B,r,hj,A,ez];refine aPl HT I (ln j) λh' v' G Z=>?_;have J:=(G.f _ (Hp.lt B rfl) id).trans B;have P:=(G.f _ le id).trans A;have cv:=Z.il;simp(disch:=omega) [f7,f8,f11,f12,o,C,J,r,hj,P,ez,cv];refine next _ _ (λq p=>?_) ?_ ?_
   ·repeat rw[qA,if_neg zo]
   exact(g.ba (ah.mr G)).dT _ (.inr rfl);have e3:(λa=>if a=j then aFD (aED u.d (d.take i) (pl0 u.d) j) w.c else aED u.d (d.take i) (pl0 u.d) a)=λ(a:Nat)=>if w.a=(a:Int) then aFD (aED u.d (d.take i) (pl0 u.d) a) w.c else aED u.d (d.take i) (pl0 u.d) a:=by grind
   rw[D,<-e3];exact x2.dT G (j:=j) Z.iv A
  ·rw[if_neg c] at D;have go:∀b:Bool,w.f=b->b=true->w.d≠u.d:=λb e1 A q=>c ⟨e1.trans A,q⟩;by_cases c1:w.f=true
   ·have c2:¬w.d=u.d:=go _ c1 rfl;refine pU f7 f8 f11 f12 o C B r s Q c1 c2 ?_;refine next _ _ (λq p=>?_) g (by rw[D];exact x)
    repeat rw[qA,if_neg zo]
   ·refine mz f7 f8 f11 f12 o C B r c1 ?_;refine next _ _ (λq p=>?_) g (by rw[D];exact x)
    repeat rw[qA,if_neg zo]
end
def aFx(lo:Nat)(h:Hp)(v:AV)(ds:List Doc):Prop:=
 ds=[]/\v=.h\/ds≠[]/\∃q r t,lo<=q/\v=.c q 0 3 ds.length ds.length false/\h.ab q=.b 45 3 r 0 t/\ds.length<=r/\∀j,(hj:j<ds.length)->t j=ds[j].fj
section
variable {h:Hp}{k:aK->Prop}{lv mv o:AV}{p:List dx}{u:dx}{N lo:Nat}{l:Nat->List Int}{a:List Doc}{d:Doc}{w:l6}
def aFx.da(x:aFx lo h v ds):vV h v ds:=by rcases x with x|⟨_,q,r,t,_,b,c,e⟩;exact .inl x;exact .inr ⟨q,_,_,r,t,b,.inl ⟨0,c⟩,e⟩
def aFx.il(x:aFx lo h v ds):bQ v=some [v]:=by rcases x with⟨_,rfl⟩|⟨_,q,r,t,_,rfl,_⟩<;>rfl
def aFx.g0(x:aFx lo h v ds)(g:ax h h'):aFx lo h' v ds:=by rcases x with x|⟨x,q,r,t,i,b,c,e⟩;exact .inl x;exact .inr ⟨x,q,r,t,i,b,by rw[g.f q (Hp.lt c rfl) id];omega,e⟩
theorem aFx.ss(x:aFx lo h v ds)(J:ds.length<1073741824)(H:lo<=h.a){c:Hp}(m:ax h c){b:Nat}{t1:N3 (List AV)}(F:c.ab b=.b 45 3 1 0 t1)(C:t1 0=d.fj):
 ∃v' s,kJ c 45 3 40 v (.c b 0 3 1 1 true)=.b v' s/\aFx lo s v' (ds++[d])/\∀f:Hp,f.a<=lo->ax f h->ax f s:=by
 have M:=m.g;have A:=wN (h:=c) (rw:=3) (cap:=1) (ex:=true) F zl;rw[C] at A;rcases x with⟨rfl,rfl⟩|⟨I,q,r,t,L,rfl,B,hr,K⟩;have z:=A7 (h:=c) (el:=45) (rw:=3) (bytes:=40) (n:=0) (y:=.c b 0 3 1 1 true) A rfl qab;refine⟨_,_,z,.inr ⟨by simp,c.a,1,_,by omega,rfl,Hp.bv rfl,at2 _,λj hj=>?_⟩,λf E g=>(g.ba m).am _⟩;obtain rfl:j=0:=by grind
 simp;have D:=Hp.lt B rfl;have G:=(m.f _ D id).trans B;have z:=A8 (h:=c) (el:=45) (rw:=3) (bytes:=40) (n:=0) (i:=q) (len:=ds.length) (l5:=r) (t:=t) (y:=.c b 0 3 1 1 true) G hr A rfl (rV zo zo);have e:(c.dT q .c).a=c.a:=Hp.my zo;refine⟨_,_,z,.inr ⟨by simp,c.a,ds.length+(0+1),_,by omega,by simp,Hp.bv e.symm,by simp,λj hj=>?_⟩,λf E g=>((g.ba m).dT _ (.inl zo)).am _⟩;grind[G3]
theorem aPq(HT:aA T)(hd:vV f o a)(hl:a.length<1048576)(sm:∀d∈a,d.a.length<=65536) (hu:f.ab ub=.a 37 u.fj) (x:PlA f pb a.length l) (P:∀j(hj:j<a.length),aFb a[j].a u.b (l j)/\(l j).length<=65536) (h0:u.b≠[]) (hw:new.length<=65536)
 (hW:∀j(hj:j<a.length),rnS a[j].a u.b new (l j) 0=spl (w.R j) 0 0 a[j].a)
 (aw:∀M,ax f M->∀k':aK->Prop,(∀h',Fm M h'->k' (.a (.g true) h'))->aE T (W T) ⟨5⟩ [] M k'):∀(n i:Nat)(E:AV)(h:Hp)(A:Fr)(K:aT->Prop),i+n=a.length->ax f h->aFx f.a h E ((ayh w a).take i)->(∀d∈(ayh w a).take i,d.a.length<=65536)->
 an 0 A=o->an 8 A=.a ub 0->an 9 A=S new->an 11 A=.c pb 0 1 a.length a.length true->an 13 A=E->an 14 A=.i i->
 (∀f' h' J,(∀q,q<=12->an q f'=an q A)->an 13 f'=J->ax f h'->aFx f.a h' J (ayh w a)->(∀d∈ayh w a,d.a.length<=65536)->K (.a 2 f' h' []))->(∀f' h',an 4 f'=.g true->Fm f h'->K (.b f' h' []))->W T (.d l3_1) A h [] K:=by
 intro n;have luB:=Hp.lt hu rfl;have wl:(ayh w a).length=a.length:=aFO;induction n with
 |zero=>
  intro i E h A K hi g D tl f0 f8 f9 f11 f13 f14 hE hR;obtain rfl:i=a.length:=zo;rw[avG zo] at D tl;rw[aP];refine bK f0 f13 f14 (hd.pi (H:=h)) ?_;exact hE _ _ E (λq hq=>by repeat rw[qA,if_neg zo]) (au f13) g D tl
 |succ n ih=>
  intro i E h A K hi g D tl f0 f8 f9 f11 f13 f14 hE hR;have s:i<a.length:=zo;have aY:(i:Int)<a.length:=zo;obtain⟨p1,p2⟩:=P i s;have hWi:=hW i s;have smi:=sm _ (auy s);have gi:=aGa (w:=w) s;have tk:(ayh w a).take (i+1)=(ayh w a).take i++[⟨a[i].b,spl (w.R i) 0 0 a[i].a,a[i].c⟩]:=by grind[List.take_succ_eq_append_getElem]
  obtain⟨b,cap,ex,r,t,rfl,G,hr,ht⟩:=(hd.bc g λ_ m=>m.elim).ph s;have lb:=G.lt;have C:=ht i s;have ir:i<r:=zo;have al2:=G.ld0 ir C;have al3:=G.yV ir C;have R:cellsOf (h.ab b) (i*3+2) 1=some [.i a[i].c]:=by have e:=G.ld ir C;rcases G with⟨fz,B⟩|B;rw[B,Kd zo zo zo,C];rfl;rw[B] at e|-;have:=Kd (el:=0) (fz:=0) (rw:=3) (l5:=r) (t:=t) (k:=i) (j:=2) (n:=1) zo zo zo;rw[C] at this;exact this
  have F:=(g.f _ luB id).trans hu;simp only[dx.fj] at F;obtain⟨t2,B,y⟩:=x.g0 g;obtain⟨cz,ez,I⟩:=y i s;have le:=Hp.lt B rfl;rw[aP];generalize hL:CC.d l3_1=L at ih|-;unfold l3_1 zt;generalize U:CC.g (z q3 30)=R30;generalize V:CC.h r3_29=D29;generalize X:CC.g (z q3 27)=R27;generalize Y:CC.g (z q3 28)=R28;generalize Z:CC.h r3_24=D24;refine bK f0 f14 s aY ?_;subst Z;rw[lI,aEE];generalize ku r3_24 _=fm;simp(disch:=omega) [f0,f8,f9,f11,f13,f14,s,aY,al3,F,B,ez];refine aPn HT I p1 h0 smi p2 hw ?_;rw[hWi];subst X;by_cases c:(65536:Int)<(spl (w.R i) 0 0 a[i].a).length;subst Y;refine aB c ?_;refine aw h g _ λM g2=>?_;refine ag ?_;exact hR _ _ aa ((Fm.of g).ba g2)
  ·refine aB c ?_;subst V;rw[lI,aEE];generalize ku r3_29 _=fm2;simp(disch:=omega) [f0,f8,f9,f11,f13,f14,s,aY,al2,R];generalize Q:(h.am _:Hp)=H1;have gH1:ax h H1:=by rw[<-Q];exact aZ
   obtain⟨t1,u1,E4⟩:∃t1,H1.ab h.a=.b 45 3 1 0 t1/\t1 0=(Doc.mk a[i].b (spl (w.R i) 0 0 a[i].a) a[i].c).fj:=⟨_,by rw[<-Q];exact Hp.bv rfl,by simp[Doc.fj]⟩;clear Q;obtain⟨v',H',ea,D',g'⟩:=D.ss (by rw[auN];omega) g.g gH1 u1 E4;rw[ea];subst U;refine aB f14 ?_;rw[<-tk] at D';refine ih (i+1) v' H' _ K zo (g' f zl g) D' (λd hd=>?_) (au f0) (au f8) (au f9) (au f11) aa aa (λf' h' J hf=>hE f' h' J λq hq=>?_) hR;rw[tk] at hd;rcases auj.1 hd with hd|hd;exact tl d hd;rw[awQ] at hd;subst hd;show(spl (w.R i) 0 0 a[i].a).length<=65536;omega
   ·rw[hf q hq]
    repeat rw[qA,if_neg zo]
end
end
section
open Classical
variable {T:aM->Option CF}
variable {h o:Hp}{k:aK->Prop}{lv mv s:AV}{l:List dx}{u f:dx}{N lo:Nat}{m:Nat->List Int}{r:List Doc}{d:Doc}{b:Int}
def aPx:cJ (.b [.b .i64,.b .i64,.a,.c,.b .i64,.a,.b .i64,.b .i64,.a]) (.p u.fj) (.p u.fj)=some true:=by
 have c:∀a b:Int,sD (.b .i64) (.i a) (.i b)=some (decide (a=b)):=λa b=>by simp[sD,A6]
 have e:∀b:Bool,sD .c (.g b) (.g b)=some true:=λb=>by cases b<;>rfl
 simp[cJ,dx.fj,yX,c,e,Z1]
structure PlB(N:Nat)(f:dx):Prop where
 d:0<=f.a/\f.a<N
 a:0<=f.c/\f.c<=65536
 b:f.f=true->(0<=f.d.c/\f.d.c<N)/\0<=f.d.f/\f.d.f<=65536
def PlA.ld(x:PlA h pb N m){i:Int}(h0:0<=i)(c:i<N):∃w,cellsOf (h.ab pb) i.toNat 1=some [w]/\tD h w (m i.toNat):=by obtain⟨t,e,y⟩:=x;obtain⟨w,a,b⟩:=y i.toNat zo;simp_all
theorem aPy(HT:aA T)(hn:pA o lv l)(hm:pA o mv (l.map (wr m new u.d).u))(VT:l.length<268435456)(hu:o.ab ub=.a 37 u.fj)(x:PlA o pb N m)(hN:N<1048576)(P:∀j,j<N->(m j).length<=1048576) (B:∀f∈l,PlB N f) (eb:b=(new.length:Int)- u.d.a.length) (hb:-131072<=b/\b<=131072):∀(n i:Nat)(h:Hp)(w:Fr)(K:aT->Prop),i+n=l.length->ax o h->
 an 7 w=lv->an 8 w=.a ub 0->an 9 w=S new->an 10 w=.i b->an 11 w=.c pb 0 1 N N true->an 19 w=mv->an 20 w=.i i->
 (∀f' h',ax o h'->K (.a 4 f' h' []))->W T (.d l3_0) w h [] K:=by
 intro n;have luB:=Hp.lt hu rfl;induction n with
 |zero=>
  intro i h w K hi g f7 f8 f9 f10 f11 f19 f20 hk;rw[aP];refine aU f7 f20 (hn.pi (H:=h)) ?_;grind
 |succ n ih=>
  intro i h w K hi g f7 f8 f9 f10 f11 f19 f20 hk;have U:i<l.length:=zo;have aY:(i:Int)<l.length:=zo;obtain⟨q,t,rfl,hq,ht⟩:∃q t,lv=.c q 0 9 l.length l.length false/\o.ab q=.b 37 9 l.length 0 t/\∀j,(hj:j<l.length)->t j=l[j].fj:=by rcases hn with⟨rfl,_⟩|⟨_,x⟩;grind;omega
  obtain⟨q2,t2,rfl,A5,Vl⟩:∃q t,mv=.c q 0 9 l.length l.length false/\o.ab q=.b 37 9 l.length 0 t/\∀j,(hj:j<l.length)->t j=((wr m new u.d).u l[j]).fj:=by rcases hm with⟨e,_⟩|⟨_,q,t,e1,e2,e3⟩;simp_all;grind
  have lq:=Hp.lt hq rfl;have VE:=Hp.lt A5 rfl;have nB:=g.g;have H8:=ht i U;have R:=Vl i U;have D:=B _ (auy U);generalize l[i]=f at*;have eW:((wr m new u.d).u f).fj=[.i f.a,.i (shS (m f.a.toNat) b f.c),S (if f.f=true/\f.d=u.d then new else f.b),.g f.f,.i f.d.b,S (if f.f=true/\f.d=u.d then new else f.d.a),.i f.d.c,.i (if f.f=true then shS (m f.d.c.toNat) b f.d.f else f.d.f),S f.d.g]:=by grind[l6.u,l6.d,wr,dx.fj]
  have eU:=aPx (u:=(wr m new u.d).u f);rw[eW] at eU R;rw[aP];generalize hL:CC.d l3_0=L at ih|-;unfold l3_0 zt;generalize aPz:CC.g (z q3 50)=Q;generalize aPA:CC.f (.h r3_48) _=E;generalize aPB:CC.f (.f (.g (z q3 43)) _) E=C43;generalize aPC:CC.h r3_42=D42;have jT:=(g.f _ lq id).trans hq;simp only[dx.fj] at H8;refine mz f7 f8 f20 U aY jT H8 dx.fj.eq_1 lq ?_;generalize hH:(Hp.dT (Hp.am _ _) _ _:Hp)=H;have gH:ax h H:=by rw[<-hH];exact fZ
  have hc:H.ab h.a=.a 37 [.i f.a,.i f.c,S f.b,.g f.f,.i f.d.b,S f.d.a,.i f.d.c,.i f.d.f,S f.d.g]:=by rw[<-hH];simp
  clear hH;have gBH:=g.ba gH;have nc:h.a<H.a:=Hp.lt hc rfl;generalize hcn:h.a=c at*;have b8:∀(C:Fr)(a:Hp),ax o a->(∀p,p<=20->an p C=an p w)->an 21 C=.a c 0->a.ab c=.a 37 [.i f.a,.i (shS (m f.a.toNat) b f.c),S (if f.f=true/\f.d=u.d then new else f.b),.g f.f,.i f.d.b,S (if f.f=true/\f.d=u.d then new else f.d.a),.i f.d.c,.i (if f.f=true then shS (m f.d.c.toNat) b f.d.f else f.d.f),S f.d.g]->W T E C a [] (bY 5 (bF (W T Q) (bF (W T L) K))):=by intro C a g' A y jQ;have e7:=(A 7 zo).trans f7;have e8:=(A 8 zo).trans f8;have e9:=(A 9 zo).trans f9;have F:=(A 10 zo).trans f10;have G:=(A 11 zo).trans f11;have V:=(A 19 zo).trans f19;have X:=(A 20 zo).trans f20;have aPD:=(g'.f _ VE id).trans A5;subst aPA;generalize(if f.f=true/\f.d=u.d then new else f.b)=n1 at*;generalize(if f.f=true/\f.d=u.d then new else f.d.a)=n2 at*;refine fY V X y U aPD R jQ eU ?_;subst aPz;refine aB X ?_;exact ih (i+1) a _ K zo g' (au e7) (au e8) (au e9) (au F) (au G) (au V) aa hk
  obtain⟨w1,c1,I1⟩:=(x.g0 gBH).ld D.d.1 D.d.2;have Vz:=P f.a.toNat (by have:=D.d;omega);subst aPC;rw[lI,aEE];generalize ku r3_42 _=fm;have d0:=D.d.1;have d1:f.a.toNat<N:=by have:=D.d;omega
  simp(disch:=omega) [f10,f11,hc,d0,d1,c1];refine aMq HT I1 Vz (by have:=D.a;omega) hb ?_;generalize hs1:shS (m f.a.toNat) b f.c=s1 at*;simp(disch:=omega) [hc];generalize VV:(Hp.dT H c _:Hp)=J;have g2:ax o J:=by rw[<-VV];exact gBH.dT _ (.inl zo)
  have Y:J.ab c=.a 37 [.i f.a,.i s1,S f.b,.g f.f,.i f.d.b,S f.d.a,.i f.d.c,.i f.d.f,S f.d.g]:=by rw[<-VV];exact Hp.fp rfl
  have n2:J.a=H.a:=by rw[<-VV];exact Hp.my nc
  clear VV;subst aPB;generalize aPE:CC.h r3_47=D47;by_cases ci:f.f=true
  ·obtain⟨⟨b1,b2⟩,b3⟩:=D.b ci;have I:=(g2.f _ luB id).trans hu;simp only[dx.fj] at I;have nuc:ub≠c:=zo;obtain⟨w2,c2,I2⟩:=(x.g0 g2).ld b1 b2;have yM:=P f.d.c.toNat zo;have d3:f.d.c.toNat<N:=zo;have Vv:∀(C:Fr)(a:Hp)(n1 n2:List UInt8),ax o a->cellsOf (a.ab pb) f.d.c.toNat 1=some [w2]->tD a w2 (m f.d.c.toNat)->(∀p,p<=20->an p C=an p w)->an 21 C=.a c 0->n1=(if f.f=true/\f.d=u.d then new else f.b)->n2=(if f.f=true/\f.d=u.d then new else f.d.a)->
    a.ab c=.a 37 [.i f.a,.i s1,S n1,.g f.f,.i f.d.b,S n2,.i f.d.c,.i f.d.f,S f.d.g]->W T D47 C a [] (bF (W T E) (bY 5 (bF (W T Q) (bF (W T L) K)))):=by
    intro C a n1 n2 g' c2' I2' A y q1 q2 jQ;have F:=(A 10 zo).trans f10;have G:=(A 11 zo).trans f11;subst aPE;rw[lI,aEE];generalize ku r3_47 _=fm2;simp(disch:=omega) [F,G,y,jQ,b1,d3,c2'];refine aMq HT I2' yM zo hb ?_;generalize mX:shS (m f.d.c.toNat) b f.d.f=s2 at*;simp(disch:=omega) [y,jQ];have lc:=Hp.lt jQ rfl;refine b8 _ _ (g'.dT _ (.inl zo)) (λp hp=>?_) (au y) ?_
    ·repeat rw[qA,if_neg zo]
     exact A p hp
    rw[Hp.fp rfl,if_pos ci,q1,q2]
   by_cases M:f.d=u.d
   ·have Z:cJ (.b [.b .i64,.a,.b .i64,.b .i64,.a]) (.p [.i f.d.b,S f.d.a,.i f.d.c,.i f.d.f,S f.d.g]) (.p [.i u.d.b,S u.d.a,.i u.d.c,.i u.d.f,S u.d.g])=some (decide (f.d=u.d)):=K2;rw[avf M] at Z;refine iR Y ci I f8 Z f9 nuc ?_;generalize oF:(Hp.dT (Hp.dT J c _) c _:Hp)=H3;have g3:ax o H3:=by rw[<-oF];exact(g2.dT _ (.inl zo)).dT _ (.inl zo)
    have hc3:H3.ab c=.a 37 [.i f.a,.i s1,S new,.g f.f,.i f.d.b,S new,.i f.d.c,.i f.d.f,S f.d.g]:=by rw[<-oF,ci];exact Hp.fp rfl
    clear oF;obtain⟨w3,c3,I3⟩:=(x.g0 g3).ld b1 b2;have:w3=w2:=by obtain⟨tt,et,_⟩:=x;have lpp:=Hp.lt et rfl;rw[(g3.f _ lpp id)] at c3;rw[(g2.f _ lpp id),c3] at c2;simpa using c2
    subst this;refine Vv _ H3 new new g3 c3 I3 (λp hp=>?_) aa (by rw[if_pos ⟨ci,M⟩]) (by rw[if_pos ⟨ci,M⟩]) hc3
    repeat rw[qA,if_neg zo]
   ·have Z:cJ (.b [.b .i64,.a,.b .i64,.b .i64,.a]) (.p [.i f.d.b,S f.d.a,.i f.d.c,.i f.d.f,S f.d.g]) (.p [.i u.d.b,S u.d.a,.i u.d.c,.i u.d.f,S u.d.g])=some (decide (f.d=u.d)):=K2;rw[auK M] at Z;refine cq Y ci I f8 Z nuc ?_;refine Vv _ J f.b f.d.a g2 c2 I2 (λp hp=>?_) aa (by rw[if_neg λq=>M q.2]) (by rw[if_neg λq=>M q.2]) Y
    repeat rw[qA,if_neg zo]
  ·refine aS Y ci ?_;refine b8 _ J g2 (λp hp=>?_) aa ?_
   ·repeat rw[qA,if_neg zo]
   rw[Y,if_neg λq=>ci q.1,if_neg λq=>ci q.1,if_neg ci]
end
section
open Classical
variable {T:aM->Option CF}
variable {k:List Doc}{aq:List (List UInt8)}{h:Hp}
theorem vV.fm(x:vV h v k)(g:Fm h h'):vV h' v k:=x.zl λb r t a q=>by refine g.d b a ?_;rintro⟨_,_,e⟩;rcases q with⟨_,q⟩|q<;>(grind)
theorem Wk.noA(x:Wk O k rs aq){w:l6}:¬(azr (ayh w k)\/∃d∈ayh w k,rZ d.b=none):=by rintro(⟨m,c,q⟩|⟨d,hd,q⟩);have b:=c;rw[aFO] at b;rw[aGa (by omega:m<k.length),aGa b] at q;exact x.A.c ⟨m,b,q⟩;obtain⟨i,hi,rfl⟩:=avC hd;have a:=hi;rw[aFO] at a;rw[aGa a] at q;have q:=q;rw[x.A.d i a] at q;grind
theorem Wk.plb(x:Wk O k rs aq)(N:aFw k new):∀b∈(SC (rs.map pB) aq).b,PlB k.length b:=by
 intro b c;have pl:∀(i:Nat)(t:Tree)(y:Int×Int×List UInt8),(rs.map pB)[i]? =some t->y∈st t->i<k.length/\0<=y.1 /\y.1 <=65536:=λi t y h m=>by have:=(aH0 (x.Ha h).WP).1 y m;obtain⟨hi,_⟩:=at0.1 h;rw[x.pi] at hi;omega
 obtain⟨i,t,h,e,s⟩:=(x.QQ N).1 b c;have a:=pl i t _ h s;refine⟨by omega,a.2,λq=>?_⟩;obtain⟨j,t2,f,d,_,g,_⟩:=(x.QQ N).2 _ (x.nm b c q).2;grind
theorem aMt{s iI:List UInt8}:∀{L:List Int}{a:Nat},iI≠[]->aFb s iI L->(∀p∈L,(a:Int)<=p)->a<=s.length->a+L.length<=s.length
 |[],_,_,_,_,h=>h
 |p::L,a,h0,x,b,d=>by have e:=b p (au0 ..);have c:=x.fit h0 (au0 ..);have g:=auA.2 h0;have i:=(avx.1 x.c).1;have:=aMt (a:=a+1) h0 x.tl (λq f=>by grind) zo;grind
def aMu:∀{rs:List (PR Tree)}{i:Nat}{f:cN},(∀r∈rs,BF r)->yP rs i f=f
 |[],_,_,_=>rfl
 |r::rs,i,f,h=>by
  unfold yP;have hr:=h r (au0 ..);rw[aMu λq a=>h q (aug _ a)];cases r with
  |b=>rfl
  |d=>cases hr
  |c=>rfl
end
section
open Classical
variable {T:aM->Option CF}
variable {o:List Doc}{h r:Hp}{k:aK->Prop}
theorem aPF(h:0<=p/\p<65536):aEy .i64 (.d .u16 p)=.v (.i p):=by have e:aEy .i64 (.d .u16 p)=.v (.i (w64 p)):=rfl;grind[gf]
theorem pA.fm{a}(x:pA h v a)(g:Fm h h'):pA h' v a:=x.bc λq b ⟨_,_,e⟩=>g.d q b qac
theorem PlA.fm{pb N c}(x:PlA h pb N c)(g:Fm h h'):PlA h' pb N c:=by obtain⟨t,e,y⟩:=x;exact⟨t,(g.d _ (Hp.lt e rfl) qac).trans e,λj hj=>by obtain⟨w,a,b⟩:=y j hj;exact⟨w,a,b.fm g⟩⟩
theorem aPG(F:aA T)(hl:o.length<=6)(sm:∀d∈o,d.a.length<=9000) (ul:∀d∈o,d.b.length<1073741824) (hd:vV r v o) (hg:yQ T O r) (hA:Told O Pe Ph) (E:Told O Pf Pj) {rs:List (PR Tree)} {aq:List (List UInt8)} (x:Wk O o rs aq)
 {lv:AV} (hn:pA r lv (SC (rs.map pB) aq).b) (hp:0<=p/\p<65536) {fr:Fr} (f0:an 0 fr=v) (f1:an 1 fr=.d .u16 p) (f7:an 7 fr=lv) (hk:∀h',Fm r h'->k (.a (.g true) h')):
 W T (.f (.f (.g (z q3 7)) (.i (.t 39) (.f (.g (z q3 8)) .k) .j)) (.f (.g (z q3 9)) (.f (.f (.g (z q3 10)) (.i (.t 57) (.f (.g (z q3 11)) .k) .j)) (.f (.g (z q3 12)) (.f (.g (z q3 13)) (.f (.g (z q3 14)) (.f (.g (z q3 15)) (.f (.f (.g (z q3 16)) (.m 0 (.d l3_2))) (.f (.g (z q3 21)) (.f (.f (.g (z q3 22)) (.m 2 (.d l3_1))) (.f (.g (z q3 31)) (.f (.f (.g (z q3 32)) (.i (.t 171) (.f (.g (z q3 33)) .k) .j)) (.f (.f (.g (z q3 34)) (.i (.t 175) (.f (.g (z q3 35)) .k) .j)) (.f (.g (z q3 36)) (.f (.f (.g (z q3 37)) (.i (.t 182) (.f (.g (z q3 38)) .k) .j)) (.f (.f (.g (z q3 39)) (.m 4 (.d l3_0))) (.f (.g (z q3 51)) .k))))))))))))))))) fr r [] (finish T (W T) [.a 4] k):=by
 generalize TN:CC.f (.g (z q3 9)) _=T9;have usl:=x.If.c;generalize S7:(SC (rs.map pB) aq).b=A at*;have b8:∀(M:Fr)(H:Hp),Fm r H->an 4 M=.g true->finish T (W T) [.a 4] k (.b M H []):=λM H g e=>by simp_all
 by_cases c0:A=[];have:(A.length:Int)=0:=by grind
 refine aU f7 (hn.pi (H:=r)) this ?_;refine aF3 F hg hA E λJ g2=>?_;simp_all;have n0:¬(A.length:Int)=0:=λq=>c0 (avW.1 zo);refine bK f7 (hn.pi (H:=r)) n0 c0 ?_;subst TN;obtain⟨i,hi,ei⟩:∃i:Nat,i<A.length/\p.tmod A.length=i:=by refine⟨(p.tmod A.length).toNat,?_,?_⟩;have:=Int.tmod_lt_of_pos p (b:=A.length) zo;omega;have:=Int.tmod_nonneg (b:=A.length) hp.1;omega
 obtain⟨q,t,rfl,hq,ht⟩:∃q t,lv=.c q 0 9 A.length A.length false/\r.ab q=.b 37 9 A.length 0 t/\∀j,(hj:j<A.length)->t j=A[j].fj:=by rcases hn with⟨rfl,_⟩|⟨_,y⟩;grind;omega
 have H8:=ht i hi;have um:A[i]∈A:=auy hi;generalize hu:A[i]=u at*;generalize EF:CC.f (.f (.g (z q3 10)) _) _=Oi;have ci:=aPF hp;refine nA f1 f7 (hn.pi (H:=r)) n0 ci ei hi hq H8 dx.fj.eq_1 ?_;generalize hH:(Hp.dT (Hp.am _ _) _ _:Hp)=H;have gH:ax r H:=by rw[<-hH];exact fZ
 have hc:H.ab r.a=.a 37 u.fj:=by rw[<-hH];exact Hp.fp rfl
 clear hH;generalize hcn:r.a=c at*;have Pz:=hg.g0 gH;subst EF;generalize KT:CC.f (.g (z q3 12)) _=EG;have jQ:=hc;simp only[dx.fj] at jQ;have lc:=Hp.lt hc rfl;by_cases c1:u.f=true
 case neg=>
  refine aS jQ c1 ?_;refine aF3 F Pz hA E λJ g2=>?_;refine ag ?_;exact hk _ ((Fm.of gH).ba g2)
 by_cases c2:u.d.b=1;refine aU jQ c1 c2 ?_;refine aF3 F Pz hA E λJ g2=>?_;refine ag ?_;exact hk _ ((Fm.of gH).ba g2);refine aU jQ c1 c2 ?_;subst KT;generalize ajg:CC.f (.g (z q3 13)) _=T13;refine aB f0 ?_;refine aPi F Pz.m (hd.fm (.of gH)) zo sm λn hn9 NN=>?_;have nl:(List.replicate (n+2) (122:UInt8)).length=n+2:=List.length_replicate;generalize ak9:List.replicate (n+2) (122:UInt8)=new at*;have K:Pk (SC (rs.map pB) aq).b u.d:=⟨⟨u,S7▸um,c1,rfl⟩,c2⟩;obtain⟨n1,n2⟩:=x.Zoa NN K;obtain⟨_,_,e0,_,_,_,n40⟩:=aFv n1;have nm:u.d.a=u.b:=(x.nm u (S7▸um) c1).1;have une:u.b≠[]:=by rw[<-nm,e0];simp
 have B:=x.plb NN;rw[S7] at B;obtain⟨⟨b1,b2⟩,b3⟩:=(B u um).b c1;obtain⟨j,ej⟩:=at6 b1;have hj:j<o.length:=zo;rw[nm] at n40;subst ajg;generalize aPH:CC.f (.g (z q3 14)) _=T14;have eby:w64 ((new.length:Int)- u.b.length)=(new.length:Int)- u.b.length:=gf zo zo;refine aS jQ eby ?_;generalize hby:(new.length:Int)- u.b.length=AM at*;subst aPH;generalize aPI:CC.f (.g (z q3 15)) _=T15;have em:DB H 40 1 24 [.h] (.i (o.length:Nat)) (.i (o.length:Nat))=.b (.c H.a 0 1 o.length o.length true) (H.am (.b 40 1 o.length 0 (qm [.h] o.length 0 fG))):=aan zo zo;refine aU f0 (hd.pi (H:=H)) em ?_;subst aPI;generalize aPJ:CC.f (.f (.g (z q3 16)) _) _=T16;rw[ej] at jQ;have jn:((j:Int)).toNat=j:=awr j;generalize hZ:qm [.h] o.length 0 fG=Z;have hZa:∀a,a<o.length->Z a=[.h]:=λa ha=>by rw[<-hZ,aao,if_pos zo]
 have hZj:=hZa j hj;refine cq jQ lc hj hZj jn (Nat.ne_of_lt lc) ?_;generalize G:(Hp.dT (Hp.am (Hp.am _ _) _) _ _:Hp)=H7;have nBH:=gH.g;have g7:ax r H7:=by rw[<-G];exact((gH.am _).am _).dT _ (.inl zo)
 have X:H7.ab c=.a 37 u.fj:=by rw[<-G,Hp.fv zo,Hp.jp (by rw[Hp.ii];omega),Hp.jp lc];exact hc
 have p7:PlA H7 H.a o.length (pl0 u.d):=by
  refine⟨_,by rw[<-G];exact Hp.fp rfl,λa ha=>?_⟩;rw[dZ];by_cases e:a=j;subst e;rw[if_pos rfl];refine⟨_,rfl,?_⟩;have:pl0 u.d a=[u.d.f]:=by unfold pl0;rw[if_pos ej]
  rw[this];refine .inr ⟨H.a+1,1,true,1,_,⟨rfl,at2 _⟩,by rw[<-G,Hp.fv zo];exact Hp.bv rfl,at2 _,λb hb=>?_⟩;obtain rfl:b=0:=by simp at hb;omega
  simp;rw[if_neg e,hZa a ha];refine⟨_,rfl,?_⟩;have:pl0 u.d a=[]:=by unfold pl0;rw[if_neg zo]
  rw[this];exact .inl ⟨rfl,rfl⟩
 clear G;generalize OY:H.a=pb at*;subst aPJ;generalize aPK:CC.f (.g (z q3 21)) _=T21;have p70:∃t,H7.ab pb=.b 40 1 o.length 0 t:=by obtain⟨t,e,_⟩:=p7;exact⟨t,e⟩
 refine ag ?_;refine aPo F (u:=u) (ub:=c) (pb:=pb) (N:=o.length) (hn.vm g7 λ_ m=>m.elim) zo (λw hw q1 q2=>(B w hw).d) X p70 zo A.length 0 H7 _ _ zo (ah.cg _) p7 (au f7) aa aa aa λf8 h8 C g8 p8=>?_;have I:ax r h8:=⟨at1 g7.g g8.g,λi hi _=>(g8.f i (aur hi g7.g) zo).trans (g7.f i hi id)⟩;have Y:h8.ab c=.a 37 u.fj:=(g8.f c (Hp.lt X rfl) zo).trans X;have e0:=C 0 zo;have e7:=C 7 zo;have e8:=C 8 zo;have e9:=C 9 zo;have e10:=C 10 zo;have Q:=C 11 zo;simp(disch:=omega) [f0,f7] at e0 e7 e8 e9 e10 Q;clear C;have epl:aED u.d A (pl0 u.d)=plW rs aq u.d:=by unfold plW;rw[S7]
 rw[epl] at p8;have hg8:=hg.g0 I;have some_:∀j,j<o.length->∃t,(rs.map pB)[j]? =some t:=λj hj=>⟨_,atT (by rw[x.pi];exact hj)⟩;have P:∀j(hj:j<o.length),aFb o[j].a u.b (plW rs aq u.d j)/\(plW rs aq u.d j).length<=65536:=λj hj=>by obtain⟨t,ht⟩:=some_ j hj;obtain⟨_,l,dt⟩:=x.doc ht;have pl:=(x.aMa NN K ht dt).1;rw[nm] at pl;have:=aMt (a:=0) une pl (λp hp=>(pl.b p hp).1) (auz _);have:=sm _ (auy hj);exact⟨pl,by omega⟩
 subst aPK;generalize ajy:CC.f (.g (z q3 31)) _=T31;refine ag ?_;refine aPq F (new:=new) (w:=wr (plW rs aq u.d) new u.d) (hd.fm (.of I)) zo (λd hd=>at1 (sm d hd) zd) Y p8 P une zo (λj hj=>?_) (λJ g2 k' fL=>aF3 F (hg8.g0 g2) hA E fL) o.length 0 .h h8 _ _ zo (ah.cg _) (.inl ⟨rfl,rfl⟩) (λd hd=>(awg hd).elim) (au e0) (au e8) (au e9) (au Q) aa aa (λf9 h9 bf C e13 g9 D9 tl=>?_) λf9 h9 e4 g9=>?_;have:=aLU (R:=(wr (plW rs aq u.d) new u.d).R j) (s:=o[j].a) (by show u.d.a≠[];rw[nm];exact une) (plW rs aq u.d j) 0 (by show aFb o[j].a u.d.a _;rw[nm];exact(P j hj).1) (λp hp=>((P j hj).1.b p hp).1) λa _=>axA;rw[<-nm];exact this;have V:=I.ba g9;have q0:=(C 0 zo);have q7:=(C 7 zo);have q8:=(C 8 zo);have q9:=(C 9 zo);have q10:=(C 10 zo);have q11:=(C 11 zo);simp(disch:=omega) [e0,e7,e8,e9,e10,Q] at q0 q7 q8 q9 q10 q11;clear C;have hg9:=hg8.g0 g9;have hc9:h9.ab c=.a 37 u.fj:=(g9.f c (Hp.lt Y rfl) id).trans Y;have p9:=p8.g0 g9;have wl:(ayh (wr (plW rs aq u.d) new u.d) o).length=o.length:=aFO;subst ajy;generalize Uk:CC.f (.f (.g (z q3 32)) _) _=T32;refine aB e13 ?_;have aMv:∀(M:Fr)(h':Hp),(40:Int)<new.length->Fm h9 h'->an 9 M=S new->W T T32 M h' [] (finish T (W T) [.a 4] k):=λM h' D g' e=>by subst Uk;refine aS e D ?_;refine aF3 F (hg9.fm g') hA E λJ g2=>?_;refine ag ?_;exact hk _ (((Fm.of V).ba g').ba g2)
 refine acJ F D9.da zo (λd hd=>?_) (λd hd=>adn _ _ (by have:=tl d hd;omega)) hg9.g (λrs' L y ok=>aMl zo tl y ok) (λJ g2 Ie=>absurd Ie x.noA) (λrs' L f J y hF he g2=>?_) λrs' L s J p' aG tb d0 d1 d2 d8 y hP he g2 ps _=>?_;obtain⟨i,hi,rfl⟩:=avC hd;rw[aGa zo];show o[i].b.length<1073741824;exact ul _ (auy zo);refine ag ?_;by_cases D:(40:Int)<new.length;exact aMv _ _ D (g2.ba (.of fZ)) (au q9);obtain⟨rfl,okr,im,de,_,fl⟩:=x.again NN K zo tl y;rcases hF with e|⟨_,e⟩;rw[aMu okr] at e;subst e;exact absurd rfl he;have e:=e im de;subst e;exact absurd fl he;refine ag ?_;generalize oF:(Hp.dT (Hp.am _ _) _ _:Hp)=H3;have g3:ax J H3:=by rw[<-oF];exact fZ
 have hc3:H3.ab J.a=.a 29 [.i 0,.i 0,.i 0]:=by rw[<-oF];exact Hp.fp rfl
 clear oF;by_cases D:(40:Int)<new.length;exact aMv _ _ D (g2.ba (.of g3)) (au q9);obtain⟨rfl,okr,im,de,U,fl⟩:=x.again NN K zo tl y;obtain⟨_,_,_,es⟩:=hP;have es:s=SC (rs'.map pB) L:=es;rw[<-es,S7] at U;subst Uk;generalize aPL:CC.f (.g (z q3 36)) _=T36;refine aU q9 D hc3 ?_;subst aPL;generalize ajz:CC.f (.f (.g (z q3 37)) _) _=T37;refine ag ?_;refine acK F (ps.g0 g3) (by rw[U,avd];omega) λh4 v4 g4 n4=>?_;rw[U] at n4;subst ajz;generalize aPM:CC.f (.f (.g (z q3 39)) _) _=T39;have el:=n4.pi (H:=h4);rw[avd] at el;refine aS q7 el ?_;subst aPM;generalize aPN:CC.f (.g (z q3 51)) _=T51;refine ag ?_;have gF:Fm h9 h4:=g2.ba (.of (g3.ba g4));have hc4:h4.ab c=.a 37 u.fj:=(gF.d c (Hp.lt hc9 rfl) (by rw[hc9];rintro⟨_,_,q⟩;cases q)).trans hc9;refine aPy F (b:=AM) ((hn.fm (.of V)).fm gF) n4 zo hc4 (p9.fm gF) zo (λj hj=>by have:=(P j hj).2;omega) B (by rw[nm];exact hby.symm) zo A.length 0 h4 _ _ zo (ah.cg _) (au q7) (au q8) (au q9) (au q10) (au q11) aa aa λf5 h5 g5=>?_;subst aPN;refine ag ?_;refine aF3 F ((hg9.fm gF).g0 g5) hA E λh6 g6=>?_;refine ag ?_;exact hk _ ((((Fm.of V).ba gF).ba (.of g5)).ba g6);refine aB e4 ?_;exact hk _ ((Fm.of I).ba g9)
end
section
open Classical
variable {T:aM->Option CF}
variable {a:List Doc}{h:Hp}{k:aK->Prop}
theorem aPO(j:aA T)(hd:vV h v a)(J:a.length<1073741824)(Z:pC a<1073741824)(q:yQ T O h)(u:Told O Pe Ph)(l:Told O Pf Pj)(hp:0<=p/\p<65536)(I:∀h',Fm h h'->k (.a (.g true) h')):aE T (W T) ⟨3⟩ [v,.d .u16 p] h k:=by
 rw[aJ j.t3];generalize rq:CC.f (.g (z q3 3)) _=T3;refine ag ?_;refine al1 j hd J Z ?_;by_cases c:a.length<=6/\pC a<=9000
 case neg=>
  rw[auK c];refine ag ?_;refine aF3 j q u l λi g2=>?_;simp_all
 rw[avf c];have ul:∀d∈a,d.b.length<1073741824:=λd hd=>by have:=We hd;omega
 have D:∀d∈a,d.a.length<=9000:=λd hd=>by have:=We hd;omega
 subst rq;generalize L:CC.f (.f (.g (z q3 4)) _) _=P;refine ag ?_;have m:∀(r:Fr)(h':Hp)(F:Int)(b:Nat)(x0 M:AV),Fm h h'->h'.ab b=.a 29 [x0,M,.i F]->F≠0->an 6 r=.a b 0->W T P r h' [] (finish T (W T) [.a 4] k):=λr h' F b x0 M g e n S=>by subst L;refine aU e S n ?_;exact aF3 j (q.fm g) u l λi g2=>(ag (I _ (g.ba g2)))
 refine acJ j hd J ul (λd hd=>adn _ _ qaa) q.g (λrs aq y ok=>aMl c.1 (λd hd=>by have:=D d hd;omega) y ok) (λi g2 _=>?_) (λrs aq f i y hF A g2=>?_) λrs aq s i p' aG tb d0 d1 d2 d8 y Y A g2 ps _=>?_;refine ag ?_;exact m _ _ 2 i.a (.i 0) (.i 0) (g2.ba (.of fZ)) (Hp.fp rfl) zd aa;refine ag ?_;exact m _ _ f.e i.a _ _ (g2.ba (.of fZ)) (Hp.fp rfl) A aa
 ·refine ag ?_;generalize B:(Hp.dT (Hp.am _ _) _ _:Hp)=G;have H:ax i G:=by rw[<-B];exact fZ
  have w:G.ab i.a=.a 29 [.i 0,.i 0,.i 0]:=by rw[<-B];exact Hp.fp rfl
  clear B;obtain⟨C,im,R,o⟩:=Y;have o:s=SC (rs.map pB) aq:=o;have x:Wk O a rs aq:=⟨y,C,im,R,by rw[<-o];exact A,c.1,D⟩;have E:=x.If.c;rw[<-o] at E;subst L;generalize Q:CC.f (.g (z q3 6)) _=T6;refine aB w ?_;subst Q;generalize N:CC.f (.f (.g (z q3 7)) _) _=T7;refine ag ?_;refine acK j (ps.g0 H) zo λX v4 U K=>?_;have t:Fm h X:=g2.ba (.of (H.ba U));rw[o] at K;refine ag ?_;subst N;refine aPG j (v:=v) (p:=p) (lv:=v4) c.1 D ul (hd.fm t) (q.fm t) u l x K hp ?_ ?_ ?_ λh5 V=>I _ (t.ba V)
  all_goals simp(disch:=omega)
end
section
open Go (IntKind)
open Go.Pinned (utf8FirstZ pow10Rows cheatRows)
def bsZ:List Nat:=[4607182418800017408,4621819117588971520,4636737291354636288,4652007308841189376,4666723172467343360,4681608360884174848,4696837146684686336,4711630319722168320,4726483295884279808,4741671816366391296,4756540486875873280,4771362005757984768,4786511204640096256,4801453603149578240,4816244402031689728,4831355200913801216,4846369599423283200,4861130398305394688,4876203697187506176,4891288408196988160,4906019910204099648,4921056587992461136,4936209963552724370]
def adP(i:Nat):List AV:=[.w .f64 (bsZ.getD i 0)]
def amO(_:Nat):List AV:=[.d .u64 52,.d .u64 11,.i (-1023)]
def xB(t:Nat×Nat)(o:AO)(i:Nat):AO:=
 match i with
 |0=>.h 1 1 λ_=>[.D]
 |1=>.h 1 256 Wg
 |3=>.h 1 256 adB
 |4=>.h 2 16 adD
 |5=>.h 1 1 λ_=>[.q t.1 .B]
 |6=>.h 1 1 λ_=>[.q t.2 .B]
 |8=>.h 1 1 λ_=>[.g true]
 |9=>.h 3 1 amO
 |11=>.h 1 1 λ_=>[.c 19 0 1 9 9 true]
 |12=>.h 1 1 λ_=>[.c 21 0 1 23 23 true]
 |13=>.h 2 696 Wh
 |15=>.h 1 1 λ_=>[.c 20 0 2 61 61 true]
 |19=>.h 1 9 adE
 |20=>.h 2 61 Wi
 |21=>.h 1 23 adP
 |22=>o
 |n=>if n<22 then .c else .g
def nL(t:Nat×Nat)(o:AO):Hp:=⟨xB t o,23,[],λi hi=>by unfold xB;grind⟩
def adQ(t:Nat×Nat)(o:AO)(i:Nat):(nL t o).ab i=xB t o i:=rfl
def amP:∀i,i<23->Bn (bsZ.getD i 0)=true:=by decide+kernel
def amQ{t:Nat×Nat}{o:AO}:xo (nL t o) where
 n:=by show 22<=23;simp
 c:=⟨20,61,true,λs=>(cheatRows.getD s (0,[])).1,λs=>(cheatRows.getD s (0,[])).2,rfl,by simp,λs l m=>by refine⟨adG (t:=Wi) zo rfl,adH (t:=Wi) zo rfl,?_⟩;have h:=(amF s zo).resolve_left zo;simp[adF,atW,auU] at h;obtain⟨⟨⟨⟨⟨e,g⟩,a3⟩,a4⟩,a5⟩,k⟩:=h;exact⟨e,g,a3,a4,a5,k⟩⟩
 j:=⟨19,9,true,rfl,by simp,λi hi=>sY (t:=adE) hi⟩
 b:=⟨rfl,rfl,rfl⟩
 a:=λi hi=>⟨_,_,adG (t:=Wh) hi rfl,adH (t:=Wh) hi rfl⟩
 f:=⟨21,23,true,rfl,by simp,λi hi=>⟨_,sY (t:=adP) hi,amP i hi⟩⟩
 d:=rfl
theorem aMw{t:Nat×Nat}{o:AO}(a:¬rF o){i:Nat}(hi:i<23):¬rF ((nL t o).ab i):=by rw[adQ];intro x;unfold xB at x;split at x<;>first|exact a x|(rcases x with⟨r,f,e⟩;grind)
theorem aPP{t:Nat×Nat}{o:AO}:OkG 22 (nL t o):=λi hi=>by rw[adQ];unfold xB;split<;>first|exact .inr ⟨_,_,_,rfl,λ_=>rfl⟩|omega|grind
def aMx(b:uU T)(e:OkT 22 T dtL){t:Nat×Nat}{o:AO}(d:¬rF o){k:aK->Prop}{v:AV}{a:List Doc}{p:Int}(hd:vV (nL t o) v a)(j:a.length<1073741824)(f:pC a<1073741824)(l:0<=p/\p<65536)
 (h:∀h',(∀i,i<23->h'.ab i=(nL t o).ab i)->k (.a (.g true) h')):aE T (W T) ⟨3⟩ [v,.d .u16 p] (nL t o) k:=by
 obtain⟨O,c,g⟩:=amB b e aPP amQ ⟨by show 5<23;simp,_,_,rfl⟩ ⟨by show 6<23;simp,_,_,rfl⟩ amC amD amE;exact aPO b.h hd j f ⟨g,λi hi=>aMw d zo,rfl⟩ (adN c) (adO c) l λh' g=>h h' λi hi=>g.d i hi (aMw d hi)
theorem aPQ{r n:Nat}{t:N3 (List AV)}:¬rF (.h r n t):=by rintro⟨_,_,e⟩;grind
theorem aPR:¬rF .c:=by rintro⟨_,_,e⟩;grind
def aPS(c:uU T)(d:OkT 22 T dtL){t:Nat×Nat}{a:List Doc}{r cap:Nat}{ex:Bool}{b:Nat->List AV}{p:Int}{k:aK->Prop}(hr:a.length<=r)(l:∀j,(hj:j<a.length)->b j=a[j].fj) (g:a.length<1073741824) (e:pC a<1073741824) (h:0<=p/\p<65536)
 (f:∀h',(∀i,i<23->h'.ab i=(nL t (.h 3 r b)).ab i)->k (.a (.g true) h')):aE T (W T) ⟨3⟩ [.c 22 0 3 a.length cap ex,.d .u16 p] (nL t (.h 3 r b)) k:=
 aMx c d aPQ (.inr ⟨22,cap,ex,r,b,rfl,.inr rfl,hr,l⟩) g e h f
def aPT(a:uU T)(b:OkT 22 T dtL){t:Nat×Nat}{p:Int}{k:aK->Prop}(d:0<=p/\p<65536)(c:∀h',(∀i,i<23->h'.ab i=(nL t .c).ab i)->k (.a (.g true) h')):aE T (W T) ⟨3⟩ [.h,.d .u16 p] (nL t .c) k:=
 aMx a b aPR (.inl ⟨rfl,rfl⟩) zm zd d c
end
section
open Go
variable {b:Nat->Nat}
noncomputable def mG(P:Program)(w:World)(B b:Nat->Nat):aH where
 f:=λi=>i<23
 a:=B
 c:=b
 g:=λi=>match w.heap[B i]? with|some (.cells d _ _)=>d.size|_=>0
 m:=λi=>(w.heap[B i]?).getD default
 k:=P
def aod(d:P.globals.size<=19)(a:∀i,i<19->B i=i/\b i=0):jq (mG P w B b) P:=⟨rfl,λg c _=>
 ⟨show gid g<23 by show g<23;omega,(a g zo).1,(a g zo).2⟩⟩
theorem WX{i rw l5:Nat}{t:N3 (List AV)}{c:Array Value}{el:Nat}{e:Nat×Nat}(s:w.heap[B i]? =some (.cells c el e))(g:0<rw)(y:l5<=1152921504606846976)(l:∀k,k<l5->(dY t k).length=rw)
 (m:b i+l5*rw<=c.size) (u:∀k j,k<l5->j<rw->∃a v,(dY t k)[j]? =some a/\c[b i+(k*rw+j)]? =some v/\aj (mG P w B b) a v/\v.oneCell'=true):
 kM (mG P w B b) w i (.h rw l5 t):=by
 have f:(mG P w B b).m i=.cells c el e:=by show(w.heap[B i]?).getD default=_;grind
 have split:∀j,j<l5*rw->j/rw<l5/\j% rw<rw/\j/rw*rw+j% rw=j:=λj hj=>
  ⟨auw qaa,avn _ g,by grind[Nat.div_add_mod]⟩
 refine⟨by rw[f];exact s,⟨g,y,l⟩,c,el,e,f,m,λj a d=>?_,λj v hj x=>?_⟩;simp only[AO.ip] at d;split at d;rename_i hj;obtain⟨p,q,r⟩:=split j hj;obtain⟨a',v,n,h,o,_⟩:=u _ _ p q;rw[n] at d;cases d;rw[r] at h;exact⟨v,h,o⟩;grind;have z:c[b i+j]? =some v:=x;grind
def P4{t:Nat×Nat}{o:AO}(a:o.sI=true\/o=.c)(i:Nat):dH (xB t o i)=true->(xB t o i).sI=true:=by
 intro h;unfold xB at h|-;split at h<;>first|rfl|(split at h<;>cases h)|skip
 rcases a with x|rfl;omega;cases h
theorem aez{t:Nat×Nat}{o:AO}(c:o.sI=true\/o=.c)(h:∀i,i<23->kM (mG P w B b) w i (xB t o i)):R (mG P w B b) (nL t o) w where
 k:=λi=>by
  rw[adQ];show i<23 <-> _;unfold xB;split<;>first|(constructor<;>intro _<;>first|rfl|omega)|skip
  rcases c with x|rfl;constructor;intro _;cases o<;>first|rfl|cases x
  omega;constructor<;>intro _<;>first|rfl|omega
  split;constructor<;>intro _<;>first|rfl|omega
  constructor;grind;intro e;cases e
 f:=λi=>by by_cases hi:i<23;exact h i hi;have e:(nL t o).ab i=.g:=(nL t o).b i (by show 23<=i;omega);rw[e];trivial
 inj:=λi j a m _=>.inr ⟨P4 c i a,P4 c j m⟩
 l:=λi a=>by
  have hi:i<23:=by have:=a;rcases avh i 23 with x|x;omega;have e:(nL t o).ab i=.g:=(nL t o).b i x;rw[e] at this;cases this
  have d:=P4 c i a;have g:=h i hi;cases n:xB t o i<;>rw[n] at d g<;>first|cases d|skip
  obtain⟨r,_,p,el,q,s,_⟩:=g;grind
theorem aeA{T:aM->Option CF}(ok:Ed P T)(p:P.follows .mixedOrders=true){t:Nat×Nat}{o:AO}(A:o.sI=true\/o=.c)(r:R (mG P w B b) (nL t o) w)(g:jq (mG P w B b) P){a:List AV}{vs:Array Value}(hd:z7 (mG P w B b) a vs.toList){n:Nat}
 (z:aE T (W T) ⟨n⟩ a (nL t o) λco=>∃h',co=.a (.g true) h'/\∀i,i<23->h'.ab i=(nL t o).ab i):
 Calls P n vs w λe w'=>e=.returned (.bool true)/\w'.os=w.os/\w'.output=w.output/\∀i,i<w.heap.size->w'.heap[i]? =w.heap[i]? :=by
 obtain⟨_,h⟩:=aoc ok p ⟨n⟩ a (nL t o) _ (.a .B (nL t o)) _ w vs z r g hd;refine h.mono λe w' x=>?_;obtain⟨co,⟨h',rfl,same⟩,ψ,u,rfl,C,D,st⟩:=x;simp[aj] at C;refine⟨by grind,st.p,st.d,λc v=>?_⟩;by_cases l:∃i,dH ((nL t o).ab i)=true/\(mG P w B b).a i=c
 ·obtain⟨i,hi,rfl⟩:=l;have k:((nL t o).ab i).sI=true:=P4 A i hi;have m:=r.f i;have f:=(r.k i).2 (uY hi);have d:=D.f i;rw[same i f] at d;cases y:(nL t o).ab i<;>rw[y] at k m d<;>first|cases k|skip
  have E:=m.1;have s:=d.1;rw[st.n.a _ f,st.n.j _ f] at s;grind
 exact st.f c v λj hj q=>l ⟨j,hj,q⟩
end
section
open Go
variable {f:Nat->Nat}
def yU(a:AV):Option Value:=
 match a with
 |.g b=>some (.bool b)
 |.i n=>some (.int .i64 n)
 |.s n=>some (.int .u8 n)
 |.d k n=>some (.int k n)
 |.w k b=>some (.float k b)
 |.y l n=>if n<256^l then some (.string ⟨((aEx l n).map UInt8.ofNat).toArray⟩) else none
 |_=>none
theorem aoi:∀(l n:Nat),∀b∈aEx l n,b<256
 |0,n,b,h=>by simp[aEx] at h
 |l+1,n,b,h=>by
  have:=MV (l+1) n;obtain⟨i,hi⟩:=aum h;have a:i<l+1:=by grind[RK]
  rw[this i a] at hi;cases hi;exact avn _ zm
theorem aoj{a:AV}{v:Value}(h:yU a=some v)(φ:aH):aj φ a v/\v.oneCell'=true:=by
 cases a<;>simp only[yU,atU,reduceCtorEq] at h
 case y l n=>
  split at h;rename_i i;simp at h;subst h;refine⟨?_,rfl⟩;refine⟨_,rfl,?_,i⟩;simp;have:∀b∈aEx l n,((λx:UInt8=>x.toNat)∘UInt8.ofNat) b=b:=λb d=>by have:=aoi l n b d;simp_all
  rw[avB this,List.map_id'];grind
 all_goals
  subst h;exact⟨by rfl,rfl⟩
def Iw(w:World)(b s rw:Nat)(L:List (List Value)):Prop:=
 ∃a el c,w.heap[b]? =some (.cells a el c)/\s+L.length*rw<=a.size/\∀(k:Nat) l,L[k]? =some l->l.length=rw/\∀(j:Nat) v,l[j]? =some v->a[s+(k*rw+j)]? =some v
theorem Iw.Lk{b s i rw n:Nat}{L:List (List Value)}{t:N3 (List AV)}(h:Iw w b s rw L)(v:B i=b)(y:f i=s)(m:0<rw)(A:L.length=n)(x:n<=1152921504606846976)
 (z:∀(k:Nat) l,L[k]? =some l->(dY t k).map yU=l.map some):kM (mG P w B f) w i (.h rw n t):=by
 subst A;obtain⟨C,el,c,q,r,u⟩:=h;subst v y;have row:∀k,k<L.length->∃l,L[k]? =some l/\l.length=rw/\(dY t k).map yU=l.map some:=λk a=>⟨L[k],atT a,(u k _ (atT a)).1,z k _ (atT a)⟩;refine WX q m x (λk a=>?_) r λk j a hj=>?_;obtain⟨l,_,o,d⟩:=row k a;have:=aui List.length d;grind;obtain⟨l,D,o,d⟩:=row k a;have E:((dY t k).map yU)[j]? =some (some l[j]):=by grind
 grind[aoj]
theorem BM{L:List (List Value)}{t:N3 (List AV)}(h:(List.range L.length).map (λk=>(dY t k).map yU)=L.map λl=>l.map some) (k:Nat) (l:List Value) (d:L[k]? =some l):(dY t k).map yU=l.map some:=by have a:=aui (·[k]?) h;grind
section
variable {H:Type}{di:TypeId×Value->H}{base:Nat}{held:Bool}{g:Nat}{t e:TypeId}{cs:Array Value}{p:List MemPlace}{el:Nat}{c:Nat×Nat}{b:Nat}
def Ma(d:DataW H):List Value:=
 match d with
 |.lit l=>[l.value]
 |.agg ds=>ds.flatMap fun|.lit l=>[l.value]|_=>[]
 |_=>[]
def Mb(d:DataW H):Bool:=match d with|.lit .nil=>false|.lit _=>true|_=>false
def FB(P:Program)(e:TypeId)(rw:Nat)(d:DataW H):Bool:=
 match d with
 |.lit .nil=>false
 |.lit _=>rw==1
 |.agg ds=>P5 P e rw&&ds.all Mb&&ds.length==rw
 |_=>false
def aeF:∀{ds:List (DataW H)},ds.all Mb=true->∃a:List Lit,ds=a.map .lit/\(ds.flatMap fun|.lit l=>[l.value]|_=>[])=a.map WZ
 |[],_=>⟨[],rfl,rfl⟩
 |d::ds,h=>by simp only[aw2,atW] at h;obtain⟨a,rfl,e⟩:=aeF h.2;cases d<;>simp only[Mb,at3,false_and] at h;rename_i l;refine⟨l::a,rfl,?_⟩;rw[List.flatMap_cons,e];rfl
theorem aJF{rw:Nat}{m:Nat->Bool}{l:List Value}{d:DataW H}(a:FB P e rw d=true)(h:DataW.trod di P w base m held g e l=some (d,p)):l=Ma d/\l.length=rw:=by
 cases d<;>simp only[FB,at3] at a
 case lit x=>
  have hh:=aeB h;cases x<;>simp at a<;>subst a<;>exact⟨hh,by grind⟩
 case agg ds=>
  simp only[atW,av9] at a;obtain⟨⟨j,k⟩,n⟩:=a;obtain⟨o,rfl,i⟩:=aeF k;have hh:=aof j h;refine⟨hh.trans i.symm,?_⟩;grind
theorem aeG{rw:Nat}{d:DataW H}(a:w.heap[b]? =some (.cells cs el c))(hd:FB P t rw d=true)(h:DataW.trod di P w base (λ_=>true) held g t cs.toList=some (d,p)):Iw w b 0 rw [Ma d]:=by obtain⟨i,j⟩:=aJF hd h;refine⟨cs,el,c,a,by grind,λk l m=>?_⟩;grind
theorem P7{n rw:Nat}{ds:List (DataW H)}(o:w.heap[b]? =some (.cells cs el c))(s:P.underlying t=some (.array n e))(A:P.cellsOf e=rw)(u:P.cellsOf t=n*rw)(hd:ds.all (FB P e rw)=true)
 (h:DataW.trod di P w base (λ_=>true) held g t cs.toList=some (.agg ds,p)):Iw w b 0 rw (ds.map Ma):=by
 obtain⟨y,z,j⟩:=aog s h;refine⟨cs,el,c,o,by grind,λk l a=>?_⟩;rw[auh] at a;obtain⟨d,i,rfl⟩:=au'.1 a;replace a:=i;obtain⟨m,q,r⟩:=j k d a;obtain⟨v,x⟩:=aJF (auO.1 hd d (aua a)) r;grind
theorem P8{rw:Nat}{ds rest:List (DataW H)}(C:P.underlying t=some (.slice e))(y:P.cellsOf e=rw)(s:0<rw)(hd:ds.all (FB P e rw)=true)
 (h:DataW.trod di P w base (λ_=>true) held g t cs.toList=some (.slice ds rest,p)):
 ∃a:Addr,cs.toList=[.slice (some a) ds.length (ds.length+rest.length)]/\(0<ds.length+rest.length->a.spot=none/\Iw w a.block a.off rw (ds.map Ma)/\∃i el c,w.heap[a.block]? =some (.cells i el c)/\a.off+(ds.length+rest.length)*rw<=i.size):=by
 subst y;obtain⟨a,v,x⟩:=aeD C s h;refine⟨a,v,λz=>?_⟩;obtain⟨A,i,el,c,n,r,D⟩:=x z;refine⟨A,⟨i,el,c,n,?_,λk l j=>?_⟩,i,el,c,n,r⟩;grind;rw[auh] at j;obtain⟨d,o,rfl⟩:=au'.1 j;replace j:=o;obtain⟨l,m,q,u,E,F⟩:=D k d qaa;obtain⟨G,_⟩:=aJF (auO.1 hd d (aua j)) u;grind
end
theorem aeH{i b:Nat}{a:Array Value}{el:Nat}{c:Nat×Nat}(d:B i=b)(h:w.heap[b]? =some (.cells a el c)):(mG P w B f).g i=a.size:=by grind[mG]
theorem W2{i q b rw n o:Nat}{cs:Array Value}{el:Nat}{c:Nat×Nat}{a:Array Value}{u:Nat}{d:Nat×Nat}(hi:w.heap[B i]? =some (.cells cs el c))(r:f i=0)(m:q<23)(h:B q=b)(z:f q=o)
 (l:w.heap[b]? =some (.cells a u d)) (v:o+n*rw<=a.size) (x:cs.toList=[.slice (some ⟨b,o,none⟩) n n]):kM (mG P w B f) w i (.h 1 1 λ_=>[.c q 0 rw n n true]):=by
 have s:cs=#[.slice (some ⟨b,o,none⟩) n n]:=by grind
 subst s;refine WX hi zm zm (λ_ _=>rfl) qaa λk j y hj=>?_;obtain rfl:k=0:=zo;obtain rfl:j=0:=zo;refine⟨_,_,rfl,by rw[r];rfl,?_,rfl⟩;refine⟨m,_,_,rfl,at2 _,at2 _,λ_=>rfl,λ_=>?_⟩;rw[aeH h l];show _=Addr.mk (B q) (f q+0) none/\f q+0+_<=_;grind
theorem aeI{i u:Nat}{cs:Array Value}{el:Nat}{c:Nat×Nat}{v:Value}(hi:w.heap[B i]? =some (.cells cs el c))(a:f i=0)(h:cs.toList=[.iface u v]):kM (mG P w B f) w i (.h 1 1 λ_=>[.q u .B]):=by
 have d:cs=#[.iface u v]:=by grind
 subst d;refine WX hi zm zm (λ_ _=>rfl) qaa λk j l hj=>?_;obtain rfl:k=0:=zo;obtain rfl:j=0:=zo;refine⟨_,_,rfl,by rw[a];rfl,?_,rfl⟩;simp only[aj];grind
theorem aeJ{H:Type}{di:TypeId×Value->H}{base:Nat}{i:Nat->Bool}{g:Nat}{t:TypeId}{cs:List Value}{n:String}{d:DataW H}{p:List MemPlace}(a:(match P.underlying t with|some (.interface _)=>true|_=>false)=true)
 (h:DataW.trod di P w base i false g t cs=some (.iface n d,p)):∃u v,cs=[.iface u v]:=by
 split at a;rename_i ms j;cases g with
 |zero=>simp[DataW.trod] at h
 |succ m=>
  unfold DataW.trod at h;grind
 grind
end
end Yv
namespace Go.Proofs.YtjjppojiafpfcaaGreatDoor
open Go.ChangeShapes Go.WideShapes Go.ChangeAt Go.RowKit
open Yv
set_option maxRecDepth 100000
theorem own:ownKnob Tryz.prog.godebug=none:=by rfl
def AF(d:DataW Unit):List (DataW Unit):=match d with|.agg ds=>ds|.slice ds _=>ds|_=>[]
def Bf(a b c d i:Nat):Nat:=match i with|19=>a|20=>b|21=>c|22=>d|n=>n
def Sf(a b c d i:Nat):Nat:=match i with|19=>a|20=>b|21=>c|22=>d|_=>0
theorem aeK{a b c d e f g j i:Nat}(h:i<19):Bf a b c d i=i/\Sf e f g j i=0:=by unfold Bf Sf;grind
theorem aPU{P:Program}{w:World}{g:Nat}{t:TypeId}{zero:Array Value}(h:w.ShapedOpen P)(a:g<P.globals.size)
 (h0:((begin P (λ_ _=>0) default).world.heap[g]?).bind Obj.row?=some (zero,t)) (f:zero.size=1)
 (b:P.buildable t=true) (c:P.cellTypes P.depth t=some [t]) (e:P.underlying t=some (.int .i64)):
 ∃m,w.heap[g]? =some (.cells #[.int .i64 m] t):=by
 obtain⟨cs,hh,i,_⟩:=h.1 g zero t a h0;obtain⟨m,d⟩:=cell_of_shapedOpen_int h a h0 f b c e;refine⟨m,?_⟩;simp[World.cell?,hh,aEh,at3,auM] at d;have:cs=#[.int .i64 m]:=by grind
 grind
theorem aPV{W:World}{B a:Nat->Nat}{i:Nat}{m:Int}{el:Nat}{b:Nat×Nat}(c:W.heap[B i]? =some (.cells #[.int .i64 m] el b))(e:a i=0):kM (mG Tryz.prog W B a) W i (.h 1 1 λ_=>[.D]):=by refine WX c zm zm (λ_ _=>rfl) qaa λk j d hj=>?_;obtain rfl:k=0:=zo;obtain rfl:j=0:=zo;exact⟨.D,.int .i64 m,rfl,by grind,by simp only[aj];grind,rfl⟩
theorem aok{W:World}(j:laidMetH Tryz.prog Rows.scopeAlphaUptoRow.laid W)(hw:W.ShapedOpen Tryz.prog):∃r y s z u A t5 t6,(∃aO el fr,W.heap[1]? =some (.cells aO el fr))/\∀k l o,
 kM (mG Tryz.prog W (Bf r s u k) (Sf y z A l)) W 22 o->∀i,i<23->kM (mG Tryz.prog W (Bf r s u k) (Sf y z A l)) W i (xB (t5,t6) o i):=by
 obtain⟨m0,N7⟩:=aPU (g:=0) (t:=3) (zero:=#[.int .i64 0]) hw (aw1 qab) qab rfl qab qab qab;obtain⟨c1,J3,Vu,fu1,p1,qW,iu⟩:=yT (n:= "strings.asciiSpace") (d:=Rows.laid_strings_asciiSpace) (g:=1) (t:=121) j qab qab qab qab;obtain⟨c3,el3,Fj,fu3,p3,rT,Py⟩:=yT (n:= "unicode/utf8.first") (d:=Rows.laid_unicode_utf8_first) (g:=3) (t:=121) j qab qab qab qab;obtain⟨c4,el4,fr4,fu4,p4,Ea,K⟩:=yT (n:= "unicode/utf8.acceptRanges") (d:=Rows.laid_unicode_utf8_acceptRanges) (g:=4) (t:=193) j qab qab qab qab;obtain⟨c5,el5,fr5,fu5,p5,hb5,Vw⟩:=yT (n:= "strconv.ErrSyntax") (d:=Rows.laid_strconv_ErrSyntax) (g:=5) (t:=161) j qab qab qab qab;obtain⟨c6,el6,fr6,fu6,p6,hb6,M⟩:=yT (n:= "strconv.ErrRange") (d:=Rows.laid_strconv_ErrRange) (g:=6) (t:=161) j qab qab qab qab;obtain⟨c8,el8,fr8,fu8,p8,I,N⟩:=yT (n:= "internal/strconv.optimize") (d:=Rows.laid_internal_strconv_optimize) (g:=8) (t:=4) j qab qab qab qab;obtain⟨c9,el9,fr9,fu9,p9,J,O⟩:=yT (n:= "internal/strconv.float64info") (d:=Rows.laid_internal_strconv_float64info) (g:=9) (t:=265) j qab qab qab qab;obtain⟨c11,atv,atw,atx,p11,aol,C⟩:=yT (n:= "internal/strconv.powtab") (d:=Rows.laid_internal_strconv_powtab) (g:=11) (t:=40) j qab qab qab qab;obtain⟨c12,aty,atz,atA,p12,aon,D⟩:=yT (n:= "internal/strconv.float64pow10") (d:=Rows.laid_internal_strconv_float64pow10) (g:=12) (t:=297) j qab qab qab qab;obtain⟨c13,atB,atC,atD,p13,E,F⟩:=yT (n:= "internal/strconv.pow10Tab") (d:=Rows.laid_internal_strconv_pow10Tab) (g:=13) (t:=305) j qab qab qab qab;obtain⟨c15,atE,atF,atG,p15,G,H⟩:=yT (n:= "internal/strconv.leftcheats") (d:=Rows.laid_internal_strconv_leftcheats) (g:=15) (t:=314) j qab qab qab qab;have r1:=P7 (ds:=AF Rows.laid_strings_asciiSpace) (n:=256) (e:=5) (rw:=1) qW qab qab qab qab iu;have r3:=P7 (ds:=AF Rows.laid_unicode_utf8_first) (n:=256) (e:=5) (rw:=1) rT qab qab qab qab Py;have r4:=P7 (ds:=AF Rows.laid_unicode_utf8_acceptRanges) (n:=16) (e:=192) (rw:=2) Ea qab qab qab qab K;have r8:=aeG (rw:=1) I qab N;have r9:=aeG (rw:=3) J qab O;have R:=P7 (ds:=AF Rows.laid_internal_strconv_pow10Tab) (n:=696) (e:=304) (rw:=2) E qab qab qab qab F;obtain⟨u5,v5,e5⟩:=aeJ qab Vw;obtain⟨u6,v6,e6⟩:=aeJ qab M;obtain⟨b,m,v⟩:=P8 (ds:=AF Rows.laid_internal_strconv_powtab) (rest:=[]) (e:=3) (rw:=1) qab qab zm qab C;obtain⟨c,p,w⟩:=P8 (ds:=AF Rows.laid_internal_strconv_float64pow10) (rest:=[]) (e:=130) (rw:=1) qab qab zm qab D;obtain⟨f,q,x⟩:=P8 (ds:=AF Rows.laid_internal_strconv_leftcheats) (rest:=[]) (e:=313) (rw:=2) qab qab zm qab H;have P:(AF Rows.laid_internal_strconv_powtab).length=9:=by rfl
 have Q:(AF Rows.laid_internal_strconv_float64pow10).length=23:=by rfl
 have n15:(AF Rows.laid_internal_strconv_leftcheats).length=61:=by rfl
 rw[P,aup,aud] at v m;rw[Q,aup,aud] at w p;rw[n15,aup,aud] at x q;obtain⟨V,S,atH,atI,atJ,q19,Z⟩:=v zm;obtain⟨X,U,atK,atL,atM,q21,z21⟩:=w zm;obtain⟨Y,T,atN,atO,atP,q20,z20⟩:=x zm;have B:∀a:Addr,a.spot=none->a=⟨a.block,a.off,none⟩:=λa h=>by cases a;grind
 rw[B b V] at m;rw[B c X] at p;rw[B f Y] at q;refine⟨b.block,b.off,f.block,f.off,c.block,c.off,u5,u6,⟨_,_,_,qW⟩,λk l o ho i hi=>?_⟩;have L:=λi(h:i<19)=>@aeK b.block f.block c.block k b.off f.off c.off l i h
 match i,hi with
 |0,_=>exact aPV (by rw[(L 0 zm).1];omega) (L 0 zm).2
 |1,_=>exact r1.Lk (L 1 zm).1 (L 1 zm).2 zm qab zm (BM qab)
 |2,_=>trivial
 |3,_=>exact r3.Lk (L 3 zm).1 (L 3 zm).2 zm qab zm (BM qab)
 |4,_=>exact r4.Lk (L 4 zm).1 (L 4 zm).2 zm qab zm (BM qab)
 |5,_=>exact aeI (by rw[(L 5 zm).1];omega) (L 5 zm).2 e5
 |6,_=>exact aeI (by rw[(L 6 zm).1];omega) (L 6 zm).2 e6
 |7,_=>trivial
 |8,_=>exact r8.Lk (L 8 zm).1 (L 8 zm).2 zm qab zm (BM qab)
 |9,_=>exact r9.Lk (L 9 zm).1 (L 9 zm).2 zm qab zm (BM qab)
 |10,_=>trivial
 |11,_=>exact W2 (by rw[(L 11 zm).1];omega) (L 11 zm).2 zm rfl rfl q19 Z m
 |12,_=>exact W2 (by rw[(L 12 zm).1];omega) (L 12 zm).2 zm rfl rfl q21 z21 p
 |13,_=>exact R.Lk (L 13 zd).1 (L 13 zd).2 zd zk zd (BM zk)
 |14,_=>trivial
 |15,_=>exact W2 (by rw[(L 15 zd).1];exact G) (L 15 zd).2 zd rfl rfl q20 z20 q
 |16,_=>trivial
 |17,_=>trivial
 |18,_=>trivial
 |19,_=>exact S.Lk rfl rfl zd zk zd (BM zk)
 |20,_=>exact T.Lk rfl rfl zd zk zd (BM zk)
 |21,_=>exact U.Lk rfl rfl zd zk zd (BM zk)
 |22,_=>exact ho
 |n+23,h=>exact absurd h zo
end Go.Proofs.YtjjppojiafpfcaaGreatDoor
namespace Go.Proofs.YtjjppojiafpfcaaGreatDoor
open Go.ChangeShapes Go.WideShapes Go.ChangeAt Go.RowKit
open Yv
set_option maxRecDepth 100000
def BN{H:Type}(d:Yv.Doc):DataW H:=.agg [.lit (.string d.b),.lit (.string d.a),.lit (.int .i64 d.c)]
def W3(d:Yv.Doc):List Value:=[.string ⟨d.b.toArray⟩,.string ⟨d.a.toArray⟩,.int .i64 d.c]
section
variable {H:Type}{di:TypeId×Value->H}{W:World}{base:Nat}{u:Nat->Bool}{held:Bool}{f:Nat}{cs:List Value}{p:List MemPlace}
def aot{d:DataW H}(h:DataW.trod di Tryz.prog W base u held f 45 cs=some (d,p)):∃doc,d=BN doc:=by
 obtain⟨o,n,rfl,b,q,c,a⟩:=DataW.trod_struct (fs:=#[{name:= "URI",type:=9,offset:=0,embedded:=false,tag:= "",pkgPath:= "",byteOffset:=0},{name:= "Text",type:=9,offset:=1,embedded:=false,tag:= "",pkgPath:= "",byteOffset:=16},{name:= "Version",type:=2,offset:=2,embedded:=false,tag:= "",pkgPath:= "",byteOffset:=32}]) qab h;simp only[avj] at b;obtain⟨rfl,_⟩:=b
 match o,c with
 |[x0,r,s],_=>
 obtain⟨j,_,e,_⟩:=DataW.trod_string qab (a 0 _ rfl);obtain⟨l,_,g,_⟩:=DataW.trod_string qab (a 1 _ rfl);obtain⟨m,_,i,_⟩:=DataW.trod_int (k:=.i64) qab (a 2 _ rfl);subst e g i;exact⟨⟨j.data.toList,l.data.toList,m⟩,rfl⟩
def aeL:∀{ds:List (DataW H)},(∀d∈ds,∃doc,d=BN doc)->∃a:List Yv.Doc,ds=a.map BN
 |[],_=>⟨[],rfl⟩
 |d::ds,h=>by obtain⟨x,rfl⟩:=h _ au0;obtain⟨l,rfl⟩:=aeL λd hd=>h d (aug _ hd);exact⟨x::l,rfl⟩
def aou:P5 Tryz.prog 45 3=true:=by rfl
def aov(a:List Yv.Doc):(a.map (BN (H:=H))).all (FB Tryz.prog 45 3)=true:=by simp[BN,FB,aou,Mb]
def aow(a:List Yv.Doc):(a.map (BN (H:=H))).map Ma=a.map W3:=by rw[av4];rfl
def aox(l:List UInt8):yU (S l)=some (.string ⟨l.toArray⟩):=by
 have h:=MW ⟨l.toArray⟩ (l.map (·.toNat)) zm;obtain⟨a,b⟩:=h;rw[avd] at a b;simp[S,yU,if_pos b];rw[<-a];simp;congr 4;have:(UInt8.ofNat∘λx:UInt8=>x.toNat)=id:=by funext x;simp
 rw[this,axU]
def aoy(d:Yv.Doc):d.fj.map yU=(W3 d).map some:=by simp[Doc.fj,aul,awx,aox,W3];rfl
theorem aoz(a:List Yv.Doc):a.length+pC a<=Rows.uptoBulkAll (a.map (BN (H:=H))):=by
 induction a with
 |nil=>grind[pC]
 |cons d l b=>
  simp[pC,aul,axF,atX,Rows.uptoBulkAll,BN,Rows.uptoBulk] at b|-;omega
theorem aeM{r:Reach}{v:Value}{x:Option Addr}{l c:Nat}(a:Value.okWide Tryz.prog W r base 22 v)(h:v.cells.toList=[.slice x l c]):v=.slice x l c:=by
 have b:Tryz.prog.underlying 22=some (.slice 45):=by rfl
 unfold Value.okWide Cell.okWide Cell.ok at a;rw[b] at a;cases v<;>first|(simpa[Value.cells] using h)|grind|skip
end
theorem aPW{H:Type}{di:TypeId×Value->H}{W:World}{v:Value}{d:DataW H}{p:List MemPlace}{r:Reach}{base:Nat}(b:Value.okWide Tryz.prog W r base 23 v)(h:DataW.Trod di Tryz.prog W 0 (λ_=>true) true 23 v d p):∃n,v=.int .u16 n/\d=.lit (.int .u16 n)/\0<=n/\n<65536:=by
 obtain⟨f,h⟩:=h;have e:Tryz.prog.underlying 23=some (.int .u16):=by rfl
 obtain⟨n,c,g,_⟩:=DataW.trod_int e h;unfold Value.okWide Cell.okWide Cell.ok at b;cases v<;>first|grind|skip
 rename_i k m;obtain⟨rfl,a⟩:=b;simp[Value.cells] at c;unfold IntKind.has at a;rw[show IntKind.min .u16=0 by rfl,show IntKind.max .u16=65535 by rfl] at a;grind
theorem aoA{H:Type}{di:TypeId×Value->H}{W:World}{v:Value}{d:DataW H}{p:List MemPlace}{n:Int}{r:Reach}{base:Nat}(hl:laidMetH Tryz.prog Rows.scopeAlphaUptoRow.laid W)(hw:W.ShapedOpen Tryz.prog)(V:0<=n/\n<65536)(Y:Value.okWide Tryz.prog W r base 22 v)
 (hd:DataW.Trod di Tryz.prog W 0 (λ_=>true) true 22 v d p) (U:Rows.uptoBulk d<=1048576):
 Calls Tryz.prog 3 #[v,.int .u16 n] W λe E=>e=.returned (.bool true)/\E.os=W.os/\E.output=W.output/\∀i,i<W.heap.size->E.heap[i]? =W.heap[i]? :=by
 obtain⟨y,B,z,C,A,D,t5,t6,⟨K,J3,Vu,qW⟩,G⟩:=aok hl hw;obtain⟨f,h⟩:=hd;have g:∀x w,jq (mG Tryz.prog W (Bf y z A x) (Sf B C D w)) Tryz.prog:=λx w=>aod (avp qab) λi hi=>aeK hi;have P:Tryz.prog.underlying 22=some (.slice 45):=by rfl
 have J:Tryz.prog.cellsOf 45=3:=by rfl
 rcases DataW.trod_slice P h with⟨I,Q⟩|⟨_,_,_,M,rest,_,_,_,Q,_⟩;have:=aeM Y I;subst this;exact aeA (T:=J8) (t:=(t5,t6)) (o:=.c) (a:=[.h,.d .u16 n]) ZM ZN (.inr rfl) (aez (.inr rfl) (G 0 0 .c trivial)) (g 0 0) (qS.2 ⟨by rfl,qS.2 ⟨by rfl,sJ⟩⟩) (aPT ZL aKF V λh' same=>⟨h',rfl,same⟩);simp only[avj] at Q;obtain⟨rfl,_⟩:=Q;obtain⟨_,_,R⟩:=aeD P zo h;obtain⟨c,N⟩:∃c:List Yv.Doc,M.map (·.1)=c.map BN:=aeL λd hd=>by obtain⟨i,hi⟩:=aum hd;have ao:=(at0.1 hi).1;obtain⟨_,_,_,_,_,R⟩:=(R zo).2;obtain⟨l,m,q,e1,_⟩:=R i d qaa;exact aot e1
 rw[N] at h U;obtain⟨a,I,O⟩:=P8 P J zm (aov c) h;rw[avd] at I O;rw[aow] at O;have dA:=aoz (H:=H) c;simp only[Rows.uptoBulk] at U;have:=aeM Y I;subst this;have S:∀x w(L:(mG Tryz.prog W (Bf y z A x) (Sf B C D w)).g 22=(mG Tryz.prog W (Bf y z A x) (Sf B C D w)).g 22),kM (mG Tryz.prog W (Bf y z A x) (Sf B C D w)) W 22 (.h 3 c.length λj=>match c[j]? with|some d=>d.fj|none=>[])->
  (c.length+(rest.map (·.1)).length≠0->a=⟨x,w+0,none⟩/\w+0+(c.length+(rest.map (·.1)).length)*3<=(mG Tryz.prog W (Bf y z A x) (Sf B C D w)).g 22)->
  Calls Tryz.prog 3 #[.slice (some a) c.length (c.length+(rest.map (·.1)).length),.int .u16 n] W λe E=>e=.returned (.bool true)/\E.os=W.os/\E.output=W.output/\∀i,i<W.heap.size->E.heap[i]? =W.heap[i]? :=λx w _ ho ha=>by
  exact aeA (T:=J8) (t:=(t5,t6)) (a:=[.c 22 0 3 c.length (c.length+(rest.map (·.1)).length) true,.d .u16 n]) ZM ZN (.inl rfl) (aez (.inl rfl) (G x w _ ho)) (g x w) (qS.2 ⟨⟨by show 22<23;simp,a,_,rfl,aEg _ _,at2 _,λ_=>rfl,ha⟩,qS.2 ⟨by rfl,sJ⟩⟩) (aPS ZL aKF zl (λj hj=>by grind) zo zo V λh' same=>⟨h',rfl,same⟩)
 rcases auP (c.length+(rest.map (·.1)).length) with hz|Z;have Wl:c=[]:=auv zo;subst Wl;refine S 1 0 rfl ?_ (λh=>absurd hz h);exact Iw.Lk (L:=[]) (b:=1) (s:=0) ⟨K,J3,Vu,qW,by simp,λk l F=>by grind⟩ rfl rfl zm rfl zm λk l F=>by grind
 obtain⟨X,hr,aO,el,fr,Wy,cP⟩:=O Z;refine S a.block a.off rfl ?_ (λ_=>⟨?_,?_⟩);refine hr.Lk rfl rfl zd zm zo λk l F=>?_;rw[auh] at F;obtain⟨d,bC,rfl⟩:=au'.1 F;replace F:=bC;show(match c[k]? with|some d=>d.fj|none=>[]).map yU=_;rw[F];exact aoy d;cases a;simp only at X;subst X;rfl;rw[aeH (i:=22) (b:=a.block) rfl Wy];simpa using cP
theorem aoE(H:Type)(di:TypeId×Value->H)(W:World)(base:Nat)(args:Array Value)(ds gs:List (DataW H))(a:List MemPlace)
 (r:∀(j:Nat) t v,Tryz.f3.params[j]? =some t->args[j]? =some v->Value.okWide Tryz.prog W .any base t v)
 (w:DataW.Whole di Tryz.prog Tryz.f3.params.toList Rows.scopeAlphaSpec.vars false W args.toList ds gs a) (y:Rows.uptoBulkAll (ds++gs)<=1048576) (D:laidMetH Tryz.prog Rows.scopeAlphaUptoRow.laid W) (J:W.ShapedOpen Tryz.prog):
 Calls Tryz.prog 3 args W λe k=>∃v,e=.returned v/\Rows.scopeAlphaSpec.post di Tryz.prog Tryz.f3 false true false false W args v k:=by
 have g:=w;obtain⟨p,q,l,E,rfl,_,_⟩:=w;have C:=l;obtain⟨v,M,d,N,p,o,rfl,rfl,rfl,hd,z⟩:=trodAll_two C;have m:=r 1 23 M qab rfl;obtain⟨n,rfl,rfl,G⟩:=aPW m z;obtain⟨rfl,rfl⟩:=trodVars_none E;have K:Rows.uptoBulk d<=1048576:=by grind[Rows.uptoBulkAll]
 have B:∀x∈p++o,x.block<W.heap.size:=λx c=>by simpa using g.lt x qaa
 refine(aoA D J G (r 0 22 v qab rfl) hd K).mono λe k ⟨F,A,L,I⟩=>?_;subst F;have Vn:∀s:MemPlace->Prop,W.keptBut k s:=λs=>⟨A,L,λi hi=>by grind⟩
 have same:∀x∈p++o,W.sameAt k x:=λx c=>by
  have y:=I x.block (B x c);cases x with
  |cell b off=>grind[MemPlace.block,World.sameAt,World.cell?]
  |map b=>exact y
 refine⟨_,rfl,[d,.lit (.int .u16 n)],[],_,[],p++o,[],g,trodAll_mk1 (shut_bool Tryz.underlying4 _),trodAll_mk2 (WideElems.Trod_stays zk qab (aw1 qab) hd (λx c=>same x (aP7 _ c)) (λx c=>by grind))
  (WideElems.Trod_stays zk qab (aw1 qab) z (λx c=>same x (aP1 _ c)) (λx c=>by grind)),rfl,Vn _,λh=>by grind⟩
end Go.Proofs.YtjjppojiafpfcaaGreatDoor
namespace Go.Proofs.YtjjppojiafpfcaaGreatDoor
open Yv Go.ChangeShapes Go.WideShapes Go.ChangeAt Go.RowKit
set_option maxRecDepth 100000
def aI{a b:Bool}(h:a=true)(g:b=true):(a&&b)=true:=by rw[h,g];rfl
def j0:(Rows.scopeAlphaUptoRow.wf (OpenSpec.ofChange (Rows.OpenSpec.upto Rows.scopeAlphaSpec).bare))=true:=zk
def j1:(laidOutB Tryz.prog)=true:=zk
def j2:(mapsRowed Tryz.prog)=true:=zk
def j3:(Tryz.f3.params.all (Tryz.prog.readableRec ·))=true:=zk
def j4:(namedTie Tryz.prog Rows.scopeAlphaUptoRow.named (Rows.OpenSpec.upto Rows.scopeAlphaSpec).bare.vars)=true:=zk
def j5:((Rows.scopeAlphaUptoRow.stops==[]))=true:=zk
def j6:((Tryz.prog.stops==[]))=true:=zk
def j7:((Rows.scopeAlphaUptoRow.knobs==[]))=true:=zk
def j8:((Tryz.prog.stopKnobs==[]))=true:=zk
def j9:((Rows.scopeAlphaUptoRow.inPlace==Tryz.prog.inPlace 3))=true:=zk
def j10:((Rows.scopeAlphaUptoRow.unfollowed==Tryz.prog.unfollowed 3))=true:=zk
def j11:((Rows.scopeAlphaUptoRow.recurses==Tryz.prog.recurses 3))=true:=zk
def j12:((Rows.scopeAlphaUptoRow.named==Tryz.prog.varsNamed 3))=true:=zk
def j13:((Rows.scopeAlphaUptoRow.maps==(Tryz.f3.params.toList++(Rows.OpenSpec.upto Rows.scopeAlphaSpec).bare.plain.varTypes Tryz.prog).any (Tryz.prog.mapsRec ·)))=true:=zk
def j14:((Rows.scopeAlphaUptoRow.ifaces==(Tryz.f3.params.toList++(Rows.OpenSpec.upto Rows.scopeAlphaSpec).bare.plain.varTypes Tryz.prog).any (Tryz.prog.ifacesRec ·)))=true:=zk
def j15:((Rows.scopeAlphaUptoRow.mapsOut==Tryz.prog.mapsAmong Tryz.f3.resultTypes.toList))=true:=zk
def j16:((Rows.scopeAlphaUptoRow.loops==(Tryz.f3.params.toList++(Rows.OpenSpec.upto Rows.scopeAlphaSpec).bare.plain.varTypes Tryz.prog).any (Tryz.prog.loopsFrom ·)))=true:=zk
def j17:((Rows.scopeAlphaUptoRow.wideKeys==(Tryz.f3.params.toList++(Rows.OpenSpec.upto Rows.scopeAlphaSpec).bare.plain.varTypes Tryz.prog++Tryz.f3.resultTypes.toList).any (Tryz.prog.wideKeysFrom ·)))=true:=zk
def j18:((Rows.OpenSpec.upto Rows.scopeAlphaSpec).bare.vars.all (Tryz.prog.varReadable ·))=true:=zk
def j19:(Tryz.f3.resultTypes.all (λt=>Tryz.prog.readableRec t&&decide (t<Tryz.prog.types.size)))=true:=zk
def j20:((Rows.scopeAlphaUptoRow.ifacesOut==Tryz.f3.resultTypes.toList.any (Tryz.prog.ifacesRec ·)))=true:=zk
def j21:((Rows.scopeAlphaUptoRow.loopsOut==Tryz.f3.resultTypes.toList.any (Tryz.prog.loopsFrom ·)))=true:=zk
def j22:((Rows.scopeAlphaUptoRow.plainKeys==Tryz.prog.plainKeys))=true:=zk
def j23:(Rows.scopeAlphaUptoRow.shortTexts.isNone)=true:=zk
def j24:(Tryz.prog.stopsHeard)=true:=zk
def j25:(Tryz.prog.mayEnter)=true:=zk
def j26:((Rows.scopeAlphaUptoRow.lifted==Tryz.prog.liftsFinal))=true:=zk
def j27:((Tryz.prog.make==some Rows.scopeAlphaUptoRow.make))=true:=zk
def j28:((Rows.scopeAlphaUptoRow.kinds==(if Rows.scopeAlphaUptoRow.domain.isEmpty then[] else Tryz.f3.params.toList.map λt=>match Tryz.prog.underlying t with|some (.int k)=>some k|_=>none)))=true:=zk
def j29:((Rows.scopeAlphaUptoRow.pinned==Rows.scopeAlphaUptoRow.pinnedBy))=true:=zk
def j30:((Rows.scopeAlphaUptoRow.veiled==(Tryz.f3.params.toList++(Rows.OpenSpec.upto Rows.scopeAlphaSpec).bare.plain.varTypes Tryz.prog++Tryz.f3.resultTypes.toList).any (Tryz.prog.veiledRec ·)))=true:=zk
def j31:(Rows.scopeAlphaUptoRow.veiledFits Tryz.prog Tryz.f3.params.toList (Tryz.f3.params.toList++(Rows.OpenSpec.upto Rows.scopeAlphaSpec).bare.plain.varTypes Tryz.prog++Tryz.f3.resultTypes.toList))=true:=zk
def aoF:joinedFacts Tryz.prog 3 Tryz.f3 (Rows.OpenSpec.upto Rows.scopeAlphaSpec).bare Rows.scopeAlphaUptoRow=true:=by unfold joinedFacts;exact(aI (aI (aI (aI (aI (aI (aI (aI (aI (aI (aI (aI (aI (aI (aI (aI (aI (aI (aI (aI (aI (aI (aI (aI (aI (aI (aI (aI (aI (aI (aI j0 j1) j2) j3) j4) j5) j6) j7) j8) j9) j10) j11) j12) j13) j14) j15) j16) j17) j18) j19) j20) j21) j22) j23) j24) j25) j26) j27) j28) j29) j30) j31)
end Go.Proofs.YtjjppojiafpfcaaGreatDoor
namespace Go.Proofs.YtjjppojiafpfcaaGreatDoor
open Yv Go.ChangeShapes Go.WideShapes Go.ChangeAt Go.RowKit
set_option maxRecDepth 100000
def aoG(os:Os):laidMet Tryz.prog Rows.scopeAlphaUptoRow.laid ((World.laidAll Tryz.prog os Rows.scopeAlphaUptoRow.laid).forCall (λ_ _=>0) ⟨#[],#[.slice none 0 0,.int .u16 0],[]⟩).memory:=
 laidMet_laidAll _ zk zk
def aoH{H:Type}{di:TypeId×Value->H}{C:Checked}{os:Os}{f:FuncId}{fn:Func}{s:OpenSpec}{a:List PathCond}{apart:Bool}{laid:List (String×DataW Unit)}(modest:Bool)(b:World)(args:Array Value)(e:b.os=os)
 (d:(b.forCall (λ_ _=>0) ⟨#[],args,[]⟩).Shaped C.prog)
 (c:Input.okWideB C.prog (b.forCall (λ_ _=>0) ⟨#[],args,[]⟩) f ⟨#[],args,[]⟩=true)
 (g:s.preRow di C.prog fn a apart laid (b.forCall (λ_ _=>0) ⟨#[],args,[]⟩).memory args):
 ∃(w:World) (tape:Tape) (i:Input),w.os=os/\(w.forCall tape i).Shaped C.prog/\i.vars=[]/\Input.okWide C.prog (w.forCall tape i) .any w.heap.size f i/\
  s.preRow di C.prog fn a apart laid (w.forCall tape i).memory i.args/\({modest:=modest}:Assume).holds C.prog (lone (Frame.enter C.prog f i.args .normal) [] (w.forCall tape i)):=
 ⟨b,λ_ _=>0,⟨#[],args,[]⟩,e,d,(Input.okWide_of_okWideB (base:=0) c).1,(Input.okWide_of_okWideB c).2,g,by simp only[Assume.holds];exact⟨by simp,by simp,λ_=>Modest.zero,by simp,by simp⟩⟩
def lifted(os:Os)(a:os.Started)(H:Type)(di:TypeId×Value->H)(F:Stop.Interp):
 ReturnsInHanded {} Tryz.checked os 3 .any ((Rows.OpenSpec.upto Rows.scopeAlphaSpec).preRow di Tryz.prog Tryz.f3 Rows.scopeAlphaUptoRow.domain false Rows.scopeAlphaUptoRow.laid) (((Rows.OpenSpec.upto Rows.scopeAlphaSpec).at F).post di Tryz.prog Tryz.f3 false true false false):=by
 refine returnsInHanded_of_row (C:=Tryz.checked) (s:=(Rows.OpenSpec.upto Rows.scopeAlphaSpec)) own a zk Tryz.func3
  (aoH (di:=di) (C:=Tryz.checked) false (World.laidAll Tryz.prog os Rows.scopeAlphaUptoRow.laid) #[.slice none 0 0,.int .u16 0] (World.laidAll_os _ _ _) (World.shaped_of_ZipB zk zk) zk
   (OpenSpec.preRow_of_cond 8 (show DataW.whole di Tryz.prog _ _ _ false _ 8=some ([.nil,.lit (.int .u16 0)],[],[]) by kernel_rfl) zk (λk h=>by cases h;kernel_rfl) zk (aoG os))) ?_
 intro W base args ds gs b e g _ d _ f c _;exact aoE H di W base args ds gs b e g (aw1 (d _ rfl)) f c
def aoI:Rows.ScopeAlphaUptoSaid:=
 OpenClaim.holds_of_cond 3 Tryz.f3 rfl rfl rfl rfl rfl rfl rfl ⟨rfl,rfl,rfl,rfl,rfl⟩ rfl rfl rfl rfl rfl zk Tryz.func3 aoF
  (aw1 zk) (by unfold Func.isWrapper;first|(rw [if_pos qam];kernel_rfl)|(rw [if_neg qam];exact⟨rfl,rfl⟩))
  (λos a H di _ F=>by rw[OpenClaim.pre_eq_preRow];exact lifted os a H di F)
def plain(f:FuncId)(fn:Func)(b:Tryz.pinned.checked.prog.funcNamed "emend/emendlaw13.ScopeAlpha"=some f)(d:Tryz.pinned.checked.prog.funcs[f]? =some fn):
 true=Tryz.pinned.checked.prog.looks []/\∀(j:Nat) t,fn.params[j]? =some t->Tryz.pinned.checked.prog.wantsStandIn t=false:=by
 obtain rfl:f=3:=auQ ((show Tryz.prog.funcNamed "emend/emendlaw13.ScopeAlpha"=some 3 by kernel_rfl).symm.trans b)|>.symm;obtain rfl:fn=Tryz.f3:=(auQ (Tryz.func3.symm.trans d)).symm;refine⟨by kernel_rfl,λj t a=>?_⟩;have c:Tryz.f3.params=#[22,23]:=zk;rw[c] at a
 match j,a with
 |0,a=>
  have e:t=22:=(auQ (show some 22=some t from a)).symm;rw[e];exact(by kernel_rfl:Tryz.prog.wantsStandIn 22=false)
 |1,a=>
  have e:t=23:=(auQ (show some 23=some t from a)).symm;rw[e];exact(by kernel_rfl:Tryz.prog.wantsStandIn 23=false)
 |j+2,a=>simp at a
theorem scopeAlphaUpto_holds:Rows.ScopeAlphaUptoCardSaid:=
 Claim7.holds_tied_plain_at .later [] _ _ _ _ aoI (λ_ h=>by cases h) zk (λ_ h=>by cases h) scopeAlphaUpto_row_tie rfl ⟨rfl,rfl⟩ zk rfl plain zk
end Go.Proofs.YtjjppojiafpfcaaGreatDoor
