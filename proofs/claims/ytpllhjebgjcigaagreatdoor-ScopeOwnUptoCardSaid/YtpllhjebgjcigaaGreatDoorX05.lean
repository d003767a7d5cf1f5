/- A part of the proof of 'ScopeOwnUptoCardSaid'. No condition. -/
import Derived.Test.YtpllhjebgjcigaaGreatDoorX04
set_option maxHeartbeats 16000000
set_option maxRecDepth 100000
set_option linter.all false
namespace Yv
variable{T:aM->Option CF}
section
open Go (IntKind)
variable{a b:Int}{m n:Nat}
def bI(op:(n:Nat)->BitVec n->BitVec n->BitVec n)(a b:Int):Int:=match qN op .i64 a b with|.i n=>n|_=>0
def bU(op:(n:Nat)->BitVec n->BitVec n->BitVec n)(m n:Nat):Nat:=match qN op .u8 (.ofNat m) (.ofNat n) with|.u8 n=>n|_=>0
def bW(op:(n:Nat)->BitVec n->BitVec n->BitVec n)(a b:Int):Int:=match qN op .u64 a b with|.int _ n=>n|_=>0
@[simp] theorem G5{op}:jI op (.i a) (.i b)=.v (.i (bI op a b)):=rfl
@[simp] theorem asf{op}:jI op (.u8 m) (.u8 n)=.v (.u8 (bU op m n)):=rfl
@[simp] theorem oy{op}:jI op (.int .u64 a) (.int .u64 b)=.v (.int .u64 (bW op a b)):=rfl
theorem aht{op}:bU op m n<256:=by simp only[bU,qN,mL,Go.IntKind.wrap_u8];omega
theorem ahu{op}:0<=bW op a b/\bW op a b<18446744073709551616:=by simp only[bW,qN,mL,Go.IntKind.wrap_u64];omega
@[simp] theorem asg{k:Int}(h:0<=k):oQ pF (.i a) (.int .u64 k)=.v (.i (w64 (a*2^(min k.toNat 64)))):=by obtain⟨n,rfl⟩:=at6 h;rfl
@[simp] theorem ash:ko .u8 (.i a)=.v (.u8 (a% 256).toNat):=by simp only[ko,intOf,mL,Go.IntKind.wrap_u8]
@[simp] theorem asi{x:AV}:qo .ident [x]=.v x:=rfl
@[simp] theorem ahv{i o:Nat}:cJ .ptr (.ptr i o) (.ptr i o)=some true:=by simp[cJ,IM]
end
section
variable{h:Hp}{k:aK->Prop}{s p:List UInt8}{c:UInt8}
def ahw(h:Hp)(i n:Nat):Prop:=∃cnt t,h.get i=.rows 5 1 cnt 0 t/\n<=cnt/\∀j,j<n->∃u,u<256/\t j=[.u8 u]
def A9(lo:Nat)(h:Hp)(b n:Nat):Prop:=
 n=0/\h.get b=.one 164 [.gJ,.bx]\/0<n/\∃i,lo<=i/\i≠b/\h.get b=.one 164 [.ptr b 0,.slice i 0 1 n n false]/\ahw h i n
theorem A9.lt{lo b n:Nat}(x:A9 lo h b n):b<h.nx:=by rcases x with⟨_,e⟩|⟨_,i,_,_,e,_⟩<;>exact Hp.lt e rfl
theorem aai(HT:aA T){b n u lo:Nat}(hu:u<256)(hx:A9 lo h b n)(hn:n<1073741824)(cK:lo<=h.nx)(hk:∀h',ah (λi=>i=b\/lo<=i) h h'->A9 lo h' b (n+1)->k (.ret .ji h')):aE T (W T) ⟨117⟩ [.ptr b 0,.u8 u] h k:=by
 rw[aJ HT.t117];have hb:=hx.lt;refine ag ?_;rw[aJ HT.t140];rcases hx with⟨rfl,e⟩|⟨h0,i,hi,ue,e,cnt,t,ei,hc,ht⟩;simp(disch:=omega) [e,Dz,cJ];rw[A7 (n:=0) (wN (Hp.br (by simp only[Hp.iy];omega)) zl) rfl zd];refine aB e ?_;refine hk _ fZ (.inr ⟨by omega,h.nx+1,by omega,by omega,?_,1,cx fG 0 [.u8 u],?_,at2 _,λj hj=>⟨u,hu,?_⟩⟩);exact aa;exact aa;obtain rfl:j=0:=zo;simp;have hii:=Hp.lt ei rfl;simp(disch:=omega) [e,ei,ahv];obtain⟨n,rfl⟩:∃q,n=q+1:=⟨n- 1,by omega⟩;rw[A8 (n:=0) (cnt:=cnt) (t:=t) (au ei) hc (wN (Hp.br rfl) zl) rfl (rV zo zo)];refine aB e ?_;refine hk _ fZ (.inr ⟨by omega,h.nx+1,by omega,by omega,?_,n+1+1,cx t (n+1) [.u8 u],?_,at2 _,λj hj=>?_⟩);exact aa;exact aa
 by_cases pO:j=n+1
 exact⟨u,hu,by simp[pO]⟩;obtain⟨w,hw,e2⟩:=ht j zo;exact⟨w,hw,by simp[pO,e2]⟩
theorem ahx{l:List Nat}(hl:∀b∈l,b<256):AV.str l.length (cO l)=S (l.map UInt8.ofNat):=by
 unfold S;rw[avd,av4];congr 2
 conv=>lhs;rw[<-axU l]
 apply avB;intro b hb;have:=hl b hb;simp[UInt8.toNat_ofNat,avy this]
theorem Tm{t:Nat->List AV}:∀n k,(∀j,k<=j->j<k+n->∃u,u<256/\t j=[.u8 u])->∃l,bytesRow (dw t n k)=some l/\l.length=n/\∀b∈l,b<256
 |0,k,_=>⟨[],rfl,rfl,λ_ h=>by cases h⟩
 |n+1,k,h=>by obtain⟨u,hu,e⟩:=h k zl zo;obtain⟨l,e1,e2,e3⟩:=Tm (t:=t) n (Nat.succ k) λj h1 h2=>h j zo zo;refine⟨u::l,?_,by simp[e2],?_⟩;simp only[dw,dY,e,bytesRow,e1,ny,show u<=255 by omega,auS,cond];intro b hb;rcases atZ.1 hb with rfl|hb;exact hu;exact e3 b hb
theorem ahy(HT:aA T){b n lo:Nat}(hx:A9 lo h b n)(hk:∀h' v,ah (λi=>lo<=i) h h'->v.length=n->k (.ret (S v) h')):aE T (W T) ⟨115⟩ [.ptr b 0] h k:=by
 rw[aJ HT.t115];have hb:=hx.lt;rcases hx with⟨rfl,e⟩|⟨h0,i,hi,ue,e,cnt,t,ei,hc,ht⟩;simp(disch:=omega) [e,FX,AL];exact hk h [] (ah.refl _) rfl;obtain⟨n,rfl⟩:∃q,n=q+1:=⟨n- 1,by omega⟩;obtain⟨l,e1,e2,e3⟩:=Tm (t:=t) (n+1) 0 λj _ h2=>ht j zo;have er:kZ (.rows 5 1 cnt 0 t) 0 1 (n+1)=some (dw t (n+1) 0):=NL zd hc;have eu:AL h 5 (.ptr i 0) (.i ((n:Int)+1))=.vh (S (l.map UInt8.ofNat)) (h.set i .eD):=by rw[<-ahx e3,e2];have en:mM (.i ((n:Int)+1))=some (n+1):=rfl;unfold AL;rw[en];simp only[ei,tZ,auS,cond,J9,er,e1]
 simp(disch:=omega) [e,FX,eu];exact hk _ _ fZ (by simp[e2])
end
section
open Go (IntKind)
variable{h:Hp}{k:aK->Prop}{s p:List UInt8}{c:UInt8}
theorem aaj(HT:aA T)(hk:∀A:Int,k (.ret (.i A) h)):aE T (W T) ⟨45⟩ [S s,.u8 c.toNat] h k:=Tf HT (hk _)
theorem ahz(HT:aA T)(hl:s.length<1073741824)(hk:∀(x n:Nat),x<256->n<=s.length->k (.ret (.bA [.u8 x,.i n]) h)):aE T (W T) ⟨116⟩ [S s] h k:=by
 rw[aJ HT.t116];cases s with
 |nil=>
  refine ag ?_;exact hk 0 0 zd zd
 |cons c s=>
  simp only[atX] at hl hk;have hc:=c.toNat_lt;have vz:(c::s).length=s.length+1:=rfl
  by_cases e1:c.toNat=110
  refine aB e1 ?_;exact hk 10 1 zd zo
  by_cases e2:c.toNat=116
  refine aS e1 e2 ?_;exact hk 9 1 zd zo
  by_cases e3:c.toNat=34
  refine aU e1 e2 e3 ?_;exact hk 34 1 zd zo
  by_cases e4:c.toNat=92
  refine bK e1 e2 e3 e4 ?_;exact hk 92 1 zd zo
  by_cases e5:c.toNat=120
  by_cases e6:2<s.length+1
  have e6':(2:Int)<(s.length:Int)+1:=zo;simp(disch:=omega) [e1,e2,e3,e4,e5,e6',atX];refine aaj HT λA=>?_;refine aB vz ?_;refine aaj HT λB=>?_
  by_cases eA:0<=A
  by_cases eB:0<=B
  refine aS eA eB ?_;exact hk _ 3 zo zo;refine aS eA eB ?_;exact hk 0 0 zd zo;refine aB eA ?_;exact hk 0 0 zd zo;have e6':¬(2:Int)<(s.length:Int)+1:=zo;simp(disch:=omega) [e1,e2,e3,e4,e5,e6',atX];exact hk 0 0 zd zo;refine cC e1 e2 e3 e4 e5 ?_;exact hk 0 0 zd zo
theorem ah.sX{M:Nat->Prop}{a b d:Hp}(x:ax a b)(y:ah M b d)(hm:∀i,M i->a.nx<=i):ax a d:=
 ⟨at1 x.nx y.nx,λi hi _=>(y.get i (aur hi x.nx) λm=>by have:=hm i m;omega).trans (x.get i hi id)⟩
theorem A9.mono{M:Nat->Prop}{lo b n:Nat}{h h':Hp}(x:A9 lo h b n)(g:ah M h h')(hb:¬M b)(hm:∀i,lo<=i->¬M i):A9 lo h' b n:=by rcases x with⟨rfl,e⟩|⟨h0,i,hi,ue,e,cnt,t,ei,hc,ht⟩;exact .inl ⟨rfl,by rw[g.get _ (Hp.lt e rfl) hb];exact e⟩;exact .inr ⟨h0,i,hi,ue,by rw[g.get _ (Hp.lt e rfl) hb];exact e,cnt,t,by rw[g.get _ (Hp.lt ei rfl) (hm i hi)];exact ei,hc,ht⟩
theorem ahA(HT:aA T){hh:Hp}(hl:s.length<1073741824)(hk:∀v n h',ax hh h'->n<=s.length->v.length<=s.length->k (.ret (.bA [S v,.i (n:Nat)]) h')):∀(m i n:Nat)(h:Hp)(f:Fr),s.length<=m+i->n<i->i<=s.length->ax hh h->A9 (hh.nx+1) h hh.nx n->
 J 0 f=S s->J 4 f=.ptr hh.nx 0->J 5 f=.i i->W T (.loop l81_0) f h [] (bY 0 (bF (W T ((CC.af r81_19).seq CC.ret)) (finish T (W T) [.tmp 2,.tmp 3] k))):=by
 intro m
 induction m with
 |zero=>
  intro i n h f hm hn hi gg hb f0 f4 f5;have ao:¬(i:Int)<s.length:=zo;rw[aP];refine aU f0 f5 ao ?_;exact hk [] 0 _ gg zo zm
 |succ m ih=>
  intro i n h f hm hn hi gg hb f0 f4 f5;rw[aP]
  by_cases ao:i<s.length
  have aY:(i:Int)<s.length:=zo;have hg:s.getD i 0=s[i]:=by simp[ao]
  have hc:=s[i].toNat_lt;have bl:=hb.lt
  by_cases e1:s[i].toNat=34
  refine cq f0 f4 f5 aY hg e1 ?_;refine ahy HT hb λh1 v g1 hv=>?_;refine aB f5 ?_;have q:=hk v (i+1) h1 (gg.sX g1 λx hx=>by omega) zo zo;simpa using q
  by_cases e2:s[i].toNat<32
  refine iR f0 f4 f5 aY hg e1 e2 ?_;exact hk [] 0 _ gg zo zm
  by_cases e3:s[i].toNat=127
  refine cq f0 f4 f5 aY hg e3 ?_;exact hk [] 0 _ gg zo zm
  by_cases e4:s[i].toNat=92
  have tn:((i:Int)+1).toNat=i+1:=zo;have Ki:(i:Int)+1<=s.length:=zo;refine fY f0 f4 f5 aY hg e4 Ki tn ?_;refine ahz HT qav λx d hx hd=>?_;rw[auf] at hd
  by_cases e5:d=0
  refine aB e5 ?_;exact hk [] 0 _ gg zo zm;refine aU e5 f4 f5 ?_;refine aai HT hx hb zo zo λh1 g1 b1=>?_;refine aB f5 ?_;refine ih (i+d+1) (n+1) h1 _ zo zo zo (gg.sX g1 λx hx=>by omega) b1 zA zA aa;have hc3:(s[i].toNat:Nat)<256:=hc;refine mz f0 f4 f5 aY hg e1 e2 e3 e4 ?_;refine aai HT hc3 hb zo zo λh1 g1 b1=>?_;refine aB f5 ?_;refine ih (i+1) (n+1) h1 _ zo zo zo (gg.sX g1 λx hx=>by omega) b1 zA zA aa;have aY:¬(i:Int)<s.length:=zo;refine aU f0 f5 aY ?_;exact hk [] 0 _ gg zo zm
end
section
variable{h:Hp}{k:aK->Prop}{s p:List UInt8}{c:UInt8}
theorem aak(HT:aA T)(hl:s.length<1073741824)(js:s.head?≠some 34->∀h',ax h h'->k (.ret (.bA [S [],.i 0]) h')) (hk:s.head?=some 34->∀v n h',ax h h'->n<=s.length->v.length<=s.length->k (.ret (.bA [S v,.i (n:Nat)]) h')):aE T (W T) ⟨81⟩ [S s] h k:=by
 rw[aJ HT.t81];cases s with
 |nil=>
  refine ag ?_;exact js zm _ (ah.refl _)
 |cons c s=>
  by_cases e:c.toNat=34
  have e2:c=34:=avi.1 e;subst e2;refine ag ?_;refine ahA HT (hh:=h) hl (hk rfl) (s.length+1) 1 0 _ _ zm zo zm aZ (.inl ⟨rfl,Hp.br rfl⟩) aa aa aa;have q:=js (by simp;rintro rfl;exact e rfl) _ (ah.refl _);refine aB e ?_;exact q
end
section
open Go (IntKind)
def uf(c:UInt8):Bool:=decide (c=32)||decide (9<=c.toNat/\c.toNat<=13)
def lO(o:AO):Prop:=∃t,o=.cB 1 256 t/\∀c:UInt8,t c.toNat=[.u8 (if uf c=true then 1 else 0)]
def Em:Nat->List UInt8->List UInt8->List (List UInt8)
 |0,eC,_=>if eC=[] then[] else[eC]
 |_+1,eC,[]=>if eC=[] then[] else[eC]
 |m+1,eC,c::r=>if uf c=true then eC::Em m [] (r.dropWhile uf) else Em m (eC++[c]) r
def vA(s:List UInt8):List (List UInt8):=Em s.length [] (s.dropWhile uf)
def Cs:List UInt8->Bool->Nat
 |[],_=>0
 |c::s,w=>(if w=true/\uf c=false then 1 else 0)+Cs s (uf c)
theorem sY{cnt k:Nat}{t:Nat->List AV}(hk:k<cnt):cellsOf (.cB 1 cnt t) k 1=gK 1 (t k):=by simp only[cellsOf,Ee,Ef,vp,wL,ny,axV,axW,kH];rw[avf (by omega:0+1<=1),avf (by omega:k+1<=cnt)];rfl
@[simp] theorem asj:BY (.i 0)=.v (.i (-1)):=by simp only[BY,qN,mL];rw[show(Int.ofNat (BitVec.ofInt IntKind.i64.bits (-1)^^^BitVec.ofInt IntKind.i64.bits 0).toNat)=18446744073709551615 from by decide];rfl
@[simp] theorem asl:BY (.i 1)=.v (.i (-2)):=by simp only[BY,qN,mL];rw[show(Int.ofNat (BitVec.ofInt IntKind.i64.bits (-1)^^^BitVec.ofInt IntKind.i64.bits 1).toNat)=18446744073709551614 from by decide];rfl
theorem bI0:bI (λ_ a b=>a&&&b) 0 (-1)=0:=by decide
theorem bI1:bI (λ_ a b=>a&&&b) 0 (-2)=0:=by decide
theorem bI2:bI (λ_ a b=>a&&&b) 1 (-1)=1:=by decide
theorem bI3:bI (λ_ a b=>a&&&b) 1 (-2)=0:=by decide
theorem ahB{m n:Nat}(hm:m<128)(hn:n<128):bU (λ_ a b=>a|||b) m n<128:=by
 have h:(BitVec.ofInt 8 (.ofNat m)|||BitVec.ofInt 8 (.ofNat n)).toNat<128:=by rw[BitVec.toNat_or];refine Nat.or_lt_two_pow (n:=7) ?_ ?_<;>simp[awo]<;>omega
 simp only[bU,qN,mL,Go.IntKind.wrap_u8];show((Int.ofNat (BitVec.ofInt 8 (.ofNat m)|||BitVec.ofInt 8 (.ofNat n)).toNat)% 256).toNat<128;generalize(BitVec.ofInt 8 (.ofNat m)|||BitVec.ofInt 8 (.ofNat n)).toNat=q at h⊢;simp only[au8];omega
@[simp] theorem aal{n:Nat}(hn:n<256):ko .i64 (.u8 n)=.v (.i n):=by simp only[ko,intOf,mL];rw[gf]<;>simp<;>omega
section
variable{h:Hp}{k:aK->Prop}{s p:List UInt8}{c:UInt8}
theorem ahC(HT:aA T)(ha:∀c∈s,c.toNat<128) (hl:s.length<1073741824) (hg:lO (h.get 1)) {Kx:aT->Prop}:∀(r:List UInt8)(i n v:Nat)(w:Bool)(f:Fr),s.drop i=r->i<=s.length->v<128->n<=i->
 J 0 f=S s->J 3 f=.i n->J 4 f=.i (if w=true then 1 else 0)->J 5 f=.u8 v->J 6 f=.i i->
 (∀f' v',v'<128->J 0 f'=S s->J 3 f'=.i ((n+Cs r w:Nat):Int)->J 5 f'=.u8 v'->Kx (.exit 0 f' h []))->W T (.loop l40_3) f h [] Kx:=by
 obtain⟨t,hg,ht⟩:=hg;intro r
 induction r with
 |nil=>
  intro i n v w f hr hi hv hn f0 f3 f4 f5 f6 hk;have ao:¬(i:Int)<s.length:=by have:=aui List.length hr;rw[auf] at this;simp at this;omega
  rw[aP];refine aU f0 f6 ao ?_;exact hk _ v hv zA (by simp(disch:=omega) [f3,Cs]) zA
 |cons c r ih=>
  intro i n v w f hr hi hv hn f0 f3 f4 f5 f6 hk;have ao:i<s.length:=by have:=aui List.length hr;rw[auf] at this;simp at this;omega
  have aY:(i:Int)<s.length:=zo;rw[aut ao] at hr;injection hr with hc hr;have nv:s.getD i 0=c:=by simp[ao,hc]
  have Nb:=ha c (hc▸auy ao);have eZ:c.toNat<256:=zo;rw[aP];have ov:=ahB hv Nb;cases es:uf c with
  |true=>
   cases w with
   |true=>
    simp only[auo] at f4;simp(disch:=omega) [f0,f3,f4,f5,f6,aY,hc,ri eZ zl,hg,sY eZ,ht c,es,bI3];refine ih (i+1) n _ true _ hr zo ov zo zA aa aa aa aa λf' v' tV f0' f3' f5'=>hk f' v' tV f0' ?_ f5';rw[f3'];simp[Cs,es]
   |false=>
    simp only[at3,auM] at f4;simp(disch:=omega) [f0,f3,f4,f5,f6,aY,hc,ri eZ zl,hg,sY eZ,ht c,es,bI1];refine ih (i+1) n _ true _ hr zo ov zo zA aa aa aa aa λf' v' tV f0' f3' f5'=>hk f' v' tV f0' ?_ f5';rw[f3'];simp[Cs,es]
  |false=>
   cases w with
   |true=>
    simp only[auo] at f4;simp(disch:=omega) [f0,f3,f4,f5,f6,aY,hc,ri eZ zl,hg,sY eZ,ht c,es,bI2];refine ih (i+1) (n+1) _ false _ hr zo ov zo zA aa aa aa aa λf' v' tV f0' f3' f5'=>hk f' v' tV f0' ?_ f5';rw[f3'];simp[Cs,es];omega
   |false=>
    simp only[at3,auM] at f4;simp(disch:=omega) [f0,f3,f4,f5,f6,aY,hc,ri eZ zl,hg,sY eZ,ht c,es,bI0];refine ih (i+1) n _ false _ hr zo ov zo zA aa aa aa aa λf' v' tV f0' f3' f5'=>hk f' v' tV f0' ?_ f5';rw[f3'];simp[Cs,es]
end
end
section
open Go (IntKind)
variable{h:Hp}{k:aK->Prop}{s p:List UInt8}{c:UInt8}
theorem ahD(HT:aA T)(hl:s.length<1073741824)(hg:lO (h.get 1)){Kx:aT->Prop}:∀(r:List UInt8)(i:Nat)(f:Fr),s.drop i=r->i<=s.length->
 J 0 f=S s->J 12 f=.i i->(∀f'(i':Nat),i<=i'->i'<=s.length->s.drop i'=r.dropWhile uf->J 12 f'=.i i'->(∀j,j<12->J j f'=J j f)->Kx (.exit 2 f' h []))->W T (.loop l40_2) f h [] Kx:=by
 obtain⟨t,hg,ht⟩:=hg;intro r
 induction r with
 |nil=>
  intro i f hr hi f0 f12 hk;have ao:¬(i:Int)<s.length:=by have:=aui List.length hr;rw[auf] at this;simp at this;omega
  rw[aP];refine aU f0 f12 ao ?_;exact hk _ i zl hi hr zA λj hj=>by simp(disch:=decide) only[eG hj]
 |cons c r ih=>
  intro i f hr hi f0 f12 hk;have ao:i<s.length:=by have:=aui List.length hr;rw[auf] at this;simp at this;omega
  have aY:(i:Int)<s.length:=zo;have JW:=hr;rw[aut ao] at hr;injection hr with hc hr;have eZ:=c.toNat_lt;rw[aP];cases es:uf c with
  |true=>
   rw[avJ es] at hk;simp(disch:=omega) [f0,f12,aY,hc,ri eZ zl,hg,sY eZ,ht c,es];refine ih (i+1) _ hr zo zA aa λf' i' h1 h2 h3 h4 h5=>hk f' i' zo h2 h3 h4 λj hj=>?_;rw[h5 j hj];simp(disch:=decide) only[eG hj]
  |false=>
   rw[avK (by simp[es])] at hk;simp(disch:=omega) [f0,f12,aY,hc,ri eZ zl,hg,sY eZ,ht c,es];exact hk _ i zl zo JW zA λj hj=>by simp(disch:=decide) only[eG hj]
theorem ahE(HT:aA T)(hl:s.length<1073741824)(hg:lO (h.get 1)){Kx:aT->Prop}:∀(r:List UInt8)(i:Nat)(f:Fr),s.drop i=r->i<=s.length->
 J 0 f=S s->J 12 f=.i i->(∀f'(i':Nat),i<=i'->i'<=s.length->s.drop i'=r.dropWhile uf->J 12 f'=.i i'->(∀j,j<12->J j f'=J j f)->Kx (.exit 6 f' h []))->W T (.loop l40_0) f h [] Kx:=by
 obtain⟨t,hg,ht⟩:=hg;intro r
 induction r with
 |nil=>
  intro i f hr hi f0 f12 hk;have ao:¬(i:Int)<s.length:=by have:=aui List.length hr;rw[auf] at this;simp at this;omega
  rw[aP];refine aU f0 f12 ao ?_;exact hk _ i zl hi hr zA λj hj=>by simp(disch:=decide) only[eG hj]
 |cons c r ih=>
  intro i f hr hi f0 f12 hk;have ao:i<s.length:=by have:=aui List.length hr;rw[auf] at this;simp at this;omega
  have aY:(i:Int)<s.length:=zo;have JW:=hr;rw[aut ao] at hr;injection hr with hc hr;have eZ:=c.toNat_lt;rw[aP];cases es:uf c with
  |true=>
   rw[avJ es] at hk;simp(disch:=omega) [f0,f12,aY,hc,ri eZ zl,hg,sY eZ,ht c,es];refine ih (i+1) _ hr zo zA aa λf' i' h1 h2 h3 h4 h5=>hk f' i' zo h2 h3 h4 λj hj=>?_;rw[h5 j hj];simp(disch:=decide) only[eG hj]
  |false=>
   rw[avK (by simp[es])] at hk;simp(disch:=omega) [f0,f12,aY,hc,ri eZ zl,hg,sY eZ,ht c,es];exact hk _ i zl zo JW zA λj hj=>by simp(disch:=decide) only[eG hj]
def G6(h:Hp)(b n:Nat)(l:List (List UInt8)):Prop:=∃t,h.get b=.rows 9 1 n 0 t/\(∀j,j<n->∃v,t j=[v])/\∀j,(hj:j<l.length)->t j=[S l[j]]
theorem G6.aam{b n:Nat}{l:List (List UInt8)}{x:List UInt8}{t:Nat->List AV}(hv:∀j,j<n->∃v,t j=[v]) (ht:∀j,(hj:j<l.length)->t j=[S l[j]]) (hb:h.get b=.rows 9 1 n 0 (cx t l.length [S x])):G6 h b n (l++[x]):=by
 refine⟨_,hb,λj hj=>?_,λj hj=>?_⟩;simp only[dZ];split;exact⟨_,rfl⟩;exact hv j hj;rw[auk,ave] at hj;simp only[dZ]
 by_cases e:j=l.length
 subst e;simp;rw[atS e,ht j zo,ava zo]
theorem ahF(HT:aA T)(hl:s.length<1073741824)(hh:Hp)(L:List (List UInt8))(hL:L.length<1073741824){Kx:aT->Prop}:∀(m i fs:Nat)(h:Hp)(done:List (List UInt8))(f:Fr),lO (h.get 1)->hh.nx≠1->fs<=i->i<=s.length->s.length<=i+m->done++Em m ((s.take i).drop fs) (s.drop i)=L->ax hh h->G6 h hh.nx L.length done->
 J 0 f=S s->J 9 f=.slice hh.nx 0 1 L.length L.length true->J 10 f=.i done.length->J 11 f=.i fs->J 12 f=.i i->
 (∀f' h'(NP:Nat) Tn,ax hh h'->G6 h' hh.nx L.length Tn->NP<=s.length->(Tn++(if s.drop NP=[] then[] else[s.drop NP])=L)->J 0 f'=S s->J 9 f'=.slice hh.nx 0 1 L.length L.length true->J 10 f'=.i Tn.length->J 11 f'=.i NP->Kx (.exit 4 f' h' []))->W T (.loop l40_1) f h [] Kx:=by
 intro m
 induction m with
 |zero=>
  intro i fs h done f hg h1 pK hi hm hd gg hF f0 f9 f10 f11 f12 hk;have ao:¬(i:Int)<s.length:=zo;rw[aP];refine aU f0 f12 ao ?_;refine hk _ _ fs done gg hF zo ?_ zA zA zA zA;rw[avG zo] at hd;exact hd
 |succ m ih=>
  intro i fs h done f hg h1 pK hi hm hd gg hF f0 f9 f10 f11 f12 hk;rw[aP]
  by_cases ao:i<s.length
  have aY:(i:Int)<s.length:=zo;have eZ:=s[i].toNat_lt;obtain⟨t,GM,ht⟩:=hg;obtain⟨u,hu,wD,pM⟩:=hF;have hb:=Hp.lt hu rfl;rw[aut ao] at hd;cases es:uf s[i] with
  |true=>
   have mT:done.length<L.length:=by rw[<-hd];simp only[Em,es,auo,auk,atX];omega
   have tn:(s.take i).drop fs=((s.drop fs).take (i- fs)):=by rw[List.drop_take]
   have asm:(done.length:Int)<L.length:=zo;obtain⟨v,hv⟩:=wD _ mT;simp(disch:=omega) [f0,f9,f10,f11,f12,aY,ri eZ zl,GM,sY eZ,ht s[i],es,hu,hv];have NQ:lO ((h.set hh.nx (.rows 9 1 L.length 0 (cx u done.length [S (List.take (i- fs) (List.drop fs s))]))).get 1):=⟨t,by rw[Hp.de (λe=>h1 e.symm)];exact GM,ht⟩;refine ahE HT hl NQ (s.drop (i+1)) (i+1) _ rfl zo zA aa λf' i' g1 g2 g3 g4 g5=>?_;have x0:J 0 f'=S s:=by rw[g5 0 zd];simp(disch:=omega) [f0]
   have x9:J 9 f'=.slice hh.nx 0 1 L.length L.length true:=by rw[g5 9 zd];simp(disch:=omega) [f9]
   have x10:J 10 f'=.i (done.length+1):=by rw[g5 10 zd];simp(disch:=omega)
   refine aB g4 ?_;refine ih i' i' _ (done++[(s.take i).drop fs]) _ NQ h1 zl g2 zo ?_ (gg.set _ (.inl zl)) (G6.aam wD pM (by rw[tn];exact Hp.bR rfl)) (au x0) (au x9) (au x10) aa (au g4) hk;have e0:(s.take i').drop i'=[]:=auJ qaG;rw[e0,g3];simpa[Em,es] using hd
  |false=>
   have h0:((s.take i).drop fs)++[s[i]]=(s.take (i+1)).drop fs:=by rw[avb ao,List.drop_append_of_le_length qaG]
   simp(disch:=first|exact bh|fail) [f0,f9,f10,f11,f12,aY,ri eZ zl,GM,sY eZ,ht s[i],es];refine ih (i+1) fs h done _ ⟨t,GM,ht⟩ h1 zo zo zo ?_ gg ⟨u,hu,wD,pM⟩ zA zA zA zA aa hk;rw[<-h0];simpa[Em,es] using hd
  have aY:¬(i:Int)<s.length:=zo;refine aU f0 f12 aY ?_;refine hk _ _ fs done gg hF zo ?_ zA zA zA zA;rw[avG zo,@auJ _ s i zo] at hd;exact hd
theorem aan{el rw bytes n:Nat}{z:List AV}(h1:n<1152921504606846976)(h2:n*bytes<=281474976710656):DB h el rw bytes z (.i (n:Nat)) (.i (n:Nat))=.vh (.slice h.nx 0 rw n n true) (h.push (.rows el rw n 0 (qm z n 0 fG))):=by have e:mM (.i ((n:Nat):Int))=some n:=rfl;unfold DB;rw[e];simp only[ny,J9,S9,at2,auS,h2,show n+1<=1152921504606846976 by omega,avl,cond,alloc]
theorem aao{z:List AV}:∀n k(t:Nat->List AV) j,qm z n k t j=if k<=j/\j<k+n then z else t j:=by
 intro n
 induction n with
 |zero=>intro k t j;simp[qm];intro h1 h2;omega
 |succ n ih=>
  intro k t j;simp only[qm,ih,wL,dZ]
  by_cases h1:j=k
  subst h1;rw[atS zo,atV rfl,atV zo]
  by_cases h2:k+1<=j/\j<k+1+n
  rw[atV h2,atV zo];rw[atS h2,atS h1,atS zo]
theorem aap(HT:aA T)(ha:∀c∈s,c.toNat<128) (hl:s.length<1073741824) (hg:lO (h.get 1)) (hn:Cs s true=(vA s).length) (hL:(vA s).length<1073741824) (hk:∀h' v,ax h h'->cY h' v (vA s)->k (.ret v h')):aE T (W T) ⟨40⟩ [S s] h k:=by
 rw[aJ HT.t40];generalize pV:CC.af r40_13=R13;generalize jg:CC.loop l40_1=L1;generalize wQ:CC.loop l40_2=L2;have yd:1<h.nx:=by obtain⟨t,e,_⟩:=hg;exact Hp.lt e rfl
 refine ag ?_;refine ahC HT ha hl hg s 0 0 0 true _ rfl zo zd zl aa aa aa aa aa λf1 v1 Ba x0 x3 x5=>?_;rw[aue,hn] at x3;have ahG:¬128<=v1:=zo;simp(disch:=omega) [x0,x3,x5,ahG,aan (h:=h) (el:=9) (rw:=1) (bytes:=16) (z:=[S []]) (n:=(vA s).length) zo zo];have NR:lO ((h.push (.rows 9 1 (vA s).length 0 (qm [S []] (vA s).length 0 fG))).get 1):=by rw[Hp.qZ yd];exact hg
 subst wQ;refine ahD HT hl NR s 0 _ rfl zo (au x0) aa λf2 i2 g1 g2 g3 g4 g5=>?_;have y0:J 0 f2=S s:=by rw[g5 0 zd];simp(disch:=omega) [x0]
 have y9:J 9 f2=.slice h.nx 0 1 (vA s).length (vA s).length true:=by rw[g5 9 zd];simp(disch:=omega)
 have y10:J 10 f2=.i 0:=by rw[g5 10 zd];simp(disch:=omega)
 refine aB g4 ?_;subst jg;have mT:(s.dropWhile uf).length=s.length- i2:=by rw[<-g3,auf]
 refine ahF HT hl h (vA s) hL s.length i2 i2 _ [] _ NR zo zl g2 zo ?_ aZ ⟨_,Hp.br rfl,λj hj=>⟨S [],?_⟩,λj hj=>by simp at hj⟩ (au y0) (au y9) (au y10) aa (au g4) λf3 h3 fs done dL hF pK hd z0 z9 z10 z11=>?_;rw[auJ qaG,g3];rfl;rw[aao,atV ⟨auz _,by omega⟩];obtain⟨u,hu,wD,pM⟩:=hF;have rT:=Hp.lt hu rfl
 by_cases e:s.drop fs=[]
 rw[atV e,av5] at hd;have hf:¬(fs:Int)<s.length:=by have:=aui List.length e;rw[auf] at this;simp at this;omega
 refine cC z0 z9 z10 z11 hf ?_;refine hk _ _ dL ⟨h.nx,_,_,_,u,rfl,hu,at2 _,λj hj=>?_⟩;have:=pM j (by rw[hd];exact hj);rw[this];simp only[hd];rw[atS e] at hd;have hf:(fs:Int)<s.length:=by have:(s.drop fs).length≠0:=λq=>e (auv q);rw[auf] at this;omega
 have ahH:done.length<(vA s).length:=by rw[<-hd];simp
 have SD:(fs:Int)<=s.length:=zo;obtain⟨v,hv⟩:=wD _ ahH;refine fY z0 z9 z10 z11 hf SD hu hv ?_;obtain⟨w,hw,Cj,NS⟩:=G6.aam (h:=h3.set h.nx (.rows 9 1 (vA s).length 0 (cx u done.length [S (s.drop fs)]))) (x:=s.drop fs) wD pM (Hp.bR rfl);refine hk _ _ (dL.set _ (.inl zl)) ⟨h.nx,_,_,_,w,rfl,hw,at2 _,λj hj=>?_⟩;have:=NS j (by rw[hd];exact hj);rw[this];simp only[hd]
end
section
variable{h:Hp}{k:aK->Prop}{s p:List UInt8}{c:UInt8}
def aaq:List UInt8:=[61,61,32,33,61,32,60,61,32,62,61,32,38,38,32,124,124,32,58,61,32,43,32,45,32,42,32,47,32,37,32,60,32,62,32,33,32,61,32,40,32,41,32,123,32,125,32,44,32,46,32,58]
def G7:List (List UInt8):=[[61,61],[33,61],[60,61],[62,61],[38,38],[124,124],[58,61],[43],[45],[42],[47],[37],[60],[62],[33],[61],[40],[41],[123],[125],[44],[46],[58]]
theorem ahI:vA aaq=G7:=by decide
def wR(s:List UInt8)(n:Nat)(ws:List (List UInt8)):Bool:=ws.any λm=>decide (m.length=n)&&eP s m
def o6(s:List UInt8):Nat:=if wR s 2 G7=true then 2 else if wR s 1 G7=true then 1 else 0
theorem aar(s:List UInt8):o6 s<=s.length:=by
 have key:∀n,wR s n G7=true->n<=s.length:=by intro n h;unfold wR at h;rw[awE] at h;obtain⟨m,_,h⟩:=h;simp only[atW,auU,eP] at h;have:=aui List.length h.2;rw[auN] at this;omega
 unfold o6;split;exact key 2 ‹_›;split;exact key 1 ‹_›;omega
theorem ahJ(HT:aA T)(hl:s.length<1073741824){b cap:Nat}{ex:Bool}{W0:List (List UInt8)}{r:Nat}{t:Nat->List AV}(hb:h.get b=.rows 9 1 r 0 t)(hr:W0.length<=r)(ht:∀j,(hj:j<W0.length)->t j=[S W0[j]]) (hw:W0.length<1073741824) (n:Nat) {Kx:aT->Prop}:∀(m j:Nat)(f:Fr),W0.length<=j+m->j<=W0.length->
 J 0 f=S s->J 3 f=.i n->J 10 f=.slice b 0 1 W0.length cap ex->J 11 f=.i W0.length->J 12 f=.i j->
 (wR s n (W0.drop j)=true->∀f',J 0 f'=S s->J 3 f'=.i n->Kx (.exit 0 f' h []))->(wR s n (W0.drop j)=false->∀f',J 0 f'=S s->J 3 f'=.i n->Kx (.exit 2 f' h []))->W T (.loop l82_0) f h [] Kx:=by
 intro m
 induction m with
 |zero=>
  intro j f hm hj f0 f3 f10 f11 f12 hy hn;have ao:¬(j:Int)<W0.length:=zo;rw[aP];refine aU f11 f12 ao ?_;exact hn (by rw[auJ zo];rfl) _ zA zA
 |succ m ih=>
  intro j f hm hj f0 f3 f10 f11 f12 hy hn;rw[aP]
  by_cases ao:j<W0.length
  have aY:(j:Int)<W0.length:=zo;have hd:=aut ao;have e0:wR s n (W0.drop j)=(decide (W0[j].length=n)&&eP s W0[j]||wR s n (W0.drop (j+1))):=by rw[hd];rfl
  rw[e0] at hy hn
  by_cases e1:W0[j].length=n
  have e1':(W0[j].length:Int)=n:=zo;refine mz f0 f3 f10 f11 f12 aY hb (ht j ao) e1 ?_;refine NJ HT zo ?_;cases e2:eP s W0[j] with
  |true=>
   refine ag ?_;exact hy (by simp[e1,e2]) _ zA zA
  |false=>
   refine aB f12 ?_;refine ih (j+1) _ zo zo zA zA zA zA aa (λh=>hy (by simp[h])) (λh=>hn (by simp[h,e2]))
  have e1':¬(W0[j].length:Int)=n:=zo;refine mz f0 f3 f10 f11 f12 aY hb (ht j ao) e1' ?_;refine ih (j+1) _ zo zo zA zA zA zA aa (λh=>hy (by simp[h])) (λh=>hn (by simp[h,e1]));have aY:¬(j:Int)<W0.length:=zo;refine aU f11 f12 aY ?_;exact hn (by rw[auJ zo];rfl) _ zA zA
theorem To(HT:aA T){hh:Hp}(hl:s.length<1073741824)(n:Nat)(jB:n<3)(f:Fr)(hg:lO (h.get 1))(gg:ax hh h)(f0:J 0 f=S s)(f3:J 3 f=.i n){Kx:aT->Prop}
 (h0:n=0->∀f' h',ax hh h'->J 3 f'=.i 0->Kx (.exit 0 f' h' [])) (hy:0<n->wR s n G7=true->∀f' h',ax hh h'->J 3 f'=.i n->Kx (.exit 0 f' h' []))
 (hx:0<n->wR s n G7=false->∀f' h',ax hh h'->lO (h'.get 1)->J 0 f'=S s->J 3 f'=.i ((n:Int)- 1)->W T (.loop l82_1) f' h' [] Kx):W T (.loop l82_1) f h [] Kx:=by
 have yd:1<h.nx:=by obtain⟨t,e,_⟩:=hg;exact Hp.lt e rfl
 rw[aP]
 by_cases e:n=0
 subst e;refine aB f3 ?_;exact h0 rfl _ _ gg zA;have e1:0<n:=zo;generalize hL:CC.loop l82_0=L;refine aU f0 f3 e1 ?_;refine aap (s:=aaq) HT zd zd hg zd zd λh1 v g1 hv=>?_;rw[ahI] at hv;obtain⟨b,cap,ex,r,t,rfl,hb,hr,ht⟩:=hv;refine ag ?_;subst hL;have NR:lO (h1.get 1):=by rw[g1.get 1 yd id];exact hg
 refine ahJ (cap:=cap) (ex:=ex) HT hl hb hr ht zd n 23 0 _ zd zd zA zA aa aa aa (λhm f' y0 y3=>?_) (λhm f' y0 y3=>?_);refine ag ?_;exact hy e1 hm _ _ (gg.trans g1) y3;refine aB y3 ?_;exact hx e1 hm _ _ (gg.trans g1) NR (au y0) aa
theorem ahK(HT:aA T)(hl:s.length<1073741824)(hg:lO (h.get 1))(hk:∀h',ax h h'->k (.ret (.i (o6 s)) h')):aE T (W T) ⟨82⟩ [S s] h k:=by
 rw[aJ HT.t82];generalize hL:CC.loop l82_1=L;refine ag ?_;subst hL;unfold o6 at hk;refine To (hh:=h) HT hl 2 zd _ hg (ah.refl _) aa aa (λe=>by cases e) (λ_ hm f' h' g y3=>?_) λ_ hm f' h' g hg y0 y3=>?_;rw[atV hm] at hk;refine aB y3 ?_;exact hk _ g;rw[atS qaO] at hk;refine To (hh:=h) HT hl 1 zd _ hg g y0 (by rw[y3];rfl) (λe=>by cases e) (λ_ hm f' h' g y3=>?_) λ_ hm f' h' g hg y0 y3=>?_;rw[atV hm] at hk;refine aB y3 ?_;exact hk _ g;rw[atS qaO] at hk;refine To (hh:=h) HT hl 0 zd _ hg g y0 (by rw[y3];rfl) (λ_ f' h' g y3=>?_) (λe=>by cases e) λe=>by cases e
 refine aB y3 ?_;exact hk _ g
end
structure Tk where
 kind:Int
 text:List UInt8
 ak:Int
 to:Int
def tk(l:List Tk)(n:Nat):Tk:=l.getD n ⟨0,[],0,0⟩
inductive Tree where
 |mk (kind ak to at_:Int) (name:List UInt8) (kids:List Tree)
inductive PR(α:Type) where
 |ok (a:α) (n:Nat)
 |er (p e:Int)
 |dN
def PR.bind{α β:Type}(r:PR α)(f:α->Nat->PR β):PR β:=
 match r with
 |.ok a n=>f a n
 |.er p e=>.er p e
 |.dN=>.dN
def bD(t:Tk)(ws:List (List UInt8)):Bool:=(decide (t.kind=6)||decide (t.kind=2))&&decide (t.text∈ws)
def aV(l:List Tk)(n:Nat)(kind ak at_:Int)(name:List UInt8)(kids:List Tree):Tree:=.mk kind ak (tk l (n- 1)).to at_ name kids
def NT:List UInt8:=[105,110,116]
def NU:List UInt8:=[98,111,111,108]
def NV:List UInt8:=[115,116,114,105,110,103]
def NW:List UInt8:=[102,108,111,97,116,54,52]
def jR(l:List Tk)(q:Int)(n:Nat):PR Tk:=if(tk l n).kind=q then .ok (tk l n) (n+1) else .er (tk l n).ak 4
def lR(l:List Tk)(x:List UInt8)(n:Nat):PR Tk:=if bD (tk l n) [x]=true then .ok (tk l n) (n+1) else .er (tk l n).ak 4
def Ct(l:List Tk)(n:Nat):PR Tree:=
 if bD (tk l n) [NT,NU,NV,NW]=true then .ok (aV l (n+1) 8 (tk l n).ak (tk l n).ak (tk l n).text []) (n+1)
 else(jR l 1 n).bind λt m=>
  if bD (tk l m) [[46]]=true then(jR l 1 (m+1)).bind λu o=>.ok (aV l o 9 (tk l n).ak u.ak u.text [aV l m 25 (tk l n).ak (tk l n).ak t.text []]) o
  else .ok (aV l m 8 (tk l n).ak (tk l n).ak t.text []) m
def En(l:List Tk)(kind:Int)(n:Nat):PR Tree:=
 (jR l 1 n).bind λt m=>(Ct l m).bind λx o=>.ok (aV l o kind t.ak t.ak t.text [x]) o
def ug(l:List Tk)(right:List UInt8)(rd:Nat->PR Tree)(bt:Nat->PR Unit):Nat->Nat->PR (List Tree)
 |0,_=>.dN
 |f+1,n=>if bD (tk l n) [right]=true then .ok [] n else(rd n).bind λt m=>if bD (tk l m) [right]=true then .ok [t] m else(bt m).bind λ_ o=>(ug l right rd bt f o).bind λts q=>.ok (t::ts) q
theorem aas{l:List Tk}{right rd bt}:∀{f n ts m},ug l right rd bt f n=.ok ts m->ts.length<=f
 |0,_,_,_,h=>by simp[ug] at h
 |f+1,n,ts,m,h=>by
  unfold ug at h;split at h;cases h;simp;cases hr:rd n with
  |dN=>rw[hr] at h;cases h
  |er p e=>rw[hr] at h;cases h
  |ok t m1=>
   rw[hr] at h;simp only[PR.bind] at h;split at h;cases h;simp;cases hb:bt m1 with
   |dN=>rw[hb] at h;cases h
   |er p e=>rw[hb] at h;cases h
   |ok u m2=>
    rw[hb] at h;simp only at h;cases hp:ug l right rd bt f m2 with
    |dN=>rw[hp] at h;cases h
    |er p e=>rw[hp] at h;cases h
    |ok ts2 m3=>
     rw[hp] at h;simp only[PR.ok.injEq] at h;rw[<-h.1];have:=aas hp;simp;omega
def wS(l:List Tk)(left right:List UInt8)(rd:Nat->PR Tree)(bt:Nat->PR Unit)(op:Int)(fy n:Nat):PR (List Tree):=
 if bD (tk l n) [left]=true then if op=128 then .er (tk l n).ak 3 else(ug l right rd bt fy (n+1)).bind λts m=>if bD (tk l m) [right]=true then .ok ts (m+1) else .er (tk l m).ak 4
 else .er (tk l n).ak 4
theorem aat{l:List Tk}{left right rd bt op F n ts m}(h:wS l left right rd bt op F n=.ok ts m):ts.length<=F:=by
 unfold wS at h;split at h;split at h;cases h;cases hp:ug l right rd bt F (n+1) with
 |dN=>rw[hp] at h;cases h
 |er p e=>rw[hp] at h;cases h
 |ok ts2 m3=>
  rw[hp] at h;simp only[PR.bind] at h;split at h;cases h;exact aas hp;cases h
 cases h
def Tree.to:Tree->Int|.mk _ _ t _ _ _=>t
def Tree.at:Tree->Int|.mk _ _ _ a _ _=>a
def Tree.kind:Tree->Int|.mk k _ _ _ _ _=>k
def Tree.ak:Tree->Int|.mk _ f _ _ _ _=>f
def Tree.name:Tree->List UInt8|.mk _ _ _ _ nm _=>nm
def Tree.kids:Tree->List Tree|.mk _ _ _ _ _ ks=>ks
section
variable(l:List Tk)
def Cu(right:List UInt8)(n:Nat):PR Unit:=(lR l [44] n).bind λ_ m=>if bD (tk l m) [right]=true then .er (tk l m).ak 4 else .ok () m
def mU(n:Nat):PR Unit:=(jR l 7 n).bind λ_ m=>.ok () m
def o7(t:Tk):Int:=
 if t.kind=3 then 21 else if t.kind=4 then 22 else if t.kind=5 then 23 else if t.kind=1 then 25
 else if t.kind=2/\(t.text=[116,114,117,101]\/t.text=[102,97,108,115,101]) then 24 else 0
def Bb(t:Tk):Int:=
 if t.kind≠6 then 0 else if t.text=[124,124] then 1 else if t.text=[38,38] then 2
 else if t.text∈[[61,61],[33,61],[60],[60,61],[62],[62,61]] then 3 else if t.text∈[[43],[45]] then 4 else if t.text∈[[42],[47],[37]] then 5 else 0
variable(F:Nat)
section
variable(ex:Int->Bool->Int->Nat->PR Tree)
def Kj(op:Int)(n:Nat):PR (List Tree):=wS l [40] [41] (λn=>ex (op+1) false 0 n) (Cu l [41]) op F n
def Kl(op:Int)(hd:Bool)(n:Nat):PR Tree:=
 (jR l 1 n).bind λt m=>(lR l [58] m).bind λ_ o=>(ex op hd 0 o).bind λx q=>.ok (aV l q 29 t.ak t.ak t.text [x]) q
def Cv(op:Int)(sZ:Tree)(n:Nat):PR Tree:=
 (wS l [123] [125] (Kl l ex (op+1) false) (Cu l [125]) op F n).bind λts m=>.ok (aV l m 28 sZ.ak (tk l n).ak [] (sZ::ts)) m
def NX(op:Int)(n:Nat):PR Tree:=
 if bD (tk l n) [[40]]=true then if op=128 then .er (tk l n).ak 3 else
  (ex (op+1) false 0 (n+1)).bind λx m=>if bD (tk l m) [[41]]=true then .ok (aV l (m+1) 33 (tk l n).ak (tk l n).ak [] [x]) (m+1) else .er (tk l m).ak 4
 else .er (tk l n).ak 4
def Km(op:Int)(hd:Bool)(n:Nat):PR Tree:=
 if o7 (tk l n)≠0 then
  if o7 (tk l n)=25/\hd=false/\bD (tk l (n+1)) [[123]]=true then Cv l F ex op (aV l (n+1) 8 (tk l n).ak (tk l n).ak (tk l n).text []) (n+1)
  else .ok (aV l (n+1) (o7 (tk l n)) (tk l n).ak (tk l n).ak (tk l n).text []) (n+1)
 else if bD (tk l n) [[105,110,116],[102,108,111,97,116,54,52],[108,101,110],[112,114,105,110,116],[112,97,110,105,99]]=true then(Kj l F ex op (n+1)).bind λts m=>.ok (aV l m 32 (tk l n).ak (tk l n).ak (tk l n).text ts) m
 else NX l ex op n
def ye(op:Int)(hd:Bool):Nat->Tree->Nat->PR Tree
 |0,_,_=>.dN
 |g+1,x,n=>
  if bD (tk l n) [[46]]=true then(jR l 1 (n+1)).bind λt m=>
   if x.kind=25/\hd=false/\bD (tk l m) [[123]]=true then(Cv l F ex op (aV l m 9 x.ak t.ak t.text [x]) m).bind λy o=>ye op hd g y o
   else ye op hd g (aV l m 26 x.ak t.ak t.text [x]) m
  else if bD (tk l n) [[40]]=true/\(x.kind=25\/x.kind=26) then(Kj l F ex op n).bind λts m=>ye op hd g (aV l m 27 x.ak (tk l n).ak [] (x::ts)) m
  else .ok x n
def yf(op:Int)(hd:Bool)(n:Nat):PR Tree:=(Km l F ex op hd n).bind λx m=>ye l F ex op hd F x m
def G8(op:Int)(hd:Bool):Nat->Nat->PR Tree
 |0,_=>.dN
 |g+1,n=>if bD (tk l n) [[45],[33]]=true then(G8 op hd g (n+1)).bind λx m=>.ok (aV l m 30 (tk l n).ak (tk l n).ak (tk l n).text [x]) m else yf l F ex op hd n
def G9(op:Int)(hd:Bool)(dS:Int):Nat->Tree->Nat->PR Tree
 |0,_,_=>.dN
 |g+1,x,n=>if dS<Bb (tk l n) then(ex op hd (Bb (tk l n)) (n+1)).bind λy m=>G9 op hd dS g (aV l m 31 x.ak (tk l n).ak (tk l n).text [x,y]) m else .ok x n
end
def zU:Nat->Int->Bool->Int->Nat->PR Tree
 |0,_,_,_,_=>.dN
 |f+1,op,hd,dS,n=>(G8 l F (zU f) op hd F n).bind λx m=>G9 l (zU f) op hd dS F x m
end
def Tk.row(t:Tk):List AV:=[.i t.kind,S t.text,.i t.ak,.i t.to]
structure bp(h:Hp)(c tb:Nat)(l:List Tk)(n:Nat)(op:Int)(hd:Bool):Prop where
 eC:∃cap ex,h.get c=.one 76 [.slice tb 0 4 l.length cap ex,.i n,.i op,.bool hd]
 tok:∃r t,h.get tb=.rows 74 4 r 0 t/\l.length<=r/\∀k,k<l.length->t k=(tk l k).row
 le:l.length<4294967296
theorem bp.mono{h h':Hp}{c tb l n op hd}(x:bp h c tb l n op hd)(g:ax h h'):bp h' c tb l n op hd:=by obtain⟨⟨cap,ex,hc⟩,⟨r,t,ht,h1⟩,le⟩:=x;exact⟨⟨cap,ex,by rw[g.get _ (Hp.lt hc rfl) id];exact hc⟩,⟨r,t,by rw[g.get _ (Hp.lt ht rfl) id];exact ht,h1⟩,le⟩
theorem bp.lt{h:Hp}{c tb l n op hd}(x:bp h c tb l n op hd):c<h.nx:=by obtain⟨⟨cap,ex,hc⟩,_⟩:=x;exact Hp.lt hc rfl
theorem bp.dW{h:Hp}{c tb l n op hd}(x:bp h c tb l n op hd):tb<h.nx:=by obtain⟨_,⟨r,t,ht,h1⟩,_⟩:=x;exact Hp.lt ht rfl
theorem bp.ne{h:Hp}{c tb l n op hd}(x:bp h c tb l n op hd):tb≠c:=by obtain⟨⟨cap,ex,hc⟩,⟨r,t,ht,h1⟩,_⟩:=x;rintro rfl;rw[hc] at ht;cases ht
theorem bp.pg{M:Nat->Prop}{h h':Hp}{c tb l n op hd}(x:bp h c tb l n op hd)(g:ah M h h')(h1:¬M c)(h2:¬M tb):bp h' c tb l n op hd:=by obtain⟨⟨cap,ex,hc⟩,⟨r,t,ht,h3⟩,le⟩:=x;exact⟨⟨cap,ex,by rw[g.get _ (Hp.lt hc rfl) h1];exact hc⟩,⟨r,t,by rw[g.get _ (Hp.lt ht rfl) h2];exact ht,h3⟩,le⟩
abbrev Pg(c:Nat):=ah (·=c)
section
variable{h:Hp}{c tb n:Nat}{l:List Tk}{op:Int}{hd:Bool}{k:aK->Prop}
theorem qC(HT:aA T)(hc:bp h c tb l n op hd)(hn:n<l.length)
 (hk:∀h',ax h h'->k (.ret (.agg (tk l n).row) h')):aE T (W T) ⟨85⟩ [.ptr c 0] h k:=by
 obtain⟨⟨cap,ex,hc⟩,⟨r,t,ht,hr,kz⟩,le⟩:=hc;have c1:=Hp.lt hc rfl;have c2:=Hp.lt ht rfl;have kz:=kz n hn;rw[aJ HT.t85];refine bK hc ht kz Tk.row.eq_1 ?_;exact hk _ aZ
theorem vB(HT:aA T)(hc:bp h c tb l n op hd)(hn:n<l.length)
 (hk:∀h',Pg c h h'->bp h' c tb l (n+1) op hd->k (.ret (.agg (tk l n).row) h')):aE T (W T) ⟨84⟩ [.ptr c 0] h k:=by
 obtain⟨⟨cap,ex,hc⟩,⟨r,t,ht,hr,kz⟩,le⟩:=hc;have c1:=Hp.lt hc rfl;have c2:=Hp.lt ht rfl;have NY:c≠tb:=by rintro rfl;rw[hc] at ht;cases ht
 have ahL:=kz n hn;rw[aJ HT.t84];refine bK hc ht ahL Tk.row.eq_1 ?_;exact hk _ aZ ⟨⟨cap,ex,aa⟩,⟨r,t,au ht,hr,kz⟩,le⟩
theorem ke(HT:aA T)(hc:bp h c tb l n op hd)(hn:n<l.length){v:AV}{ws}(hw:cY h v ws)(hl:ws.length<4294967296)
 (hk:∀h',ax h h'->k (.ret (.bool (bD (tk l n) ws)) h')):aE T (W T) ⟨51⟩ [.ptr c 0,v] h k:=by
 rw[aJ HT.t51];refine ag ?_;refine qC HT hc hn λh1 g1=>?_;have Cj:cY (((h1.push (.one 74 [.i 0,S [],.i 0,.i 0])).set h1.nx (.one 74 (tk l n).row))) v ws:=hw.mono (g1.trans aZ) λ_ _ _ _=>id
 by_cases h6:(tk l n).kind=6
 have e:bD (tk l n) ws=decide ((tk l n).text∈ws):=by simp[bD,h6]
 refine aS Tk.row.eq_1 h6 ?_;refine Ek HT (by simpa[Tk.row,h6] using Cj) hl ?_;refine ag ?_;rw[<-e];exact hk _ (g1.trans aZ)
 by_cases h2:(tk l n).kind=2
 have e:bD (tk l n) ws=decide ((tk l n).text∈ws):=by simp[bD,h2]
 refine aS Tk.row.eq_1 h2 ?_;refine Ek HT (by simpa[Tk.row,h2] using Cj) hl ?_;refine ag ?_;rw[<-e];exact hk _ (g1.trans aZ);have e:bD (tk l n) ws=false:=by simp[bD,h6,h2]
 refine aU Tk.row.eq_1 h6 h2 ?_;rw[<-e];exact hk _ (g1.trans aZ)
def qD(p:Int)(e:Int):AV:=.iface 71 (.agg [.i p,.i e])
theorem Cw(HT:aA T)(hc:bp h c tb l n op hd)(hn:n<l.length){e:Int}
 (hk:∀h',ax h h'->k (.bn (qD (tk l n).ak e) h')):aE T (W T) ⟨83⟩ [.ptr c 0,.i e] h k:=by
 rw[aJ HT.t83];refine ag ?_;refine qC HT hc hn λh1 g1=>?_;refine aB Tk.row.eq_1 ?_;exact hk _ g1
theorem Eo(HT:aA T)(hc:bp h c tb l n op hd)(hn:n<l.length){q:Int}
 (hy:(tk l n).kind=q->∀h',Pg c h h'->bp h' c tb l (n+1) op hd->k (.ret (.agg (tk l n).row) h'))
 (he:(tk l n).kind≠q->∀h',Pg c h h'->k (.bn (qD (tk l n).ak 4) h')):aE T (W T) ⟨49⟩ [.ptr c 0,.i q] h k:=by
 rw[aJ HT.t49];refine ag ?_;refine qC HT (hc.mono aZ) hn λh1 g1=>?_;have g1':ax h h1:=ah.trans aZ g1
 by_cases e:(tk l n).kind=q
 refine aS Tk.row.eq_1 e ?_;refine vB HT (hc.mono g1') hn λh2 g2 c2=>?_;have b1:h1.get h.nx=.one 74 [.i 0,S [],.i 0,.i 0]:=by rw[g1.get _ zm id];simp(disch:=omega)
 have hx:=hc.lt;have b2:h2.get h.nx=.one 74 [.i 0,S [],.i 0,.i 0]:=by rw[g2.get _ (Hp.lt b1 rfl) zo];exact b1
 refine aS b2 Tk.row.eq_1 ?_;have:=hc.dW;exact hy e _ (g1'.cn.trans g2|>.set _ (.inl zl)) (c2.pg (M:=(·=h.nx)) ((ah.refl _).set _ (.inr rfl)) zo zo);refine aS Tk.row.eq_1 e ?_;refine Cw HT (hc.mono g1') hn λh2 g2=>?_;refine ag ?_;exact he e _ (g1'.trans g2).cn
theorem Cx(HT:aA T)(hc:bp h c tb l n op hd)(hn:n<l.length){x:List UInt8}
 (hy:bD (tk l n) [x]=true->∀h',Pg c h h'->bp h' c tb l (n+1) op hd->k (.ret (.agg (tk l n).row) h'))
 (he:bD (tk l n) [x]=false->∀h',Pg c h h'->k (.bn (qD (tk l n).ak 4) h')):aE T (W T) ⟨48⟩ [.ptr c 0,S x] h k:=by
 have hx:=hc.lt;have hb:=hc.dW;rw[aJ HT.t48];refine ag ?_;refine ke HT (hc.mono aZ) hn (cY.one (x:=x) (Hp.br zm) zl zm) zm λh1 g1=>?_;have g1':ax h h1:=ah.trans aZ g1;have b1:h1.get h.nx=.one 74 [.i 0,S [],.i 0,.i 0]:=by rw[g1.get _ zn id];exact aa
 cases e:bD (tk l n) [x] with
 |true=>
  refine aB e ?_;refine vB HT (hc.mono g1') hn λh2 g2 c2=>?_;have b2:h2.get h.nx=.one 74 [.i 0,S [],.i 0,.i 0]:=by rw[g2.get _ (Hp.lt b1 rfl) zo];exact b1
  refine aS b2 Tk.row.eq_1 ?_;exact hy e _ (g1'.cn.trans g2|>.set _ (.inl zl)) (c2.pg (M:=(·=h.nx)) ((ah.refl _).set _ (.inr rfl)) zo zo)
 |false=>
  refine aB e ?_;refine Cw HT (hc.mono g1') hn λh2 g2=>?_;refine ag ?_;exact he e _ (g1'.trans g2).cn
theorem He(HT:aA T)(hc:bp h c tb l n op hd)(hn:n<l.length){x:List UInt8}
 (hy:bD (tk l n) [x]=true->∀h',Pg c h h'->bp h' c tb l (n+1) op hd->k (.ret (.bool true) h'))
 (he:bD (tk l n) [x]=false->∀h',Pg c h h'->bp h' c tb l n op hd->k (.ret (.bool false) h')):aE T (W T) ⟨146⟩ [.ptr c 0,S x] h k:=by
 rw[aJ HT.t146];refine ag ?_;refine ke HT (hc.mono aZ) hn (cY.one (x:=x) (Hp.br zm) zl zm) zm λh1 g1=>?_;have g1':ax h h1:=ah.trans aZ g1;cases e:bD (tk l n) [x] with
 |true=>
  refine aB e ?_;refine vB HT (hc.mono g1') hn λh2 g2 c2=>?_;refine ag ?_;exact hy e _ (g1'.cn.trans g2) c2
 |false=>
  refine aB e ?_;exact he e _ g1'.cn (hc.mono g1')
theorem NZ(HT:aA T)(hc:bp h c tb l n op hd)(hn:n<l.length)
 (hy:(tk l n).kind=7->∀h',Pg c h h'->bp h' c tb l (n+1) op hd->k (.ret (.bA []) h'))
 (he:(tk l n).kind≠7->∀h',Pg c h h'->k (.bn (qD (tk l n).ak 4) h')):aE T (W T) ⟨50⟩ [.ptr c 0] h k:=by
 rw[aJ HT.t50];refine ag ?_;refine Eo HT hc hn (λe h1 g1 c1=>?_) λe h1 g1=>?_;refine ag ?_;exact hy e _ g1 c1;refine ag ?_;exact he e _ g1
theorem gS(HT:aA T)(hc:bp h c tb l (n+1) op hd)(hn:n<l.length){kind ak at_:Int}{nm:List UInt8}{kv:AV}(oh:bQ kv=some [kv])
 (hk:∀h',ax h h'->k (.ret (.agg [.i kind,.i ak,.i (tk l n).to,.i at_,S nm,kv]) h')):aE T (W T) ⟨87⟩ [.ptr c 0,.i kind,.i ak,.i at_,S nm,kv] h k:=by
 obtain⟨⟨cap,ex,hc⟩,⟨r,t,ht,hr,kz⟩,le⟩:=hc;have c1:=Hp.lt hc rfl;have c2:=Hp.lt ht rfl;have kz:=kz n hn;rw[aJ HT.t87];refine cC hc ht kz Tk.row.eq_1 oh ?_;exact hk _ aZ
end
mutual
def ay(lo:Nat)(h:Hp):Tree->List AV->Prop
 |.mk kind ak to at_ nm kids,row=>∃kv,row=[.i kind,.i ak,.i to,.i at_,S nm,kv]/\dO lo h kids kv
def dO(lo:Nat)(h:Hp):List Tree->AV->Prop
 |[],v=>v=.bx
 |t::ts,v=>∃b cap ex r f,v=.slice b 0 6 (ts.length+1) cap ex/\h.get b=.rows 39 6 r 0 f/\ts.length+1<=r/\lo<=b/\ay lo h t (f 0)/\eR lo h ts λj=>f (j+1)
def eR(lo:Nat)(h:Hp):List Tree->(Nat->List AV)->Prop
 |[],_=>True
 |t::ts,f=>ay lo h t (f 0)/\eR lo h ts λj=>f (j+1)
end
theorem g0{h h':Hp}(g:ax h h'):∀i,i<h.nx->h'.get i=h.get i:=λi hi=>g.get i hi id
theorem gp{c:Nat}{h h':Hp}(g:Pg c h h'):∀i,i<h.nx->i≠c->h'.get i=h.get i:=g.get
def NF(lo:Nat)(h h':Hp):Prop:=∀i r f,lo<=i->h.get i=.rows 39 6 r 0 f->h'.get i=.rows 39 6 r 0 f
mutual
theorem ay.nf{lo kg:Nat}{h h':Hp}(g:NF lo h h')(le:kg<=lo):∀(t:Tree)(row:List AV),ay lo h t row->ay kg h' t row
 |.mk ..,_,hx=>by simp only[ay] at hx⊢;obtain⟨kv,e,hk⟩:=hx;exact⟨kv,e,dO.nf g le _ _ hk⟩
theorem dO.nf{lo kg:Nat}{h h':Hp}(g:NF lo h h')(le:kg<=lo):∀(ts:List Tree)(v:AV),dO lo h ts v->dO kg h' ts v
 |[],_,hx=>by simpa only[dO] using hx
 |t::ts,_,hx=>by simp only[dO] at hx⊢;obtain⟨b,cap,ex,r,f,e,hb,hr,hl,h1,h2⟩:=hx;exact⟨b,cap,ex,r,f,e,g _ _ _ hl hb,hr,at1 le hl,ay.nf g le _ _ h1,eR.nf g le _ _ h2⟩
theorem eR.nf{lo kg:Nat}{h h':Hp}(g:NF lo h h')(le:kg<=lo):∀(ts:List Tree)(f:Nat->List AV),eR lo h ts f->eR kg h' ts f
 |[],_,_=>by simp only[eR]
 |t::ts,f,hx=>by simp only[eR] at hx⊢;exact⟨ay.nf g le _ _ hx.1,eR.nf g le _ _ hx.2⟩
end
section
variable{lo:Nat}
theorem NF.refl(h:Hp):NF lo h h:=λ_ _ _ _ e=>e
theorem NF.trans{a b c:Hp}(x:NF lo a b)(y:NF lo b c):NF lo a c:=λi r f hl e=>y i r f hl (x i r f hl e)
theorem NF.push{a b:Hp}(x:NF lo a b)(o:AO):NF lo a (b.push o):=λi r f hl e=>by have:=x i r f hl e;rw[Hp.qZ (Hp.lt this rfl)];exact this
theorem NF.set{a b:Hp}(x:NF lo a b){i:Nat}(o:AO){el l}(hb:b.get i=.one el l):NF lo a (b.set i o):=λj r f hl e=>by have:=x j r f hl e;rw[Hp.de (by rintro rfl;rw[hb] at this;cases this)];exact this
theorem NF.vC{a b:Hp}(x:NF lo a b){i:Nat}(o:AO)(hi:i<lo):NF lo a (b.set i o):=λj r f hl e=>by rw[Hp.de zo];exact x j r f hl e
theorem NF.mono{kg:Nat}{a b:Hp}(x:NF lo a b)(h:lo<=kg):NF kg a b:=λi r f hl e=>x i r f (at1 h hl) e
theorem NF.nC{M:Nat->Prop}{h h':Hp}(g:ah M h h')(hm:∀i r f,M i->h.get i≠.rows 39 6 r 0 f):NF lo h h':=λi r f _ e=>by rw[g.get _ (Hp.lt e rfl) λm=>hm i r f m e];exact e
theorem bp.nf{h h':Hp}{c tb l n op hd}(x:bp h c tb l n op hd)(g:Pg c h h'):NF lo h h':=NF.nC g λi r f m e=>by obtain⟨⟨cap,ex,hc⟩,_⟩:=x;subst m;rw[hc] at e;cases e
end
theorem bp.push{h:Hp}{c tb l n op hd}(x:bp h c tb l n op hd)(o:AO):bp (h.push o) c tb l n op hd:=x.mono aZ
theorem bp.set{h:Hp}{c tb l n op hd}(x:bp h c tb l n op hd){b:Nat}(o:AO)(h1:c≠b)(h2:tb≠b):bp (h.set b o) c tb l n op hd:=
 x.pg (M:=(·=b)) ((ah.refl _).set _ (.inr rfl)) h1 h2
theorem ay.agg{lo:Nat}{h:Hp}{t:Tree}{row:List AV}(x:ay lo h t row):row.length=6:=by cases t;simp only[ay] at x;obtain⟨kv,rfl,_⟩:=x;rfl
def fc(l:List Tk):Prop:=∀n,n<l.length->(tk l n).kind≠0->n+1<l.length
def cU(lo c tb:Nat)(l:List Tk)(op:Int)(hd:Bool)(h:Hp)(k:aK->Prop)(r:PR Tree):Prop:=
 match r with
 |.ok t n=>∀h' row,Pg c h h'->bp h' c tb l n op hd->ay lo h' t row->n<l.length->0<n->k (.ret (.agg row) h')
 |.er p e=>∀h',Pg c h h'->k (.bn (qD p e) h')
 |.dN=>False
abbrev lS(c tb:Nat)(l:List Tk)(op:Int)(hd:Bool)(h:Hp)(k:aK->Prop)(r:PR Tree):Prop:=cU h.nx c tb l op hd h k r
section
variable{h:Hp}{c tb n:Nat}{l:List Tk}{op:Int}{hd:Bool}{k:aK->Prop}
theorem cY.aau{b r cap ex t}{x y z w:List UInt8}(hb:h.get b=.rows 9 1 r 0 t)(hr:4<=r)(h0:t 0=[S x])(h1:t 1=[S y])(h2:t 2=[S z])(h3:t 3=[S w]):cY h (.slice b 0 1 4 cap ex) [x,y,z,w]:=
 ⟨b,cap,ex,r,t,rfl,hb,hr,λj hj=>by
  have:j=0\/j=1\/j=2\/j=3:=by simp at hj;omega
  rcases this with rfl|rfl|rfl|rfl<;>assumption⟩
theorem lT(hs:fc l)(hn:n<l.length){ws}(e:bD (tk l n) ws=true):n+1<l.length:=by refine hs n hn λh0=>?_;simp[bD,h0] at e
theorem wT(hs:fc l)(hn:n<l.length){q:Int}(e:(tk l n).kind=q)(hq:q≠0):n+1<l.length:=hs n hn (by rw[e];exact hq)
theorem Tp(HT:aA T)(hs:fc l)(hc:bp h c tb l n op hd)(hn:n<l.length)(hk:lS c tb l op hd h k (Ct l n)):aE T (W T) ⟨92⟩ [.ptr c 0] h k:=by
 have hx:=hc.lt;have hy:=hc.dW;rw[aJ HT.t92];refine ag ?_;refine qC HT (hc.push _) hn λh1 g1=>?_;obtain⟨n1,e1⟩:=bH g1;have c1:bp h1 c tb l n op hd:=(hc.push _).mono g1;refine aB Tk.row.eq_1 ?_;refine ke HT (c1.push _) hn (cY.aau (x:=NT) (y:=NU) (z:=NV) (w:=NW) (Hp.br zm) zl (by simp[NT]) (by simp[NU]) (by simp[NV]) (by simp[NW])) zm λh2 g2=>?_;obtain⟨n2,e2⟩:=bH g2;have c2:bp h2 c tb l n op hd:=(c1.push _).mono g2;unfold Ct at hk;cases e:bD (tk l n) [NT,NU,NV,NW] with
 |true=>
  rw[e] at hk;simp only[auo] at hk;have gE:=lT hs hn e;refine aB e ?_;refine vB HT c2 hn λh3 g3 c3=>?_;obtain⟨n3,e3⟩:=bw g3;refine aB Tk.row.eq_1 ?_;refine gS HT ((c3.push _).set _ zo zo) hn rfl λh4 g4=>?_;obtain⟨n4,e4⟩:=bH g4;refine bK e4 e3 e2 e1 ?_;exact hk _ _ (qB e4 e3 e2 e1) ((((c3.push _).set _ zo zo).mono g4).set _ zo zo) (by simp[ay,dO,aV]) gE zo
 |false=>
  rw[e] at hk;simp only[at3,auM,jR] at hk;refine aB e ?_;refine Eo HT c2 hn (λek h3 g3 c3=>?_) λek h3 g3=>?_;have gE:=wT hs hn ek zd;rw[atV ek] at hk;simp only[PR.bind] at hk;obtain⟨n3,e3⟩:=bw g3;refine aB Tk.row.eq_1 ?_;refine ke HT (((c3.push _).set _ zo zo).push _) gE (cY.one (x:=[46]) (Hp.br aa) zl zm) zm λh4 g4=>?_;obtain⟨n4,e4⟩:=bH g4;have c4:=(((c3.push _).set _ zo zo).push _).mono g4;have ht:h4.get h3.nx=.one 74 (tk l n).row:=bV e4 Tk.row.eq_1;have hr:h4.get h.nx=.one 39 [.i 0,.i 0,.i 0,.i 0,S [],.bx]:=mw e4 e3 e2 e1;cases e':bD (tk l (n+1)) [[46]] with
  |false=>
   rw[e'] at hk;simp only[at3,auM] at hk;refine aU e' ht Tk.row.eq_1 ?_;refine gS HT c4 hn rfl λh5 g5=>?_;obtain⟨n5,e5⟩:=bH g5;refine aS e5 hr ?_;exact hk _ _ (Ei e5 e4 e3 e2 e1) ((c4.mono g5).set _ zo zo) (by simp[ay,dO,aV]) gE zo
  |true=>
   rw[e'] at hk;simp only[auo,jR] at hk;have jB:=lT hs gE e';refine aU e' ht Tk.row.eq_1 ?_;refine gS HT c4 hn rfl λh5 g5=>?_;obtain⟨n5,e5⟩:=bH g5;refine ag ?_;refine vB HT (((c4.mono g5).push _).set _ zo zo) gE λh6 g6 c6=>?_;obtain⟨n6,e6⟩:=bw g6;refine ag ?_;refine Eo HT c6 jB (λek h7 g7 c7=>?_) λek h7 g7=>?_;have Cy:=wT hs jB ek zd;rw[atV ek] at hk;simp only[PR.bind] at hk;obtain⟨n7,e7⟩:=bw g7;refine cC e7 e6 e5 ht Tk.row.eq_1 ?_;refine gS HT ((c7.set _ zo zo).push _) jB rfl λh8 g8=>?_;obtain⟨n8,e8⟩:=bH g8;refine cC e8 e7 e6 e5 hr ?_;exact hk _ _ (zp8 e8 e7 e6 e5 e4 e3 e2 e1) ((((c7.set _ zo zo).push _).mono g8).set _ zo zo)
    (by simp[ay,dO,eR,aV];exact⟨1,_,by rw[Hp.de zo,e8 _ zq];exact Hp.br aa,by simp,by omega,by simp⟩) Cy zo
   rw[atS ek] at hk;refine ag ?_;obtain⟨n7,e7⟩:=bw g7;exact hk _ (ZX e7 e6 e5 e4 e3 e2 e1)
  rw[atS ek] at hk;refine ag ?_;obtain⟨n3,e3⟩:=bw g3;exact hk _ (fH e3 e2 e1)
end
def Cz(T:aM->Option CF)(h:Hp):Prop:=∀(s:List UInt8)(k:aK->Prop),s.length<1073741824->(∀v e h',ax h h'->(s.length=1/\dU s=1->e=0)->k (.ret (.bA [v,.i e]) h'))->aE T (W T) ⟨79⟩ [S s] h k
def CA(T:aM->Option CF)(h:Hp):Prop:=∀(s:List UInt8)(k:aK->Prop),s.length<1073741824->(∀v e h',ax h h'->k (.ret (.bA [v,.i e]) h'))->aE T (W T) ⟨80⟩ [S s] h k
def fA(o:Nat×Int)(s:List UInt8):Int×Nat×Int:=
 if 0<gu s then
  if s.take (gu s)∈Cr then(2,gu s,0) else if 40<gu s then(1,gu s,3) else if El (s.take (gu s))=false then(1,gu s,9) else(1,gu s,0)
 else if 0<dU s then
  if zS s=true then(4,max 1 (min o.1 s.length),o.2) else(3,dU s,if dU s=1 then 0 else o.2)
 else if s.head?=some 34/\0<min o.1 s.length then(5,min o.1 s.length,o.2)
 else if eP s [59]=true then(7,1,0) else if 0<o6 s then(6,o6 s,0) else(0,0,4)
section
variable{h:Hp}{k:aK->Prop}{s p:List UInt8}{c:UInt8}
theorem aav(s:List UInt8):gu s<=s.length:=by
 cases s with
 |nil=>exact at2 _
 |cons c s=>rw[aad];split<;>omega
theorem ahM(s:List UInt8)(h:0<dU s):dU (s.take (dU s))=dU s:=by
 have hd:∀s:List UInt8,dU s=(s.takeWhile λc=>decide (c∈rj)).length:=λs=>by have:=aui List.length (aww (p:=λc=>decide (c∈rj)) (l:=s));rw[auk] at this;unfold dU sW;omega
 have ht:s.take (dU s)=s.takeWhile λc=>decide (c∈rj):=by
  rw[hd s]
  conv=>lhs;arg 2;rw[<-aww (p:=λc=>decide (c∈rj)) (l:=s)]
  exact List.take_left' rfl
 rw[ht,hd,hd s];congr 1;have tw:∀(q:UInt8->Bool)(s:List UInt8),(s.takeWhile q).takeWhile q=s.takeWhile q:=by
  intro q s
  induction s with
  |nil=>rfl
  |cons c s ih=>
   cases e:q c with
   |true=>rw[avL e,avL e,ih]
   |false=>rw[awb qaf];rfl
 exact tw _ s
abbrev Bc(hh:Hp)(s:List UInt8)(k:aK->Prop)(r:Int×Nat×Int):Prop:=∀h'(a:Int) b(c d:Int),ax hh h'->(r.2.2 =0->a=r.1 /\b=s.take r.2.1 /\c=0/\d=r.2.1)->k (.ret (.bA [.agg [.i a,S b,.i c,.i d],.i r.2.2]) h')
abbrev ta:List AV:=[.i 0,S [],.i 0,.i 0]
theorem ahN(HT:aA T){hh:Hp}{f:Fr}(hl:s.length<1073741824)(hg:lO (h.get 1))(h1:hh.nx≠1)(gg:ax hh h)(hr:h.get hh.nx=.one 74 ta)(f0:J 0 f=S s)(f2:J 2 f=.ptr hh.nx 0)
 (hk:Bc hh s k (if eP s [59]=true then(7,1,0) else if 0<o6 s then(6,o6 s,0) else(0,0,4))):
 W T MG f h [] (finish T (W T) [.cell 4 true 2,.tmp 3] k):=by
 have hx:=Hp.lt hr rfl;have hm:=aar s;refine aS f0 f2 ?_;refine NJ HT zo ?_;cases e:eP s [59] with
 |true=>
  rw[atV e] at hk;have e1:s.take 1=[59]:=by simpa[eP] using e
  refine aU f0 f2 hr ?_;have q:=hk (h.set hh.nx (.one 74 [.i 7,S [59],.i 0,.i 1])) 7 [59] 0 1 (gg.set _ (.inl zl)) (λ_=>⟨rfl,e1.symm,rfl,rfl⟩);exact q
 |false=>
  rw[atS qaf] at hk;refine aS f0 f2 ?_;refine ahK HT hl hg λh1 g1=>?_;have e1:=g0 g1;have n1:=g1.nx;have rm:h1.get hh.nx=.one 74 ta:=by rw[e1 _ hx];exact hr
  by_cases em:0<o6 s
  rw[atV em] at hk;have yg:((o6 s:Nat):Int)<=s.length:=zo;refine cC f0 f2 em yg rm ?_;exact hk _ _ _ _ _ ((gg.trans g1).set _ (.inl zl)) (λ_=>⟨rfl,rfl,rfl,rfl⟩);rw[atS em] at hk;refine bK f0 f2 em rm ?_;exact hk _ _ _ _ _ ((gg.trans g1).set _ (.inl zl)) (λh=>by cases h)
theorem ahO(HT:aA T){hh:Hp}{f:Fr}(hl:s.length<1073741824)(hg:lO (h.get 1))(h1:1<hh.nx)(gg:ax hh h)(hr:h.get hh.nx=.one 74 ta)(f0:J 0 f=S s)(f2:J 2 f=.ptr hh.nx 0)
 (hk:∀o:Nat×Int,Bc hh s k (if s.head?=some 34/\0<min o.1 s.length then(5,min o.1 s.length,o.2) else if eP s [59]=true then(7,1,0) else if 0<o6 s then(6,o6 s,0) else(0,0,4))):
 W T (CC.seq (.seq (.af r47_18) (.seq (.af r47_19) (.cond (.t 74) (.seq (.af r47_20) (.seq (.seq (.af r47_21) (.cond (.t 77) (.af r47_22) .skip)) (.seq (.af r47_23) .ret))) .skip))) MG) f h [] (finish T (W T) [.cell 4 true 2,.tmp 3] k):=by
 have hx:=Hp.lt hr rfl;generalize hT5:MG=T5;have no:∀(f:Fr)(h':Hp),ax h h'->J 0 f=S s->J 2 f=.ptr hh.nx 0->W T T5 f h' [] (finish T (W T) [.cell 4 true 2,.tmp 3] k):=by intro f h' g f0 f2;subst hT5;refine ahN HT hl (by rw[g.get 1 qaQ id];exact hg) zo (gg.trans g) (by rw[g.get _ hx id];exact hr) f0 f2 ?_;have q:=hk (0,0);rwa[atS zm] at q
 refine aS f0 f2 ?_;refine aak HT hl (λ_ h1 g1=>?_) λhq v n h1 g1 hn hv=>?_;refine ag ?_;exact no _ _ g1 zA zA
 by_cases en:0<n
 have gE:(n:Int)<=s.length:=zo;have rm:h1.get hh.nx=.one 74 ta:=by rw[g1.get _ hx id];exact hr
 have q:∀e:Int,Bc hh s k (5,n,e):=λe=>by have:=hk (n,e);rwa[atV ⟨hq,by simp;omega⟩,awI hn] at this
 by_cases ev:4096<v.length
 have Tq:(4096:Int)<v.length:=zo;refine cq f0 f2 en gE Tq rm ?_;exact q 3 _ _ _ _ _ ((gg.trans g1).set _ (.inl zl)) (λh=>by cases h);have Tq:¬(4096:Int)<v.length:=zo;refine cq f0 f2 en gE Tq rm ?_;exact q 0 _ _ _ _ _ ((gg.trans g1).set _ (.inl zl)) (λ_=>⟨rfl,rfl,rfl,rfl⟩);refine aB en ?_;exact no _ _ g1 zA zA
theorem ahP(HT:aA T)(IC:∀h',ax h h'->Cz T h') (FC:∀h',ax h h'->CA T h') {hh:Hp} {f:Fr} (hl:s.length<1073741824) (hg:lO (h.get 1)) (h1:1<hh.nx) (gg:ax hh h) (hr:h.get hh.nx=.one 74 ta) (f0:J 0 f=S s) (f2:J 2 f=.ptr hh.nx 0)
 (hk:∀o:Nat×Int,Bc hh s k (if 0<dU s then if zS s=true then(4,max 1 (min o.1 s.length),o.2) else(3,dU s,if dU s=1 then 0 else o.2)
  else if s.head?=some 34/\0<min o.1 s.length then(5,min o.1 s.length,o.2) else if eP s [59]=true then(7,1,0) else if 0<o6 s then(6,o6 s,0) else(0,0,4))):
 W T (CC.seq (.seq (.af r47_11) (.seq (.af r47_12) (.cond (.t 44) (.seq (.af r47_13) (.seq (.seq (.af r47_14) (.cond (.t 46) (.af r47_15) (.af r47_16))) (.seq (.af r47_17) .ret))) .skip))) QJ) f h [] (finish T (W T) [.cell 4 true 2,.tmp 3] k):=by
 have hx:=Hp.lt hr rfl;have hd:=Kh s;generalize qE:QJ=T4;refine aS f0 f2 ?_;refine ahs HT hl (λe h1 g1=>?_) λe h1 n g1 eJ hn=>?_;have rm:h1.get hh.nx=.one 74 ta:=by rw[g1.get _ hx id];exact hr
 by_cases e0:0<dU s
 have bC:((dU s:Nat):Int)<=s.length:=zo;have q:∀e:Int,(dU s=1->e=0)->Bc hh s k (3,dU s,e):=λe1 he=>by have:=hk (0,e1);rw[atV e0,atS qaf] at this;split at this;rw[he ‹_›];exact this;exact this
 refine cC f0 f2 e0 bC rm ?_;refine IC _ g1 _ _ qaG λv e2 h2 g2 he=>?_;have lU:h2.get hh.nx=.one 74 ta:=by rw[g2.get _ (Hp.lt rm rfl) id];exact rm
 refine bK f0 f2 bC lU ?_;refine q e2 (λe3=>he ⟨by rw[auN];omega,by rw[ahM s e0];exact e3⟩) _ _ _ _ _ (((gg.trans g1).trans g2).set _ (.inl zl)) (λ_=>⟨rfl,rfl,rfl,rfl⟩);have hk:∀o:Nat×Int,Bc hh s k (if s.head?=some 34/\0<min o.1 s.length then(5,min o.1 s.length,o.2) else if eP s [59]=true then(7,1,0) else if 0<o6 s then(6,o6 s,0) else(0,0,4)):=λo=>by have:=hk o;rwa[atS e0] at this
 refine aB e0 ?_;subst qE;refine ahO HT hl (by rw[g1.get 1 qaQ id];exact hg) zo (gg.trans g1) rm zA zA hk;have rm:h1.get hh.nx=.one 74 ta:=by rw[g1.get _ hx id];exact hr
 have e0:0<dU s:=by
  have:dU s≠0:=by intro h0;simp[zS,h0] at e
  omega
 have gE:(n:Int)<=s.length:=zo;have q:∀e:Int,Bc hh s k (4,n,e):=λe1=>by have:=hk (n,e1);rwa[atV e0,atV e,awI hn,Nat.max_eq_right eJ] at this
 refine cC f0 f2 eJ gE rm ?_;refine FC _ g1 _ _ qaG λv e2 h2 g2=>?_;have lU:h2.get hh.nx=.one 74 ta:=by rw[g2.get _ (Hp.lt rm rfl) id];exact rm
 refine bK f0 f2 gE lU ?_;exact q e2 _ _ _ _ _ (((gg.trans g1).trans g2).set _ (.inl zl)) (λ_=>⟨rfl,rfl,rfl,rfl⟩)
theorem ahQ(HT:aA T)(IC:∀h',ax h h'->Cz T h') (FC:∀h',ax h h'->CA T h') (hl:s.length<1073741824) (hg:lO (h.get 1)) (hk:∀o,Bc h s k (fA o s)):aE T (W T) ⟨47⟩ [S s] h k:=by
 rw[aJ HT.t47];have yh:=aav s;have yd:1<h.nx:=by obtain⟨t,e,_⟩:=hg;exact Hp.lt e rfl
 generalize rq:Xs=T3;refine ag ?_;refine aae HT zo λh1 g1=>?_;have e1:=g0 g1;have n1:=g1.nx;simp only[Hp.eE] at n1;have gg:ax h h1:=ah.trans aZ g1;have rm:h1.get h.nx=.one 74 ta:=au e1
 by_cases es:0<gu s
 have fW:((gu s:Nat):Int)<=s.length:=zo;have hk:Bc h s k (if s.take (gu s)∈Cr then(2,gu s,0) else if 40<gu s then(1,gu s,3) else if El (s.take (gu s))=false then(1,gu s,9) else(1,gu s,0)):=by have:=hk (0,0);unfold fA at this;rwa[atV es] at this
 refine aS es fW ?_;refine aaf HT λh2 g2=>?_;have e2:=g0 g2;have n2:=g2.nx;simp only[Hp.eE,Hp.iy] at n2;have lU:h2.get h.nx=.one 74 ta:=bV e2 rm;have q2:h2.get h1.nx=.one 74 [.i 1,S (s.take (gu s)),.i 0,.i (gu s)]:=au e2;have gv:ax h h2:=ah.trans (gg.trans aZ) g2;have u2:=Hp.lt q2 rfl
 by_cases ew:s.take (gu s)∈Cr
 rw[atV ew] at hk;refine aU ew q2 lU ?_;exact hk _ _ _ _ _ ((gv.set _ (.inl zo)).set _ (.inl zl)) (λ_=>⟨rfl,rfl,rfl,rfl⟩);rw[atS ew] at hk
 by_cases e4:40<gu s
 rw[atV e4] at hk;have e4':(40:Int)<(gu s:Nat):=zo;refine bK ew q2 lU e4' ?_;exact hk _ _ _ _ _ (gv.set _ (.inl zl)) (λh=>by cases h);rw[atS e4] at hk;have e4':¬(40:Int)<(gu s:Nat):=zo;refine bK ew q2 lU e4' ?_;refine aag (s:=s.take (gu s)) HT qaG λh3 g3=>?_;have e3:=g0 g3;have q3:h3.get h1.nx=.one 74 [.i 1,S (s.take (gu s)),.i 0,.i (gu s)]:=bV e3 q2;have Tr:h3.get h.nx=.one 74 ta:=bV e3 lU;have dL:=gv.trans g3;cases en:El (s.take (gu s)) with
 |true=>
  rw[atS (by simp[en])] at hk;refine aS q3 Tr ?_;exact hk _ _ _ _ _ (dL.set _ (.inl zl)) (λ_=>⟨rfl,rfl,rfl,rfl⟩)
 |false=>
  rw[atV en] at hk;refine aS q3 Tr ?_;exact hk _ _ _ _ _ (dL.set _ (.inl zl)) (λh=>by cases h)
 refine aB es ?_;subst rq;refine ahP HT (λh' g=>IC h' (gg.trans g)) (λh' g=>FC h' (gg.trans g)) hl (by rw[gg.get 1 yd id];exact hg) yd gg rm aa aa λo=>?_;have:=hk o;unfold fA at this;rwa[atS es] at this
end
section
variable{h:Hp}{c tb n:Nat}{l:List Tk}{op:Int}{hd:Bool}{k:aK->Prop}
theorem bp.mA{h:Hp}{c tb l n op hd}(x:bp h c tb l n op hd){cap ex}{n':Nat}{gT:Int}{bC:Bool}:
 bp (h.set c (.one 76 [.slice tb 0 4 l.length cap ex,.i n',.i gT,.bool bC])) c tb l n' gT bC:=by
 have:=x.ne;obtain⟨_,⟨r,t,ht,h1⟩,le⟩:=x;exact⟨⟨cap,ex,Hp.bR rfl⟩,⟨r,t,by rw[Hp.de this];exact ht,h1⟩,le⟩
def WK(c tb:Nat)(l:List Tk)(op:Int)(hd:Bool)(right:List UInt8)(k:aK->Prop)(o:aK):Prop:=
 match o with
 |.ret _ h2=>∃m,m<l.length/\bp h2 c tb l m (op+1) false/\(bD (tk l m) [right]=true->∀h3,Pg c h2 h3->bp h3 c tb l (m+1) op hd->k (.ret (.bA []) h3))/\
  (bD (tk l m) [right]=false->∀h3,Pg c h2 h3->k (.bn (qD (tk l m).ak 4) h3))
 |.bn v h2=>k (.bn v h2)
theorem Ts(HT:aA T)(hs:fc l)(hc:bp h c tb l n op hd)(hn:n<l.length)(h0:0<=op)(h1:op<=128){left right:List UInt8}{g:aM}{fs cs:List AV}
 (hl:bD (tk l n) [left]=true->op=128->∀h',Pg c h h'->k (.bn (qD (tk l n).ak 3) h'))
 (he:bD (tk l n) [left]=false->∀h',Pg c h h'->k (.bn (qD (tk l n).ak 4) h'))
 (hr:bD (tk l n) [left]=true->op≠128->∀h1,Pg c h h1->bp h1 c tb l (n+1) (op+1) false->aE T (W T) g (fF fs (fF [] cs)) h1 (WK c tb l op hd right k)):
 aE T (W T) ⟨119⟩ [.ptr c 0,S left,S right,.func g fs cs] h k:=by
 have hx:=hc.lt;have hy:=hc.dW;rw[aJ HT.t119];refine ag ?_;refine ke HT (hc.push _) hn (cY.one (x:=left) (Hp.br zm) zl zm) zm λh1 g1=>?_;obtain⟨n1,e1⟩:=bH g1;have c1:=(hc.push _).mono g1;obtain⟨⟨cap,ex,q1⟩,_⟩:=id c1;cases e:bD (tk l n) [left] with
 |false=>
  refine aS e q1 ?_;refine Cx HT c1 hn (λe'=>by rw[e] at e';cases e') λ_ h2 g2=>?_;obtain⟨n2,e2⟩:=bw g2;refine ag ?_;exact he e _ (eF e2 e1)
 |true=>
  by_cases eo:op=128
  refine aU e q1 eo ?_;refine Cw HT c1 hn λh2 g2=>?_;obtain⟨n2,e2⟩:=bH g2;refine ag ?_;exact hl e eo _ (eF e2 e1);refine aU e q1 eo ?_;refine Cx HT c1 hn (λ_ h2 g2 c2=>?_) λe'=>by rw[e] at e';cases e'
  obtain⟨n2,e2⟩:=bw g2;obtain⟨⟨aaw,Hf,q2⟩,_⟩:=id c2;have hxx:=c2.lt;refine aB q2 ?_;refine ae0 (hr e eo _ (eF e2 e1) c2.mA.mA) λo ho=>?_;cases o with
  |bn v h3=>exact ho
  |ret v h3=>
   obtain⟨m,hm,c3,hy,jK⟩:=ho;refine ag ?_;refine Cx HT c3 hm (λe' h4 g4 c4=>?_) λe' h4 g4=>?_;obtain⟨⟨asn,ex4,q4⟩,_⟩:=id c4;have Ep:=c4.lt;obtain⟨n4,e4⟩:=bw g4;refine aB q4 ?_;exact hy e' _ ((g4.set _ (.inr rfl)).set _ (.inr rfl)) c4.mA.mA;refine ag ?_;exact jK e' _ g4
end
section
variable{h hh:Hp}{c tb n:Nat}{l:List Tk}{op:Int}{hd:Bool}{k:aK->Prop}
def Kn(T:aM->Option CF)(hh:Hp)(c tb:Nat)(l:List Tk)(op:Int)(hd:Bool)(g:aM)(rR:List AV)(rd:Nat->PR Tree):Prop:=
 ∀(h1:Hp)(n:Nat)(k:aK->Prop),Pg c hh h1->bp h1 c tb l n op hd->n<l.length->lS c tb l op hd h1 k (rd n)->aE T (W T) g rR h1 k
def ahR(c tb:Nat)(l:List Tk)(op:Int)(hd:Bool)(h:Hp)(k:aK->Prop)(r:PR Unit):Prop:=
 match r with
 |.ok _ n=>∀h',Pg c h h'->bp h' c tb l n op hd->n<l.length->0<n->k (.ret (.bA []) h')
 |.er p e=>∀h',Pg c h h'->k (.bn (qD p e) h')
 |.dN=>False
def N4(T:aM->Option CF)(hh:Hp)(c tb:Nat)(l:List Tk)(op:Int)(hd:Bool)(g:aM)(rR:List AV)(bt:Nat->PR Unit):Prop:=
 ∀(h1:Hp)(n:Nat)(k:aK->Prop),Pg c hh h1->bp h1 c tb l n op hd->n<l.length->ahR c tb l op hd h1 k (bt n)->aE T (W T) g rR h1 k
def CB(lo:Nat)(h:Hp)(lb:Nat)(ts:List Tree):Prop:=
 ∃v,h.get lb=.one 37 [v]/\(ts=[]/\v=.bx\/
  ∃b r f,lo<=b/\v=.slice b 0 6 ts.length ts.length false/\ts≠[]/\h.get b=.rows 39 6 r 0 f/\ts.length<=r/\eR lo (h.set b .eD) ts f)
theorem NF.new{lo:Nat}{a b:Hp}(x:NF lo a b){i:Nat}(o:AO)(hi:a.nx<=i):NF lo a (b.set i o):=λj r f hl e=>by have:=Hp.lt e rfl;rw[Hp.de zo];exact x j r f hl e
theorem Ko{lo:Nat}{h:Hp}:∀{ts:List Tree}{t:Tree}{f:Nat->List AV},eR lo h ts f->ay lo h t (f ts.length)->eR lo h (ts++[t]) f
 |[],_,_,_,h2=>by simpa only[au5,eR,axS,aup] using h2
 |x::ts,t,f,h1,h2=>by simp only[auY,eR] at h1⊢;exact⟨h1.1,Ko h1.2 h2⟩
theorem Kp{lo:Nat}{h:Hp}:∀{ts:List Tree}{f g:Nat->List AV},(∀j,j<ts.length->g j=f j)->eR lo h ts f->eR lo h ts g
 |[],_,_,_,_=>by simp only[eR]
 |x::ts,f,g,e,h1=>by simp only[eR] at h1⊢;exact⟨by rw[e 0 zm];exact h1.1,Kp (λj hj=>e (j+1) zn) h1.2⟩
theorem CB.pg{lo:Nat}{h h':Hp}{c lb ts}(x:CB lo h lb ts)(g:Pg c h h')(hc:c<lo)(hl:lo<=lb):CB lo h' lb ts:=by
 obtain⟨v,hv,x⟩:=x;have e:∀i o,lo<=i->h.get i=o->jN o=false->h'.get i=o:=λi o hi ho hn=>by rw[g.get i (Hp.lt ho hn) zo];exact ho
 refine⟨v,e lb _ hl hv rfl,?_⟩;rcases x with x|⟨b,r,f,h1,h2,h3,h4,h5,h6⟩;exact .inl x;refine .inr ⟨b,r,f,h1,h2,h3,e b _ h1 h4 rfl,h5,eR.nf (lo:=lo) (λi r f hi he=>?_) zl _ _ h6⟩
 by_cases hb:i=b
 subst hb;rw[Hp.bR rfl] at he;cases he;rw[Hp.de hb] at he⊢;exact e i _ hi he rfl
structure LB(h:Hp)(c lb cb rb fb bb:Nat)(right:List UInt8)(gr:aM)(ar:List AV)(gb:aM)(ab1 ab2:List AV):Prop where
 cb:h.get cb=.one 72 [.ptr c 0]
 rb:h.get rb=.one 9 [S right]
 fb:h.get fb=.one 96 [.func gr [] ar]\/∃x,h.get fb=.one 96 [.func gr x []]/\ar=x
 bb:h.get bb=.one 1 [.func gb ab1 ab2]
def Tt(hh:Hp)(c tb lb:Nat)(l:List Tk)(op:Int)(hd:Bool)(ts:List Tree)(k:aK->Prop)(r:PR (List Tree)):Prop:=
 match r with
 |.ok ts' m=>∀h',Pg c hh h'->bp h' c tb l m op hd->m<l.length->0<m->CB hh.nx h' lb (ts++ts')->k (.ret (.bA []) h')
 |.er p e=>∀h',Pg c hh h'->k (.bn (qD p e) h')
 |.dN=>False
theorem aax(HT:aA T)(hs:fc l){lb cb rb fb bb:Nat}{right:List UInt8}{gr gb:aM}{fr cr Er Es:List AV}{rd bt}
 (R:Kn T hh c tb l op hd gr (fF fr cr) rd) (B:N4 T hh c tb l op hd gb (fF Er Es) bt)
 (o1:hh.nx<=cb) (o2:hh.nx<=rb) (o3:hh.nx<=fb) (o4:hh.nx<=bb) (o5:hh.nx<=lb) (zV:cb≠lb) (N5:rb≠lb) (Tu:fb≠lb) (ne4:bb≠lb) (NY:c<hh.nx) (Tv:tb<hh.nx):
 ∀(fy n:Nat)(h:Hp)(ts:List Tree)(f:Fr)(K:aT->Prop),ts.length+fy<8589934592->Pg c hh h->bp h c tb l n op hd->n<l.length->0<n->CB hh.nx h lb ts->
  h.get cb=.one 72 [.ptr c 0]->h.get rb=.one 9 [S right]->h.get fb=.one 96 [.func gr fr cr]->h.get bb=.one 1 [.func gb Er Es]->
  J 0 f=.ptr cb 0->J 1 f=.ptr rb 0->J 2 f=.ptr lb 0->J 3 f=.ptr fb 0->J 4 f=.ptr bb 0->
  Tt hh c tb lb l op hd ts (λo=>match o with|.ret _ h'=>(∀f,K (.exit 0 f h' []))/\∀f,K (.ret f h' [])|.bn v h'=>∀f,K (.bn v f h' [])) (ug l right rd bt fy n)->
  W T (.loop l120_0) f h [] K
 |0,_,_,_,_,_,_,_,_,_,_,_,_,_,_,_,_,_,_,_,_,hk=>hk.elim
 |fy+1,n,h,ts,f,K,N6,g,hc,hn,hz,hl,q1,q2,q3,q4,f0,f1,f2,f3,f4,hk=>by
  have pP:=hl;obtain⟨v,hv,hl⟩:=hl;have x1:=Hp.lt q1 rfl;have x2:=Hp.lt q2 rfl;have x3:=Hp.lt q3 rfl;have x4:=Hp.lt q4 rfl;have x5:=Hp.lt hv rfl;have hx:=hc.lt;have hy:=hc.dW;have tail:∀(H:Hp)(f:Fr)(t:Tree)(m:Nat),Pg c hh H->bp H c tb l m op hd->m<l.length->0<m->CB hh.nx H lb (ts++[t])->
   H.get cb=.one 72 [.ptr c 0]->H.get rb=.one 9 [S right]->H.get fb=.one 96 [.func gr fr cr]->H.get bb=.one 1 [.func gb Er Es]->
   J 0 f=.ptr cb 0->J 1 f=.ptr rb 0->J 2 f=.ptr lb 0->J 3 f=.ptr fb 0->J 4 f=.ptr bb 0->
   Tt hh c tb lb l op hd ts (λo=>match o with|.ret _ h'=>(∀f,K (.exit 0 f h' []))/\∀f,K (.ret f h' [])|.bn v h'=>∀f,K (.bn v f h' []))
    (if bD (tk l m) [right]=true then .ok [t] m else(bt m).bind λ_ o=>(ug l right rd bt fy o).bind λts q=>.ok (t::ts) q)->
   W T (.seq (.seq (.af r120_2) (.cond (.t 20) .ret .skip)) (.af r120_3)) f H [] (bY 1 (bF (W T (.loop l120_0)) K)):=by
   intro H f t m g hc hm hz hl q1 q2 q3 q4 f0 f1 f2 f3 f4 hk;have x1:=Hp.lt q1 rfl;have x2:=Hp.lt q2 rfl;have x3:=Hp.lt q3 rfl;have x4:=Hp.lt q4 rfl;have pP:=hl;obtain⟨v,hv,hl⟩:=hl;have x5:=Hp.lt hv rfl;have hx:=hc.lt;have hy:=hc.dW;refine nA f0 f1 f2 f3 f4 q1 q2 q3 q4 hv ?_;refine ke HT (hc.push _) hm (cY.one (x:=right) (Hp.br zm) zl zm) zm λh1 g1=>?_;obtain⟨n1,e1⟩:=bH g1;have c1:=(hc.push _).mono g1;have lV:Pg c hh h1:=(g.push _).trans g1.cn;have g1':Pg c H h1:=((ah.refl H).push _).trans g1.cn;cases e:bD (tk l m) [right] with
   |true=>
    rw[atV e] at hk;refine aB e ?_;exact(hk h1 lV c1 hm hz (pP.pg g1' zo zo)).2 _
   |false=>
    rw[e] at hk;simp only[at3,auM] at hk;refine pU e f0 f1 f2 f3 f4 e1 q1 q2 q3 q4 hv ?_;refine B h1 m _ lV c1 hm ?_;cases hb:bt m with
    |dN=>rw[hb] at hk;exact hk
    |er p e=>
     rw[hb] at hk;intro h2 g2;refine ag ?_;exact hk _ (lV.trans g2) _
    |ok _ m2=>
     rw[hb] at hk;simp only[PR.bind] at hk;intro h2 g2 c2 Hg Bd;obtain⟨n2,e2⟩:=bw g2;refine ag ?_;refine aax HT hs (right:=right) R B o1 o2 o3 o4 o5 zV N5 Tu ne4 NY Tv fy m2 h2 (ts++[t]) _ K zn (lV.trans g2) c2 Hg Bd ((pP.pg g1' zo zo).pg g2 zo zo)
      (cX e2 e1 q1) (cX e2 e1 q2) (cX e2 e1 q3) (cX e2 e1 q4) zA zA zA zA zA ?_
     revert hk;cases ug l right rd bt fy m2<;>simp[Tt]
  rw[aP];show W T (.seq (.seq (.af r120_0) (.cond (.t 9) .skip (.exit 0))) (.block 1 (.seq (.aR r120_1) (.seq (.seq (.af r120_2) (.cond (.t 20) .ret .skip)) (.af r120_3))))) f h [] _;generalize Hh:CC.seq (CC.seq (.af r120_2) (.cond (.t 20) .ret .skip)) (.af r120_3)=TC at tail⊢;refine nA f0 f1 f2 f3 f4 q1 q2 q3 q4 hv ?_;refine ke HT (hc.push _) hn (cY.one (x:=right) (Hp.br zm) zl zm) zm λh1 g1=>?_;obtain⟨n1,e1⟩:=bH g1;have c1:=(hc.push _).mono g1;have lV:Pg c hh h1:=(g.push _).trans g1.cn;have g1':Pg c h h1:=((ah.refl h).push _).trans g1.cn;unfold ug at hk;cases e:bD (tk l n) [right] with
  |true=>
   rw[atV e] at hk;refine aB e ?_;refine(hk h1 lV c1 hn hz ?_).1 _;rw[av5];exact pP.pg g1' zo zo
  |false=>
   rw[e] at hk;simp only[at3,auM] at hk;refine pU e f0 f1 f2 f3 f4 e1 q1 q2 q3 q4 hv ?_;cases fe:rd n with
   |dN=>rw[fe] at hk;exact hk.elim
   |er p e=>
    rw[fe] at hk;rcases hl with⟨rfl,rfl⟩|⟨b,r,fr,N7,rfl,bg,hb,hr,kz⟩
    all_goals
     refine ag ?_;refine R h1 n _ lV c1 hn ?_;rw[fe];intro h2 g2;refine ag ?_;exact hk _ (lV.trans g2) _
   |ok t m=>
    rw[fe] at hk;simp only[PR.bind] at hk;rcases hl with⟨rfl,rfl⟩|⟨b,r,fr,N7,rfl,bg,hb,hr,kz⟩;refine ag ?_;refine R h1 n _ lV c1 hn ?_;rw[fe];intro h2 row g2 c2 nd hm Bd;obtain⟨n2,e2⟩:=bw g2;have jt:=nd;obtain⟨kind,ak,to,at_,nm,kids⟩:=t;simp only[ay] at nd;obtain⟨kv,rfl,nd⟩:=nd;have bg:¬(h2.nx+1=lb):=zo;refine bK e2 e1 hv f2 ?_;rw[A7 (n:=0) (wN (Hp.br rfl) zl) rfl zd];refine cC e2 e1 hv f2 bg ?_;refine tail _ _ (.mk kind ak to at_ nm kids) m (fH e2 e1 (gp g)) ((((c2.push _).push _).set _ zo zo).set _ zo zo) hm Bd ⟨_,Hp.bR rfl,.inr ⟨h2.nx+1,1,_,by omega,rfl,by simp,by refine ag ?_;rfl,by simp,?_⟩⟩
     (cX e2 e1 q1) (cX e2 e1 q2) (cX e2 e1 q3) (cX e2 e1 q4) zA zA zA zA zA hk
    refine Ko (by simp only[eR]) ?_;simp only[aup,dZ,auo];exact ay.nf (((((NF.refl h2).push _).push _).new _ zo).vC _ zo|>.new _ zo) zo _ _ jt;refine ag ?_;refine R h1 n _ lV c1 hn ?_;rw[fe];intro h2 row g2 c2 nd hm Bd;obtain⟨n2,e2⟩:=bw g2;have jt:=nd;obtain⟨kind,ak,to,at_,nm,kids⟩:=t;simp only[ay] at nd;obtain⟨kv,rfl,nd⟩:=nd;have bg:¬(h2.nx+1=lb):=zo;have xb:=Hp.lt hb rfl;have wF:lb≠b:=by rintro rfl;rw[hb] at hv;cases hv
    have CD:∀{x o},h.get x=o->(∀r f,o≠.rows 39 6 r 0 f)->x≠b:=by rintro x o h1 h2 rfl;exact h2 _ _ (h1.symm.trans hb)
    have y1:=CD q1 zm;have y2:=CD q2 zm;have y3:=CD q3 zm;have y4:=CD q4 zm;have fX:h2.get b=.rows 39 6 r 0 fr:=cX e2 e1 hb;refine bK e2 e1 hv f2 ?_;rw[A8 (n:=0) (cnt:=r) (t:=fr) (au fX) hr (wN (Hp.br rfl) zl) rfl (rV zo zo)];refine cC e2 e1 hv f2 bg ?_;refine tail _ _ (.mk kind ak to at_ nm kids) m (fH e2 e1 (gp g)) (((((c2.push _).set _ zo zo).push _).set _ zo zo).set _ zo zo) hm Bd
     ⟨_,Hp.bR rfl,.inr ⟨h2.nx+1,ts.length+1,_,by omega,by simp,by simp,by refine ag ?_;rfl,by simp,?_⟩⟩
     (cX e2 e1 q1) (cX e2 e1 q2) (cX e2 e1 q3) (cX e2 e1 q4) zA zA zA zA zA hk
    refine Ko (eR.nf (lo:=hh.nx) (h:=h.set b .eD) (λi r f hi he=>?_) zl _ _ (Kp (λj hj=>?_) kz)) ?_
    by_cases ue:i=b
    subst ue;rw[Hp.bR rfl] at he;cases he;rw[Hp.de ue] at he;have:=Hp.lt he rfl;have:i≠lb:=by rintro rfl;rw[hv] at he;cases he
    exact cX e2 e1 he;simp only[dZ];rw[atS zo,atS zo];simp only[dZ,auo];exact ay.nf ((((((NF.refl h2).push _).vC _ zo).push _).new _ zo).vC _ zo|>.new _ zo) zo _ _ jt
theorem CB.kids{lo lb:Nat}{h:Hp}{ts}(x:CB lo h lb ts):∃v,h.get lb=.one 37 [v]/\bQ v=some [v]/\dO lo h ts v:=by
 obtain⟨v,hv,x⟩:=x;refine⟨v,hv,?_⟩;rcases x with⟨rfl,rfl⟩|⟨b,r,f,h1,rfl,h3,h4,h5,h6⟩;exact⟨rfl,by simp only[dO]⟩;refine⟨rfl,?_⟩;cases ts with
 |nil=>exact absurd rfl h3
 |cons t ts=>
  have h6':=eR.nf (lo:=lo) (h':=h) (λi r f _ he=>by
   by_cases hb:i=b
   subst hb;rw[Hp.bR rfl] at he;cases he;rwa[Hp.de hb] at he) zl _ _ h6
  simp only[eR] at h6';simp only[dO];exact⟨b,_,false,r,f,rfl,h4,by simpa using h5,h1,h6'.1,h6'.2⟩
def Et(c tb:Nat)(l:List Tk)(op:Int)(hd:Bool)(h:Hp)(k:aK->Prop)(r:PR (List Tree)):Prop:=
 match r with
 |.ok ts n=>∀h' kv,Pg c h h'->bp h' c tb l n op hd->n<l.length->0<n->bQ kv=some [kv]->dO h.nx h' ts kv->k (.ret kv h')
 |.er p e=>∀h',Pg c h h'->k (.bn (qD p e) h')
 |.dN=>False
theorem Kq(HT:aA T)(hs:fc l)(hc:bp h c tb l n op hd)(hn:n<l.length)(h0:0<=op)(h1:op<=128){left right:List UInt8}{gr gb:aM}{fr cr Er Es:List AV}{rd bt}{fy:Nat}(N6:fy<8589934592)
 (R:op≠128->Kn T h c tb l (op+1) false gr (fF fr cr) rd) (B:op≠128->N4 T h c tb l (op+1) false gb (fF Er Es) bt)
 (hk:Et c tb l op hd h k (wS l left right rd bt op fy n)):
 aE T (W T) ⟨88⟩ [.ptr c 0,S left,S right,.func gb Er Es,.func gr fr cr] h k:=by
 have hx:=hc.lt;have hy:=hc.dW;rw[aJ HT.t88];refine ag ?_;unfold wS at hk;refine Ts HT hs (((((hc.push _).push _).push _).push _).push _) hn h0 h1 (λe eo h' g'=>?_) (λe h' g'=>?_) (λe eo h' g' c'=>?_);rw[atV e,atV eo] at hk;obtain⟨n',e'⟩:=bw g';refine ag ?_;exact hk _ (iQ e');rw[e] at hk;obtain⟨n',e'⟩:=bw g';refine ag ?_;exact hk _ (iQ e');rw[atV e,atS eo] at hk;obtain⟨n',e'⟩:=bw g';simp only[fF];rw[aJ HT.t120];refine ag ?_;refine aax HT hs (R eo) (B eo) (cb:=h.nx) (rb:=h.nx+1) (fb:=h.nx+1+1+1) (bb:=h.nx+1+1) (lb:=h.nx+1+1+1+1) (right:=right)
  zl zo zo zo zo zo zo zo zo hx hy fy (n+1) h' [] _ _ (by simpa using N6) (iQ e') c' (lT hs hn e) zo ⟨.bx,au e',.inl ⟨rfl,rfl⟩⟩
  qas qas qas qas qaj qaj qaj qaj qaj ?_
 cases hp:ug l right rd bt fy (n+1) with
 |dN=>rw[hp] at hk;exact hk
 |er p e2=>
  rw[hp] at hk;intro h2 g2 f;simp(disch:=omega) [WK];exact hk _ g2
 |ok ts m=>
  rw[hp] at hk;simp only[PR.bind] at hk;intro h2 g2 c2 hm hz hl;rw[au5] at hl;have key:WK c tb l op hd right (NB (bF (W T (.seq (.af r88_3) .ret)) (finish T (W T) [.tmp 10] k)) [] (some 16)
   (fO 15 (.func ⟨120⟩ [] [.ptr h.nx 0,.ptr (h.nx+1) 0,.ptr (h.nx+1+1+1+1) 0,.ptr (h.nx+1+1+1) 0,.ptr (h.nx+1+1) 0]) (fO 14 (S right) (fO 13 (S left) (fO 12 (.ptr c 0)
    (fO 11 (.ptr (h.nx+1+1+1+1) 0) (fO 10 .bx (fO 9 (.ptr (h.nx+1+1+1) 0) (fO 8 (.ptr (h.nx+1+1) 0) (fO 7 (.ptr (h.nx+1) 0) (fO 5 (.ptr h.nx 0) (nQ [.ptr c 0,S left,S right,.func gb Er Es,.func gr fr cr])))))))))))
   (qQ (aE T (W T)) (bF (W T (.seq (.af r88_3) .ret)) (finish T (W T) [.tmp 10] k)) [])) (.ret (.bA []) h2):=by
   refine⟨m,hm,c2,λe3 h3 g3 c3=>?_,λe3 h3 g3=>?_⟩;rw[atV e3] at hk;obtain⟨v,hv,Ba,N8⟩:=(hl.pg g3 hx zo).kids;refine aB hv ?_;exact hk _ _ (g2.trans g3) c3 (lT hs hm e3) zo Ba N8;rw[e3] at hk;refine ag ?_;exact hk _ (g2.trans g3)
  exact⟨λf=>by refine ag ?_;exact key,λf=>by refine ag ?_;exact key⟩
theorem ahS(HT:aA T){t:Tk}(hk:∀h',ax h h'->k (.ret (.i (o7 t)) h')):aE T (W T) ⟨194⟩ [.agg t.row] h k:=by
 have fL:=hk _ (((ah.refl h).push (.one 74 t.row)));rw[aJ HT.t194];unfold o7 at fL
 by_cases k3:t.kind=3
 refine aS Tk.row.eq_1 k3 ?_;simpa[Tk.row,k3] using fL
 by_cases k4:t.kind=4
 refine aS Tk.row.eq_1 k4 ?_;simpa[Tk.row,k4] using fL
 by_cases k5:t.kind=5
 refine aS Tk.row.eq_1 k5 ?_;simpa[Tk.row,k5] using fL
 by_cases k1:t.kind=1
 refine aS Tk.row.eq_1 k1 ?_;simpa[Tk.row,k1] using fL
 by_cases k2:t.kind=2
 by_cases e1:t.text=[116,114,117,101]
 refine aU Tk.row.eq_1 k2 e1 ?_;simpa[Tk.row,k2,e1] using fL
 by_cases e2:t.text=[102,97,108,115,101]
 refine aU Tk.row.eq_1 k2 e2 ?_;simpa[Tk.row,k2,e2] using fL;refine bK Tk.row.eq_1 k2 e1 e2 ?_;simpa[Tk.row,k2,e1,e2] using fL;refine cq Tk.row.eq_1 k3 k4 k5 k1 k2 ?_;simpa[Tk.row,k3,k4,k5,k1,k2] using fL
theorem aay(HT:aA T){t:Tk}(hk:∀h',ax h h'->k (.ret (.i (Bb t)) h')):aE T (W T) ⟨173⟩ [.agg t.row] h k:=by
 have fL:=hk _ (((ah.refl h).push (.one 74 t.row)));rw[aJ HT.t173];unfold Bb at fL
 by_cases h6:¬t.kind=6
 refine aS Tk.row.eq_1 h6 ?_;simpa[h6,Tk.row] using fL;have h6:t.kind=6:=zo
 by_cases e0:t.text=[124,124]
 refine aU Tk.row.eq_1 h6 e0 ?_;simpa[h6,Tk.row,e0] using fL
 by_cases e1:t.text=[38,38]
 refine aU Tk.row.eq_1 h6 e1 ?_;simpa[h6,Tk.row,e1] using fL
 by_cases e2:t.text=[61,61]
 refine aU Tk.row.eq_1 h6 e2 ?_;simpa[h6,Tk.row,e2] using fL
 by_cases e3:t.text=[33,61]
 refine aU Tk.row.eq_1 h6 e3 ?_;simpa[h6,Tk.row,e3] using fL
 by_cases e4:t.text=[60]
 refine aU Tk.row.eq_1 h6 e4 ?_;simpa[h6,Tk.row,e4] using fL
 by_cases e5:t.text=[60,61]
 refine aU Tk.row.eq_1 h6 e5 ?_;simpa[h6,Tk.row,e5] using fL
 by_cases e6:t.text=[62]
 refine aU Tk.row.eq_1 h6 e6 ?_;simpa[h6,Tk.row,e6] using fL
 by_cases e7:t.text=[62,61]
 refine aU Tk.row.eq_1 h6 e7 ?_;simpa[h6,Tk.row,e7] using fL
 by_cases e8:t.text=[43]
 refine aU Tk.row.eq_1 h6 e8 ?_;simpa[h6,Tk.row,e8] using fL
 by_cases e9:t.text=[45]
 refine aU Tk.row.eq_1 h6 e9 ?_;simpa[h6,Tk.row,e9] using fL
 by_cases e10:t.text=[42]
 refine aU Tk.row.eq_1 h6 e10 ?_;simpa[h6,Tk.row,e10] using fL
 by_cases e11:t.text=[47]
 refine aU Tk.row.eq_1 h6 e11 ?_;simpa[h6,Tk.row,e11] using fL
 by_cases e12:t.text=[37]
 refine aU Tk.row.eq_1 h6 e12 ?_;simpa[h6,Tk.row,e12] using fL;refine kC Tk.row.eq_1 h6 e0 e1 e2 e3 e4 e5 e6 e7 e8 e9 (atQ (atQ e10 e11) e12) ?_;simpa[h6,Tk.row,e0,e1,e2,e3,e4,e5,e6,e7,e8,e9,e10,e11,e12] using fL
theorem aso(hs:fc l){x:List UInt8}{P:PR Tk->Prop}(hn:n<l.length)(h1:bD (tk l n) [x]=true->n+1<l.length->P (.ok (tk l n) (n+1)))(h2:bD (tk l n) [x]=false->P (.er (tk l n).ak 4)):P (lR l x n):=by
 unfold lR;cases e:bD (tk l n) [x] with
 |true=>simpa using h1 e (lT hs hn e)
 |false=>simpa using h2 e
theorem Tw(HT:aA T){right:List UInt8}(hx:c<h.nx)
 (hk:∀h' b1 b2,ax h h'->h'.get b1=.one 72 [.ptr c 0]->h'.get b2=.one 9 [S right]->h.nx<=b1->h.nx<=b2->k (.ret (.func ⟨123⟩ [] [.ptr b1 0,.ptr b2 0]) h')):aE T (W T) ⟨91⟩ [.ptr c 0,S right] h k:=by
 rw[aJ HT.t91];refine ag ?_;exact hk _ h.nx (h.nx+1) aZ aa aa zl zo
theorem Tx(HT:aA T)(hs:fc l){right:List UInt8}{b1 b2:Nat}(q1:hh.get b1=.one 72 [.ptr c 0])(q2:hh.get b2=.one 9 [S right])(n1:b1≠c)(n2:b2≠c):
 N4 T hh c tb l op hd ⟨123⟩ [.ptr b1 0,.ptr b2 0] (Cu l right):=by
 intro h n k g hc hn hk;have x1:=Hp.lt q1 rfl;have x2:=Hp.lt q2 rfl;have hx:=hc.lt;have hy:=hc.dW;have r1:h.get b1=.one 72 [.ptr c 0]:=by rw[g.get _ x1 n1];exact q1
 have r2:h.get b2=.one 9 [S right]:=by rw[g.get _ x2 n2];exact q2
 have y1:=Hp.lt r1 rfl;have y2:=Hp.lt r2 rfl;rw[aJ HT.t123];unfold Cu lR at hk;refine aB r1 ?_;refine Cx HT hc hn (λe h1 g1 c1=>?_) λe h1 g1=>?_;have gE:=lT hs hn e;rw[atV e] at hk;simp only[PR.bind] at hk;obtain⟨n1,e1⟩:=bw g1;refine aU e1 r1 r2 ?_;refine ke HT (c1.push _) gE (cY.one (x:=right) (Hp.br zm) zl zm) zm λh2 g2=>?_;obtain⟨n2,e2⟩:=bH g2;have c2:=(c1.push _).mono g2;cases e3:bD (tk l (n+1)) [right] with
 |true=>
  rw[atV e3] at hk;refine bK e3 e2 e1 r1 ?_;refine Cw HT c2 gE λh3 g3=>?_;obtain⟨n3,e3⟩:=bH g3;refine ag ?_;exact hk _ (fH e3 e2 e1)
 |false=>
  rw[e3] at hk;simp only[at3,auM] at hk;refine aB e3 ?_;exact hk _ (eF e2 e1) c2 gE zo
 rw[atS qaW] at hk;refine ag ?_;exact hk _ g1
theorem aaz(HT:aA T)(hs:fc l):N4 T hh c tb l op hd ⟨50⟩ [.ptr c 0] (mU l):=by intro h n k g hc hn hk;unfold mU jR at hk;refine NZ HT hc hn (λe h1 g1 c1=>?_) λe h1 g1=>?_;rw[atV e] at hk;exact hk _ g1 c1 (wT hs hn e zd) zo;rw[atS e] at hk;exact hk _ g1
def pW(T:aM->Option CF)(c tb:Nat)(l:List Tk)(ex:Int->Bool->Int->Nat->PR Tree):Prop:=
 ∀(h:Hp)(n:Nat)(op:Int)(hd:Bool)(dS:Int)(k:aK->Prop),0<=op->op<=128->0<=dS->bp h c tb l n op hd->n<l.length->lS c tb l op hd h k (ex op hd dS n)->aE T (W T) ⟨147⟩ [.ptr c 0,.i dS] h k
theorem lS.nC{h1:Hp}{r:PR Tree}(g:Pg c h h1)(hk:lS c tb l op hd h k r):lS c tb l op hd h1 k r:=by
 unfold lS at*;cases r with
 |dN=>exact hk
 |er p e=>exact λh' g'=>hk h' (g.trans g')
 |ok t n=>exact λh' row g' c' nd hn hz=>hk h' row (g.trans g') c' (ay.nf (NF.refl _) g.nx _ _ nd) hn hz
theorem dO.cell{lo:Nat}{h:Hp}{ts:List Tree}{v:AV}(x:dO lo h ts v):bQ v=some [v]:=by
 cases ts with
 |nil=>simp only[dO] at x;subst x;rfl
 |cons t ts=>simp only[dO] at x;obtain⟨b,cap,ex,r,f,rfl,_⟩:=x;rfl
theorem ay.shape{lo:Nat}{h:Hp}{t:Tree}{row:List AV}(x:ay lo h t row):
 ∃kv,row=[.i t.kind,.i t.ak,.i t.to,.i t.at,S t.name,kv]/\bQ kv=some [kv]/\dO lo h t.kids kv:=by
 cases t;simp only[ay] at x;obtain⟨kv,e,x⟩:=x;exact⟨kv,e,x.cell,x⟩
theorem ay.of{lo:Nat}{h:Hp}{t:Tree}{kv}(x:dO lo h t.kids kv):ay lo h t [.i t.kind,.i t.ak,.i t.to,.i t.at,S t.name,kv]:=by cases t;simp only[ay];exact⟨kv,rfl,x⟩
@[simp] theorem Ty{α β:Type}{a:α}{n:Nat}{f:α->Nat->PR β}:(PR.ok a n).bind f=f a n:=(rfl)
@[simp] theorem ahT{α β:Type}{p e:Int}{f:α->Nat->PR β}:(PR.er p e).bind f=.er p e:=(rfl)
theorem Hi{α:Type}(r:PR α):r.bind .ok=r:=by cases r<;>rfl
theorem NF.g0{lo:Nat}{a b d:Hp}(x:NF lo a b)(g:ax b d):NF lo a d:=x.trans (NF.nC g λ_ _ _=>False.elim)
theorem NF.gp{lo:Nat}{a b d:Hp}(x:NF lo a b)(g:Pg c b d)(hc:c<lo):NF lo a d:=λi r f hl e=>by have:=x i r f hl e;rw[g.get i (Hp.lt this rfl) zo];exact this
theorem vD{lo b cap r f}{ex:Bool}{t:Tree}(hb:h.get b=.rows 39 6 r 0 f)(hr:1<=r)(hl:lo<=b)(n0:ay lo h t (f 0)):dO lo h [t] (.slice b 0 6 1 cap ex):=by simp only[dO,eR,axS];exact⟨b,cap,ex,r,f,rfl,hb,hr,hl,n0⟩
theorem Tz{lo b cap r f}{ex:Bool}{t u:Tree}(hb:h.get b=.rows 39 6 r 0 f)(hr:2<=r)(hl:lo<=b)(n0:ay lo h t (f 0))(n1:ay lo h u (f 1)):dO lo h [t,u] (.slice b 0 6 2 cap ex):=by simp only[dO,eR,axS];exact⟨b,cap,ex,r,f,rfl,hb,hr,hl,n0,n1⟩
theorem cU.sub{lo:Nat}{gT:Int}{bC:Bool}{h1:Hp}{k1:aK->Prop}{r:PR Tree}{f:Tree->Nat->PR Tree}(hk:cU lo c tb l op hd h k (r.bind f))(g:Pg c h h1)(hp:∀v h2,k (.bn v h2)->k1 (.bn v h2))
 (ho:∀t m,cU lo c tb l op hd h k (f t m)->∀h2 row,Pg c h1 h2->bp h2 c tb l m gT bC->ay h1.nx h2 t row->m<l.length->0<m->k1 (.ret (.agg row) h2)):lS c tb l gT bC h1 k1 r:=by
 cases r with
 |dN=>exact hk
 |er p e=>exact λh2 g2=>hp _ _ (hk h2 (g.trans g2))
 |ok t m=>exact ho t m hk
theorem cU.Eu{lo:Nat}{gT:Int}{bC:Bool}{h1:Hp}{k1:aK->Prop}{r:PR (List Tree)}{f:List Tree->Nat->PR Tree}(hk:cU lo c tb l op hd h k (r.bind f))(g:Pg c h h1)(hp:∀v h2,k (.bn v h2)->k1 (.bn v h2))
 (ho:∀t m,r=.ok t m->cU lo c tb l op hd h k (f t m)->∀h2 kv,Pg c h1 h2->bp h2 c tb l m gT bC->m<l.length->0<m->bQ kv=some [kv]->dO h1.nx h2 t kv->k1 (.ret kv h2)):Et c tb l gT bC h1 k1 r:=by
 cases r with
 |dN=>exact hk
 |er p e=>exact λh2 g2=>hp _ _ (hk h2 (g.trans g2))
 |ok t m=>exact ho t m rfl hk
theorem Et.pass{h1:Hp}{k1:aK->Prop}{r:PR (List Tree)}(hk:Et c tb l op hd h k r)(g:Pg c h h1)(hp:∀v h2,k (.bn v h2)->k1 (.bn v h2))
 (ho:∀kv h2,k (.ret kv h2)->k1 (.ret kv h2)):Et c tb l op hd h1 k1 r:=by
 cases r with
 |dN=>exact hk
 |er p e=>exact λh2 g2=>hp _ _ (hk h2 (g.trans g2))
 |ok t m=>exact λh2 kv g2 c2 hm hz h1 nk=>ho _ _ (hk h2 kv (g.trans g2) c2 hm hz h1 (dO.nf (NF.refl _) g.nx _ _ nk))
theorem bp.wU{x:Nat}{v:AV}{el:Nat}(hc:bp h c tb l n op hd)(q:h.get x=.one el [v]):x≠c:=by obtain⟨⟨cap,ex,hc⟩,_⟩:=hc;rintro rfl;rw[hc] at q;cases q
theorem cU.er{lo:Nat}{p e:Int}(hk:cU lo c tb l op hd h k (.er p e)){h':Hp}(g:Pg c h h'):k (.bn (qD p e) h'):=hk h' g
variable{ex:Int->Bool->Int->Nat->PR Tree}
theorem N9(HT:aA T)(E:pW T c tb l ex)(o0:0<=op)(o1:op<=128):Kn T hh c tb l op hd ⟨170⟩ [.ptr c 0] (λn=>ex op hd 0 n):=by
 intro h n k g hc hn hk;have hk:lS c tb l op hd h k ((ex op hd 0 n).bind .ok):=by rw[Hi];exact hk
 rw[aJ HT.t170];have hx:=hc.lt;have hy:=hc.dW;refine ag ?_;refine E _ n op hd 0 _ o0 o1 (atY 0) (hc.push _) hn (hk.sub aZ (λv h2 hv=>by refine ag ?_;exact hv) λt m hk h2 row g2 c2 nd hm hz=>?_);obtain⟨n2,e2⟩:=bw g2;obtain⟨kv,rfl,hkv,nk⟩:=nd.shape;refine aB e2 ?_;exact hk _ _ (iQ e2) (c2.set _ zo zo) (ay.nf (((NF.refl h2).vC _ zm)) zm _ _ nd) hm hz
theorem aaA(HT:aA T)(hs:fc l)(E:pW T c tb l ex)(hc:bp h c tb l n op hd)(hn:n<l.length)(o0:0<=op)(o1:op<=128){F:Nat}(hF:F<8589934592)
 (hk:Et c tb l op hd h k (Kj l F ex op n)):aE T (W T) ⟨176⟩ [.ptr c 0] h k:=by
 rw[aJ HT.t176];have hx:=hc.lt;have hy:=hc.dW;refine ag ?_;refine Tw HT hx λh1 b1 b2 g1 q1 q2 w1 w2=>?_;obtain⟨n1,e1⟩:=bH g1;refine ag ?_;have c1:=hc.mono g1;exact Kq HT hs c1 hn o0 o1 hF (λeo=>N9 HT E zo zo) (λeo=>Tx HT hs q1 q2 (c1.wU q1) (c1.wU q2)) (hk.pass g1.cn (λv h2 hv=>by refine ag ?_;exact hv) λkv h2 hv=>by refine ag ?_;exact hv)
theorem ahU(HT:aA T)(hs:fc l)(E:pW T c tb l ex)(o0:0<=op)(o1:op<=128):Kn T hh c tb l op hd ⟨196⟩ [.ptr c 0] (Kl l ex op hd):=by
 intro h n k g hc hn hk;rw[aJ HT.t196];have hx:=hc.lt;have hy:=hc.dW;unfold Kl jR at hk;refine ag ?_;refine Eo HT (hc.push _) hn (λe h1 g1 c1=>?_) λe h1 g1=>?_;rw[atV e] at hk;have cV:=wT hs hn e zd;simp only[Ty,lR] at hk;obtain⟨n1,e1⟩:=bw g1;refine aB Tk.row.eq_1 ?_;refine Cx HT ((c1.push _).set _ zo zo) cV (λe2 h2 g2 c2=>?_) λe2 h2 g2=>?_;rw[atV e2] at hk;have jB:=lT hs cV e2;simp only[Ty] at hk;obtain⟨n2,e2⟩:=bw g2;refine ag ?_;refine E _ (n+1+1) op hd 0 _ o0 o1 (atY 0) c2 jB (hk.sub (eF (gp g2) e1) (λv h2 hv=>by refine ag ?_;exact hv) λt m hk h3 row g3 c3 nd hm hz=>?_);obtain⟨n3,e3⟩:=bw g3;obtain⟨kv,rfl,hkv,nk⟩:=nd.shape;refine aU e3 (gp g2) Tk.row.eq_1 ?_;obtain⟨m,rfl⟩:∃q,m=q+1:=⟨m- 1,by omega⟩;refine gS HT (((c3.push _).set _ zo zo).push _) zo rfl λh4 g4=>?_;obtain⟨n4,e4⟩:=bH g4;refine bK e4 e3 (gp g2) e1 ?_;refine hk _ _ (qB e4 e3 (gp g2) e1) (((((c3.push _).set _ zo zo).push _).mono g4).set _ zo zo) ?_ hm hz;refine ay.of (t:=aV l (m+1) 29 (tk l n).ak (tk l n).ak (tk l n).text [t]) ?_;exact vD ((Hp.de zo).trans ((e4 _ zq).trans (Hp.br aa))) zl zo
  (by simp only[dZ,auo];exact ay.nf (((((NF.refl h3).push _).new _ zo).push _).g0 g4|>.vC _ zo) zo _ _ nd)
 rw[atS (by rw[e2];simp)] at hk;refine ag ?_;obtain⟨n2,e2⟩:=bw g2;exact hk.er (eF (gp g2) e1);rw[atS e] at hk;refine ag ?_;obtain⟨n1,e1⟩:=bw g1;exact hk.er (iQ e1)
theorem aaB{lo:Nat}{h:Hp}:∀{ts:List Tree}{f:Nat->List AV},eR lo h ts f->∀j(hj:j<ts.length),ay lo h ts[j] (f j)
 |[],_,_,j,hj=>by simp at hj
 |t::ts,f,hx,0,_=>by simp only[eR] at hx;exact hx.1
 |t::ts,f,hx,j+1,hj=>by simp only[eR] at hx;exact aaB hx.2 j qax
theorem dO.rows{lo:Nat}{h:Hp}{ts:List Tree}{v:AV}(x:dO lo h ts v)(bg:ts≠[]):∃b cap ex r f,v=.slice b 0 6 ts.length cap ex/\h.get b=.rows 39 6 r 0 f/\ts.length<=r/\lo<=b/\eR lo h ts f:=by
 cases ts with
 |nil=>exact absurd rfl bg
 |cons t ts=>
  simp only[dO] at x;obtain⟨b,cap,ex,r,f,e,h1,h2,h3,h4,h5⟩:=x;exact⟨b,cap,ex,r,f,e,h1,h2,h3,by simp only[eR];exact⟨h4,h5⟩⟩
theorem aaC{lo:Nat}{h:Hp}{t:Tree}{ts:List Tree}{b cap r f}{ex:Bool}(hb:h.get b=.rows 39 6 r 0 f)(hr:ts.length+1<=r)(hl:lo<=b)(n0:ay lo h t (f 0))(n1:eR lo h ts λj=>f (j+1)):dO lo h (t::ts) (.slice b 0 6 (ts.length+1) cap ex):=by simp only[dO];exact⟨b,cap,ex,r,f,rfl,hb,hr,hl,n0,n1⟩
theorem aaD(HT:aA T)(hs:fc l)(E:pW T c tb l ex)(hc:bp h c tb l n op hd)(hn:n<l.length)(o0:0<=op)(o1:op<=128){F:Nat}(hF:F<8589934592){lo:Nat}{sZ:Tree}{row:List AV}(nt:ay lo h sZ row)(cK:c<lo)(Ev:lo<=h.nx)
 (hk:cU lo c tb l op hd h k (Cv l F ex op sZ n)):aE T (W T) ⟨175⟩ [.ptr c 0,.agg row] h k:=by
 rw[aJ HT.t175];have hx:=hc.lt;have hy:=hc.dW;unfold Cv at hk;obtain⟨kv,rfl,hkv,nk⟩:=nt.shape;refine ag ?_;refine qC HT ((hc.push _).push _) hn λh1 g1=>?_;obtain⟨n1,e1⟩:=bH g1;refine aB Tk.row.eq_1 ?_;refine Tw HT zo λh2 b1 b2 g2 q1 q2 w1 w2=>?_;obtain⟨n2,e2⟩:=bH g2;have c2:=(((hc.push _).push _).mono g1).mono g2;refine ag ?_;refine Kq HT hs c2 hn o0 o1 hF (λeo=>ahU HT hs E zo zo) (λeo=>Tx HT hs q1 q2 (c2.wU q1) (c2.wU q2)) (hk.Eu (eF e2 e1) (λv h2 hv=>by refine ag ?_;exact hv) λts m ahV hk h3 zW g3 c3 hm hz Hj Ew=>?_);have bz:=aat ahV;obtain⟨n3,e3⟩:=bw g3;obtain⟨m,rfl⟩:∃q,m=q+1:=⟨m- 1,by omega⟩
 by_cases jh:ts=[]
 subst jh;simp only[dO] at Ew;subst Ew;refine bK e3 e2 e1 hkv ?_;rw[NK (rs:=[]) rfl rfl];refine bK e3 e2 e1 hkv ?_;refine gS HT (c3.push _) zo rfl λh4 g4=>?_;obtain⟨n4,e4⟩:=bH g4;refine cC e4 e3 e2 e1 hkv ?_;refine hk _ _ (qB e4 e3 e2 e1) (((c3.push _).mono g4).set _ zo zo) (ay.of (t:=aV l (m+1) 28 sZ.ak (tk l n).ak [] [sZ]) ?_) hm hz;exact vD ((Hp.de zo).trans ((e4 _ zq).trans (Hp.br aa))) zl zo
  (by simp only[dZ,auo];exact ay.nf ((((((((NF.refl h).push _).push _).g0 g1).g0 g2).gp g3 cK).push _).g0 g4|>.new _ zo) zl _ _ nt)
 obtain⟨b,cap,ex,r,f,rfl,hb,hr,wF,nr⟩:=Ew.rows jh;obtain⟨q,hq⟩:∃q,ts.length=q+1:=⟨ts.length- 1,by have:=auA.2 jh;omega⟩;refine bK e3 e2 e1 hkv ?_;have xb:=Hp.lt hb rfl;rw[G2 (n:=q) zo (Hp.br rfl) (at2 1) (Ke zo (by rw[Hp.qZ xb];exact hb) hr) (by rw[hq];rfl) (rV zo zo)];refine bK e3 e2 e1 hkv ?_;rw[show 1+(q+1)=ts.length+1 from by omega];refine gS HT ((c3.push _).push _) zo rfl λh4 g4=>?_;obtain⟨n4,e4⟩:=bH g4;simp(disch:=first|exact bh|fail) [e4,e3,e2,e1,hkv,jJ];refine hk _ _ (qB e4 e3 e2 e1) ((((c3.push _).push _).mono g4).set _ zo zo) (ay.of (t:=aV l (m+1) 28 sZ.ak (tk l n).ak [] (sZ::ts)) ?_) hm hz;refine aaC ((Hp.de zo).trans ((e4 _ zq).trans (Hp.br aa))) zl zo ?_ ?_;rw[wO (by simp[dw])];simp only[dw,dY,dZ,auo,auY,aus];exact ay.nf (((((((((NF.refl h).push _).push _).g0 g1).g0 g2).gp g3 cK).push _).push _).g0 g4|>.new _ zo) zl _ _ nt;refine Kp (f:=f) (λj hj=>?_) (eR.nf ((((NF.refl h3).push _).push _).g0 g4|>.vC _ zo) zo _ _ nr);have pO:j<(dw f ts.length 0).length:=by rw[oZ];exact hj
 rw[wO (by simp[dw,oZ];omega)];simp only[dw,dY,dZ,auo,auY,au5,auu];have:=vw f ts.length 0 j hj;rw[atT pO] at this;simpa using this
end
section
variable{h hh:Hp}{c tb n:Nat}{l:List Tk}{op:Int}{hd:Bool}{k:aK->Prop}
variable{ex:Int->Bool->Int->Nat->PR Tree}
theorem cY.ahW{b r cap ex t}{x y z w v:List UInt8}(hb:h.get b=.rows 9 1 r 0 t)(hr:5<=r)(h0:t 0=[S x])(h1:t 1=[S y])(h2:t 2=[S z])(h3:t 3=[S w])(h4:t 4=[S v]):cY h (.slice b 0 1 5 cap ex) [x,y,z,w,v]:=
 ⟨b,cap,ex,r,t,rfl,hb,hr,λj hj=>by
  have:j=0\/j=1\/j=2\/j=3\/j=4:=by simp at hj;omega
  rcases this with rfl|rfl|rfl|rfl|rfl<;>assumption⟩
theorem ahX(hs:fc l)(hn:n<l.length)(hp:o7 (tk l n)≠0):n+1<l.length:=by refine hs n hn λh0=>hp ?_;simp[o7,h0]
theorem ahY(HT:aA T)(hs:fc l)(E:pW T c tb l ex)(hc:bp h c tb l n op hd)(hn:n<l.length)(o0:0<=op)(o1:op<=128){F:Nat}(hF:F<8589934592)
 (hk:lS c tb l op hd h k (Km l F ex op hd n)):aE T (W T) ⟨174⟩ [.ptr c 0] h k:=by
 rw[aJ HT.t174];have hx:=hc.lt;have hy:=hc.dW;unfold Km at hk;refine ag ?_;refine qC HT ((hc.push _).push _) hn λh1 g1=>?_;obtain⟨n1,e1⟩:=bH g1;have c1:=((hc.push _).push _).mono g1;refine aB Tk.row.eq_1 ?_;refine ahS HT (t:=tk l n) λh2 g2=>?_;obtain⟨n2,e2⟩:=bH g2;have c2:=((c1.push _).set _ zo zo).mono g2;have q1:h2.get h.nx=.one 72 [.ptr c 0]:=bV e2 e1;have q2:h2.get (h.nx+1)=.one 39 [.i 0,.i 0,.i 0,.i 0,S [],.bx]:=bV e2 e1;have q3:h2.get h1.nx=.one 74 (tk l n).row:=cX e2 e1 Tk.row.eq_1;have gv:Pg c h h2:=(eF e2 e1);have Ex:NF h.nx h h2:=((((((NF.refl h).push _).push _).g0 g1).push _).new _ zo).g0 g2;have n2':h.nx+2<h2.nx:=zo;have n3':h.nx+2<=h1.nx:=zo;have n4':h1.nx<h2.nx:=zo;clear e1 e2 n1 n2
 by_cases hp:o7 (tk l n)=0
 ·rw[atS (by simpa using hp)] at hk;refine aS hp q1 ?_;refine ke HT (c2.push _) hn (cY.ahW (x:=[105,110,116]) (y:=[102,108,111,97,116,54,52]) (z:=[108,101,110]) (w:=[112,114,105,110,116]) (v:=[112,97,110,105,99]) (Hp.br zm) zl zm zm zm zm zm) zm λh3 g3=>?_;obtain⟨n3,e3⟩:=bH g3;have c3:=(c2.push _).mono g3;cases e:bD (tk l n) [[105,110,116],[102,108,111,97,116,54,52],[108,101,110],[112,114,105,110,116],[112,97,110,105,99]] with
  |true=>
   rw[atV e] at hk;have cV:=lT hs hn e;refine aU e e3 q1 ?_;refine vB HT c3 hn λh4 g4 c4=>?_;obtain⟨n4,e4⟩:=bw g4;refine aU e4 e3 q1 ?_;refine aaA HT hs E c4 cV o0 o1 hF (hk.Eu (fH e4 e3 (gp gv)) (λv h2 hv=>by refine ag ?_;exact hv) λts m jh hk h5 kv g5 c5 hm hz hkv nk=>?_);obtain⟨m,rfl⟩:∃q,m=q+1:=⟨m- 1,by omega⟩;obtain⟨n5,e5⟩:=bw g5;refine cq e5 e4 e3 q1 q3 Tk.row.eq_1 ?_;refine gS HT c5 zo hkv λh6 g6=>?_;obtain⟨n6,e6⟩:=bH g6;refine cq e6 e5 e4 e3 q2 hkv ?_;exact hk _ _ (Ei e6 e5 e4 e3 (gp gv)) ((c5.mono g6).set _ zo zo) (ay.of (t:=aV l (m+1) 32 (tk l n).ak (tk l n).ak (tk l n).text ts) (dO.nf (((NF.refl h5).g0 g6).vC _ zo) zo _ _ nk)) hm hz
  |false=>
   rw[e] at hk;simp only[at3,auM] at hk;refine aU e e3 q1 ?_;unfold NX at hk;refine Ts HT hs (c3.push _) hn o0 o1 (left:=[40]) (right:=[41]) (λe eo h' g'=>?_) (λe h' g'=>?_) (λe eo h4 g4 c4=>?_)
   ·rw[atV e,atV eo] at hk;have n':=g'.nx;have e':=gp g';try simp only[Hp.eE,Hp.iy] at n'
    refine ag ?_;exact hk.er (fH e' e3 (gp gv))
   ·rw[atS qaW] at hk;have n':=g'.nx;have e':=gp g';try simp only[Hp.eE,Hp.iy] at n'
    refine ag ?_;exact hk.er (fH e' e3 (gp gv))
   rw[atV e,atS eo] at hk;obtain⟨n4,e4⟩:=bw g4;have cV:=lT hs hn e;rw[aJ HT.t195];refine aU e4 e3 q1 ?_;refine E _ (n+1) (op+1) false 0 _ zo zo (atY 0) c4 cV (hk.sub (fH e4 e3 (gp gv)) (λv h2 hv=>by simp(disch:=omega) [WK];exact hv) λt m hk h5 row g5 c5 nd hm hz=>?_);obtain⟨n5,e5⟩:=bw g5;obtain⟨kv,rfl,hkv,nk⟩:=nd.shape;simp(disch:=first|exact bh|fail) [e5,e4,e3,q1,q3,WK];refine⟨m,hm,c5.set _ zo zo,λey h6 g6 c6=>?_,λen h6 g6=>?_⟩;rw[atV ey] at hk;obtain⟨n6,e6⟩:=bw g6;have hk:cU h.nx c tb l op hd h k (.ok (aV l (m+1) 33 (tk l n).ak (tk l n).ak [] [t]) (m+1)):=hk;refine iR e6 e5 e4 e3 q1 q3 Tk.row.eq_1 ?_;refine gS HT (c6.push _) hm rfl λh7 g7=>?_;obtain⟨n7,e7⟩:=bH g7;refine cq e7 e6 e5 e4 e3 q2 ?_;refine hk _ _ (zp6 e7 e6 e5 e4 e3 (gp gv)) (((c6.push _).mono g7).set _ zo zo) (ay.of (t:=aV l (m+1) 33 (tk l n).ak (tk l n).ak [] [t]) ?_) (lT hs hm ey) zo;exact vD ((Hp.de zo).trans ((e7 _ zq).trans (Hp.br aa))) zl zo
    (by simp only[dZ,auo];exact ay.nf (((((NF.refl h5).vC _ zo).gp g6 zo).push _).g0 g7|>.vC _ zo) zo _ _ nd)
   rw[atS (by rw[en];simp)] at hk;obtain⟨n6,e6⟩:=bw g6;exact hk.er (Ei e6 e5 e4 e3 (gp gv))
 rw[atV (by simpa using hp)] at hk;have cV:=ahX hs hn hp;refine aS hp q1 ?_;refine vB HT c2 hn λh3 g3 c3=>?_;obtain⟨n3,e3⟩:=bw g3;obtain⟨⟨cap,Ey,q4⟩,_⟩:=id c3;have sK:cU h.nx c tb l op hd h k (.ok (aV l (n+1) (o7 (tk l n)) (tk l n).ak (tk l n).ak (tk l n).text []) (n+1))\/(o7 (tk l n)=25/\hd=false/\bD (tk l (n+1)) [[123]]=true):=by
  by_cases hy:o7 (tk l n)=25/\hd=false/\bD (tk l (n+1)) [[123]]=true
  exact .inr hy;rw[atS hy] at hk;exact .inl hk
 by_cases e25:o7 (tk l n)=25
 cases hd with
 |true=>
  have hk:=sK.resolve_right zm;rw[e25] at hk;refine cq e25 e3 q1 q3 q4 Tk.row.eq_1 ?_;refine gS HT c3 zo rfl λh4 g4=>?_;obtain⟨n4,e4⟩:=bH g4;refine aU e4 e3 q2 ?_;exact hk _ _ (fH e4 e3 (gp gv)) ((c3.mono g4).set _ zo zo) (ay.of (t:=aV l (n+1) 25 (tk l n).ak (tk l n).ak (tk l n).text []) rfl) cV zo
 |false=>
  refine cq e25 e3 q1 q3 q4 Tk.row.eq_1 ?_;refine ke HT (c3.push _) cV (cY.one (x:=[123]) (Hp.br zm) zl zm) zm λh4 g4=>?_;obtain⟨n4,e4⟩:=bH g4;have c4:=(c3.push _).mono g4;cases e:bD (tk l (n+1)) [[123]] with
  |true=>
   rw[atV ⟨e25,rfl,e⟩] at hk;refine cq e e4 e3 q1 q3 Tk.row.eq_1 ?_;refine gS HT c4 zo rfl λh5 g5=>?_;obtain⟨n5,e5⟩:=bH g5;have c5:=c4.mono g5;refine cq e5 e4 e3 q1 q3 Tk.row.eq_1 ?_;rw[<-Hi (Cv l F ex op _ _)] at hk;refine aaD HT hs E c5 cV o0 o1 hF (lo:=h5.nx) (sZ:=aV l (n+1) 8 (tk l n).ak (tk l n).ak (tk l n).text []) (ay.of rfl) zo zl (hk.sub (qB e5 e4 e3 (gp gv)) (λv h2 hv=>by refine ag ?_;exact hv) λt m hk h6 row g6 c6 nd hm hz=>?_);obtain⟨n6,e6⟩:=bw g6;obtain⟨kv,rfl,hkv,nk⟩:=nd.shape;refine cC e6 e5 e4 e3 q2 ?_;exact hk _ _ (Ei e6 e5 e4 e3 (gp gv)) (c6.set _ zo zo) (ay.nf ((NF.refl h6).vC _ zo) zo _ _ nd) hm hz
  |false=>
   have hk:=sK.resolve_right qaf;rw[e25] at hk;refine cq e e4 e3 q1 q3 Tk.row.eq_1 ?_;refine gS HT c4 zo rfl λh5 g5=>?_;obtain⟨n5,e5⟩:=bH g5;refine bK e5 e4 e3 q2 ?_;exact hk _ _ (qB e5 e4 e3 (gp gv)) ((c4.mono g5).set _ zo zo) (ay.of (t:=aV l (n+1) 25 (tk l n).ak (tk l n).ak (tk l n).text []) rfl) cV zo
 have hk:=sK.resolve_right (by simp[e25]);refine cC e25 e3 q1 q3 Tk.row.eq_1 ?_;refine gS HT c3 zo rfl λh4 g4=>?_;obtain⟨n4,e4⟩:=bH g4;refine aU e4 e3 q2 ?_;exact hk _ _ (fH e4 e3 (gp gv)) ((c3.mono g4).set _ zo zo) (ay.of (t:=aV l (n+1) (o7 (tk l n)) (tk l n).ak (tk l n).ak (tk l n).text []) rfl) cV zo
end
end Yv
