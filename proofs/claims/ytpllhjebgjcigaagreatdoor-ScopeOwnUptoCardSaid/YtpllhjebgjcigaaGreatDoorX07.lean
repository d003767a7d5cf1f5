/- A part of the proof of 'ScopeOwnUptoCardSaid'. No condition. -/
import Derived.Test.YtpllhjebgjcigaaGreatDoorX06
set_option maxHeartbeats 16000000
set_option maxRecDepth 100000
set_option linter.all false
namespace Yv
variable{T:aM->Option CF}
def KG(T:aM->Option CF)(h:Hp):Prop:=∀(s:List UInt8)(k:aK->Prop),s.length<=65536->(∀(b:Int) h',ax h h'->((∀c∈s,c.toNat<128)->b<0)->k (.ret (.i b) h'))->aE T (W T) ⟨42⟩ [S s] h k
def tf(b:Int)(o:Nat->Nat×Int)(s:List UInt8):PR (List Tk):=if 65536<s.length then .er 65536 3 else if 0<=b then .er b 8 else o9 s (s.length+1) o 0 t0 []
section
variable{h hh:Hp}{k:aK->Prop}{s p:List UInt8}{c:UInt8}
def EC(hh:Hp)(k:aK->Prop)(r:PR (List Tk)):Prop:=
 match r with
 |.ok l _=>∀h' v,ax hh h'->ur hh.nx h' v l->k (.ret (.bA [v,.i 0,.i 0]) h')
 |.er p e=>∀h',ax hh h'->k (.ret (.bA [.bx,.i p,.i e]) h')
 |.dN=>False
theorem ur.lo{lo kg:Nat}{v:AV}{l:List Tk}(x:ur lo h v l)(le:kg<=lo):ur kg h v l:=by rcases x with x|⟨b,r,t,h1,h2⟩;exact .inl x;exact .inr ⟨b,r,t,by omega,h2⟩
theorem air{o:Nat×Int}(h:(fA o s).2.2 =0):0<(fA o s).2.1 :=by unfold fA at h⊢;split at h;split at h;simp[*];split at h;simp at h;split at h;simp at h;simp[*];split at h;split at h;simp[*];omega;simp[*];split at h;simp[*];split at h;simp[*];split at h;simp[*];simp at h
theorem ais{o:Nat×Int}(hs:s≠[]):(fA o s).2.1 <=s.length:=by
 have h1:=aav s;have h2:=Kh s;have h3:=aar s;have h4:0<s.length:=by cases s with|nil=>exact absurd rfl hs|cons c s=>simp
 unfold fA;split;split;exact h1;split;exact h1;split<;>exact h1;split;split;show max 1 (min o.1 s.length)<=s.length;omega;exact h2;split;show min o.1 s.length<=s.length;omega;split;show 1<=s.length;omega;split;exact h3;exact auz _
theorem ait(e:eP s [47,47]=true):1<(iz s 10).1.length:=by
 match s,e with
 |[],e=>simp[eP] at e
 |[c],e=>simp[eP] at e
 |a::b::r,e=>
  simp[eP] at e;obtain⟨rfl,rfl⟩:=e;unfold iz;split;rename_i hm;have:(47::47::r).idxOf 10=((r.idxOf 10)+1)+1:=by simp[axg]
  have hl:=avD hm;simp only[auN,this];simp only[atX] at hl⊢;omega;simp
theorem aiu:(iz s c).1.length<=s.length:=by unfold iz;split;simp only[auN];omega;simp
theorem aiv(HT:aA T)(IC:∀h',ax hh h'->Cz T h') (FC:∀h',ax hh h'->CA T h') (hl:s.length<=65536) {bL bT lo:Nat} (l1:bT<lo) (l2:bL<lo) (l3:hh.nx<=bL) (l4:hh.nx<=bT) (bg:bT≠bL) (yd:1<hh.nx):∀(g:Nat)(o:Unit)(a:Nat)(cM:Tk)(bf:List Tk)(h:Hp)(v:AV)(f:Fr),
 lO (h.get 1)->ax hh h->lo<=h.nx->s.length+1<=a+g->a<=s.length->bf.length<=2*a->h.get bT=.one 74 cM.row->h.get bL=.one 67 [v]->ur lo h v bf->J 0 f=S s->J 2 f=.ptr bL 0->J 6 f=.ptr bT 0->J 7 f=.func ⟨43⟩ [] [.ptr bT 0,.ptr bL 0]->J 8 f=.i a->
 (∀o,EC hh k (o9 s g o a cM bf))->W T (.loop l26_0) f h [] (bY 0 (bF (W T (.seq (.af r26_24) (.seq (.af r26_25) .ret))) (finish T (W T) [.cell 1 false 2,.tmp 3,.tmp 4] k))):=by
 intro g o;clear o
 induction g with
 |zero=>intro a cM bf h v f hg gg cK ha pQ;omega
 |succ g ih=>
  intro a cM bf h v f hg gg cK ha pQ asw hT hL hv f0 f2 f6 f7 f8 hk;have u1:=Hp.lt hT rfl;have u2:=Hp.lt hL rfl;generalize hTL:CC.seq (.af r26_24) (.seq (.af r26_25) .ret)=TL at*;generalize hIN:Xr=TI;rw[aP]
  by_cases ao:a<s.length
  have aY:(a:Int)<s.length:=zo;have hd:=aut ao;have vz:(s.drop a).length=s.length- a:=auf ..;have mT:0<(s.drop a).length:=zo;refine iR f0 f2 f6 f7 f8 aY vz ?_;have Co:s.getD a 0=s[a]:=by simp[ao]
  have hk:∀o,EC hh k (if s[a]∈[32,9,13] then o9 s g o (a+1) cM bf
   else if s[a]=10 then o9 s g o (a+1) t0 (bf++vI cM)
   else if eP (s.drop a) [47,47]=true then o9 s g o (a+(iz (s.drop a) 10).1.length) cM bf
   else if(fA (o 0) (s.drop a)).2.2 ≠0 then .er a (fA (o 0) (s.drop a)).2.2
   else o9 s g (λi=>o (i+1)) (a+(fA (o 0) (s.drop a)).2.1) ⟨(fA (o 0) (s.drop a)).1,(s.drop a).take (fA (o 0) (s.drop a)).2.1,a,a+(fA (o 0) (s.drop a)).2.1⟩
    (bf++[⟨(fA (o 0) (s.drop a)).1,(s.drop a).take (fA (o 0) (s.drop a)).2.1,a,a+(fA (o 0) (s.drop a)).2.1⟩])):=λo=>by
   have:=hk o;unfold o9 at this;rwa[atV ao,Co] at this
  refine Tf HT (s:=[32,9,13]) (c:=s[a]) ?_
  by_cases m1:s[a]∈[32,9,13]
  have x1:=G0.2 m1;refine aS x1 f8 ?_;refine ih (a+1) cM bf h v _ hg gg cK zo zo zo hT hL hv zA zA zA zA aa λo=>?_;have:=hk o;rwa[atV m1] at this;have x1:¬0<=rf [32,9,13] s[a]:=mt G0.1 m1
  by_cases m2:s[a].toNat=10
  have m2':s[a]=10:=avi.1 m2;refine aU x1 m2 f7 ?_;refine aaQ HT hT hL hv zo l1 l2 cK bg λh1 w g1 q1 q2 q3=>?_;refine aB f8 ?_;refine ih (a+1) t0 (bf++vI cM) h1 w _ (by rw[g1.get 1 zo zo];exact hg) (gg.sX g1 λi hi=>by omega) qaF zo zo ?_ q1 q2 q3 zA zA zA zA aa λo=>?_;rw[auk];unfold vI;split<;>simp<;>omega;have:=hk o;rwa[atS m1,atV m2'] at this;have m2':¬s[a]=10:=λe=>m2 (by rw[e];rfl);refine aS x1 m2 ?_;refine NJ HT zo ?_;cases m3:eP (s.drop a) [47,47] with
  |true=>
   refine ag ?_;refine Th HT (c:=10) zo ?_;have cl:(iz (s.drop a) 10).1.length<=(s.drop a).length:=aiu;have cp:=ait m3;refine aB f8 ?_;refine ih (a+(iz (s.drop a) 10).1.length) cM bf h v _ hg gg cK zo zo zo hT hL hv zA zA zA zA aa λo=>?_;have:=hk o;rwa[atS m1,atS m2',atV m3] at this
  |false=>
   refine ag ?_;refine ahQ HT (λh' g=>IC h' (gg.trans g)) (λh' g=>FC h' (gg.trans g)) zo hg λot h1 xa xb xc xd g1 hx=>?_;have e1:=g0 g1;have n1:=g1.nx;have pV:h1.get bT=.one 74 cM.row:=by rw[e1 _ u1];exact hT
   have jg:h1.get bL=.one 67 [v]:=by rw[e1 _ u2];exact hL
   have Ba:=hv.nC g1 λi _=>id;have tl:(fA ot (s.drop a)).2.1 <=(s.drop a).length:=ais (by intro e;rw[e] at mT;simp at mT);have tp:=air (o:=ot) (s:=s.drop a);have hk:∀o,EC hh k (if(fA ot (s.drop a)).2.2 ≠0 then .er a (fA ot (s.drop a)).2.2
    else o9 s g o (a+(fA ot (s.drop a)).2.1) ⟨(fA ot (s.drop a)).1,(s.drop a).take (fA ot (s.drop a)).2.1,a,a+(fA ot (s.drop a)).2.1⟩
     (bf++[⟨(fA ot (s.drop a)).1,(s.drop a).take (fA ot (s.drop a)).2.1,a,a+(fA ot (s.drop a)).2.1⟩])):=λo=>by
    have:=hk λi=>match i with|0=>ot|i+1=>o i
    rwa[atS m1,atS m2',atS (by simp[m3])] at this
   generalize fA ot (s.drop a)=R at*;obtain⟨q,n,e⟩:=R;simp only at*
   by_cases e0:e=0
   subst e0;obtain⟨z1,z2,z3,z4⟩:=hx rfl;rw[z1,z2,z3,z4];have hk:∀o,EC hh k (o9 s g o (a+n) ⟨q,(s.drop a).take n,a,a+n⟩ (bf++[⟨q,(s.drop a).take n,a,a+n⟩])):=λo=>by have:=hk o;rwa[atS zm] at this
   have tp:=tp rfl;refine cq f2 f6 f8 pV jg Tk.row.eq_1 ?_;obtain⟨H1,hH⟩:∃H1,H1=(((h1.push (.one 74 ta)).set h1.nx (.one 74 [.i q,S ((s.drop a).take n),.i 0,.i n])).set h1.nx (.one 74 [.i q,S ((s.drop a).take n),.i a,.i n])).set h1.nx (.one 74 [.i q,S ((s.drop a).take n),.i a,.i (a+n)]):=⟨_,rfl⟩;have Ae:H1.get h1.nx=.one 74 [.i q,S ((s.drop a).take n),.i a,.i (a+n)]:=by rw[hH];exact Hp.bR rfl
   have TW:H1.nx=h1.nx+1:=by rw[hH];simp only[Hp.eE,Hp.iy];omega
   have gH:ax h1 H1:=by rw[hH];exact aZ
   have hTH:H1.get bT=.one 74 cM.row:=by rw[gH.get _ zo id];exact pV
   have hLH:H1.get bL=.one 67 [v]:=by rw[gH.get _ zo id];exact jg
   rw[<-hH];obtain⟨w,H2,ha,hw,q1,q2⟩:=TV (h:=H1) (lo:=lo) (t:=⟨q,(s.drop a).take n,a,a+n⟩) (fB:=cx (cx fG 0 ta) 0 [.i q,S ((s.drop a).take n),.i a,.i (a+n)]) (Ba.nC gH λi _=>id) zo zo (by simp[Tk.row]);rw[TW] at ha;rw[ha];have pY:=q2 _ _ _ hTH;have wQ:=q2 _ _ _ hLH;have hX2:=q2 _ _ _ Ae;have y1:=Hp.lt pY rfl;have y2:=Hp.lt wQ rfl;have y3:=Hp.lt hX2 rfl;have q1n:=q1.nx;have mV:h1.nx≠bL:=zo;have kT:h1.nx≠bT:=zo;have nv:lO (H2.get 1):=by rw[q1.get 1 zo zo,gH.get 1 zo id,g1.get 1 zo id];exact hg
   refine fY f2 f6 f8 pY wQ hX2 hw.cell Tk.row.eq_1 ?_;refine ih (a+n) ⟨q,(s.drop a).take n,a,a+n⟩ (bf++[⟨q,(s.drop a).take n,a,a+n⟩]) _ w _ (au nv) ?_ (by simp only[Hp.iy];omega) zo zo qbc (Hp.bR rfl) aa (hw.nC (M:=λi=>i=bT\/i=bL) (ah.set (ah.set (ah.refl _) _ (.inr (.inr rfl))) _ (.inr (.inl rfl))) λi hi=>by omega) zA zA zA zA aa hk;exact ah.set (ah.set (((gg.trans g1).trans gH).sX q1 λi hi=>by omega) _ (.inl l3)) _ (.inl l4);have hk:=hk λ_=>(0,0);rw[atV e0] at hk;refine bK e0 f2 f8 jg ?_;exact hk _ (ah.set ((gg.trans g1).trans aZ) _ (.inl zo))
  have aY:¬(a:Int)<s.length:=zo;have hk:=hk λ_=>(0,0);unfold o9 at hk;rw[atS ao] at hk;subst hTL;refine cq f0 f2 f6 f7 f8 aY ?_;refine aaQ HT hT hL hv zo l1 l2 cK bg λh1 w g1 q1 q2 q3=>?_;have v1:=Hp.lt q2 rfl;refine aU f2 q2 q3.cell ?_;refine hk _ _ (ah.set (gg.sX g1 λi hi=>by omega) _ (.inl zo)) ((q3.nC (M:=(·=bL)) (ah.set (ah.refl _) _ (.inr rfl)) λi hi=>by omega).lo zo)
theorem aiw(HT:aA T)(IC:∀h',ax h h'->Cz T h') (FC:∀h',ax h h'->CA T h') (BC:∀h',ax h h'->KG T h') (hl:s.length<1073741824) (hg:lO (h.get 1))
 (hk:∀b o,((∀c∈s,c.toNat<128)->b<0)->EC h k (tf b o s)):aE T (W T) ⟨26⟩ [S s] h k:=by
 rw[aJ HT.t26];have yd:1<h.nx:=by obtain⟨t,e,_⟩:=hg;exact Hp.lt e rfl
 generalize hL:CC.loop l26_0=L
 by_cases h6:65536<s.length
 have h6':(65536:Int)<s.length:=zo;have q:=hk (-1) (λ_=>(0,0)) (λ_=>by decide);unfold tf at q;rw[atV h6] at q;refine aB h6' ?_;exact q _ aZ;have h6':¬(65536:Int)<s.length:=zo;refine aB h6' ?_;refine BC _ aZ _ _ zo λb h1 g1 hb=>?_;have e1:=g0 g1;have n1:=g1.nx;simp only[Hp.eE] at n1;have gg:ax h h1:=ah.trans aZ g1;have jg:h1.get h.nx=.one 67 [.bx]:=au e1;have hk:∀o,EC h k (if 0<=b then .er b 8 else o9 s (s.length+1) o 0 t0 []):=λo=>by have:=hk b o hb;unfold tf at this;rwa[atS h6] at this
 by_cases b0:0<=b
 have hk:=hk λ_=>(0,0);rw[atV b0] at hk;refine aS b0 jg ?_;exact hk _ (gg.set _ (.inl zl));have hk:∀o,EC h k (o9 s (s.length+1) o 0 t0 []):=λo=>by have:=hk o;rwa[atS b0] at this
 refine aB b0 ?_;subst hL;refine aiv HT IC FC zo (bL:=h.nx) (bT:=h1.nx) (lo:=h1.nx+1) zo zo zl zo zo yd (s.length+1) () 0 t0 [] _ .bx _ ?_ (gg.trans aZ) qaX zo zo zm (Hp.br rfl) (au jg) (.inl ⟨rfl,rfl⟩) aa aa aa aa aa hk;rw[Hp.qZ zo,gg.get 1 yd id];exact hg
end
section
open Go (IntKind)
variable{a b:Int}{m n:Nat}
def bX(op:(n:Nat)->BitVec n->BitVec n->BitVec n)(a b:Int):Int:=match qN op .i32 a b with|.int _ n=>n|_=>0
@[simp] theorem asy{op}:jI op (.int .i32 a) (.int .i32 b)=.v (.int .i32 (bX op a b)):=rfl
@[simp] theorem asz:ko .i32 (.u8 m)=.v (.int .i32 (IntKind.i32.wrap (.ofNat m))):=rfl
@[simp] theorem asA{k:Int}(h:0<=k):oQ pF (.int .i32 a) (.int .u64 k)=.v (.int .i32 (IntKind.i32.wrap (a*2^(min k.toNat 32)))):=by obtain⟨n,rfl⟩:=at6 h;rfl
@[simp] theorem asB{k:Int}(h:0<=k):sC (.int .i32 a) (.int .u64 k)=.v (.int .i32 (a.fdiv (2^(min k.toNat 32)))):=by obtain⟨n,rfl⟩:=at6 h;rfl
@[simp] theorem asC{k:Int}(h:0<=k):sC (.u8 m) (.int .u64 k)=.v (.u8 (m/2^(min k.toNat 8))):=by obtain⟨n,rfl⟩:=at6 h;rfl
end
def Bi(o:AO):Prop:=∃t,o=.cB 1 256 t/\∀i,i<256->∃x,t i=[.u8 x]/\x<256/\(x<240->x=2\/x=3\/x=4\/x=19\/x=35\/x=52\/x=68)
def Bj(o:AO):Prop:=∃t,o=.cB 2 16 t/\∀i,i<16->∃a b,t i=[.u8 a,.u8 b]
theorem aaR{cnt k:Nat}{t:Nat->List AV}(hk:k<cnt):cellsOf (.cB 2 cnt t) (k*2) 2=gK 2 (t k):=by have h1:k*2/2=k:=zo;have h2:k*2% 2=0:=zo;simp only[cellsOf,Ee,Ef,vp,wL,ny,h1,h2,kH];rw[avf (by omega:0+2<=2),avf (by omega:k+1<=cnt)];rfl
section
variable{h hh:Hp}{k:aK->Prop}{s p:List UInt8}{c:UInt8}
abbrev aaS(h:Hp)(s:List UInt8)(k:aK->Prop):Prop:=∀(r:Int)(n:Nat) h',ax h h'->1<=n->n<=s.length->k (.ret (.bA [.int .i32 r,.i n]) h')
theorem aix(HT:aA T){f:Fr}{b9 lo hi x0 sz:Nat}(gh:ax hh h)(h9:h.get b9=.one 188 [.u8 lo,.u8 hi])(hb:hh.nx<=b9)(cP:sz=2\/sz=3\/sz=4)(hl:s.length<1073741824)(f0:J 0 f=S s)(f4:J 4 f=.i s.length)(f5:J 5 f=.u8 x0)(f8:J 8 f=.i sz)(f9:J 9 f=.ptr b9 0)(hs:1<=s.length)
 (hk:aaS hh s k):W T (CC.seq (.seq (.af r106_11) (.cond (.t 45) (.seq (.af r106_12) .ret) .skip)) (.seq (.af r106_13) (.seq (.seq (.af r106_14) (.cond (.t 57) (.seq (.af r106_15) .ret) .skip)) MH))) f h [] (finish T (W T) [.tmp 2,.tmp 3] k):=by
 by_cases e1:s.length<sz
 have e1':(s.length:Int)<sz:=zo;refine bK f0 f4 f8 e1' ?_;exact hk _ 1 _ gh zo zo;have e1':¬(s.length:Int)<sz:=zo;have l1:1<s.length:=zo;generalize pV:MH=T1;have ED:∀f':Fr,J 0 f'=S s->J 5 f'=.u8 x0->J 8 f'=.i sz->J 10 f'=.u8 s[1].toNat->W T T1 f' h [] (finish T (W T) [.tmp 2,.tmp 3] k):=by
  intro f' y0 y5 y8 f10;subst pV;unfold MH
  by_cases e2:sz<=2
  have e2':(sz:Int)<=2:=zo;refine cC y0 y5 y8 f10 e2' ?_;exact hk _ 2 _ gh zo zo;have e2':¬(sz:Int)<=2:=zo;have l2:2<s.length:=zo;generalize pY:Xw=T2;have k9:∀f':Fr,J 0 f'=S s->J 5 f'=.u8 x0->J 8 f'=.i sz->J 10 f'=.u8 s[1].toNat->J 11 f'=.u8 s[2].toNat->W T T2 f' h [] (finish T (W T) [.tmp 2,.tmp 3] k):=by
   intro f' y0 y5 y8 y10 y11;subst pY
   by_cases e3:sz<=3
   have e3':(sz:Int)<=3:=zo;refine cq y0 y5 y8 y10 y11 e3' ?_;exact hk _ 3 _ gh zo zo;have e3':¬(sz:Int)<=3:=zo;have l3:3<s.length:=zo
   by_cases m1:s[3].toNat<128
   refine iR y0 y5 y8 y10 y11 e3' m1 ?_;exact hk _ 1 _ gh zo zo
   by_cases m2:191<s[3].toNat
   refine fY y0 y5 y8 y10 y11 e3' m1 m2 ?_;exact hk _ 1 _ gh zo zo;refine fY y0 y5 y8 y10 y11 e3' m1 m2 ?_;exact hk _ 4 _ gh zo zo
  by_cases m1:s[2].toNat<128
  refine cq y0 y5 y8 f10 e2' m1 ?_;exact hk _ 1 _ gh zo zo
  by_cases m2:191<s[2].toNat
  refine iR y0 y5 y8 f10 e2' m1 m2 ?_;exact hk _ 1 _ gh zo zo;refine iR y0 y5 y8 f10 e2' m1 m2 ?_;exact k9 _ (au y0) (au y5) (au y8) zA aa
 by_cases m1:s[1].toNat<lo
 refine iR f0 f4 f8 f9 e1' h9 m1 ?_;exact hk _ 1 _ gh zo zo
 by_cases m2:hi<s[1].toNat
 refine fY f0 f4 f8 f9 e1' h9 m1 m2 ?_;exact hk _ 1 _ gh zo zo;refine fY f0 f4 f8 f9 e1' h9 m1 m2 ?_;exact ED _ zA zA zA aa
theorem aiy(HT:aA T)(g3:Bi (h.get 3))(g4:Bj (h.get 4))(hl:s.length<1073741824)(hs:s≠[])(hk:aaS h s k):aE T (W T) ⟨106⟩ [S s] h k:=by
 rw[aJ HT.t106];obtain⟨t3,g3,KH⟩:=g3;obtain⟨t4,g4,KI⟩:=g4;have u4:=Hp.lt g4 rfl;cases s with
 |nil=>exact absurd rfl hs
 |cons c s=>
  have hc:=c.toNat_lt;have vz:(c::s).length=s.length+1:=rfl;obtain⟨x,hx,kT,yq⟩:=KH c.toNat hc;generalize pV:QN=T1;have e1:¬((c::s).length:Int)<1:=by simp only[atX];omega
  have e1':¬(s.length:Int)+1<1:=zo
  by_cases e2:240<=x
  simp(disch:=omega) [e1,e1',ri hc zl,g3,sY hc,hx,e2];exact hk _ 1 _ (ah.refl _) zo zo;have yq:=yq zo;have key:∀sz:Nat,(sz=2\/sz=3\/sz=4)->bU (λ_ a b=>a&&&b) x 7=sz->x/16<16->
   W T ((CC.seq (.af r106_0) (.seq (.af r106_1) (.seq (.seq (.af r106_2) (.cond (.t 16) (.seq (.af r106_3) .ret) .skip)) (.seq (.af r106_4) (.seq (.af r106_5) (.seq (.seq (.af r106_6) (.cond (.t 23) (.seq (.af r106_7) (.seq (.af r106_8) .ret)) .skip)) (.seq (.af r106_9) (.seq (.af r106_10) QN))))))))) (nQ [S (c::s)]) h [] (finish T (W T) [.tmp 2,.tmp 3] k):=by
   intro sz cP ex es;obtain⟨a,b,qU⟩:=KI _ es;have hi:=ri (rw:=2) (n:=16) (b:=4) es zd;have hz:sz<256:=zo;rw[pV];simp(disch:=omega) [e1,e1',ri hc zl,g3,sY hc,hx,e2,ex,hi,g4,aaR es,qU,aal hz];subst pV;exact aix HT (hh:=h) (x0:=c.toNat) (lo:=a) (hi:=b) (sz:=sz) aZ (Hp.bR rfl) zl cP hl aa aa aa aa aa zo hk
  subst pV;rcases yq with rfl|rfl|rfl|rfl|rfl|rfl|rfl;exact key 2 zd zd zd;exact key 3 zd zd zd;exact key 4 zd zd zd;exact key 3 zd zd zd;exact key 3 zd zd zd;exact key 4 zd zd zd;exact key 4 zd zd zd
theorem aiz(HT:aA T)(g3:Bi (h.get 3))(g4:Bj (h.get 4))(hl:s.length<1073741824)(hs:s≠[])(hk:∀(r:Int)(n:Nat) h',ax h h'->1<=n->n<=s.length->((s.getD 0 0).toNat<128->n=1)->k (.ret (.bA [.int .i32 r,.i n]) h')):aE T (W T) ⟨73⟩ [S s] h k:=by
 rw[aJ HT.t73];cases s with
 |nil=>exact absurd rfl hs
 |cons c s=>
  have vz:(c::s).length=s.length+1:=rfl
  by_cases e:c.toNat<128
  refine aB e ?_;exact hk _ 1 _ (ah.refl _) zo zo λ_=>rfl;refine aB e ?_;refine aiy HT g3 g4 hl hs λr n h1 g1 n1 n2=>?_;refine ag ?_;exact hk r n h1 g1 n1 n2 λq=>absurd q e
theorem aiA(HT:aA T)(hl:s.length<=65536)(g3:Bi (hh.get 3))(g4:Bj (hh.get 4))(hk:∀(b:Int) h',ax hh h'->((∀c∈s,c.toNat<128)->b<0)->k (.ret (.i b) h')):∀(m a:Nat)(h:Hp)(f:Fr),s.length<=a+m->a<=s.length->ax hh h->J 0 f=S s->J 3 f=.i a->
 W T (.loop l42_0) f h [] (bY 0 (bF (W T (.seq (.af r42_7) .ret)) (finish T (W T) [.tmp 2] k))):=by
 have u3:3<hh.nx:=by obtain⟨t,e,_⟩:=g3;exact Hp.lt e rfl
 have u4:4<hh.nx:=by obtain⟨t,e,_⟩:=g4;exact Hp.lt e rfl
 intro m
 induction m with
 |zero=>
  intro a h f hm ha gg f0 f3;have ao:¬(a:Int)<s.length:=zo;rw[aP];refine aU f0 f3 ao ?_;exact hk _ _ gg λ_=>by decide
 |succ m ih=>
  intro a h f hm ha gg f0 f3;rw[aP]
  by_cases ao:a<s.length
  have aY:(a:Int)<s.length:=zo;have vz:(s.drop a).length=s.length- a:=auf ..;refine aU f0 f3 aY ?_;refine aiz HT (by rw[gg.get _ u3 id];exact g3) (by rw[gg.get _ u4 id];exact g4) zo (by intro e;rw[e] at vz;simp at vz;omega) λr n h1 g1 n1 n2 n3=>?_;have hg:(s.drop a).getD 0 0=s[a]:=by simp[ao]
  rw[hg] at n3
  by_cases en:n=1
  by_cases eb:128<=s[a].toNat
  refine bK en f0 f3 eb ?_;exact hk _ _ (gg.trans g1) λh=>by have:=h s[a] (auy ao);omega
  refine bK en f0 f3 eb ?_;exact ih (a+1) h1 _ zo zo (gg.trans g1) zA aa;have en':¬(n:Int)=1:=zo;refine bK en en' f0 f3 ?_;exact ih (a+n) h1 _ zo zo (gg.trans g1) zA aa;have aY:¬(a:Int)<s.length:=zo;refine aU f0 f3 aY ?_;exact hk _ _ gg λ_=>by decide
theorem aiB(HT:aA T)(g3:Bi (h.get 3))(g4:Bj (h.get 4)):KG T h:=by intro s k hl hk;rw[aJ HT.t42];refine ag ?_;exact aiA HT hl g3 g4 hk s.length 0 h _ zo zo (ah.refl _) aa aa
end
section
variable{h hh h1:Hp}{c tb n:Nat}{l:List Tk}{op gT:Int}{hd bC:Bool}{k k1:aK->Prop}
def Od(T:aM->Option CF)(h:Hp):Prop:=∀(s:List UInt8)(k:aK->Prop),s.length<1073741824->(∀v e h',ax h h'->v.length<1073741824->k (.ret (.bA [S v,.i e]) h'))->aE T (W T) ⟨86⟩ [S s] h k
theorem aiC(HT:aA T)(hs:fc l)(VC:∀h',Pg c hh h'->Od T h') (gg:Pg c hh h) (hx:∀n,n<l.length->(tk l n).text.length<1073741824) (hc:bp h c tb l n op hd) (hn:n<l.length)
 (hk:∀o,lS c tb l op hd h k (Ac l o n)):aE T (W T) ⟨52⟩ [.ptr c 0] h k:=by
 rw[aJ HT.t52];have CM:=hx;have hx:=hc.lt;have hy:=hc.dW;refine ag ?_;refine Cx HT (hc.push _) hn (λee h1 g1 c1=>?_) λee h1 g1=>?_;have cV:=lT hs hn ee;have hk:∀o:List UInt8×Bool,lS c tb l op hd h k (if(tk l (n+1)).kind≠5 then .er (tk l (n+1)).ak 4 else if o.2 =false then .er (tk l (n+1)).ak 9
  else .ok (aV l (n+1+1) 2 (tk l n).ak (tk l (n+1)).ak o.1 []) (n+1+1)):=λo=>by
  have:=hk o;unfold Ac lR at this;rw[atV ee] at this;exact this
 obtain⟨n1,e1⟩:=bw g1;refine aB Tk.row.eq_1 ?_;refine qC HT c1 cV λh2 g2=>?_;obtain⟨n2,e2⟩:=bH g2;have c2:=c1.mono g2
 by_cases k5:(tk l (n+1)).kind=5
 have hk:∀o:List UInt8×Bool,lS c tb l op hd h k (if o.2 =false then .er (tk l (n+1)).ak 9 else .ok (aV l (n+1+1) 2 (tk l n).ak (tk l (n+1)).ak o.1 []) (n+1+1)):=λo=>by have:=hk o;rw[atS (by simp[k5])] at this;exact this
 refine aS Tk.row.eq_1 k5 ?_;refine qC HT c2 cV λh3 g3=>?_;obtain⟨n3,e3⟩:=bH g3;have c3:=c2.mono g3;refine aB Tk.row.eq_1 ?_;refine VC _ (gg.trans (fH e3 e2 e1)) _ _ (CM _ cV) λv e h4 g4 hv4=>?_;obtain⟨n4,e4⟩:=bH g4;have c4:=c3.mono g4;have bad:∀h5,Pg c h4 h5->k (.bn (qD (tk l (n+1)).ak 9) h5):=λh5 g5=>(hk ([],false)).er (by have n5:=g5.nx;have e5:=gp g5;exact(Ei e5 e4 e3 e2 e1))
 by_cases e0:e=0
 refine aB e0 ?_;refine aag HT zo λh5 g5=>?_;generalize El v=b;obtain⟨n5,e5⟩:=bH g5;have c5:=c4.mono g5;cases b with
 |false=>
  refine ag ?_;refine Cw HT c5 cV λh6 g6=>?_;obtain⟨n6,e6⟩:=bH g6;refine ag ?_;exact bad _ (eF e6 e5)
 |true=>
  have hk:=hk (v,true);simp only[axD,auM] at hk;refine ag ?_;refine vB HT c5 cV λh6 g6 c6=>?_;obtain⟨n6,e6⟩:=bw g6;have jB:=wT hs cV k5 zd;refine aB Tk.row.eq_1 ?_;refine gS HT ((c6.push _).set _ zo zo) zo rfl λh7 g7=>?_;obtain⟨n7,e7⟩:=bH g7;have q7:h7.get h.nx=.one 39 cA:=zg7 e7 e6 e5 e4 e3 e2 e1;refine aB q7 ?_;exact hk _ _ (ZX e7 e6 e5 e4 e3 e2 e1) ((((c6.push _).set _ zo zo).mono g7).set _ zo zo) (ay.of (t:=aV l (n+1+1) 2 (tk l n).ak (tk l (n+1)).ak v []) rfl) jB zo
 refine aB e0 ?_;refine Cw HT c4 cV λh6 g6=>?_;obtain⟨n6,e6⟩:=bH g6;refine ag ?_;exact bad _ (iQ e6);have hk:=hk ([],false);rw[atV k5] at hk;refine aS Tk.row.eq_1 k5 ?_;refine Cw HT c2 cV λh6 g6=>?_;obtain⟨n6,e6⟩:=bH g6;refine ag ?_;exact hk.er (fH e6 e2 e1);have hk:=hk ([],false);unfold Ac lR at hk;rw[atS (by rw[ee];simp)] at hk;obtain⟨n1,e1⟩:=bw g1;refine ag ?_;exact hk.er (iQ e1)
theorem aaT{lo kS:Nat}{v:AV}{ts:List Tree}{t:Tree}{row:List AV}{fB:Nat->List AV}(x:pZ lo h v ts)(hl:ts.length<8589934592)(nd:ay kS h t row)(h1:lo<=kS)(h2:∀b,v=.slice b 0 6 ts.length ts.length false->b<kS) (hB:lo<=h.nx) (hf:fB 0=row):
 ∃v' H',kJ (h.push (.rows 39 6 1 0 fB)) 39 6 72 v (.slice h.nx 0 6 1 1 true)=.vh v' H'/\pZ lo H' v' (ts++[t])/\h.nx<=H'.nx/\(∀i,i<lo->H'.get i=h.get i)/\∀i el r,h.get i=.one el r->H'.get i=.one el r:=
 aip x hl (ay.nf (λi r f _ e=>e) h1 _ _ nd) hB hf λb hb _=>ay.nf (lo:=kS) (λi r f hi e=>by rw[Hp.de (by have:=h2 b hb;omega)];exact e) h1 _ _ nd
theorem pZ.lt{lo:Nat}{v ts}(x:pZ lo h v ts):∀b,v=.slice b 0 6 ts.length ts.length false->b<h.nx:=by intro b e;rcases x with⟨_,rfl⟩|⟨b2,r,f,h1,rfl,h3,h4,_⟩;cases e;cases e;exact Hp.lt h4 rfl
theorem pZ.cell{lo:Nat}{v ts}(x:pZ lo h v ts):bQ v=some [v]:=x.kids.1
theorem bp.same{h h':Hp}{c tb n:Nat}{l op hd}(x:bp h c tb l n op hd)(e1:h'.get c=h.get c)(e2:h'.get tb=h.get tb):bp h' c tb l n op hd:=by obtain⟨⟨cap,ex,hc⟩,⟨r,t,ht,h1⟩,le⟩:=x;exact⟨⟨cap,ex,by rw[e1];exact hc⟩,⟨r,t,by rw[e2];exact ht,h1⟩,le⟩
theorem asD{o:List UInt8×Bool}{t:Tree}{m:Nat}(e:Ac l o n=.ok t m):m=n+2:=by unfold Ac lR at e;split at e;simp only[PR.bind] at e;split at e;cases e;split at e;cases e;cases e;rfl;cases e
theorem aaU(HT:aA T)(hs:fc l)(VC:∀h',Pg c hh h'->Od T h') (CM:∀n,n<l.length->(tk l n).text.length<1073741824) {lo B:Nat} (hB:B<8589934592) (cK:c<lo) (ao:tb<lo) (KJ:hh.nx<=lo) {Kx:aT->Prop} {H:PR (List Tree)->Prop} (jC:rX c hh k H) (hp:∀v f h2,k (.bn v h2)->Kx (.bn v f h2 [])):∀(g n:Nat)(h:Hp)(bf:List Tree)(v:AV)(f:Fr),
 Pg c hh h->bp h c tb l n 0 false->n<l.length->0<n->pZ lo h v bf->lo<=h.nx->bf.length+g<=B->J 0 f=.ptr c 0->J 6 f=v->(∀o,H (vH l g o n bf))->
 (∀h' f' v' Af n',Pg c hh h'->(∀i,i<lo->i≠c->h'.get i=h.get i)->bp h' c tb l n' 0 false->pZ lo h' v' Af->lo<=h'.nx->n'<l.length->0<n'->Af.length<=B->J 0 f'=.ptr c 0->(∀i,i<6->J i f'=J i f)->J 6 f'=v'->H (.ok Af n')->Kx (.exit 0 f' h' []))->
 W T (.loop l28_1) f h [] Kx
 |0,_,_,_,_,_,_,_,_,_,_,_,_,_,_,hk,_=>(jC.2 (hk λ_=>([],false))).elim
 |g+1,n,h,bf,v,f,gg,hc,hn,hz,hv,CN,hac,f0,f6,hk,pT=>by
  have hx:=hc.lt;have hy:=hc.dW;rw[aP];refine aB f0 ?_;refine ke HT (hc.push _) hn (cY.one (x:=[105,109,112,111,114,116]) (Hp.br zm) zl zm) zm λh1 g1=>?_;obtain⟨n1,e1⟩:=bH g1;have c1:=(hc.push _).mono g1;have lV:Pg c h h1:=(iQ e1);have v1:=hv.pg lV cK;cases e:bD (tk l n) [[105,109,112,111,114,116]] with
  |false=>
   have hk:=hk λ_=>([],false);unfold vH at hk;rw[atS qaf] at hk;refine ag ?_;exact pT _ _ _ _ _ (gg.trans lV) (λi hi hm=>gp lV i zo hm) c1 v1 zo hn hz zo zA (λi hi=>by refine ag ?_;repeat rw[atS zo]) zA hk
  |true=>
   have hk:∀x o,H ((Ac l x n).bind λt m=>(mU l m).bind λ_ q=>vH l g o q (bf++[t])):=λx o=>by
    have:=hk λi=>match i with|0=>x|i+1=>o i
    unfold vH at this;rw[atV e] at this;exact this
   refine aS f0 f6 ?_;refine aiC HT hs VC (gg.trans lV) CM c1 hn λx=>?_;have hk:=hk x;revert hk;cases vl:Ac l x n with
   |dN=>exact λhk=>jC.2 (hk λ_=>([],false))
   |er p e=>exact λhk=>λh2 g2=>by refine ag ?_;exact hp _ _ _ (jC.1 _ _ (hk λ_=>([],false)) h2 ((gg.trans lV).trans g2))
   |ok t m=>
    intro hk h2 row g2 c2 nd hm KL;obtain⟨n2,e2⟩:=bw g2;have v2:=v1.pg g2 cK;have D7:=nd.agg;have TX:bf.length<8589934592:=zo;have gv:Pg c h h2:=lV.trans g2;obtain⟨kv,rfl,hkv,nk⟩:=nd.shape;refine aS f0 hkv ?_;obtain⟨w,H2,ha,hw,q1,q2,q3⟩:=aaT (fB:=cx (cx fG 0 cA) 0 [.i t.kind,.i t.ak,.i t.to,.i t.at,S t.name,kv]) v2 TX nd zo (λb hb=>v1.lt b hb) zo zm;rw[ha];refine aB f0 ?_;have c3:bp H2 c tb l m 0 false:=c2.same (q2 c cK) (q2 tb ao);have dL:Pg c hh H2:=⟨by have:=gg.nx;omega,λi hi zy=>by rw[q2 i zo,e2 i qaQ zy,gp lV i qaQ zy,gp gg i hi zy]⟩;refine NZ HT c3 hm (λe h4 g4 c4=>?_) λe h4 g4=>?_
    ·have hk:∀o,H (vH l g o (m+1) (bf++[t])):=λo=>by have:=hk o;simp only[PR.bind] at this;unfold mU jR at this;rw[atV e] at this;exact this
     have jB:=wT hs hm e zd;obtain⟨n4,e4⟩:=bw g4;refine ag ?_;refine aaU HT hs VC CM hB cK ao KJ jC hp g (m+1) h4 (bf++[t]) w _ (dL.trans g4) c4 jB zo (hw.pg g4 cK) zo qbc zA aa hk ?_;intro h' f' v' Af n' x1 x2 x3 x4 x5 x6 x7 x8 x9 x10 x11 x12;exact pT h' f' v' Af n' x1 (λi hi hm=>by rw[x2 i hi hm,e4 i zo hm,q2 i hi,e2 i zo hm,gp lV i zo hm]) x3 x4 x5 x6 x7 x8 x9 (λi hi=>by rw[x10 i hi];refine ag ?_;repeat rw[atS zo]) x11 x12
    have hk:=hk λ_=>([],false);simp only[PR.bind] at hk;unfold mU jR at hk;rw[atS e] at hk;refine ag ?_;exact hp _ _ _ (jC.1 _ _ hk h4 (dL.trans g4))
end
section
variable{h hh h1:Hp}{c tb n:Nat}{l:List Tk}{op gT:Int}{hd bC:Bool}{k k1:aK->Prop}
variable{st:Int->Nat->PR Tree}{F:Nat}
theorem aiD(HT:aA T)(hs:fc l){lo kS:Nat}(cK:c<lo)(ao:tb<lo){H:PR (List Tree)->Prop}(jC:rX c hh k H){g m:Nat}{h h2:Hp}{bf:List Tree}{v:AV}{t:Tree}{row:List AV}
 (gg:Pg c hh h2) (x2:∀i,i<lo->i≠c->h2.get i=h.get i) (c2:bp h2 c tb l m 0 false) (hm:m<l.length) (v2:pZ lo h2 v bf) (nd:ay kS h2 t row) (l1:lo<=kS) (l2:kS<=h2.nx) (hb:∀b,v=.slice b 0 6 bf.length bf.length false->b<kS) (KJ:hh.nx<=lo)
 (hl:bf.length<8589934592) (hk:H ((mU l m).bind λ_ q=>yp l F st g q (bf++[t]))):
 ∃w H2,kJ (h2.push (.rows 39 6 1 0 (cx (cx fG 0 cA) 0 row))) 39 6 72 v (.slice h2.nx 0 6 1 1 true)=.vh w H2/\
  ∀(k1:aK->Prop),(∀v h3,k (.bn v h3)->k1 (.bn v h3))->(∀h3,Pg c hh h3->(∀i,i<lo->i≠c->h3.get i=h.get i)->bp h3 c tb l (m+1) 0 false->m+1<l.length->pZ lo h3 w (bf++[t])->lo<=h3.nx->H (yp l F st g (m+1) (bf++[t]))->k1 (.ret (.bA []) h3))->aE T (W T) ⟨50⟩ [.ptr c 0] H2 k1:=by
 obtain⟨w,H2,ha,hw,q1,q2,q3⟩:=aaT (fB:=cx (cx fG 0 cA) 0 row) v2 hl nd l1 hb zo zm;refine⟨w,H2,ha,λk1 hp hd=>?_⟩;have c3:bp H2 c tb l m 0 false:=c2.same (q2 c cK) (q2 tb ao);have dL:Pg c hh H2:=⟨by have:=gg.nx;omega,λi hi zy=>by rw[q2 i zo,gp gg i hi zy]⟩;refine TF HT hs jC hk c3 hm dL hp λhn hk h3 g3 c4=>hd h3 (dL.trans g3) (λi hi hm=>by rw[gp g3 i zo hm,q2 i hi,x2 i hi hm]) c4 hn (hw.pg g3 cK) (by have:=g3.nx;omega) hk
theorem aaV(HT:aA T)(hs:fc l)(S1:CK T c tb l st){F:Nat}(hF:F<8589934592){lo:Nat}(cK:c<lo)(ao:tb<lo)(KJ:hh.nx<=lo){Kx:aT->Prop}{H:PR (List Tree)->Prop}(jC:rX c hh k H)(hp:∀v f h2,k (.bn v h2)->Kx (.bn v f h2 [])):∀(g n:Nat)(h:Hp)(bf:List Tree)(v:AV)(f:Fr),
 Pg c hh h->bp h c tb l n 0 false->n<l.length->0<n->pZ lo h v bf->lo<=h.nx->bf.length+g<8589934592->J 0 f=.ptr c 0->J 6 f=v->H (yp l F st g n bf)->
 (∀h' f' v' Af n',Pg c hh h'->(∀i,i<lo->i≠c->h'.get i=h.get i)->bp h' c tb l n' 0 false->pZ lo h' v' Af->lo<=h'.nx->n'<l.length->0<n'->J 0 f'=.ptr c 0->(∀i,i<6->J i f'=J i f)->J 6 f'=v'->H (.ok Af n')->Kx (.exit 2 f' h' []))->
 W T (.loop l28_0) f h [] Kx
 |0,_,_,_,_,_,_,_,_,_,_,_,_,_,_,hk,_=>(jC.2 hk).elim
 |g+1,n,h,bf,v,f,gg,hc,hn,hz,hv,CN,hac,f0,f6,hk,pT=>by
  have hx:=hc.lt;have hy:=hc.dW;have Bk:=hc;obtain⟨⟨cap,ex,q⟩,_,dA⟩:=Bk;rw[aP];unfold yp at hk
  by_cases el:n+1<l.length
  rw[atV el] at hk;have rM:(n:Int)+1<l.length:=zo;refine aU f0 q rM ?_;refine ke HT (hc.push _) hn (cY.one (x:=[116,121,112,101]) (Hp.br zm) zl zm) zm λh1 g1=>?_;obtain⟨n1,e1⟩:=bH g1;have c1:=(hc.push _).mono g1;have lV:Pg c h h1:=(iQ e1);have v1:=hv.pg lV cK;have TX:bf.length<8589934592:=zo;have main:∀(t:Tree)(m:Nat)(h2:Hp)(kv:AV),H ((mU l m).bind λ_ q=>yp l F st g q (bf++[t]))->Pg c h1 h2->bp h2 c tb l m 0 false->ay h1.nx h2 t [.i t.kind,.i t.ak,.i t.to,.i t.at,S t.name,kv]->m<l.length->0<m->
   ∃w H2,kJ (h2.push (.rows 39 6 1 0 (cx (cx fG 0 cA) 0 [.i t.kind,.i t.ak,.i t.to,.i t.at,S t.name,kv]))) 39 6 72 v (.slice h2.nx 0 6 1 1 true)=.vh w H2/\∀k1:aK->Prop,(∀v h3,k (.bn v h3)->k1 (.bn v h3))->(∀h3,(∀f2:Fr,J 0 f2=.ptr c 0->J 6 f2=w->(∀i,i<6->J i f2=J i f)->W T (.loop l28_0) f2 h3 [] Kx)->k1 (.ret (.bA []) h3))->
    aE T (W T) ⟨50⟩ [.ptr c 0] H2 k1:=by
   intro t m h2 kv hk g2 c2 nd hm KL;obtain⟨w,H2,ha,hb⟩:=aiD HT hs (h:=h) cK ao jC (gg.trans (lV.trans g2)) (λi hi hm=>by rw[gp g2 i zo hm,gp lV i zo hm]) c2 hm (v1.pg g2 cK) nd zo g2.nx (λb hb=>v1.lt b hb) KJ TX hk;refine⟨w,H2,ha,λk1 kp kd=>hb _ kp λh3 g3 x3 c3 nW v3 TY hk=>kd h3 λf2 y0 y6 yi=>?_⟩;refine aaV HT hs S1 hF cK ao KJ jC hp g (m+1) h3 (bf++[t]) w f2 g3 c3 nW zo v3 TY qbc y0 y6 hk ?_;intro h' f' v' Af n' z1 z2 z3 z4 z5 z6 z7 z8 z9 z10 z11;exact pT h' f' v' Af n' z1 (λi hi hm=>by rw[z2 i hi hm,x3 i hi hm]) z3 z4 z5 z6 z7 z8 (λi hi=>by rw[z9 i hi,yi i hi]) z10 z11
  cases e:bD (tk l n) [[116,121,112,101]] with
  |true=>
   rw[atV e] at hk;refine aS f0 f6 ?_;refine ain HT hs (atY 0) zd hF c1 hn (jC.sub hk (gg.trans lV) (λv h2 hv=>by refine ag ?_;exact hp _ _ _ hv) λt m hk h2 row g2 c2 nd hm KL=>?_);obtain⟨n2,e2⟩:=bw g2;obtain⟨kv,rfl,hkv,nk⟩:=nd.shape;refine aS f0 hkv ?_;obtain⟨w,H2,ha,hb⟩:=main t m h2 kv hk g2 c2 nd hm KL;rw[ha];refine aB f0 ?_;refine hb _ (λv h3 hv=>by refine ag ?_;exact hp _ _ _ hv) λh3 hw=>?_;refine ag ?_;exact hw _ zA aa (λi hi=>by simp(disch:=decide) only[eG hi])
  |false=>
   rw[atS qaf] at hk;refine aS f0 f6 ?_;refine aio HT hs S1 (atY 0) zd hF c1 hn (jC.sub hk (gg.trans lV) (λv h2 hv=>by refine ag ?_;exact hp _ _ _ hv) λt m hk h2 row g2 c2 nd hm KL=>?_);obtain⟨n2,e2⟩:=bw g2;obtain⟨kv,rfl,hkv,nk⟩:=nd.shape;refine aS f0 hkv ?_;obtain⟨w,H2,ha,hb⟩:=main t m h2 kv hk g2 c2 nd hm KL;rw[ha];refine aB f0 ?_;refine hb _ (λv h3 hv=>by refine ag ?_;exact hp _ _ _ hv) λh3 hw=>?_;refine ag ?_;exact hw _ zA aa (λi hi=>by simp(disch:=decide) only[eG hi])
  ·rw[atS el] at hk;have rM:¬(n:Int)+1<l.length:=zo;refine aU f0 q rM ?_;exact pT _ _ _ _ _ gg (λi hi hm=>rfl) hc hv zo hn hz zA (λi hi=>by refine ag ?_;repeat rw[atS zo]) zA hk
end
mutual
def yu:Tree->Int->Int->Int
 |.mk q _ _ a _ ks,kU,dS=>if q=0 then dS else KN ks (if 0<kU- 1 then kU- 1 else 0) (if kU=0 then(if a<dS then a else dS) else dS)
def KN:List Tree->Int->Int->Int
 |[],_,dS=>dS
 |t::ts,kU,dS=>KN ts kU (yu t kU dS)
end
mutual
def rY:Tree->Prop
 |.mk _ _ _ _ _ ks=>ks.length<4294967296/\pq ks
def pq:List Tree->Prop
 |[]=>True
 |t::ts=>rY t/\pq ts
end
@[simp] theorem asE{a b:Int}:wq true (.i a) [.i b]=.v (.i (if b<a then b else a)):=by
 simp only[wq,qk,Ej]
 by_cases h1:a<b
 simp[h1,show¬b<a by omega]
 by_cases h2:a=b
 simp[h2];simp[h1,h2,show b<a by omega]
@[simp] theorem asF{a b:Int}:wq false (.i a) [.i b]=.v (.i (if a<b then b else a)):=by
 simp only[wq,qk,Ej]
 by_cases h1:a<b
 simp[h1]
 by_cases h2:a=b
 simp[h2];simp[h1,h2]
section
mutual
theorem aaW(HT:aA T):∀(x:Tree)(h:Hp)(row:List AV)(lo:Nat)(kU dS:Int)(k:aK->Prop),ay lo h x row->rY x->0<=kU->kU<=64->(∀h',ax h h'->k (.ret (.i (yu x kU dS)) h'))->aE T (W T) ⟨29⟩ [.agg row,.i kU,.i dS] h k
 |.mk q fr to a nm ks,h,row,lo,kU,dS,k,nd,sm,m0,m1,hk=>by
  unfold rY at sm;obtain⟨kv,rfl,hkv,nk⟩:=nd.shape;simp only[Tree.kind,Tree.ak,Tree.to,Tree.at,Tree.name,Tree.kids] at hkv nk⊢;rw[aJ HT.t29];generalize hL:CC.loop l29_0=L;unfold yu at hk
  by_cases q0:q=0
  rw[atV q0] at hk;refine aS hkv q0 ?_;exact hk _ aZ;rw[atS q0] at hk;cases ks with
  |nil=>
   simp only[dO] at nk;subst nk
   by_cases e0:kU=0
   rw[atV e0] at hk;refine aS q0 e0 ?_;subst hL;exact KO HT [] _ h (λ_=>[]) 0 0 0 0 0 false lo kU _ _ k aZ rfl zd trivial m0 m1 (λe=>absurd rfl e) aa aa (au e0) aa hk;rw[atS e0] at hk;refine aS q0 e0 ?_;subst hL;exact KO HT [] _ h (λ_=>[]) 0 0 0 0 0 false lo kU _ _ k aZ rfl zd trivial m0 m1 (λe=>absurd rfl e) aa aa (au e0) aa hk
  |cons t ts=>
   simp only[dO] at nk;obtain⟨b,cap,ex,r,g,rfl,hb,hr,hl,n1,n2⟩:=nk;have:=Hp.lt hb rfl;have n1':ay lo (h.push (.one 39 [.i q,.i fr,.i to,.i a,S nm,.slice b 0 6 (ts.length+1) cap ex])) t (g 0):=ay.nf ((NF.refl h).push _) zl _ _ n1;have n2':eR lo (h.push (.one 39 [.i q,.i fr,.i to,.i a,S nm,.slice b 0 6 (ts.length+1) cap ex])) ts λj=>g (j+1):=eR.nf ((NF.refl h).push _) zl _ _ n2
   by_cases e0:kU=0
   rw[atV e0] at hk;refine aS q0 e0 ?_;subst hL;exact KO HT (t::ts) _ h g b cap r (ts.length+1) 0 ex lo kU _ _ k aZ zm sm.1 sm.2 m0 m1 (λ_=>⟨aa,au hb,hr,by simp only[eR,aue];exact⟨n1',n2'⟩⟩) aa aa (au e0) aa hk;rw[atS e0] at hk;refine aS q0 e0 ?_;subst hL;exact KO HT (t::ts) _ h g b cap r (ts.length+1) 0 ex lo kU _ _ k aZ zm sm.1 sm.2 m0 m1 (λ_=>⟨aa,au hb,hr,by simp only[eR,aue];exact⟨n1',n2'⟩⟩) aa aa (au e0) aa hk
theorem KO(HT:aA T):∀(ts:List Tree)(h hh:Hp)(g:Nat->List AV)(b cap r len j:Nat)(ex:Bool)(lo:Nat)(kU dS:Int)(f:Fr)(k:aK->Prop),ax hh h->j+ts.length=len->len<4294967296->pq ts->0<=kU->kU<=64->
 (ts≠[]->J 20 f=.slice b 0 6 len cap ex/\h.get b=.rows 39 6 r 0 g/\len<=r/\eR lo h ts (λi=>g (j+i)))->J 21 f=.i len->J 22 f=.i j->J 1 f=.i kU->J 2 f=.i dS->(∀h',ax hh h'->k (.ret (.i (KN ts (if 0<kU- 1 then kU- 1 else 0) dS)) h'))->
 W T (.loop l29_0) f h [] (bY 0 (bF (W T (.seq (.af r29_10) .ret)) (finish T (W T) [.tmp 6] k)))
 |[],h,hh,g,b,cap,r,len,j,ex,lo,kU,dS,f,k,gg,hj,hl,sm,m0,m1,hx,f21,f22,f1,f2,hk=>by simp only[aup,aud] at hj;subst hj;rw[aP];refine aU f21 f22 f2 ?_;unfold KN at hk;exact hk _ gg
 |t::ts,h,hh,g,b,cap,r,len,j,ex,lo,kU,dS,f,k,gg,hj,hl,sm,m0,m1,hx,f21,f22,f1,f2,hk=>by
  obtain⟨f20,hb,hr,ir⟩:=hx zm;unfold pq at sm;simp only[eR] at ir;obtain⟨n1,n2⟩:=ir;simp only[atX] at hj;unfold KN at hk;have lt:=Hp.lt hb rfl;have ao:(j:Int)<len:=zo;obtain⟨kv,kz,hkv,nk⟩:=n1.shape;simp only[aud] at kz;rw[aP];refine fY f20 f21 f22 f1 f2 hb kz ao ?_;rw[<-kz];refine aaW HT t _ _ lo _ _ _ (ay.nf (((NF.refl h).push _).new _ zo) zl _ _ n1) sm.1 (by split<;>omega) (by split<;>omega) λh1 g1=>?_;have n1:=g1.nx;have e1:=g0 g1;try simp only[Hp.eE,Hp.iy] at n1
  refine cC f20 f21 f22 f1 f2 ?_;refine KO HT ts _ hh g b cap r len (j+1) ex lo kU _ _ k (ah.trans gg ⟨by omega,λi hi _=>au e1⟩) zo hl sm.2 m0 m1 (λ_=>⟨zA,bV e1 hb,hr,?_⟩) zA zA zA aa hk;refine eR.nf ((((NF.refl h).push _).new _ zo).g0 g1) zl _ _ ?_;simpa only[avg,awR 1] using n2
end
end
section
variable{h hh h1:Hp}{c tb n:Nat}{l:List Tk}{op gT:Int}{hd bC:Bool}{k k1:aK->Prop}
variable{st:Int->Nat->PR Tree}
def CP(c:Nat)(h:Hp)(k:aK->Prop)(r:PR Tree):Prop:=
 match r with
 |.ok t _=>∀h' row,Pg c h h'->ay h.nx h' t row->k (.ret (.agg row) h')
 |.er p e=>∀h',Pg c h h'->k (.bn (qD p e) h')
 |.dN=>False
theorem CP.pX:rX c h k (CP c h k):=⟨λ_ _ hk=>hk,id⟩
theorem aiE(HT:aA T)(hs:fc l)(VC:∀h',Pg c h h'->Od T h') (CM:∀n,n<l.length->(tk l n).text.length<1073741824) (S1:CK T c tb l st) {F:Nat} (hF:F<4294967296) {size:Int} (hc:bp h c tb l n 0 false) (hn:n<l.length)
 (hk:∀o,CP c h k (Ad l F st size o n)):aE T (W T) ⟨28⟩ [.ptr c 0,.i size] h k:=by
 rw[aJ HT.t28];have hx:=hc.lt;have hy:=hc.dW;generalize jg:CC.loop l28_1=L1;generalize pz:CC.loop l28_0=L0;have js:=hk λ_=>([],false);have jC:rX c h k (CP c h k):=CP.pX;refine ag ?_;refine Cx HT (hc.push _) hn (λee h1 g1 c1=>?_) λee h1 g1=>?_
 rotate_left
 unfold Ad lR at js;rw[atS (by rw[ee];simp)] at js;obtain⟨n1,e1⟩:=bw g1;refine ag ?_;exact js _ (iQ e1);have cV:=lT hs hn ee;obtain⟨n1,e1⟩:=bw g1;refine ag ?_;refine Eo HT c1 cV (λek h2 g2 c2=>?_) λek h2 g2=>?_
 rotate_left
 unfold Ad lR jR at js;rw[atV ee] at js;simp only[PR.bind] at js;rw[atS ek] at js;obtain⟨n2,e2⟩:=bw g2;refine ag ?_;exact js _ (eF e2 e1);have jB:=wT hs cV ek zd;obtain⟨n2,e2⟩:=bw g2;refine aB Tk.row.eq_1 ?_;refine NZ HT ((c2.push _).set _ zo zo) jB (λes h3 g3 c3=>?_) λes h3 g3=>?_
 rotate_left
 unfold Ad lR jR mU jR at js;rw[atV ee] at js;simp only[PR.bind] at js;rw[atV ek] at js;simp only[PR.bind] at js;rw[atS es] at js;obtain⟨n3,e3⟩:=bw g3;refine ag ?_;exact js _ (fH e3 e2 e1);have Cy:=wT hs jB es zd;obtain⟨n3,e3⟩:=bw g3;have p1:h3.get h.nx=.one 39 cA:=cX e3 e2 e1;have p5:h3.get h2.nx=.one 74 (tk l (n+1)).row:=bV e3 Tk.row.eq_1;have u5:=Hp.lt p5 rfl;have dL:Pg c h h3:=(fH e3 e2 e1);have hk:∀o,CP c h k ((vH l F o (n+1+1+1) []).bind λis s=>(yp l F st F s is).bind λds v=>.ok (.mk 1 0 size (tk l (n+1)).ak (tk l (n+1)).text ds) v):=λo=>by have:=hk o;unfold Ad lR jR mU jR at this;rw[atV ee] at this;simp only[PR.bind] at this;rw[atV ek] at this;simp only[PR.bind] at this;rw[atV es] at this;exact this
 refine ag ?_;subst jg;refine aaU HT hs VC CM (hh:=h) (lo:=h3.nx) (k:=k) (B:=F) (H:=λr=>CP c h k (r.bind λis s=>(yp l F st F s is).bind λds v=>.ok (.mk 1 0 size (tk l (n+1)).ak (tk l (n+1)).text ds) v)) zo c3.lt c3.dW dL.nx ⟨λp e hk=>hk,id⟩ ?_ F (n+1+1+1) h3 [] .bx _ dL c3 Cy zo (.inl ⟨rfl,rfl⟩) zl zm aa aa hk ?_;intro v f h2 hv;refine ag ?_;exact hv;intro h4 f4 v4 ts n4 g4 x4 c4 lv4 hl4 hn4 yj hac y0 yi y6 hk;have y1:J 1 f4=.i size:=by rw[yi 1 zo];simp(disch:=omega)
 have y4:J 4 f4=.ptr h.nx 0:=by rw[yi 4 zo];simp(disch:=omega)
 have y5:J 5 f4=.ptr h2.nx 0:=by rw[yi 5 zo];simp(disch:=omega)
 clear yi;refine ag ?_;subst pz;refine aaV HT hs S1 (hh:=h) (F:=F) zo (lo:=h3.nx) (k:=k) (H:=λr=>CP c h k (r.bind λds v=>.ok (.mk 1 0 size (tk l (n+1)).ak (tk l (n+1)).text ds) v)) c3.lt c3.dW dL.nx ⟨λp e hk=>hk,id⟩ ?_ F n4 h4 ts v4 _ g4 c4 hn4 yj lv4 hl4 zo y0 y6 hk ?_;intro v f h2 hv;refine ag ?_;exact hv;intro h5 f5 v5 ts5 n5 g5 x5 c5 lv5 hl5 hn5 hz5 z0 zi z6 hk;have z1:J 1 f5=.i size:=by rw[zi 1 zo];simp(disch:=omega) [y1]
 have z4:J 4 f5=.ptr h.nx 0:=by rw[zi 4 zo];simp(disch:=omega) [y4]
 have z5:J 5 f5=.ptr h2.nx 0:=by rw[zi 5 zo];simp(disch:=omega) [y5]
 have hcx:=c3.lt;have q1:h5.get h.nx=.one 39 cA:=by rw[x5 _ zo zo,x4 _ zo zo,p1]
 have q5:h5.get h2.nx=.one 74 (tk l (n+1)).row:=by rw[x5 _ zo zo,x4 _ zo zo,p5]
 have nx5:=g5.nx;refine fY z1 z4 z5 q5 Tk.row.eq_1 lv5.cell z6 q1 ?_;refine hk _ _ (iQ (gp g5)) (ay.of (t:=.mk 1 0 size (tk l (n+1)).ak (tk l (n+1)).text ts5) (dO.nf ((NF.refl h5).set _ q1) zo _ _ lv5.kids.2))
end
section
variable{h hh:Hp}{k:aK->Prop}{s p:List UInt8}{c:UInt8}
def KP(T:aM->Option CF)(h:Hp):Prop:=∀(s:List UInt8)(k:aK->Prop),s.length<1073741824->(∀(b:Bool) h',ax h h'->k (.ret (.bool b) h'))->aE T (W T) ⟨118⟩ [S s] h k
theorem aiF(HT:aA T)(VC:∀h',ax h h'->KP T h'):Od T h:=by
 intro s k hl hk;rw[aJ HT.t86];generalize hT:Xv=T4;refine ag ?_;refine aak HT hl (λ_ h1 g1=>?_) λhq v n h1 g1 hn hv=>?_;refine ag ?_;exact hk [] 4 _ g1 zm
 by_cases e0:n=0
 refine aB e0 ?_;exact hk [] 4 _ g1 zm
 by_cases e1:n=s.length
 subst e1;have e0':¬s=[]:=by rintro rfl;exact e0 rfl
 refine aB e0' ?_;refine VC _ g1 _ _ hl λb h2 g2=>?_;cases b with
 |false=>
  refine ag ?_;exact hk [] 4 _ (g1.trans g2) zm
 |true=>
  subst hT
  by_cases e2:4096<v.length
  have e2':(4096:Int)<v.length:=zo;refine aB e2' ?_;exact hk [] 3 _ (g1.trans g2) zm;have e2':¬(4096:Int)<v.length:=zo;refine aB e2' ?_;exact hk v 0 _ (g1.trans g2) zo
 have e1':¬(n:Int)=s.length:=zo;refine aU e0 e1 e1' ?_;exact hk [] 4 _ g1 zm
end
section
open Go (IntKind)
variable{a b:Int}{m n:Nat}
@[simp] theorem asG:cJ (.cell (.int .u64)) (.int .u64 a) (.int .u64 b)=some (decide (a=b)):=by simp[cJ,sD,A6,qh]
@[simp] theorem asH:ko .u64 (.u8 m)=.v (.int .u64 (IntKind.u64.wrap (.ofNat m))):=rfl
@[simp] theorem asI{k:Int}(h:0<=k):oQ pF (.int .u64 a) (.int .u64 k)=.v (.int .u64 (IntKind.u64.wrap (a*2^(min k.toNat 64)))):=by obtain⟨n,rfl⟩:=at6 h;rfl
end
section
variable{h hh:Hp}{k:aK->Prop}{s p:List UInt8}{c:UInt8}
theorem EE(HT:aA T)(hl:8<=s.length)(hk:∀w:Int,k (.ret (.int .u64 w) h)):aE T (W T) ⟨141⟩ [S s] h k:=by rw[aJ HT.t141];have:s.length=s.length:=rfl;refine ag ?_;exact hk _
theorem aiG(HT:aA T){Kx:aT->Prop}:∀(m:Nat)(s:List UInt8)(f:Fr),s.length<=m->s.length<1073741824->J 0 f=S s->(∀f'(s':List UInt8),s'.length<=s.length->J 0 f'=S s'->Kx (.exit 2 f' h []))->W T (.loop l118_0) f h [] Kx:=by
 intro m
 induction m with
 |zero=>
  intro s f hm hl f0 hk;have e:¬(32:Int)<s.length:=zo;rw[aP];refine aS f0 e ?_;exact hk _ s zl zA
 |succ m ih=>
  intro s f hm hl f0 hk;rw[aP]
  by_cases e:32<s.length
  have e':(32:Int)<s.length:=zo;have l1:(s.drop 8).length=s.length- 8:=auf ..;have l2:(s.drop 16).length=s.length- 16:=auf ..;have l3:(s.drop 24).length=s.length- 24:=auf ..;have l4:(s.drop 32).length=s.length- 32:=auf ..;simp(maxSteps:=10000000) (disch:=first|exact bh|fail) [f0,e'];refine EE HT zo λw1=>?_;simp(maxSteps:=10000000) (disch:=first|exact bh|fail) [f0,e'];refine EE HT zo λw2=>?_;simp(maxSteps:=10000000) (disch:=first|exact bh|fail) [f0,e'];refine EE HT zo λw3=>?_;simp(maxSteps:=10000000) (disch:=first|exact bh|fail) [f0,e'];refine EE HT zo λw4=>?_;generalize hW:bW (λ_ a b=>a&&&b) (bW (λ_ a b=>a|||b) (bW (λ_ a b=>a|||b) w1 w2) (bW (λ_ a b=>a|||b) w3 w4)) 9259542123273814144=Wd
  by_cases e2:Wd=0
  refine aU f0 hW e2 ?_;exact ih (s.drop 32) _ zo zo aa λf' s' h1 h2=>hk f' s' zo h2;refine aU f0 hW e2 ?_;exact hk _ s zl zA;have e':¬(32:Int)<s.length:=zo;refine aS f0 e' ?_;exact hk _ s zl zA
end
section
open Go (IntKind)
variable{h hh:Hp}{k:aK->Prop}{s p:List UInt8}{c:UInt8}
abbrev TZ(T:aM->Option CF)(hh:Hp)(s:List UInt8)(Kx:aT->Prop):Prop:=∀f' h'(s':List UInt8),ax hh h'->s'.length<s.length->J 0 f'=S s'->W T (.loop l118_1) f' h' [] Kx
theorem aiH(HT:aA T){Kx:aT->Prop}{f:Fr}(gg:ax hh h)(hl:s.length<1073741824)(f0:J 0 f=S (c::s))(hk:TZ T hh (c::s) Kx):
 W T (CC.seq (.af r118_4) (.seq (.seq (.af r118_5) (.cond (.t 24) (.seq (.af r118_6) (.seq (.aR r118_7) (.cond (.t 39) (.seq (.af r118_8) (.block 2 (.loop l118_0))) .skip))) .skip)) (.exit 1))) f h [] (bF (W T MI) (bY 1 (bF (W T (.loop l118_1)) Kx))):=by
 generalize hT:MI=TT;generalize hI:CC.loop l118_0=LI;have l0:(c::s).length=s.length+1:=rfl;have e1:(1:Int)<=(s.length:Int)+1:=zo
 by_cases e:8<s.length
 have e':(8:Int)<s.length:=zo;have l8:(s.drop 8).length=s.length- 8:=auf ..;refine aU f0 e1 e' ?_;refine EE HT zo λw1=>?_
 by_cases e2:bW (λ_ a b=>a&&&b) w1 9259542123273814144=0
 have e8:(8:Int)<=s.length:=zo;generalize T0:s.drop 8=s8 at*
 by_cases e3:16<s8.length
 have e3':(16:Int)<s8.length:=zo;have l16:(s8.drop 8).length=s8.length- 8:=auf ..;have l17:(s8.drop 16).length=s8.length- 16:=auf ..;have e16:(8:Int)<=s8.length:=zo;refine cC e2 e8 T0 e3' e16 ?_;refine EE HT zo λw2=>?_;refine cC e2 e8 T0 e3' e16 ?_;refine EE HT zo λw3=>?_
 by_cases e4:bW (λ_ a b=>a&&&b) (bW (λ_ a b=>a|||b) w2 w3) 9259542123273814144=0
 have e17:(16:Int)<=s8.length:=zo;refine aS e4 e17 ?_;subst hI;refine aiG HT (s8.drop 16).length (s8.drop 16) _ zl zo aa λf' s' q1 q2=>?_;refine ag ?_;exact hk _ _ s' gg zo q2;refine aB e4 ?_;exact hk _ _ s8 gg zo aa;have e3':¬(16:Int)<s8.length:=zo;refine bK e2 e8 T0 e3' ?_;exact hk _ _ s8 gg zo aa;refine aB e2 ?_;exact hk _ _ s gg zo aa;have e':¬(8:Int)<s.length:=zo;refine aU f0 e1 e' ?_;exact hk _ _ s gg zo aa
theorem aiI(HT:aA T){Kx:aT->Prop}{f:Fr}{b6 lo hi sz:Nat}(gg:ax hh h)(h6:h.get b6=.one 188 [.u8 lo,.u8 hi])(hl:s.length<1073741824)(f0:J 0 f=S s)(f5:J 5 f=.i sz)(f6:J 6 f=.ptr b6 0)
 (hr:∀f' h',ax hh h'->J 2 f'=.bool false->Kx (.ret f' h' [])) (hk:TZ T hh s Kx):
 W T QU f h [] (bY 1 (bF (W T (.loop l118_1)) Kx)):=by
 by_cases z2:sz=2
 subst z2
 by_cases q0:s.length<2
 have q0':(s.length:Int)<2:=zo;refine bK f0 f5 f6 q0' ?_;exact hr _ _ gg aa;have q0':¬(s.length:Int)<2:=zo;have l1:1<s.length:=zo;have l2:(2:Int)<=s.length:=zo
 by_cases m1:s[1].toNat<lo
 refine cq f0 f5 f6 h6 q0' m1 ?_;exact hr _ _ gg aa
 by_cases m2:hi<s[1].toNat
 refine iR f0 f5 f6 h6 q0' m1 m2 ?_;exact hr _ _ gg aa;refine fY f0 f5 f6 h6 q0' m1 m2 l2 ?_;exact hk _ _ (s.drop 2) gg qav aa
 by_cases z3:sz=3
 subst z3
 by_cases q0:s.length<3
 have q0':(s.length:Int)<3:=zo;refine bK f0 f5 f6 q0' ?_;exact hr _ _ gg aa;have q0':¬(s.length:Int)<3:=zo;have l1:2<s.length:=zo;have l2:(3:Int)<=s.length:=zo
 by_cases m1:s[1].toNat<lo
 refine cq f0 f5 f6 h6 q0' m1 ?_;exact hr _ _ gg aa
 by_cases m2:hi<s[1].toNat
 refine iR f0 f5 f6 h6 q0' m1 m2 ?_;exact hr _ _ gg aa
 by_cases m3:s[2].toNat<128
 refine fY f0 f5 f6 h6 q0' m1 m2 m3 ?_;exact hr _ _ gg aa
 by_cases m4:191<s[2].toNat
 refine mz f0 f5 f6 h6 q0' m1 m2 m3 m4 ?_;exact hr _ _ gg aa;refine nA f0 f5 f6 h6 q0' m1 m2 m3 m4 l2 ?_;exact hk _ _ (s.drop 3) gg qav aa
 by_cases z4:sz=4
 subst z4
 by_cases q0:s.length<4
 have q0':(s.length:Int)<4:=zo;refine bK f0 f5 f6 q0' ?_;exact hr _ _ gg aa;have q0':¬(s.length:Int)<4:=zo;have l1:3<s.length:=zo;have l2:(4:Int)<=s.length:=zo
 by_cases m1:s[1].toNat<lo
 refine cq f0 f5 f6 h6 q0' m1 ?_;exact hr _ _ gg aa
 by_cases m2:hi<s[1].toNat
 refine iR f0 f5 f6 h6 q0' m1 m2 ?_;exact hr _ _ gg aa
 by_cases m3:s[2].toNat<128
 refine fY f0 f5 f6 h6 q0' m1 m2 m3 ?_;exact hr _ _ gg aa
 by_cases m4:191<s[2].toNat
 refine mz f0 f5 f6 h6 q0' m1 m2 m3 m4 ?_;exact hr _ _ gg aa
 by_cases m5:s[3].toNat<128
 refine nA f0 f5 f6 h6 q0' m1 m2 m3 m4 m5 ?_;exact hr _ _ gg aa
 by_cases m6:191<s[3].toNat
 refine wM f0 f5 f6 h6 q0' m1 m2 m3 m4 m5 m6 ?_;exact hr _ _ gg aa;refine pU f0 f5 f6 h6 q0' m1 m2 m3 m4 m5 m6 l2 ?_;exact hk _ _ (s.drop 4) gg qav aa;have z2':¬(sz:Int)=2:=zo;have z3':¬(sz:Int)=3:=zo;have z4':¬(sz:Int)=4:=zo;refine cq f0 f5 f6 z2' z3' z4' ?_;exact hr _ _ gg aa
theorem aiJ(HT:aA T)(g3:Bi (hh.get 3))(g4:Bj (hh.get 4)){Kx:aT->Prop}(hr:∀f' h',ax hh h'->J 2 f'=.bool false->Kx (.ret f' h' [])) (hx:∀f' h',ax hh h'->Kx (.exit 0 f' h' [])):∀(m:Nat)(s:List UInt8)(h:Hp)(f:Fr),s.length<=m->s.length<1073741824->ax hh h->J 0 f=S s->W T (.loop l118_1) f h [] Kx:=by
 have u3:3<hh.nx:=by obtain⟨t,e,_⟩:=g3;exact Hp.lt e rfl
 have u4:4<hh.nx:=by obtain⟨t,e,_⟩:=g4;exact Hp.lt e rfl
 intro m
 induction m with
 |zero=>
  intro s h f hm hl gg f0;obtain rfl:s=[]:=auv zo;rw[aP];refine aB f0 ?_;exact hx _ _ gg
 |succ m ih=>
  intro s h f hm hl gg f0;cases s with
  |nil=>
   rw[aP];refine aB f0 ?_;exact hx _ _ gg
  |cons c s=>
   have vz:(c::s).length=s.length+1:=rfl;have hc:=c.toNat_lt;have hk:TZ T hh (c::s) Kx:=λf' h' s' g q f0'=>ih s' h' f' zo zo g f0';rw[aP];show W T QV f h [] _;unfold QV MI;generalize hTA:Xy=TA;generalize hTB:QU=TB;have e0:(0:Int)<(s.length:Int)+1:=zo
   by_cases e:c.toNat<128
   refine aU f0 e0 e ?_;subst hTA;subst hTB;exact aiH HT gg zo zA hk;obtain⟨t3,g3,KH⟩:=g3;obtain⟨t4,g4,KI⟩:=g4;obtain⟨x,mV,kT,yq⟩:=KH c.toNat hc;have g3':h.get 3=.cB 1 256 t3:=by rw[gg.get _ u3 id];exact g3
   have g4':h.get 4=.cB 2 16 t4:=by rw[gg.get _ u4 id];exact g4
   have es:x/16<16:=zo;obtain⟨a,b,qU⟩:=KI _ es;have hi:=ri (rw:=2) (n:=16) (b:=4) es zd;have hz:bU (λ_ a b=>a&&&b) x 7<256:=aht;have hgn:=gg.nx;simp(disch:=omega) [f0,e0,e,ri hc zl,g3',sY hc,mV,hi,g4',aaR es,qU,aal hz];subst hTB;exact aiI HT (b6:=h.nx) (lo:=a) (hi:=b) (sz:=bU (λ_ a b=>a&&&b) x 7) (gg.trans aZ) (Hp.bR rfl) zo zA aa aa hr hk
theorem aiK(HT:aA T)(g3:Bi (h.get 3))(g4:Bj (h.get 4)):KP T h:=by intro s k hl hk;rw[aJ HT.t118];generalize hL:CC.loop l118_1=L;refine ag ?_;subst hL;refine aiJ HT (hh:=h) g3 g4 (λf' h' g f2=>?_) (λf' h' g=>?_) s.length s h _ zl hl (ah.refl _) aa;refine aB f2 ?_;exact hk false _ g;refine ag ?_;exact hk true _ g
end
section
open Go (IntKind)
variable{a b:Int}{m n:Nat}
@[simp] theorem vJ:lG (.int .u64 a) (.int .u64 b)=.v (.int .u64 (IntKind.u64.wrap (a+b))):=rfl
@[simp] theorem ru:jb (.int .u64 a) (.int .u64 b)=.v (.int .u64 (IntKind.u64.wrap (a- b))):=rfl
@[simp] theorem vK:qj (.int .u64 a) (.int .u64 b)=.v (.int .u64 (IntKind.u64.wrap (a*b))):=rfl
@[simp] theorem KQ(h:b≠0):we (.int .u64 a) (.int .u64 b)=.v (.int .u64 (IntKind.u64.wrap (a.tdiv b))):=by simp only[we,IL,A6,h];rfl
@[simp] theorem asJ(h:b≠0):AH (.int .u64 a) (.int .u64 b)=.v (.int .u64 (a.tmod b)):=by simp only[AH,A6,h];rfl
theorem Oe:tK (.int .u64 a) (.int .u64 b)=some (if a<b then 0 else if a=b then 1 else 2):=by simp only[tK,qk,Ej];rfl
@[simp] theorem asK:ua (.int .u64 a) (.int .u64 b)=.v (.bool (decide (a<b))):=by simp only[ua,mc,Oe];by_cases h:a<b<;>by_cases e:a=b<;>simp[h,e]
@[simp] theorem asL:vq (.int .u64 a) (.int .u64 b)=.v (.bool (decide (a<=b))):=by simp only[vq,mc,Oe];by_cases h:a<b<;>by_cases e:a=b<;>simp[h,e]<;>omega
@[simp] theorem asM:uc (.int .u64 a) (.int .u64 b)=.v (.bool (decide (b<a))):=by simp only[uc,mc,Oe];by_cases h:a<b<;>by_cases e:a=b<;>simp[h,e]<;>omega
@[simp] theorem asN:vt (.int .u64 a) (.int .u64 b)=.v (.bool (decide (b<=a))):=by simp only[vt,mc,Oe];by_cases h:a<b<;>by_cases e:a=b<;>simp[h,e]<;>omega
@[simp] theorem lg{k:Int}(h:0<=k):sC (.int .u64 a) (.int .u64 k)=.v (.int .u64 (a.fdiv (2^(min k.toNat 64)))):=by obtain⟨n,rfl⟩:=at6 h;rfl
@[simp] theorem vL:ko .u64 (.i a)=.v (.int .u64 (IntKind.u64.wrap a)):=rfl
@[simp] theorem Of:ko .u64 (.int .u64 a)=.v (.int .u64 (IntKind.u64.wrap a)):=rfl
@[simp] theorem asO:ko .i64 (.int .u64 a)=.v (.i (w64 a)):=rfl
@[simp] theorem T'(h:n<=m)(h':m<256):jb (.u8 m) (.u8 n)=.v (.u8 (m- n)):=by show OR.v (.u8 (IntKind.u8.wrap ((m:Int)- n)).toNat)=_;rw[Go.IntKind.wrap_u8];congr 2;omega
@[simp] theorem asP(h:m+n<256):lG (.u8 m) (.u8 n)=.v (.u8 (m+n)):=by show OR.v (.u8 (IntKind.u8.wrap ((m:Int)+n)).toNat)=_;rw[Go.IntKind.wrap_u8];congr 2;omega
@[simp] theorem asQ:cJ .iface .ji .ji=some true:=rfl
@[simp] theorem asR{t v}:cJ .iface (.iface t v) .ji=some false:=rfl
@[simp] theorem asS{t v}:cJ .iface .ji (.iface t v)=some false:=rfl
@[simp] theorem asT:cJ (.Mc [26,202,215]) (.iface 215 (.i a)) (.iface 215 (.i b))=some (decide (a=b)):=by simp[cJ,BR,A6]
theorem asU(h:0<=a)(h':a<18446744073709551616):IntKind.u64.wrap a=a:=by rw[Go.IntKind.wrap_u64];omega
@[simp] theorem Og:IntKind.u64.wrap a=a% 18446744073709551616:=Go.IntKind.wrap_u64 ..
end
section
variable{h:Hp}{k:aK->Prop}{s:List UInt8}
theorem Ua:∀l n,(mg l n).length=l
 |0,_=>rfl
 |l+1,n=>by simp only[mg,atX,Ua l]
theorem Ub:∀l n j,(hj:j<(mg l n).length)->(mg l n)[j]=[.u8 (lF n j)]
 |0,_,_,h=>absurd h (avm _)
 |l+1,n,0,_=>by simp[mg,lF]
 |l+1,n,j+1,h=>by simp only[mg,auu];rw[Ub l _ j (by simpa[mg] using h)];show[AV.u8 ((n>>>8)>>>(8*j)% 256)]=[AV.u8 (n>>>(8*(j+1))% 256)];rw[<-awl,show 8+8*j=8*(j+1) from by omega]
theorem aiL(hl:s.length<1152921504606846976):∃t,BX h 5 (S s)=.vh (.slice h.nx 0 1 s.length s.length false) (h.push (.rows 5 1 s.length 0 t))/\∀j,(hj:j<s.length)->t j=[.u8 s[j].toNat]:=by refine⟨jy fG 0 (mg s.length (cO (s.map (·.toNat)))),?_,λj hj=>?_⟩;simp only[BX,S,ny,show s.length<=1152921504606846975 by omega,auS,cond,alloc];rfl;rw[wO (by rw[Ua];exact hj),Ub,Tb _ (λb hb=>by obtain⟨c,_,rfl⟩:=auR.1 hb;exact UInt8.toNat_lt _)];simp[List.getD,hj]
def kh(c:UInt8):Bool:=decide (48<=c.toNat)&&decide (c.toNat<=57)
def jS(s:List UInt8):Nat:=(s.takeWhile kh).length
theorem aaX{p:UInt8->Bool}:∀{l:List UInt8},l.all p=true->l.takeWhile p=l
 |[],_=>rfl
 |c::l,h=>by simp only[aw2,atW] at h;rw[avL h.1,aaX h.2]
theorem aiM:jS s<=s.length:=(aw9 _).length_le
theorem Uc(HT:aA T)(hl:s.length<1073741824)(hk:k (.ret (.i (jS s)) h)):aE T (W T) ⟨136⟩ [S s] h k:=by
 rw[aJ HT.t136];have key:∀(m i:Nat)(f:Fr)(K:aT->Prop),m=s.length- i->i<=s.length->(s.take i).all kh=true->J 3 f=.i i->J 0 f=S s->(∀f',J 3 f'=.i (jS s)->K (.exit 0 f' h []))->W T (.loop l136_0) f h [] K:=by
  intro m
  induction m with
  |zero=>
   intro i f K hm hi hd f3 f0 hk;have e:¬(i:Int)<s.length:=zo;have:jS s=i:=by have h1:s.take i=s:=avG zo;rw[h1] at hd;unfold jS;rw[aaX hd];omega
   rw[aP];refine aU f3 f0 e ?_;exact hk _ qbi
  |succ m ih=>
   intro i f K hm hi hd f3 f0 hk;have ao:i<s.length:=zo;have e:(i:Int)<s.length:=zo;rw[aP];have aaY:kh s[i]=false->jS s=i:=λq=>by
    unfold jS
    conv=>lhs;rw[<-av6 i s,aut ao]
    rw[List.takeWhile_append_of_pos (by simpa using hd),awb (by simp[q])];simp;omega
   by_cases c1:s[i].toNat<48
   have:=aaY (by simp[kh];omega);refine bK f3 f0 e c1 ?_;exact hk _ qbi
   by_cases c2:57<s[i].toNat
   have:=aaY (by simp[kh];omega);refine cC f3 f0 e c1 c2 ?_;exact hk _ qbi;refine cC f3 f0 e c1 c2 ?_;refine ih (i+1) _ _ zo zo ?_ aa zA hk;rw[avb ao,List.all_append,hd];simp[kh];omega
 refine ag ?_;refine key _ 0 _ _ rfl zo zm aa aa λf' f3=>?_;refine aB f3 ?_;exact hk
def Ag(s:List UInt8):Bool:=decide (s≠[])&&decide (jS s=s.length)&&(decide (s.length=1)||decide ((s.headD 0).toNat≠48))
theorem aaZ(HT:aA T)(hl:s.length<1073741824)(hk:k (.ret (.bool (Ag s)) h)):aE T (W T) ⟨111⟩ [S s] h k:=by
 rw[aJ HT.t111];cases s with
 |nil=>refine ag ?_;exact hk
 |cons c r=>
  refine ag ?_;refine Uc HT hl ?_
  by_cases e1:jS (c::r)=(c::r).length
  rw[atX] at e1
  by_cases e2:r=[]
  subst e2;simp only[Ag] at hk;simp(disch:=omega) [e1] at hk;refine aB e1 ?_;exact hk;have e3:¬((r.length:Int)+1=1):=by have:=auA.2 e2;omega
  simp only[Ag] at hk;simp(disch:=omega) [e1,e2,e3] at hk;refine aU e1 e2 e3 ?_;exact hk;rw[atX] at e1;have e1':¬((jS (c::r):Int)=r.length+1):=zo;simp only[Ag] at hk;simp(disch:=omega) [e1] at hk;refine aS e1 e1' ?_;exact hk
end
section
open Go (IntKind)
variable{h:Hp}{k:aK->Prop}{s:List UInt8}
theorem aa0(hd:jS s=s.length):∀j,(hj:j<s.length)->48<=s[j].toNat/\s[j].toNat<=57:=by
 intro j hj;have h1:s.takeWhile kh=s:=(aw9 _).eq_of_length hd;have h2:s[j]∈s.takeWhile kh:=by rw[h1];exact auy hj
 have:=List.all_takeWhile (p:=kh) (l:=s);rw[auO] at this;simpa[kh] using this _ h2
theorem aiN(HT:aA T){t:Nat->List AV}{b:Nat}(hb:h.get b=.rows 5 1 s.length 0 t)(ht:∀j,(hj:j<s.length)->t j=[.u8 s[j].toNat]) (hl:s.length<1073741824) (hd:jS s=s.length) {K:aT->Prop}
 (kx:∀f' x,0<=x->x<18446744073709551616->(s.length=1->x<10)->J 13 f'=.int .u64 x->J 12 f'=.bool false->K (.exit 3 f' h []))
 (kr:∀f' x,0<=x->x<18446744073709551616->s.length≠1->J 6 f'=.int .u64 x->J 7 f'=.iface 215 (.i 1)->K (.ret f' h [])):∀(m i:Nat)(f:Fr)(x:Int),m=s.length- i->i<=s.length->0<=x->x<18446744073709551616->(s.length=1->x<10/\(i=0->x=0))->
 J 99 f=.slice b 0 1 s.length s.length false->J 100 f=.i s.length->J 101 f=.i i->J 13 f=.int .u64 x->J 12 f=.bool false->J 8 f=.bool false->J 1 f=.i 10->J 10 f=.int .u64 1844674407370955162->J 11 f=.int .u64 18446744073709551615->W T (.loop l162_0) f h [] K:=by
 intro m
 induction m with
 |zero=>
  intro i f x hm hi h0 h1 h2 f99 f100 f101 f13 f12 f8 f1 f10 f11;have e:¬i<s.length:=zo;rw[aP];refine bK f99 f100 f101 e ?_;exact kx _ x h0 h1 (λq=>(h2 q).1) zA zA
 |succ m ih=>
  intro i f x hm hi h0 h1 h2 f99 f100 f101 f13 f12 f8 f1 f10 f11;have ao:i<s.length:=zo;obtain⟨d1,d2⟩:=aa0 hd i ao;have jL:=ht i ao;rw[aP];have e1:¬s[i].toNat=95:=zo;have e2:s[i].toNat- 48<10:=zo;generalize hc:s[i].toNat=c at*;obtain⟨q,rfl⟩:∃q,c=q+48:=⟨c- 48,by omega⟩;have d3:¬10<=q:=zo;have d4:q<10:=zo;have d5:q<=9:=zo
  by_cases c1:1844674407370955162<=x
  refine kC f99 f100 f101 f13 f12 f8 f1 f10 f11 hb jL e1 (atQ (atQ (atQ (atQ (atQ (atQ d1 d2) d3) d4) d5) ao) c1) ?_;exact kr _ 18446744073709551615 zd zd (λq=>by have:=h2 q;omega) aa aa;have w1:x*10% 18446744073709551616=x*10:=zo
  by_cases c2:(x*10+q)% 18446744073709551616<x*10
  refine kC f99 f100 f101 f13 f12 f8 f1 f10 f11 hb jL e1 (atQ (atQ (atQ (atQ (atQ (atQ (atQ (atQ d1 d2) d3) d4) d5) ao) c1) c2) w1) ?_;exact kr _ 18446744073709551615 zd zd (λq=>by have:=h2 q;omega) aa aa;have c3:¬18446744073709551615<(x*10+q)% 18446744073709551616:=zo;refine kC f99 f100 f101 f13 f12 f8 f1 f10 f11 hb jL e1 (atQ (atQ (atQ (atQ (atQ (atQ (atQ (atQ (atQ d1 d2) d3) d4) d5) ao) c1) c2) c3) w1) ?_;refine ih (i+1) _ ((x*10+q)% 18446744073709551616) zo zo zo zo (λq=>by have:=h2 q;omega) zA zA aa aa zA zA zA zA zA
theorem aiO(HT:aA T)(hl:s.length<1073741824)(hn:s≠[])(hd:jS s=s.length)
 (hk:∀x e h',ax h h'->0<=x->x<18446744073709551616->(e=.ji/\(s.length=1->x<10)\/s.length≠1/\e=.iface 215 (.i 1))->k (.ret (.bA [.int .u64 x,e]) h')):aE T (W T) ⟨162⟩ [S s,.i 10,.i 64] h k:=by
 rw[aJ HT.t162];obtain⟨t,e1,ht⟩:=aiL (h:=h) (s:=s) zo;generalize hL:CC.loop l162_0=L;refine aS hn e1 ?_;subst hL;refine aiN HT (Hp.br rfl) ht hl hd ?_ ?_ _ 0 _ 0 rfl zo zd zd (λ_=>⟨by decide,λ_=>rfl⟩) ?_ ?_ ?_ ?_ ?_ ?_ ?_ ?_ ?_;intro f' x h0 h1 h2 f13 f12;refine aS f13 f12 ?_;exact hk _ _ _ aZ h0 h1 (.inl ⟨rfl,h2⟩);intro f' x h0 h1 h2 f6 f7;refine aS f6 f7 ?_;exact hk _ _ _ aZ h0 h1 (.inr ⟨h2,rfl⟩)
 all_goals simp(disch:=omega)
theorem aiP(HT:aA T)(hl:s.length<1073741824)(hn:s≠[])(hd:jS s=s.length)
 (hk:∀x e h',ax h h'->(e=.ji\/s.length≠1/\e=.iface 215 (.i 1))->k (.ret (.bA [.i x,e]) h')):aE T (W T) ⟨137⟩ [S s,.i 10,.i 64] h k:=by
 rw[aJ HT.t137];obtain⟨c,r,rfl⟩:∃c r,s=c::r:=by cases s with|nil=>exact absurd rfl hn|cons c r=>exact⟨c,r,rfl⟩
 have d0:=aa0 hd 0 zm;simp only[aus] at d0;have d1:¬c.toNat=43:=zo;have d2:¬c.toNat=45:=zo;refine aS d1 d2 ?_;refine aiO HT hl hn hd λx e h' g h0 h1 he=>?_;rcases he with⟨rfl,he⟩|⟨he,rfl⟩
 by_cases c1:9223372036854775808<=x
 refine aB c1 ?_;exact hk _ _ _ g (.inr ⟨λq=>by have:=he q;omega,rfl⟩);refine aB c1 ?_;exact hk _ _ _ g (.inl rfl);refine ag ?_
 by_cases c1:9223372036854775808<=x
 refine aB c1 ?_;exact hk _ _ _ g (.inr ⟨he,rfl⟩);refine aB c1 ?_;exact hk _ _ _ g (.inl rfl)
def ry(h:Hp)(i:Nat):Prop:=i<h.nx/\∃t v,cellsOf (h.get i) 0 1=some [.iface t v]
theorem ry.mono{h':Hp}{i}(x:ry h i)(g:ax h h'):ry h' i:=by obtain⟨h1,t,v,e⟩:=x;exact⟨aur h1 g.nx,t,v,by rw[g.get _ h1 id];exact e⟩
theorem aa1:∀(l:List (List AV))(t:N3 (List AV))(q n:Nat),q+l.length<=n->(∀j,j<n->∃u,u<256/\t j=[.u8 u])->(∀r∈l,∃u,u<256/\r=[.u8 u])->
 ∃t',yW (.rows 5 1 n 0 t) q 1 l=some (.rows 5 1 n 0 t')/\∀j,j<n->∃u,u<256/\t' j=[.u8 u]
 |[],t,q,n,_,ht,_=>⟨t,rfl,ht⟩
 |r::l,t,q,n,h2,ht,h3=>by obtain⟨u,hu,rfl⟩:=h3 r zm;simp only[atX] at h2;obtain⟨w,hw,e⟩:=ht q zo;have:=aa1 l (cx t q [.u8 u]) (q+1) n zo (λj hj=>by rw[dZ];split;exact⟨u,hu,rfl⟩;exact ht j hj) (λr hr=>h3 r (by simp[hr]));obtain⟨t',e1,e2⟩:=this;refine⟨t',?_,e2⟩;simp only[yW];rw[ag4 zo zo,e];exact e1
theorem aa2(HT:aA T)(hl:s.length<1073741824)(hk:∀l n h',ax h h'->k (.ret (.str l n) h')):aE T (W T) ⟨187⟩ [S s] h k:=by
 rw[aJ HT.t187];cases s with
 |nil=>refine ag ?_;exact hk 0 0 _ aZ
 |cons c r=>
  have e:¬((r.length:Int)+1=0):=zo;simp only[atX] at hl;have em:DB h 5 1 1 [.u8 0] (.i ((r.length:Int)+1)) (.i ((r.length:Int)+1))=.vh (.slice h.nx 0 1 (r.length+1) (r.length+1) true) (h.push (.rows 5 1 (r.length+1) 0 (qm [.u8 0] (r.length+1) 0 fG))):=aan (n:=r.length+1) zo zo;obtain⟨t',e1,e2⟩:=aa1 (mg (r.length+1) (cO ((c::r).map (·.toNat)))) (qm [.u8 0] (r.length+1) 0 fG) 0 (r.length+1) (by rw[Ua];omega) (λj hj=>⟨0,by decide,by rw[aao,atV zo]⟩) (λq hq=>by obtain⟨j,hj,rfl⟩:=avC hq;exact⟨_,avn _ zd,Ub _ _ _ hj⟩)
  generalize qm [.u8 0] (r.length+1) 0 fG=z at*;have ec:∀H:Hp,H.get h.nx=.rows 5 1 (r.length+1) 0 z->FV H 1 (.slice h.nx 0 1 (r.length+1) (r.length+1) true) (S (c::r))=.vh (.i (r.length+1)) (H.set h.nx (.rows 5 1 (r.length+1) 0 t')):=λH eH=>by simp only[FV,S,lenOf,atX,show Nat.min (r.length+1) (r.length+1)=r.length+1 from Nat.min_self _,Mp,tZ,auS,cond,eH];obtain⟨x,L,eL⟩:∃x L,mg (r.length+1) (cO ((c::r).map (·.toNat)))=x::L:=⟨_,_,rfl⟩;rw[eL] at e1⊢;simp only[e1];rfl
  simp(disch:=omega) [e,em,ec _ (Hp.br (h:=h) rfl)];obtain⟨l,x1,x2,x3⟩:=Tm (t:=t') (r.length+1) 0 λj _ h2=>e2 j zo;have er:kZ (.rows 5 1 (r.length+1) 0 t') 0 1 (r.length+1)=some (dw t' (r.length+1) 0):=NL zd zl;have eu:∀H:Hp,H.get h.nx=.rows 5 1 (r.length+1) 0 t'->AL H 5 (.ptr h.nx 0) (.i ((r.length:Int)+1))=.vh (.str (r.length+1) (cO l)) (H.set h.nx .eD):=λH eH=>by have en:mM (.i ((r.length:Int)+1))=some (r.length+1):=rfl;unfold AL;rw[en];simp only[eH,tZ,auS,cond,J9,er,x1]
  simp(disch:=omega) [eu _ (Hp.bR rfl)];exact hk _ _ _ aZ
theorem aiQ(HT:aA T){p:List UInt8}(hl:s.length<1073741824)(h6:ry h 6)(hk:∀v h',ax h h'->k (.ret v h')):aE T (W T) ⟨164⟩ [S p,S s] h k:=by
 rw[aJ HT.t164];obtain⟨h6,t,v,e6⟩:=h6;refine aB e6 ?_;refine aa2 HT hl λw w' h1 g1=>?_;have e1:cellsOf (h1.get 6) 0 1=some [.iface t v]:=by rw[g1.get _ h6 id];exact e6
 refine aB e1 ?_;exact hk _ _ aZ
theorem aa3(HT:aA T){p:List UInt8}{b z:Int}(hl:s.length<1073741824)(h6:ry h 6)(hk:∀v h',ax h h'->k (.ret (.iface 218 v) h')):aE T (W T) ⟨138⟩ [S p,S s,.i b,.i z,.iface 215 (.i 1)] h k:=by rw[aJ HT.t138];refine ag ?_;refine aiQ HT hl h6 λv h1 g1=>?_;refine ag ?_;exact hk _ _ aZ
theorem aiR(HT:aA T)(hl:s.length<1073741824)(hn:s≠[])(hd:jS s=s.length)(h6:ry h 6)
 (hk:∀x e h',ax h h'->(e=.ji\/s.length≠1/\∃v,e=.iface 218 v)->k (.ret (.bA [.i x,e]) h')):aE T (W T) ⟨112⟩ [S s,.i 10,.i 64] h k:=by
 rw[aJ HT.t112];refine ag ?_;refine aiP HT hl hn hd λx e h1 g1 he=>?_;rcases he with rfl|⟨he,rfl⟩;refine ag ?_;exact hk _ _ _ aZ (.inl rfl);refine ag ?_;refine aa3 HT hl (h6.mono g1) λv h2 g2=>?_;refine ag ?_;exact hk _ _ _ (g1.trans g2) (.inr ⟨he,_,rfl⟩)
theorem aiS:∀c:UInt8,c∈rj->kh c=true:=by decide
theorem aiT(HT:aA T)(h6:ry h 6):Cz T h:=by
 intro s k hl hk;rw[aJ HT.t79];refine ag ?_;refine aaZ HT hl ?_;cases hb:Ag s with
 |false=>
  refine ag ?_;refine hk _ _ _ aZ λ⟨h1,h2⟩=>?_;obtain⟨c,rfl⟩:=List.length_eq_one_iff.1 h1;have hc:c∈rj:=by
   by_cases hc:c∈rj
   exact hc;simp[dU,sW,hc] at h2
  simp[Ag,jS,aiS c hc] at hb
 |true=>
  simp only[Ag,atW,auU] at hb;refine ag ?_;refine aiR HT hl hb.1.1 hb.1.2 h6 λx e h1 g1 he=>?_;rcases he with rfl|⟨he,v,rfl⟩;refine ag ?_;exact hk _ _ _ aZ λ_=>rfl;refine ag ?_;exact hk _ _ _ aZ λq=>absurd q.1 he
def KR(c:UInt8):Prop:=kh c=true\/c=46\/c=101\/c=43\/c=45
structure qa(s:List UInt8):Prop where
 ne:s≠[]
 hd:kh (s.headD 0)=true
 all:∀c∈s,KR c
theorem Oh:∀{s:List UInt8},∀c∈s.take (jS s),kh c=true
 |[],c,h=>by simp at h
 |a::s,c,h=>by
  unfold jS at h
  by_cases e:kh a=true
  rw[avL e,atX,awj] at h;rcases atZ.1 h with q|q;rw[q];exact e;exact Oh c q;rw[awb e] at h;simp at h
theorem aa4(e:jS s=s.length):∀c∈s,kh c=true:=by have:=@Oh s;rwa[e,List.take_length] at this
theorem aiU{c:UInt8}(h:(iz s c).2.2 =true):s=(iz s c).1 ++c::(iz s c).2.1 :=by unfold iz at h⊢;split at h;rename_i hc;rw[atV hc];have i:=avD hc;have e:s[s.idxOf c]=c:=List.getElem_idxOf i;have:=av6 (s.idxOf c) s;rw[aut i,e] at this;exact this.symm;simp at h
theorem aa5{a rest p q:List UInt8}(es:s=a++46::rest)(ha:Ag a=true)(er:rest=p++q)(hp:∀c∈p,kh c=true) (hq:∀c∈q,KR c):qa s:=by
 simp only[Ag,atW,auU] at ha;have hA:=aa4 ha.1.2;subst es er;refine⟨by simp,?_,λc hc=>?_⟩;cases a with
 |nil=>exact absurd rfl ha.1.1
 |cons x a=>exact hA x zm
 rcases auj.1 hc with m|m;exact .inl (hA c m);rcases atZ.1 m with m|m;exact .inr (.inl m);rcases auj.1 m with m|m;exact .inl (hp c m);exact hq c m
theorem ff{P:Prop}:false=true->P:=nofun
theorem aiV(HT:aA T)(hl:s.length<1073741824)(hk:∀b,(b=true->qa s)->k (.ret (.bool b) h)):aE T (W T) ⟨113⟩ [S s] h k:=by
 rw[aJ HT.t113];generalize qE:QT=T4;refine ag ?_;refine Th HT zo ?_;refine ag ?_;cases his:(iz s 46).2.2 with
 |false=>refine ag ?_;exact hk _ ff
 |true=>
  have es:=aiU his;have le:s.length=(iz s 46).1.length+1+(iz s 46).2.1.length:=by
   conv=>lhs;rw[es]
   simp;omega
  generalize(iz s 46).1 =a at es le⊢;generalize(iz s 46).2.1 =rest at es le⊢;refine ag ?_;refine aaZ HT zo ?_;cases hn:Ag a with
  |false=>refine ag ?_;exact hk _ ff
  |true=>
   subst qE;unfold QT;generalize HA:QS=T7;refine ag ?_;refine Uc HT zo ?_;have rl:=@aiM rest
   by_cases r0:jS rest=0
   refine aB r0 ?_;exact hk _ ff;have r0':¬((jS rest:Nat):Int)=0:=zo;subst HA;unfold QS;generalize EF:QO=Oi;refine aS r0 r0' ?_;refine Tg HT zn ?_;have hd:=av6 (jS rest) rest;cases hp:eP (rest.drop (jS rest)) [101] with
   |false=>
    refine ag ?_
    by_cases e:jS rest=rest.length
    refine aB e ?_;exact hk _ λ_=>aa5 es hn hd.symm Oh λc hc=>by rw[e,List.drop_length] at hc;cases hc
    have e':¬((jS rest:Nat):Int)=rest.length:=zo;refine aS e e' ?_;exact hk _ ff
   |true=>
    subst EF;unfold QO;generalize KT:Xx=EG;have hx:∃pw,rest.drop (jS rest)=101::pw:=by
     generalize rest.drop (jS rest)=z at hp
     match z,hp with
     |[],hp=>simp[eP] at hp
     |c::z,hp=>simp[eP] at hp;exact⟨z,by rw[hp]⟩
    obtain⟨pw,ex⟩:=hx;rw[ex];have lp:pw.length<1073741824:=by have:=aui List.length ex;simp at this;omega
    have cM:∀(p2:List UInt8)(f:Fr),p2.length<1073741824->J 7 f=S p2->(jS p2=p2.length->qa s)->W T EG f h [] (finish T (W T) [.tmp 2] k):=by
     intro p2 f l2 f7 hh;subst KT
     by_cases c1:p2=[]
     subst c1;refine aB f7 ?_;exact hk _ ff
     by_cases c2:p2.length<=3
     have c2':(p2.length:Int)<=3:=zo;refine bK f7 c1 c2 c2' ?_;refine Uc HT zo ?_
     by_cases c3:jS p2=p2.length
     refine aS f7 c3 ?_;exact hk _ λ_=>hh c3;have c3':¬((jS p2:Nat):Int)=p2.length:=zo;refine aU f7 c3 c3' ?_;exact hk _ ff;have c2':¬(p2.length:Int)<=3:=zo;refine bK f7 c1 c2 c2' ?_;exact hk _ ff
    have b8:∀(p1 p2:List UInt8),101::pw=p1++p2->(∀c∈p1,KR c)->jS p2=p2.length->qa s:=λp1 p2 e h1 h2=>
     aa5 es hn hd.symm Oh λc hc=>by rw[ex,e] at hc;rcases auj.1 hc with m|m;exact h1 c m;exact .inl (aa4 h2 c m)
    cases pw with
    |nil=>
     refine ag ?_;exact cM [] _ zm aa λ_=>b8 [101] [] rfl (λc hc=>by simp at hc;exact .inr (.inr (.inl hc))) rfl
    |cons x pw=>
     simp only[atX] at lp;have sl:wh (S (x::pw)) (some (.i 1)) none=.v (S pw):=by rw[ahb zd zn];rfl
     by_cases x1:x=43
     subst x1;have x1:=rfl (a:=(43:UInt8));refine aB sl ?_;exact cM pw _ zo aa λq=>b8 [101,43] pw (by rw[x1];rfl) (λc hc=>by simp at hc;rcases hc with c|c;exact .inr (.inr (.inl c));exact .inr (.inr (.inr (.inl c)))) q
     by_cases x2:x=45
     subst x2;have x2:=rfl (a:=(45:UInt8));refine aB sl ?_;exact cM pw _ zo aa λq=>b8 [101,45] pw (by rw[x2];rfl) (λc hc=>by simp at hc;rcases hc with c|c;exact .inr (.inr (.inl c));exact .inr (.inr (.inr (.inr c)))) q;have x1':¬x.toNat=43:=λe=>x1 (avi.1 e);have x2':¬x.toNat=45:=λe=>x2 (avi.1 e);refine aS x1' x2' ?_;exact cM (x::pw) _ zn aa λq=>b8 [101] (x::pw) rfl (λc hc=>by simp at hc;exact .inr (.inr (.inl hc))) q
end
section
open Go (IntKind)
def kO(D:Nat->Nat)(nd dp:Int)(ng tr:Bool):List AV:=(List.range 800).map (λi=>.u8 (D i))++[.i nd,.i dp,.bool ng,.bool tr]
section
variable{D:Nat->Nat}{nd dp:Int}{ng tr:Bool}{i:Nat}{v:AV}
theorem EH{α:Type}{x:α}:∀{l:List α}{i:Nat},l[i]? =some x->gK 1 (kH i l)=some [x]
 |[],i,h=>by simp at h
 |a::l,0,h=>by simp at h;subst h;rfl
 |a::l,i+1,h=>EH (l:=l) qba
theorem Ud{α:Type}{x:α}:∀{l:List α}{i:Nat},i<l.length->mK i [x] l=some (l.set i x)
 |[],i,h=>by simp at h
 |a::l,0,_=>rfl
 |a::l,i+1,h=>by show(match mK i [x] l with|some r'=>some (a::r')|none=>none)=_;rw[Ud qba];rfl
theorem HC(hi:i<800):(kO D nd dp ng tr)[i]? =some (.u8 (D i)):=by unfold kO;rw[aun (by simp;exact hi)];simp[hi]
theorem CQ(j:Nat):(kO D nd dp ng tr)[800+j]? =[AV.i nd,.i dp,.bool ng,.bool tr][j]? :=by unfold kO;rw[auq zm];simp
@[simp] theorem asV(hi:i<800):gK 1 (kH i (kO D nd dp ng tr))=some [.u8 (D i)]:=EH (HC hi)
@[simp] theorem asW:gK 1 (kO D nd dp ng tr)=some [.u8 (D 0)]:=EH (i:=0) (HC zd)
@[simp] theorem asX:gK 1 (kH 800 (kO D nd dp ng tr))=some [.i nd]:=EH (CQ 0)
@[simp] theorem asY:gK 1 (kH 801 (kO D nd dp ng tr))=some [.i dp]:=EH (CQ 1)
@[simp] theorem asZ:gK 1 (kH 802 (kO D nd dp ng tr))=some [.bool ng]:=EH (CQ 2)
@[simp] theorem as0:gK 1 (kH 803 (kO D nd dp ng tr))=some [.bool tr]:=EH (CQ 3)
theorem KU:(kO D nd dp ng tr).length=804:=by simp[kO]
def qb(D:Nat->Nat)(i v:Nat):Nat->Nat:=λj=>if j=i then v else D j
@[simp] theorem as1{u:Nat}(hi:i<800):mK i [.u8 u] (kO D nd dp ng tr)=some (kO (qb D i u) nd dp ng tr):=by
 rw[Ud (by rw[KU];omega)];refine aui some (avs λj=>?_);rw[awt,KU,atV (by omega:i<804)];rcases avh j 800 with c|c;rw[HC c,HC c,qb]
 by_cases e:i=j
 rw[atV e,atV e.symm];rw[atS e,atS (Ne.symm e)];obtain⟨q,rfl⟩:=awp c;rw[CQ,CQ,atS zo]
theorem Oj{D:Nat->Nat}{nd dp cG lz:Int}{ng tr yw fT:Bool}{q:Nat}(hq:q<4)(h:∀j,[AV.i cG,.i lz,.bool yw,.bool fT][j]? =if q=j then some v else[AV.i nd,.i dp,.bool ng,.bool tr][j]?):mK (800+q) [v] (kO D nd dp ng tr)=some (kO D cG lz yw fT):=by
 rw[Ud (by rw[KU];omega)];refine aui some (avs λj=>?_);rw[awt,KU,atV (by omega:800+q<804)];rcases avh j 800 with c|c;rw[HC c,HC c,atS zo];obtain⟨j,rfl⟩:=awp c;rw[CQ,CQ,h j]
 by_cases e:q=j
 rw[atV zo,atV e];rw[atS zo,atS e]
theorem aau{P:Nat->Prop}(h:∀j,j<4->P j) (h4:∀j,P (j+4)):∀j,P j:=λj=>by rcases avh j 4 with c|c;exact h j c;obtain⟨q,rfl⟩:=awp c;rw[awR];exact h4 q
@[simp] theorem as2{n:Int}:mK 800 [.i n] (kO D nd dp ng tr)=some (kO D n dp ng tr):=
 Oj (q:=0) zd λj=>by match j with|0=>rfl|1=>rfl|2=>rfl|3=>rfl|_+4=>rfl
@[simp] theorem as3{n:Int}:mK 801 [.i n] (kO D nd dp ng tr)=some (kO D nd n ng tr):=
 Oj (q:=1) zd λj=>by match j with|0=>rfl|1=>rfl|2=>rfl|3=>rfl|_+4=>rfl
@[simp] theorem as4{n:Bool}:mK 802 [.bool n] (kO D nd dp ng tr)=some (kO D nd dp n tr):=
 Oj (q:=2) zd λj=>by match j with|0=>rfl|1=>rfl|2=>rfl|3=>rfl|_+4=>rfl
@[simp] theorem as5{n:Bool}:mK 803 [.bool n] (kO D nd dp ng tr)=some (kO D nd dp ng n):=
 Oj (q:=3) zd λj=>by match j with|0=>rfl|1=>rfl|2=>rfl|3=>rfl|_+4=>rfl
end
section
variable{h:Hp}{k:aK->Prop}{D:Nat->Nat}{b nd:Nat}{dp:Int}{ng tr:Bool}
@[simp] theorem as6{b:Nat}{a:Int}(h0:0<=a)(h1:a<800):yY 1 800 (.ptr b 0) (.i a)=.v (.ptr b a.toNat):=by obtain⟨q,rfl⟩:=at6 h0;have h1:q+1<=800:=zo;simp[yY,h1]
def bM(h:Hp)(b:Nat)(D:Nat->Nat)(nd:Nat)(dp:Int)(ng tr:Bool):Prop:=h.get b=.one 270 (kO D nd dp ng tr)
theorem aa6(HT:aA T)(x:bM h b D nd dp ng tr)(hn:nd<=800)(hk:∀h' cG,ah (·=b) h h'->bM h' b D cG (if cG=0 then 0 else dp) ng tr->cG<=nd->(0<nd->D 0≠48->0<cG)->k (.ret (.bA []) h')):aE T (W T) ⟨239⟩ [.ptr b 0] h k:=by
 rw[aJ HT.t239];generalize pY:XU=T2;generalize hL:CC.loop l239_0=L;refine ag ?_;subst hL;have b8:∀(m:Nat)(h1:Hp)(f:Fr),ah (·=b) h h1->bM h1 b D m dp ng tr->m<=nd->(0<nd->D 0≠48->0<m)->J 0 f=.ptr b 0->W T T2 f h1 [] (finish T (W T) [] k):=by
  intro m h1 f g x1 hm h0 f0;have x1':=x1;unfold bM at x1';subst pY;have e1:((m:Int)=0)=(m=0):=by simp
  by_cases e:m=0
  subst e;refine aS f0 x1' ?_;exact hk _ 0 (g.set _ (.inr rfl)) (Hp.bR rfl) hm h0;refine aU f0 x1' e ?_;exact hk _ m g (by rw[atS e];exact x1) hm h0
 have key:∀(m:Nat)(h1:Hp)(f:Fr),ah (·=b) h h1->bM h1 b D m dp ng tr->m<=nd->(0<nd->D 0≠48->0<m)->J 0 f=.ptr b 0->W T (.loop l239_0) f h1 [] (bY 0 (bF (W T T2) (finish T (W T) [] k))):=by
  intro m
  induction m with
  |zero=>
   intro h1 f g x1 hm h0 f0;have x1':=x1;unfold bM at x1';rw[aP];show W T Jx f h1 [] _;unfold Jx;generalize ju:CC.aR r239_0=Dr;refine ag ?_;subst ju;rw[lI,mu];generalize ku _ _=fm;refine aS f0 x1' ?_;exact b8 0 h1 _ g x1 hm h0 zA
  |succ m ih=>
   intro h1 f g x1 hm h0 f0;have x1':=x1;unfold bM at x1';have p1:0<m+1:=zo;have p2:((m+1:Nat):Int)- 1=m:=zo;have p3:m<800:=zo;rw[aP];generalize hL:CC.loop l239_0=L at ih⊢;show W T Jx f h1 [] _;unfold Jx;generalize ju:CC.aR r239_0=Dr;refine ag ?_;subst ju;rw[lI,mu];generalize ku _ _=fm
   by_cases e:D m=48
   refine cq f0 x1' p1 p2 p3 e ?_;refine ih _ _ (g.set _ (.inr rfl)) (Hp.bR rfl) zo (λa c=>?_) zA;rcases auP m with q|q;subst q;exact absurd e c;exact q;refine cq f0 x1' p1 p2 p3 e ?_;exact b8 (m+1) h1 _ g x1 hm h0 zA
 exact key nd h _ (ah.refl _) x zl (λa _=>a) aa
end
end
section
variable{D C:Nat->Nat}{m n i j k:Nat}
def V(D:Nat->Nat):Nat->Nat
 |0=>0
 |m+1=>10*V D m+(D m- 48)
def th(D:Nat->Nat)(n:Nat):Prop:=∀i,i<n->48<=D i/\D i<=57
theorem KV(h:th D n):∀m,m<=n->V D m<10^m
 |0,_=>by simp[V]
 |m+1,hm=>by have:=KV h m zo;have:=h m zo;rw[V,auX];omega
theorem Ue(i j:Nat):V D (i+j)=V D i*10^j+V (λq=>D (i+q)) j:=by
 induction j with
 |zero=>simp[V]
 |succ j ih=>rw[<-avg,V,ih,V,auX,Nat.mul_add];rw[show 10*(V D i*10^j)=V D i*(10^j*10) by rw[auB 10,avM]];omega
theorem th.drop(h:th D n)(i:Nat):th (λq=>D (i+q)) (n- i):=λq hq=>h (i+q) zo
theorem Ok(hi:i<=n):V D i*10^(n- i)<=V D n:=by have:=Ue (D:=D) i (n- i);rw[show i+(n- i)=n by omega] at this;omega
theorem aa7(h:th D n)(hi:i<=n):V D n<(V D i+1)*10^(n- i):=by have a:=Ue (D:=D) i (n- i);have b:=KV (h.drop i) (n- i) zl;rw[show i+(n- i)=n by omega] at a;rw[auC,avz];omega
theorem Uf(h:∀j,j<i->D j=C j):V D i=V C i:=by
 induction i with
 |zero=>rfl
 |succ i ih=>rw[V,V,ih λj hj=>h j zo,h i zo]
theorem KW(h:th D n)(h0:0<n)(hd:D 0≠48):(D 0- 48)*10^(n- 1)<=V D n/\1<=D 0- 48:=by
 have a:=Ok (D:=D) (i:=1) (n:=n) zo;have e:V D 1=D 0- 48:=by simp[V]
 rw[e] at a;have:=h 0 h0;exact⟨a,by omega⟩
theorem aa8{a b:Nat}(hD:th D a)(h:∀j,j<i->D j=C j) (ha:i<a) (hb:i<b) (h1:D i<C i) (h2:48<=D i):V D a*10^b<V C b*10^a:=by
 have e:=Uf h;have x:=aa7 hD (i:=i+1) zo;have y:=Ok (D:=C) (i:=i+1) (n:=b) zo;have z:V D (i+1)+1<=V C (i+1):=by rw[V,V,e];omega
 have p:0<10^b:=auZ zd;have q1:V D a*10^b<(V D (i+1)+1)*10^(a- (i+1))*10^b:=avE x p;have q2:(V D (i+1)+1)*10^(a- (i+1))*10^b<=V C (i+1)*10^(a- (i+1))*10^b:=at4 _ (at4 _ z);have q3:V C (i+1)*10^(b- (i+1))*10^a<=V C b*10^a:=at4 _ y;have q4:V C (i+1)*10^(a- (i+1))*10^b=V C (i+1)*10^(b- (i+1))*10^a:=by rw[avM,avM,<-auT,<-auT];congr 2;omega
 omega
theorem aiW{a b:Nat}(h:∀j,j<a->D j=C j) (hb:a<b) (hl:48<C (b- 1)):V D a*10^b<V C b*10^a:=by
 have e:=Uf h;have y:=Ok (D:=C) (i:=a) (n:=b- 1) zo;have z:V C b=10*V C (b- 1)+(C (b- 1)- 48):=by
  conv=>lhs;rw[show b=(b- 1)+1 by omega]
  rfl
 have p:0<10^a:=auZ zd;have q1:V C a*10^(b- 1- a)*10<V C b:=zo;have q2:=avE q1 p;rw[e];have q3:V C a*10^(b- 1- a)*10*10^a=V C a*10^b:=by rw[avM,avM,<-Nat.pow_succ',<-auT];congr 2;omega
 omega
theorem aiX{a b:Nat}(h:∀j,j<b->D j=C j) (hb:b<=a):V C b*10^a<=V D a*10^b:=by
 have e:=Uf h;have y:=Ok (D:=D) (i:=b) (n:=a) hb;have q:=at4 (10^b) y;rw[<-e];have q4:V D b*10^(a- b)*10^b=V D b*10^a:=by rw[avM,<-auT];congr 2;omega
 omega
end
section
open Go (IntKind)
variable{h:Hp}{k:aK->Prop}{D:Nat->Nat}{b nd:Nat}{dp:Int}{ng tr:Bool}{C:List UInt8}
def Cn(C:List UInt8):Nat->Nat:=λi=>(C.getD i 0).toNat
theorem aiY(HT:aA T)(x:bM h b D nd dp ng tr)(hn:nd<=800){cap:Nat}{ex:Bool}(hD:th D nd)(hC:th (Cn C) C.length)(hl:C.length<100)(aiZ:0<C.length->48<Cn C (C.length- 1))
 (hk:∀r:Bool,(r=true->V D nd*10^C.length<V (Cn C) C.length*10^nd)->(r=false->V (Cn C) C.length*10^nd<=V D nd*10^C.length)->k (.ret (.bool r) h)):aE T (W T) ⟨238⟩ [.slice b 0 1 nd cap ex,S C] h k:=by
 rw[aJ HT.t238];generalize Ol:XT=T8;have x':=x;unfold bM at x';have key:∀(m i:Nat)(f:Fr),m=C.length- i->i<=C.length->(∀j,j<i->D j=Cn C j)->i<=nd->J 5 f=.i i->J 0 f=.slice b 0 1 nd cap ex->J 1 f=S C->W T (.loop l238_0) f h [] (bY 0 (bF (W T T8) (finish T (W T) [.tmp 4] k))):=by
  intro m
  induction m with
  |zero=>
   intro i f hm hi he gD f5 f0 f1;have e:i=C.length:=zo;subst e;rw[aP];show W T Jw f h [] _;unfold Jw;refine aU f5 f0 f1 ?_;subst Ol;refine ag ?_;exact hk false nofun λ_=>aiX he gD
  |succ m ih=>
   intro i f hm hi he gD f5 f0 f1;have ao:i<C.length:=zo;have aY:(i:Int)<C.length:=zo;rw[aP];generalize hL:CC.loop l238_0=L at ih⊢;show W T Jw f h [] _;unfold Jw;generalize ju:CC.aR r238_5=Dr;generalize Ah:CC.aR r238_6=KX
   by_cases c:nd<=i
   have c':(nd:Int)<=i:=zo;refine iR f5 f0 f1 ao aY c c' ?_;obtain rfl:i=nd:=zo;exact hk true (λ_=>aiW he ao (aiZ zo)) nofun;have c1:i<nd:=zo;have c2:i<800:=zo;have c':¬(nd:Int)<=i:=zo;have ec:(C[i]?.getD 0).toNat=Cn C i:=by unfold Cn;rw[aub]
   have Ug:(C[i]).toNat=Cn C i:=by rw[<-ec,atT ao];rfl
   refine fY f5 f0 f1 ao aY c c' c1 ?_;subst ju;rw[lI,mu];generalize ku _ _=fm;have hd:=hD i c1;have hc:=hC i ao
   by_cases e:D i=Cn C i
   refine kC f5 f0 f1 ao aY c c' c1 c2 x' ec Ug e ?_;refine ih (i+1) _ zo zo (λj hj=>?_) zo aa zA zA
   by_cases q:j=i
   rw[q];exact e;exact he j zo;have nl:∀r:Bool,(r=true <-> D i<Cn C i)->k (.ret (.bool r) h):=λr hr=>hk r (λq=>aa8 hD he c1 ao (hr.1 q) hd.1) λq=>axM (aa8 hC (λj hj=>(he j hj).symm) ao c1 (by
    have:¬D i<Cn C i:=λz=>by rw[hr.2 z] at q;cases q
    omega) hc.1)
   refine kC f5 f0 f1 ao aY c c' c1 c2 x' ec Ug e ?_;subst Ah;rw[lI,mu];generalize ku _ _=fm;refine kC f5 f0 f1 ao aY c c' c1 c2 x' ec Ug e ?_;exact nl _ zm
 refine ag ?_;subst Ol;exact key _ 0 _ rfl (auz _) (λj hj=>by omega) (auz _) aa aa aa
end
section
open Go (IntKind)
variable{a b c d k:Nat}
theorem Ai(h:a<18446744073709551616):IntKind.u64.wrap (a:Int)=a:=by rw[Go.IntKind.wrap_u64];omega
theorem KY(h:a<256):ko .u64 (.u8 a)=.v (.int .u64 (a:Int)):=by show OR.v (.int .u64 (IntKind.u64.wrap (Int.ofNat a)))=_;rw[show Int.ofNat a=(a:Int) from rfl,Ai zo]
theorem EI(h:a+b<18446744073709551616):lG (.int .u64 (a:Int)) (.int .u64 (b:Int))=.v (.int .u64 ((a+b:Nat):Int)):=by rw[vJ,<-Int.natCast_add,Ai h]
theorem HD(h:b<=a)(h2:a<18446744073709551616):jb (.int .u64 (a:Int)) (.int .u64 (b:Int))=.v (.int .u64 ((a- b:Nat):Int)):=by rw[ru,show(a:Int)- b=((a- b:Nat):Int) by omega,Ai zo]
theorem HF(h:a*b<18446744073709551616):qj (.int .u64 (a:Int)) (.int .u64 (b:Int))=.v (.int .u64 ((a*b:Nat):Int)):=by rw[vK,<-Int.natCast_mul,Ai h]
theorem aa9(hb:b≠0)(h:a<18446744073709551616):we (.int .u64 (a:Int)) (.int .u64 (b:Int))=.v (.int .u64 ((a/b:Nat):Int)):=by rw[KQ zo,show(a:Int).tdiv b=((a/b:Nat):Int) by rw[avr zo];simp,Ai (auD (Nat.div_le_self _ _) h)]
theorem aa'(hk:k<64)(h:a*2^k<18446744073709551616):oQ pF (.int .u64 (a:Int)) (.int .u64 (k:Int))=.v (.int .u64 ((a*2^k:Nat):Int)):=by show OR.v (.int .u64 (IntKind.u64.wrap ((a:Int)*2^(min k 64))))=_;rw[show min k 64=k by omega,show(a:Int)*2^k=((a*2^k:Nat):Int) by simp,Ai h]
theorem HG(hk:k<64):sC (.int .u64 (a:Int)) (.int .u64 (k:Int))=.v (.int .u64 ((a/2^k:Nat):Int)):=by rw[lg zo];congr 2;show(a:Int).fdiv (2^(min k 64))=_;rw[show min k 64=k by omega,avH _ (Int.pow_nonneg zd)];simp
theorem Om(h:a<256):ko .u8 (.int .u64 (a:Int))=.v (.u8 a):=by simp only[ko,intOf,mL,Go.IntKind.wrap_u8];congr 2;omega
theorem aba(hk:k<64)(h:a<18446744073709551616):jI (λ_ a b=>a&&&b) (.int .u64 (a:Int)) (.int .u64 ((2^k- 1:Nat):Int))=.v (.int .u64 ((a% 2^k:Nat):Int)):=by
 rw[oy];congr 2;simp only[bW,qN,mL,Go.IntKind.wrap_u64];have p:2^k<=2^63:=auG zd zo;have p0:0<2^k:=auZ zd;have e:(BitVec.ofInt IntKind.u64.bits (a:Int)&&&BitVec.ofInt IntKind.u64.bits ((2^k- 1:Nat):Int)).toNat=a% 2^k:=by rw[aw6];show(BitVec.ofInt 64 (a:Int)).toNat&&&(BitVec.ofInt 64 ((2^k- 1:Nat):Int)).toNat=_;rw[awo,awo];rw[show((a:Int)% ((2^64:Nat):Int)).toNat=a by omega,show(((2^k- 1:Nat):Int)% ((2^64:Nat):Int)).toNat=2^k- 1 by omega];exact Nat.and_two_pow_sub_one_eq_mod a k
 rw[e];have:a% 2^k<2^k:=avn _ p0;simp only[au8];omega
end
section
variable{D:Nat->Nat}{nd k r:Nat}
def w7(D:Nat->Nat)(nd r:Nat):Nat:=V (λq=>D (r+q)) (nd- r)
def mW(D:Nat->Nat)(nd k r:Nat):Nat:=w7 D nd r*2^k/10^(nd- r)
theorem ai0(h:r<nd):w7 D nd r=(D r- 48)*10^(nd- (r+1))+w7 D nd (r+1):=by
 unfold w7;have:=Ue (D:=λq=>D (r+q)) 1 (nd- (r+1));rw[show 1+(nd- (r+1))=nd- r by omega] at this;rw[this];have e:V (λq=>D (r+q)) 1=D r- 48:=by simp[V]
 rw[e];congr 2;funext q;rw[show r+(1+q)=r+1+q by omega]
theorem abb(h:th D nd)(hr:r<=nd):mW D nd k r<2^k:=by unfold mW;have a:=KV (h.drop r) (nd- r) zl;have p:0<2^k:=auZ zd;apply auw;exact avE a p
theorem abc(h:r<nd):(D r- 48)*2^k+mW D nd k (r+1)=w7 D nd r*2^k/10^(nd- (r+1)):=by rw[ai0 h,auC,av0];unfold mW;rw[awR,awR ((D r- 48)*2^k*_),Nat.add_mul_div_right _ _ (auZ zd)]
theorem ai1(h:r<nd):((D r- 48)*2^k+mW D nd k (r+1))/10=mW D nd k r:=by rw[abc h,Nat.div_div_eq_div_mul,<-auX,show(nd- (r+1)).succ=nd- r by omega];rfl
theorem ai2:mW D nd k nd=0:=by simp[mW,w7,V]
theorem abd:w7 D nd 0=V D nd:=by simp[w7]
end
section
open Go (IntKind)
variable{h:Hp}{k:aK->Prop}{D:Nat->Nat}{b nd s δ:Nat}{dp:Int}{ng tr:Bool}
def Wr(D:Nat->Nat)(w n:Nat):Prop:=∀j,w<=j->j<n->j<800->48<=D j/\D j<=57
theorem Wr.put{w n u:Nat}(x:Wr D (w+1) n)(h1:u<10):Wr (qb D w (u+48)) w n:=λj a b c=>by unfold qb;split;omega;exact x j zo b c
theorem Wr.out{w n:Nat}(x:Wr D (w+1) n)(h1:800<=w):Wr D w n:=λj a b c=>x j zo b c
theorem ai3(hD:th D nd)(hs:s<=60)(hn:nd<=800)(hδ:δ<100){K:aT->Prop}
 (hK:∀f' h' D' fT,ah (·=b) h h'->bM h' b D' nd dp ng fT->Wr D' δ (nd+δ)->(δ=0->0<nd->w7 D nd 0*2^s/10^(nd- 1)<10->D' 0- 48=w7 D nd 0*2^s/10^(nd- 1))->(∀q,q=0\/q=4->J q f'=if q=0 then .ptr b 0 else .i δ)->J 6 f'=.i δ->J 7 f'=.int .u64 (mW D nd s 0)->K (.exit 0 f' h' [])):
 ∀(m:Nat)(h1:Hp)(D1:Nat->Nat)(eU:Bool)(f:Fr),m<=nd->ah (·=b) h h1->bM h1 b D1 nd dp ng eU->(∀j,j<m->D1 j=D j)->Wr D1 (m+δ) (nd+δ)->(m=0->δ=0->0<nd->w7 D nd 0*2^s/10^(nd- 1)<10->D1 0- 48=w7 D nd 0*2^s/10^(nd- 1))->
  J 0 f=.ptr b 0->J 1 f=.int .u64 s->J 4 f=.i δ->J 5 f=.i ((m:Int)- 1)->J 6 f=.i ((m+δ:Nat):Int)->J 7 f=.int .u64 (mW D nd s m)->W T (.loop l232_1) f h1 [] K:=by
 intro m
 induction m with
 |zero=>
  intro h1 D1 eU f hm g x he hw h0 f0 f1 f4 f5 f6 f7;have f5:J 5 f=.i (-1):=f5;rw[aP];show W T Rq f h1 [] _;refine aB f5 ?_;exact hK _ h1 D1 eU g x (by rwa[aue] at hw) (h0 rfl) (λq hq=>by rcases hq with rfl|rfl<;>exact bV f0 f4) (au f6) (au f7)
 |succ r ih=>
  intro h1 D1 eU f hm g x he hw h0 f0 f1 f4 f5 f6 f7;have x':=x;unfold bM at x';have f5:J 5 f=.i r:=by rw[f5];congr 1;omega
  have hr:r<nd:=hm;have r8:r<800:=zo;have hd:=hD r hr;have ed:=he r (aw7 _);have cl:=abb (k:=s) hD (r:=r+1) zo;have cs:=ai1 (D:=D) (k:=s) hr;have sm:=abc (D:=D) (k:=s) hr;have p60:2^s<=2^60:=auG zd hs;have as7:(D r- 48)*2^s<=9*2^s:=at4 _ zo;have dl:D1 r<256:=zo;have e1:=KY dl;have e2:jb (.int .u64 (D1 r:Int)) (.int .u64 48)=.v (.int .u64 ((D r- 48:Nat):Int)):=by rw[ed];exact HD (b:=48) zo zo
  have e3:=aa' (a:=D r- 48) (k:=s) zo zo;generalize hc:mW D nd s (r+1)=c at*;generalize hP:(D r- 48)*2^s=P at*;have e4:=EI (a:=c) (b:=P) zo;rw[awR c P] at e4;generalize hN:P+c=N at*;have e5:we (.int .u64 (N:Int)) (.int .u64 10)=.v (.int .u64 (mW D nd s r:Int)):=by have:=aa9 (a:=N) (b:=10) zd zo;rw[cs] at this;exact this
  have e6:qj (.int .u64 10) (.int .u64 (mW D nd s r:Int))=.v (.int .u64 ((10*mW D nd s r:Nat):Int)):=HF (a:=10) zo;have e7:=HD (a:=N) (b:=10*mW D nd s r) zo zo;have rl:N- 10*mW D nd s r<10:=zo;have rN:N<10->N- 10*mW D nd s r=N:=λz=>zo;generalize hR:N- 10*mW D nd s r=R at*;generalize hT:10*mW D nd s r=t10 at*;have e8:lG (.int .u64 (R:Int)) (.int .u64 48)=.v (.int .u64 ((R+48:Nat):Int)):=EI (b:=48) zo;have e9:=Om (a:=R+48) zo;generalize Uh:R+48=R8 at*;have w1:((r+1+δ:Nat):Int)- 1=((r+δ:Nat):Int):=zo;have r0:(0:Int)<=r:=zo;rw[aP];generalize hL:CC.loop l232_1=L at ih⊢;show W T Rq f h1 [] _;have q5:((5:Nat):Int)=5:=rfl;generalize EJ:mW D nd s r=cr at*
  by_cases c8:r+δ<800
  have c8':((r+δ:Nat):Int)<800:=zo;simp(disch:=omega) [-vJ,-ru,-vK,-KQ,-Og,-Of,-Int.natCast_add,f0,f1,f4,f5,f6,f7,x',e1,e2,e3,e4,e5,e6,e7,e8,e9,w1,c8',r0,r8,c8];refine ih _ (qb D1 (r+δ) R8) eU _ zo (g.set _ (.inr rfl)) (Hp.bR rfl) (λj hj=>by unfold qb;rw[atS zo];exact he j zo) ?_ (λz1 z2 z3 z4=>?_) ?_ ?_ ?_ ?_ ?_ ?_;rw[<-Uh];exact Wr.put qbo rl;subst z1 z2;rw[<-sm] at z4⊢;have:=rN z4;unfold qb;rw[atV rfl];omega;exact zA;exact zA;exact zA;exact aa;simp(disch:=omega) [-Int.natCast_add];exact aa;have c8':¬((r+δ:Nat):Int)<800:=zo;have NS:Wr D1 (r+δ) (nd+δ):=Wr.out qbo zo
  by_cases cR:R=0
  subst cR;simp(disch:=omega) [-vJ,-ru,-vK,-KQ,-Og,-Of,-Int.natCast_add,f0,f1,f4,f5,f6,f7,x',e1,e2,e3,e4,e5,e6,e7,e8,e9,w1,c8',r0,r8,c8];refine ih _ D1 eU _ zo g x (λj hj=>he j zo) NS (λz1 z2=>by omega) ?_ ?_ ?_ ?_ ?_ ?_;exact zA;exact zA;exact zA;exact aa;simp(disch:=omega) [-Int.natCast_add];exact aa;have cR':¬(R:Int)=0:=zo;simp(disch:=omega) [-vJ,-ru,-vK,-KQ,-Og,-Of,-Int.natCast_add,f0,f1,f4,f5,f6,f7,x',e1,e2,e3,e4,e5,e6,e7,e8,e9,w1,c8',r0,r8,c8,cR,cR'];refine ih _ D1 true _ zo (g.set _ (.inr rfl)) (Hp.bR rfl) (λj hj=>he j zo) NS (λz1 z2=>by omega) ?_ ?_ ?_ ?_ ?_ ?_;exact zA;exact zA;exact zA;exact aa;simp(disch:=omega) [-Int.natCast_add];exact aa
theorem ai4{K:aT->Prop}{N2 X:Nat}
 (hK:∀f' h' D' fT,ah (·=b) h h'->bM h' b D' nd dp ng fT->Wr D' 0 N2->D' 0≠48/\(δ=0->D' 0- 48=X)->J 0 f'=.ptr b 0->J 4 f'=.i δ->K (.exit 2 f' h' [])):
 ∀(w n:Nat)(h1:Hp)(D1:Nat->Nat)(eU:Bool)(f:Fr),w<100->w<=δ->n<10^w->(0<w->10^(w- 1)<=n)->n<1152921504606846976->ah (·=b) h h1->bM h1 b D1 nd dp ng eU->Wr D1 w N2->(w=0->D1 0≠48/\(δ=0->D1 0- 48=X))->
  J 0 f=.ptr b 0->J 4 f=.i δ->J 6 f=.i w->J 7 f=.int .u64 n->W T (.loop l232_0) f h1 [] K:=by
 intro w
 induction w with
 |zero=>
  intro n h1 D1 eU f _ _ hn _ _ g x hw h0 f0 f4 f6 f7;obtain rfl:n=0:=by simp at hn;exact hn
  rw[aP];show W T Rr f h1 [] _;refine aB f7 ?_;exact hK _ h1 D1 eU g x hw (h0 rfl) zA zA
 |succ w ih=>
  intro n h1 D1 eU f hw8 hwd hn cK n60 g x hw h0 f0 f4 f6 f7;have cK:=cK (Nat.succ_pos _);simp only[axE] at cK;have pw:0<10^w:=auZ zd;have n0:0<n:=zo;have n0':(0:Int)<n:=zo;have x':=x;unfold bM at x';rw[auX] at hn;have q1:n/10<10^w:=zo;have e5:we (.int .u64 (n:Int)) (.int .u64 10)=.v (.int .u64 ((n/10:Nat):Int)):=aa9 (b:=10) zd zo;have e6:qj (.int .u64 10) (.int .u64 ((n/10:Nat):Int))=.v (.int .u64 ((10*(n/10):Nat):Int)):=HF (a:=10) zo;have e7:=HD (a:=n) (b:=10*(n/10)) zo zo;have rl:n- 10*(n/10)<10:=zo;have ai5:w=0->n- 10*(n/10)+48≠48:=λz=>by subst z;simp at hn;omega
  have hq:0<w->10^(w- 1)<=n/10:=λz=>by
   have:10^w=10^(w- 1)*10:=by rw[<-auX];congr 1;omega
   omega
  have q60:n/10<1152921504606846976:=zo;generalize hR:n- 10*(n/10)=R at*;generalize hT:10*(n/10)=t10 at*;generalize hQ:n/10=Q at*;have e8:lG (.int .u64 (R:Int)) (.int .u64 48)=.v (.int .u64 ((R+48:Nat):Int)):=EI (b:=48) zo;have e9:=Om (a:=R+48) zo;generalize Uh:R+48=R8 at*;have w1:((w+1:Nat):Int)- 1=(w:Int):=zo;have c8:w<800:=zo;have c8':(w:Int)<800:=zo;rw[aP];generalize hL:CC.loop l232_0=L at ih⊢;show W T Rr f h1 [] _;simp(disch:=omega) [-vJ,-ru,-vK,-KQ,-Og,-Of,-Int.natCast_add,f0,f4,f6,f7,n0,n0',x',e5,e6,e7,e8,e9,w1,c8',c8];refine ih _ _ (qb D1 w R8) eU _ zo zo q1 hq q60 (g.set _ (.inr rfl)) (Hp.bR rfl) (by rw[<-Uh];exact Wr.put hw rl) (λz=>?_) ?_ ?_ ?_ ?_;subst z;unfold qb;rw[atV rfl];exact⟨ai5 rfl,λz=>by omega⟩;exact zA;exact zA;exact aa;exact aa
structure ai6(s:Nat)(d:Int)(C:List UInt8):Prop where
 mB:th (Cn C) C.length
 len:0<C.length/\C.length<100
 val:V (Cn C) C.length=5^s
 cM:48<Cn C (C.length- 1)
 d:d=(s:Int)+1- C.length
 hd:Cn C 0≠48
def CS(h:Hp):Prop:=∃q cap ex,∃d:Nat->Int,∃C:Nat->List UInt8,cellsOf (h.get 15) 0 1=some [.slice q 0 2 61 cap ex]/\q<22/\∀s,1<=s->s<=60->cellsOf (h.get q) (s*2) 1=some [.i (d s)]/\cellsOf (h.get q) (s*2+1) 1=some [S (C s)]/\ai6 s (d s) (C s)
def xe(h h':Hp):Prop:=∀i,i<22->h'.get i=h.get i
theorem xe.of{h':Hp}(g:ah (·=b) h h')(hb:22<=b)(hn:22<=h.nx):xe h h':=λi hi=>g.get i zo zo
theorem CS.kp{h':Hp}(x:CS h)(g:xe h h'):CS h':=by obtain⟨q,cap,ex,d,C,e,hq,a⟩:=x;exact⟨q,cap,ex,d,C,by rw[g 15 zd];exact e,hq,λs h1 h2=>by rw[g q hq];exact a s h1 h2⟩
theorem ai7{N nd L s:Nat}{d:Int}(cK:10^(nd- 1)<=N)(Sz:N<10^nd)(h0:0<nd)(c1:10^(L- 1)<=5^s)(c2:5^s<10^L)(hL:0<L)(hd:d=(s:Int)+1- L)(hLs:L<=s)(r:Bool)(h1:r=true->N*10^L<5^s*10^nd)(h2:r=false->5^s*10^nd<=N*10^L):
 ∃δ:Nat,(d- if r=true then 1 else 0)=δ/\10^(nd+δ- 1)<=N*2^s/\N*2^s<10^(nd+δ)/\δ<=s+1:=by
 have t:5^s*2^s=10^s:=by rw[<-Nat.mul_pow]
 have p2:0<2^s:=auZ zd;have pL:0<10^L:=auZ zd;cases r with
 |true=>
  have h1:=avE (h1 rfl) p2;refine⟨s- L,by rw[atV rfl];omega,?_,?_,by omega⟩;have a:10^(s- L)*5^s<=2^s*5^s:=by
   rw[auB (2^s),t];have:10^s=10^(s- L)*10^L:=by rw[<-auT];congr 1;omega
   rw[this];exact au2 _ (axM c2)
  have a':=awc a (auZ (by decide:0<5));have:10^(nd+(s- L)- 1)=10^(nd- 1)*10^(s- L):=by rw[<-auT];congr 1;omega
  rw[this];exact axp cK a';have e:5^s*10^nd*2^s=10^(nd+(s- L))*10^L:=by rw[av0,t,<-auT,<-auT];congr 1;omega
  rw[e,av0] at h1;exact Nat.lt_of_mul_lt_mul_right h1
 |false=>
  have h2:=at4 (2^s) (h2 rfl);refine⟨s+1- L,by rw[atS zd];omega,?_,?_,by omega⟩;have e:5^s*10^nd*2^s=10^(nd+(s+1- L)- 1)*10^L:=by rw[av0,t,<-auT,<-auT];congr 1;omega
  rw[e,av0] at h2;exact awc h2 pL;have a:2^s*5^s<=10^(s+1- L)*5^s:=by
   rw[auB (2^s),t];have:10^s=10^(s+1- L)*10^(L- 1):=by rw[<-auT];congr 1;omega
   rw[this];exact au2 _ c1
  have a':=awc a (auZ (by decide:0<5));have:10^(nd+(s+1- L))=10^nd*10^(s+1- L):=by rw[<-auT]
  rw[this];exact Nat.mul_lt_mul_of_lt_of_le Sz a' (auZ zd)
end
section
open Go (IntKind)
variable{h:Hp}{k:aK->Prop}{D:Nat->Nat}{b nd s:Nat}{dp:Int}{ng tr:Bool}
theorem ai8(x:bM h b D nd dp ng tr)(hn:nd<=800):FQ h 1 800 (.ptr b 0) (some (.i 0)) (some (.i nd))=.v (.slice b 0 1 nd 800 true):=by
 unfold bM at x;have e:bounds (some (.i 0)) (some (.i (nd:Int))) 800 800=some (0,nd):=by simp[bounds,mM,BP,hn]
 simp only[FQ,e,x,IN];rw[tR,KU];rfl
theorem iaW{q cap n:Nat}{ex:Bool}(hs:s<n):Dy 2 (.slice q 0 2 n cap ex) (.int .u64 (s:Int))=.v (.ptr q (s*2)):=by have:s+1<=n:=hs;show cond (Nat.ble (Nat.succ s) n) (OR.v (.ptr q (0+s*2))) _=_;rw[aue];simp[this]
structure kE(D:Nat->Nat)(nd:Nat):Prop where
 mB:th D nd
 le:nd<=800
 pos:0<nd
 hd:D 0≠48
theorem ai9(HT:aA T)(x:bM h b D nd dp ng tr)(g:kE D nd)(oz:1<=s)(hs:s<=60)(hc:CS h)(hb:22<=b)(Bl:-1000000000<dp/\dp<1000000000)
 (hk:∀h' D' cG fT(δ:Nat),ah (·=b) h h'->bM h' b D' cG (dp+δ) ng fT->kE D' cG->δ<=s+1->10^(nd+δ- 1)<=V D nd*2^s->V D nd*2^s<10^(nd+δ)->(δ=0->D' 0- 48=V D nd*2^s/10^(nd- 1))->k (.ret (.bA []) h')):aE T (W T) ⟨232⟩ [.ptr b 0,.int .u64 s] h k:=by
 rw[aJ HT.t232];obtain⟨q,cap,ex,d,C,e15,hq,hC⟩:=hc;obtain⟨c1,c2,ck⟩:=hC s oz hs;obtain⟨hD,n8,n0,hd⟩:=g;have x':=x;unfold bM at x';obtain⟨v1,v2⟩:=KW hD n0 hd;have v3:=KV hD nd zl;have pN:10^(nd- 1)<=V D nd:=at1 (by have:=at4 (10^(nd- 1)) v2;rwa[avz] at this) v1;obtain⟨w1,w2⟩:=KW ck.mB ck.len.1 ck.hd;have w3:=KV ck.mB _ zl;rw[ck.val] at w1 w3;have clo:10^((C s).length- 1)<=5^s:=at1 (by have:=at4 (10^((C s).length- 1)) w2;rwa[avz] at this) w1;have cls:(C s).length<=s:=by refine avu λc=>?_;have a1:10^s<=10^((C s).length- 1):=auG zd zo;have a2:5^s<10^s:=Nat.pow_lt_pow_left zd zo;omega
 have len:=ck.len;have ckd:=ck.d;generalize rq:Rt=T3;generalize ju:CC.aR r232_1=Dr;have i15:(15:Nat)<22:=by decide
 simp(disch:=omega) [e15,iaW (show s<61 by omega),c1];subst ju;rw[lI,mu];generalize ku _ _=fm;have sa:=ai8 x n8;simp(disch:=omega) [e15,iaW (show s<61 by omega),c2,x',sa,-Cp];rw[Cp,ZS,ZQ];refine aiY HT x n8 hD ck.mB len.2 (λ_=>ck.cM) λr r1 r2=>?_;rw[ck.val] at r1 r2;obtain⟨δ,dδ,On,Oo,δ3⟩:=ai7 pN v3 n0 clo w3 len.1 ckd cls r r1 r2;have rest:∀f:Fr,J 0 f=.ptr b 0->J 1 f=.int .u64 s->J 4 f=.i δ->W T T3 f h [] (finish T (W T) [] k):=by
  intro f f0 f1 f4;subst rq;unfold Rt;generalize hT:Rs=T27;generalize jg:CC.loop l232_1=L1;generalize pz:CC.loop l232_0=L0;have a1:((nd:Int)+δ)=((nd+δ:Nat):Int):=zo;simp(disch:=omega) [-Int.natCast_add,f0,f1,f4,x',a1];subst jg;refine ai3 (δ:=δ) (s:=s) hD hs n8 zo (λf' h' D' fT g1 x1 wr1 z1 q04 q6 q7=>?_) nd h D tr _ zl (ah.refl _) x (λ_ _=>rfl) (λj _ _ _=>by omega) (λz=>by omega) ?_ ?_ ?_ ?_ ?_ ?_;have q0:=q04 0 (.inl rfl);have q4:=q04 4 (.inr rfl);rw[atV rfl] at q0;rw[atS zd] at q4;refine ag ?_;subst pz;have cc:mW D nd s 0=V D nd*2^s/10^nd:=by unfold mW;rw[abd];rfl
  have c60:=abb (k:=s) hD (r:=0) zo;have p60:2^s<=2^60:=auG zd hs;have pn:0<10^nd:=auZ zd;rw[abd] at z1;have dz:δ=0->V D nd*2^s/10^(nd- 1)<10/\1<=V D nd*2^s/10^(nd- 1):=λz=>by subst z;simp only[aud] at On Oo;refine⟨auw ?_,(avN (auZ zd)).2 On⟩;rw[<-auX,show(nd- 1).succ=nd by omega];exact Oo
  refine ai4 (δ:=δ) (N2:=nd+δ) (X:=V D nd*2^s/10^(nd- 1)) (λf2 h2 D2 nD g2 x2 wr2 y2 q20 q24=>?_) δ (mW D nd s 0) h' D' fT _ zo zl ?_ (λp=>?_) zo g1 x1 wr1 (λz=>?_) q0 q4 q6 q7;subst hT;unfold Rs;have x2':=x2;unfold bM at x2';have a2:w64 ((nd:Int)+δ)=((nd+δ:Nat):Int):=by rw[gf zo zo];omega
  have a3:w64 (dp+δ)=dp+δ:=gf zo zo;generalize abe:XR=T30;have b8:∀(n2:Nat)(f3:Fr)(h3:Hp),n2<=800->n2<=nd+δ->0<n2->J 0 f3=.ptr b 0->J 4 f3=.i δ->ah (·=b) h h3->bM h3 b D2 n2 dp ng nD->W T T30 f3 h3 [] (finish T (W T) [] k):=by intro n2 f3 h3 b1 b2 b3 p0 p4 g3 x3;subst abe;have x3':=x3;unfold bM at x3';refine bK p0 p4 x3' a3 ?_;refine aa6 HT (h:=h3.set b (.one 270 (kO D2 n2 (dp+δ) ng nD))) (nd:=n2) (Hp.bR rfl) b1 λh4 cG g4 x4 Oq Ui=>?_;have np:=Ui b3 y2.1;rw[atS zo] at x4;refine ag ?_;refine hk h4 D2 cG nD δ ((g3.set _ (.inr rfl)).trans g4) x4 ⟨λi hi=>wr2 i (auz _) zo zo,by omega,np,y2.1⟩ δ3 On Oo y2.2
  by_cases c8:800<=nd+δ
  have c8':(800:Int)<=((nd+δ:Nat):Int):=zo;have c8':(800:Int)<=(nd:Int)+δ:=zo;refine bK q20 q24 x2' c8' ?_;refine b8 800 _ _ zo c8 zd ?_ ?_ ((g2.set _ (.inr rfl)).set _ (.inr rfl)) (Hp.bR rfl);exact au q20;exact au q24;have c8':¬(800:Int)<=((nd+δ:Nat):Int):=zo;have c8':¬(800:Int)<=(nd:Int)+δ:=zo;refine bK q20 q24 x2' c8' ?_;refine b8 (nd+δ) _ _ zo zl zo ?_ ?_ (g2.set _ (.inr rfl)) (Hp.bR rfl);exact au q20;exact au q24;rw[cc];apply auw;rw[<-auT];exact Oo;rw[cc];refine(awA pn).2 ?_;rw[<-auT,show δ- 1+nd=nd+δ- 1 by omega];exact On;have:=z1 z n0 (dz z).1;have:=(dz z).2;exact⟨by omega,λ_=>by omega⟩;exact zA;exact zA;exact zA;exact aa;simp(disch:=omega) [-Int.natCast_add];simp(disch:=omega) [ai2]
 cases r with
 |true=>
  have e4:d s- 1=δ:=by simpa using dδ
  refine aB e4 ?_;exact rest _ aa aa aa
 |false=>
  have e4:d s=δ:=by simpa using dδ
  refine aB e4 ?_;exact rest _ aa aa aa
theorem aja(hs:s<=60){K:aT->Prop}{hh:Hp}{n0:Nat}(hK:∀f'(r n:Nat),nd<=r->(r=nd->n=n0)->r<=nd+61->2^s<=n->n<10*2^s->J 0 f'=.ptr b 0->J 1 f'=.int .u64 s->J 5 f'=.i 0->J 4 f'=.i r->J 6 f'=.int .u64 n->K (.exit 2 f' hh [])):
 ∀(m r n:Nat)(f:Fr),2^s<=n+m->nd<=r->(r=nd->n=n0)->2^(r- nd)<=n->n<10*2^s->(2^s<=n->r<=nd+61)->(nd:Int)<10000->J 0 f=.ptr b 0->J 1 f=.int .u64 s->J 5 f=.i 0->J 4 f=.i r->J 6 f=.int .u64 n->W T (.loop l233_2) f hh [] K:=by
 intro m;have p60:2^s<=2^60:=auG zd hs;have ps:0<2^s:=auZ zd
 induction m with
 |zero=>
  intro r n f h1 h2 hz h3 h4 h5 hn f0 f1 f5 f4 f6;have e1:=HG (a:=n) (k:=s) zo;have nz:¬n/2^s=0:=by have:=(avN ps).2 (by omega:2^s<=n);omega
  generalize n/2^s=Q at e1 nz;rw[aP];show W T MP f hh [] _;simp(disch:=omega) [f1,f6,e1,nz,-lg];refine hK _ r n h2 hz (h5 zo) zo h4 ?_ ?_ ?_ ?_ ?_;exact zA;exact zA;exact zA;exact zA;exact zA
 |succ m ih=>
  intro r n f h1 h2 hz h3 h4 h5 hn f0 f1 f5 f4 f6;have e1:=HG (a:=n) (k:=s) zo
  by_cases c:2^s<=n
  have nz:¬n/2^s=0:=by have:=(avN ps).2 c;omega
  generalize n/2^s=Q at e1 nz;rw[aP];show W T MP f hh [] _;simp(disch:=omega) [f1,f6,e1,nz,-lg];refine hK _ r n h2 hz (h5 c) c h4 ?_ ?_ ?_ ?_ ?_;exact zA;exact zA;exact zA;exact zA;exact zA;have z:n/2^s=0:=avY zo;rw[z] at e1;have pr:0<2^(r- nd):=auZ zd;have rs:r- nd<s:=(Nat.pow_lt_pow_iff_right (by decide:1<2)).1 (by omega:2^(r- nd)<2^s);have e2:qj (.int .u64 (n:Int)) (.int .u64 10)=.v (.int .u64 ((n*10:Nat):Int)):=HF (b:=10) zo;have p1:2^(r+1- nd)<=n*10:=by rw[show r+1- nd=(r- nd)+1 by omega,auX];omega
  have l1:n*10<10*2^s:=zo;have l0:2^s<=n*10+m:=zo;generalize n*10=N at*;rw[aP];generalize hL:CC.loop l233_2=L at ih⊢;show W T MP f hh [] _;simp(disch:=omega) [f1,f4,f6,e1,e2,-lg,-vK];refine ih (r+1) N _ l0 zo (λq=>by omega) p1 l1 (λ_=>by omega) hn ?_ ?_ ?_ ?_ ?_;exact zA;exact zA;exact zA;exact aa;exact aa
structure ajb(D:Nat->Nat)(nd s r n:Nat):Prop where
 r1:1<=r
 rn:r<=nd+61
 lo:2^s<=n
 hi:n<10*2^s
 one:r=1->n=D 0- 48
 wX:D 0- 48<2^s->2<=r
theorem ajc(g:kE D nd)(oz:1<=s)(hs:s<=60)(x:bM h b D nd dp ng tr){K:aT->Prop}(hK:∀f'(r n:Nat),ajb D nd s r n->J 0 f'=.ptr b 0->J 1 f'=.int .u64 s->J 5 f'=.i 0->J 4 f'=.i r->J 6 f'=.int .u64 n->K (.exit 0 f' h [])):
 ∀(m r:Nat)(f:Fr),m=nd- r->r<=nd->V D r<10*2^s->(r<=1\/V D (r- 1)<2^s)->J 0 f=.ptr b 0->J 1 f=.int .u64 s->J 5 f=.i 0->J 4 f=.i r->J 6 f=.int .u64 (V D r)->W T (.loop l233_3) f h [] K:=by
 intro m;obtain⟨hD,n8,n0,hd⟩:=g;have p60:2^s<=2^60:=auG zd hs;have ps:2<=2^s:=by have:=auG (by decide:0<2) oz;omega
 have x':=x;unfold bM at x';have d0:=hD 0 n0;have V1:V D 1=D 0- 48:=by simp[V]
 have up:∀i,1<=i->D 0- 48<=V D i:=λi hi=>by
  induction i with
  |zero=>omega
  |succ i ih=>
   rcases auP i with q|q;subst q;rw[V1];exact at2 _;have:=ih q;rw[V];omega
 have out:∀(r:Nat)(f:Fr),r<=nd->2^s<=V D r->V D r<10*2^s->(r<=1\/V D (r- 1)<2^s)->J 0 f=.ptr b 0->J 1 f=.int .u64 s->J 5 f=.i 0->J 4 f=.i r->J 6 f=.int .u64 (V D r)->K (.exit 0 f h []):=by
  intro r f hr c hv hp f0 f1 f5 f4 f6;have r0:r≠0:=by rintro rfl;simp[V] at c
  refine hK f r _ ⟨by omega,by omega,c,hv,λe=>by subst e;exact V1,λe=>?_⟩ f0 f1 f5 f4 f6;rcases avh 1 r with q|q;exact q;obtain rfl:r=1:=zo;rw[V1] at c;omega
 induction m with
 |zero=>
  intro r f hm hr hv hp f0 f1 f5 f4 f6;obtain rfl:r=nd:=zo;have e1:=HG (a:=V D r) (k:=s) zo
  by_cases c:2^s<=V D r
  have nz:¬V D r/2^s=0:=by have:=(avN zo).2 c;omega
  generalize hQ:V D r/2^s=Q at e1 nz;rw[aP];show W T AU f h [] _;unfold AU;simp(disch:=omega) [f1,f6,e1,nz,-lg];refine out r _ hr c hv hp ?_ ?_ ?_ ?_ ?_;exact zA;exact zA;exact zA;exact zA;exact zA;have z:V D r/2^s=0:=avY zo;rw[z] at e1;have v0:¬((V D r:Nat):Int)=0:=by have:=up r n0;omega
  have v0':¬V D r=0:=zo;rw[aP];generalize wQ:CC.loop l233_2=L2;generalize hL:CC.loop l233_3=L;show W T AU f h [] _;unfold AU;simp(disch:=omega) [f0,f1,f4,f6,e1,x',v0,v0',-lg];subst wQ;refine aja (s:=s) (nd:=r) (b:=b) hs (n0:=V D r) (λf' r' n a1 az a2 a3 a4 q0 q1 q5 q4 q6=>?_) (2^s) r (V D r) _ zo zl (λ_=>rfl) (by simp<;>omega) hv (λq=>absurd q c) zo ?_ ?_ ?_ ?_ ?_;refine ag ?_;have ne:r'≠r:=λe=>by have:=az e;omega
  exact hK f' r' n ⟨by omega,a2,a3,a4,λe=>by omega,λe=>by omega⟩ q0 q1 q5 q4 q6;exact zA;exact zA;exact zA;exact zA;exact zA
 |succ m ih=>
  intro r f hm hr hv hp f0 f1 f5 f4 f6;have qY:r<nd:=zo;have ajd:¬(nd:Int)<=r:=zo;have r8:r<800:=zo;have dr:=hD r qY;have e1:=HG (a:=V D r) (k:=s) zo
  by_cases c:2^s<=V D r
  have nz:¬V D r/2^s=0:=by have:=(avN zo).2 c;omega
  generalize hQ:V D r/2^s=Q at e1 nz;rw[aP];show W T AU f h [] _;unfold AU;simp(disch:=omega) [f1,f6,e1,nz,-lg];refine out r _ hr c hv hp ?_ ?_ ?_ ?_ ?_;exact zA;exact zA;exact zA;exact zA;exact zA;have z:V D r/2^s=0:=avY zo;rw[z] at e1;have e2:qj (.int .u64 (V D r:Int)) (.int .u64 10)=.v (.int .u64 ((V D r*10:Nat):Int)):=HF (b:=10) zo;have e3:=KY (a:=D r) zo;have e4:=EI (a:=V D r*10) (b:=D r) zo;have e5:jb (.int .u64 ((V D r*10+D r:Nat):Int)) (.int .u64 48)=.v (.int .u64 ((V D r*10+D r- 48:Nat):Int)):=HD (b:=48) zo zo;have ev:V D r*10+D r- 48=V D (r+1):=by rw[V];omega
  rw[ev] at e5;generalize hA:V D r*10+D r=A at*;generalize hB:V D r*10=B at*;rw[aP];generalize wQ:CC.loop l233_2=L2;generalize hL:CC.loop l233_3=L at ih⊢;show W T AU f h [] _;unfold AU;simp(disch:=omega) [-Int.natCast_add,f0,f1,f4,f6,e1,e2,e3,e4,e5,x',qY,ajd,r8,-lg,-vK,-vJ,-ru];refine ih (r+1) _ zo zo (by rw[V];omega) (.inr zn) ?_ ?_ ?_ ?_ ?_;exact zA;exact zA;exact zA;exact aa;exact aa
end
end Yv
