/- A part of the proof of 'ScopeOwnUptoCardSaid'. No condition. -/
import Derived.Test.YtpllhjebgjcigaaGreatDoorX07
set_option maxHeartbeats 16000000
set_option maxRecDepth 100000
set_option linter.all false
namespace Yv
variable{T:aM->Option CF}
section
open Go (IntKind)
variable{h:Hp}{k:aK->Prop}{D:Nat->Nat}{b nd s:Nat}{dp:Int}{ng tr:Bool}
structure CT(D:Nat->Nat)(s w n F:Nat):Prop where
 dg:∀j,j<w->48<=D j/\D j<=57
 hi:n<10*2^s
 fst:0<w->D 0=F
 fn:w=0->n/2^s+48=F/\2^s<=n
theorem CT.put{w n F n':Nat}(x:CT D s w n F)(h:n'<10*2^s):CT (qb D w (n/2^s+48)) s (w+1) n' F:=by have q:n/2^s<10:=auw (by have:=x.hi;omega);refine⟨λj hj=>?_,h,λ_=>?_,λe=>by omega⟩;unfold qb;split;generalize n/2^s=Q at q⊢;omega;exact x.dg j zo;unfold qb;split;rename_i e;exact(x.fn e.symm).1;rename_i e;exact x.fst zo
theorem aje(hs:s<=60)(n8:nd<=800)(hD:th D nd){F:Nat}{K:aT->Prop}
 (hK:∀f' h' D'(w n:Nat),ah (·=b) h h'->bM h' b D' nd dp ng tr->w<=nd->CT D' s w n F->J 0 f'=.ptr b 0->J 1 f'=.int .u64 s->J 5 f'=.i w->J 6 f'=.int .u64 n->J 8 f'=.int .u64 ((2^s- 1:Nat):Int)->K (.exit 4 f' h' [])):
 ∀(m r w n:Nat)(h1:Hp)(D1:Nat->Nat)(f:Fr),m=nd- r->r<10000->w<r->w<=nd->ah (·=b) h h1->bM h1 b D1 nd dp ng tr->(∀j,r<=j->j<nd->D1 j=D j)->CT D1 s w n F->J 0 f=.ptr b 0->J 1 f=.int .u64 s->J 4 f=.i r->J 5 f=.i w->J 6 f=.int .u64 n->J 8 f=.int .u64 ((2^s- 1:Nat):Int)->W T (.loop l233_1) f h1 [] K:=by
 intro m;have p60:2^s<=2^60:=auG zd hs;have ps:0<2^s:=auZ zd
 induction m with
 |zero=>
  intro r w n h1 D1 f hm r4 hw wn g x hd hI f0 f1 f4 f5 f6 f8;have x':=x;unfold bM at x';have c:¬r<nd:=zo;have c':¬(r:Int)<nd:=zo;rw[aP];show W T Ru f h1 [] _;refine cC f0 f4 x' c c' ?_;refine hK _ h1 D1 w n g x wn hI ?_ ?_ ?_ ?_ ?_;exact zA;exact zA;exact zA;exact zA;exact zA
 |succ m ih=>
  intro r w n h1 D1 f hm r4 hw wn g x hd hI f0 f1 f4 f5 f6 f8;have x':=x;unfold bM at x';have c:r<nd:=zo;have c':(r:Int)<nd:=zo;have r8:r<800:=zo;have w8:w<800:=zo;have ed:=hd r zl c;have dr:=hD r c;have hi:=hI.hi;have ml:n% 2^s<2^s:=avn _ ps;have ql:n/2^s<10:=auw zo;have e1:=KY (a:=D1 r) zo;rw[ed] at e1;have e2:=HG (a:=n) (k:=s) zo;have e3:=aba (a:=n) (k:=s) zo zo;have e4:lG (.int .u64 ((n/2^s:Nat):Int)) (.int .u64 48)=.v (.int .u64 ((n/2^s+48:Nat):Int)):=EI (b:=48) zo;have e5:=Om (a:=n/2^s+48) zo;have e6:qj (.int .u64 ((n% 2^s:Nat):Int)) (.int .u64 10)=.v (.int .u64 ((n% 2^s*10:Nat):Int)):=HF (b:=10) zo;have e7:=EI (a:=n% 2^s*10) (b:=D r) zo;have e8:jb (.int .u64 ((n% 2^s*10+D r:Nat):Int)) (.int .u64 48)=.v (.int .u64 ((n% 2^s*10+D r- 48:Nat):Int)):=HD (b:=48) zo zo;have pI:=hI.put (n':=n% 2^s*10+D r- 48) zo;generalize n% 2^s*10+D r- 48=N2 at*;generalize n% 2^s*10+D r=N1 at*;generalize n% 2^s*10=N0 at*;generalize n% 2^s=N at*;generalize n/2^s+48=Q8 at*;generalize n/2^s=Q at*;generalize 2^s- 1=mk at*;rw[aP];generalize hL:CC.loop l233_1=L at ih⊢;show W T Ru f h1 [] _;simp(disch:=omega) [-Int.natCast_add,-lg,-vK,-vJ,-ru,-oy,f0,f1,f4,f5,f6,f8,x',ed,c,c',r8,w8,e1,e2,e3,e4,e5,e6,e7,e8];refine ih (r+1) (w+1) N2 _ (qb D1 w Q8) _ zo zo zo zo (g.set _ (.inr rfl)) (Hp.bR rfl) (λj a c=>by unfold qb;rw[atS zo];exact hd j zo c) pI ?_ ?_ ?_ ?_ ?_ ?_;exact zA;exact zA;exact aa;exact aa;exact aa;exact zA
theorem ajf(hs:s<=60){F:Nat}{K:aT->Prop}
 (hK:∀f' h' D' fT(w:Nat),ah (·=b) h h'->bM h' b D' nd dp ng fT->0<w->w<=800->(∀j,j<w->48<=D' j/\D' j<=57)->D' 0=F->J 0 f'=.ptr b 0->J 5 f'=.i w->K (.exit 6 f' h' [])):
 ∀(m w n:Nat)(h1:Hp)(D1:Nat->Nat)(eU:Bool)(f:Fr),(n≠0->m<=s+1/\1<=m/\2^(s+1- m)∣n)->w<=800->ah (·=b) h h1->bM h1 b D1 nd dp ng eU->CT D1 s w n F->J 0 f=.ptr b 0->J 1 f=.int .u64 s->J 5 f=.i w->J 6 f=.int .u64 n->J 8 f=.int .u64 ((2^s- 1:Nat):Int)->W T (.loop l233_0) f h1 [] K:=by
 intro m;have p60:2^s<=2^60:=auG zd hs;have ps:0<2^s:=auZ zd;have z:∀(w:Nat)(h1:Hp)(D1:Nat->Nat)(eU:Bool)(f:Fr),w<=800->ah (·=b) h h1->bM h1 b D1 nd dp ng eU->CT D1 s w 0 F->J 0 f=.ptr b 0->J 5 f=.i w->J 6 f=.int .u64 0->W T (.loop l233_0) f h1 [] K:=by
  intro w h1 D1 eU f w8 g x hI f0 f5 f6;have w0:0<w:=by rcases auP w with e|e;have:=(hI.fn e).2;omega;exact e
  rw[aP];show W T Rv f h1 [] _;refine aB f6 ?_;refine hK _ h1 D1 eU w g x w0 w8 hI.dg (hI.fst w0) ?_ ?_;exact zA;exact zA
 induction m with
 |zero=>
  intro w n h1 D1 eU f hm w8 g x hI f0 f1 f5 f6 f8;have n0:n=0:=avu λc=>by have:=hm c;omega
  subst n0;exact z w h1 D1 eU f w8 g x hI f0 f5 f6
 |succ m ih=>
  intro w n h1 D1 eU f hm w8 g x hI f0 f1 f5 f6 f8
  by_cases n0:n=0
  subst n0;exact z w h1 D1 eU f w8 g x hI f0 f5 f6;obtain⟨m1,m2,dv⟩:=hm n0;have x':=x;unfold bM at x';have p0:0<n:=zo;have p0':(0:Int)<n:=zo;have hi:=hI.hi;have ml:n% 2^s<2^s:=avn _ ps;have ql:n/2^s<10:=auw zo;have e2:=HG (a:=n) (k:=s) zo;have e3:=aba (a:=n) (k:=s) zo zo;have e4:lG (.int .u64 ((n/2^s:Nat):Int)) (.int .u64 48)=.v (.int .u64 ((n/2^s+48:Nat):Int)):=EI (b:=48) zo;have e5:=Om (a:=n/2^s+48) zo;have e6:qj (.int .u64 ((n% 2^s:Nat):Int)) (.int .u64 10)=.v (.int .u64 ((n% 2^s*10:Nat):Int)):=HF (b:=10) zo;have nl:n% 2^s*10<10*2^s:=zo;have yg:n% 2^s*10≠0->m<=s+1/\1<=m/\2^(s+1- m)∣n% 2^s*10:=λc=>by
   have d1:2^(s- m)∣n:=by rwa[show s+1- (m+1)=s- m by omega] at dv
   have d2:2^(s- m)∣2^s:=Nat.pow_dvd_pow 2 zo;have d3:2^(s- m)∣n% 2^s:=(Nat.dvd_mod_iff d2).2 d1;have mp:1<=m:=by rcases auP m with q|q;subst q;rw[axL] at d3;have:=Nat.eq_zero_of_dvd_of_lt d3 ml;rw[this] at c;simp at c;exact q
   refine⟨by omega,mp,?_⟩;rw[show s+1- m=(s- m)+1 by omega,auX];exact Nat.mul_dvd_mul d3 ⟨5,rfl⟩
  have pI:=hI.put (n':=n% 2^s*10) nl;have oI:0<w->CT D1 s w (n% 2^s*10) F:=λc=>⟨hI.dg,nl,hI.fst,λe=>by omega⟩;generalize n% 2^s*10=N0 at*;generalize n% 2^s=N at*;generalize n/2^s+48=Q8 at*;generalize n/2^s=Q at*;generalize 2^s- 1=mk at*;rw[aP];generalize hL:CC.loop l233_0=L at ih⊢;show W T Rv f h1 [] _
  by_cases c8:w<800
  have c8':(w:Int)<800:=zo;simp(disch:=omega) [-Int.natCast_add,-lg,-vK,-vJ,-ru,-oy,f0,f1,f5,f6,f8,x',p0,p0',c8,c8',e2,e3,e4,e5,e6];refine ih (w+1) N0 _ (qb D1 w Q8) eU _ yg zo (g.set _ (.inr rfl)) (Hp.bR rfl) pI ?_ ?_ ?_ ?_ ?_;exact zA;exact zA;exact aa;exact aa;exact zA;have c8':¬(w:Int)<800:=zo
  by_cases q0:Q=0
  subst q0;simp(disch:=omega) [-Int.natCast_add,-lg,-vK,-vJ,-ru,-oy,f0,f1,f5,f6,f8,x',p0,p0',c8,c8',e2,e3,e4,e5,e6];refine ih w N0 _ D1 eU _ yg w8 g x (oI zo) ?_ ?_ ?_ ?_ ?_;exact zA;exact zA;exact zA;exact aa;exact zA;have q1:0<Q:=zo;have q1':(0:Int)<Q:=zo;simp(disch:=omega) [-Int.natCast_add,-lg,-vK,-vJ,-ru,-oy,f0,f1,f5,f6,f8,x',p0,p0',c8,c8',q1,q1',e2,e3,e4,e5,e6];refine ih w N0 _ D1 true _ yg w8 (g.set _ (.inr rfl)) (Hp.bR rfl) (oI zo) ?_ ?_ ?_ ?_ ?_;exact zA;exact zA;exact zA;exact aa;exact zA
theorem Ot(HT:aA T)(x:bM h b D nd dp ng tr)(g:kE D nd)(oz:1<=s)(hs:s<=60)(Bl:-1000000000<dp/\dp<1000000000)
 (hk:∀h' D' cG fT(q:Nat),ah (·=b) h h'->bM h' b D' cG (dp- q) ng fT->kE D' cG->q<=1000->(D 0- 48<2^s->1<=q)->(q=0->D' 0- 48=(D 0- 48)/2^s)->k (.ret (.bA []) h')):aE T (W T) ⟨233⟩ [.ptr b 0,.int .u64 s] h k:=by
 rw[aJ HT.t233];have n8:=g.le;have p60:2^s<=2^60:=auG zd hs;have ps:0<2^s:=auZ zd;generalize ajg:Rw=T13;generalize Uj:CC.loop l233_3=L3;refine ag ?_;subst Uj;refine ajc g oz hs x (λf1 r n H q0 q1 q5 q4 q6=>?_) nd 0 _ zo (auz _) (by simp only[V];omega) (.inl zd) ?_ ?_ ?_ ?_ ?_;have x':=x;unfold bM at x';have r1:=H.r1;have rn:=H.rn;have lo:=H.lo;have hi:=H.hi;subst ajg;unfold Rw;generalize Uk:XS=T32;generalize jg:CC.loop l233_1=L1;generalize pz:CC.loop l233_0=L0;have e1:oQ pF (.int .u64 1) (.int .u64 (s:Int))=.v (.int .u64 ((2^s:Nat):Int)):=by have:=aa' (a:=1) (k:=s) zo zo;rw[avz] at this;exact this
 have e2:jb (.int .u64 ((2^s:Nat):Int)) (.int .u64 1)=.v (.int .u64 ((2^s- 1:Nat):Int)):=HD (b:=1) zo zo;have e3:dp- ((r:Int)- 1)=dp- ((r- 1:Nat):Int):=zo;have ml:((2^s- 1:Nat):Int)=((2^s- 1:Nat):Int):=rfl;generalize hm:((2^s- 1:Nat):Int)=mI at e2 ml;generalize Hg:((2^s:Nat):Int)=pI at e1 e2;simp(disch:=omega) [-ru,q0,q1,q4,q5,q6,x',e1,e2,e3];generalize hH:(h.set b _:Hp)=H1;have g1:ah (·=b) h H1:=by rw[<-hH];exact(ah.refl _).set _ (.inr rfl)
 have x1:bM H1 b D nd (dp- ((r- 1:Nat):Int)) ng tr:=by rw[<-hH];exact Hp.bR rfl
 clear hH;have F0:n/2^s<10:=auw zo;have F1:1<=n/2^s:=(avN ps).2 lo;subst jg;refine aje (s:=s) (F:=n/2^s+48) (b:=b) (ng:=ng) (tr:=tr) (dp:=dp- ((r- 1:Nat):Int)) (h:=H1) hs n8 g.mB (λf2 h2 D2 w2 n2 g2 x2 w2n I2 p0 p1 p5 p6 p8=>?_) (nd- r) r 0 n H1 D _ rfl zo r1 (auz _) (ah.refl _) x1 (λ_ _ _=>rfl) ⟨λj hj=>by omega,hi,λz=>by omega,λ_=>⟨rfl,lo⟩⟩ ?_ ?_ ?_ ?_ ?_ ?_;refine ag ?_;subst pz;refine ajf (s:=s) (F:=n/2^s+48) (b:=b) (ng:=ng) (dp:=dp- ((r- 1:Nat):Int)) (nd:=nd) (h:=H1) hs (λf3 h3 D3 CU w3 g3 x3 w0 w8 dg dF p0 p5=>?_) (s+1) w2 n2 h2 D2 tr _ (λ_=>⟨at2 _,by omega,by rw[awP];exact⟨n2,by simp⟩⟩) zo g2 x2 I2 p0 p1 p5 p6 p8;have x3':=x3;unfold bM at x3';subst Uk;refine aU p0 p5 x3' ?_;refine aa6 HT (h:=h3.set b (.one 270 (kO D3 w3 (dp- ((r- 1:Nat):Int)) ng CU))) (nd:=w3) (Hp.bR rfl) w8 λh4 cG g4 x4 Oq Ui=>?_;have y:D3 0≠48:=by rw[dF];omega
 have np:=Ui w0 y;rw[atS zo] at x4;refine ag ?_;refine hk h4 D3 cG CU (r- 1) (((g1.trans g3).set _ (.inr rfl)).trans g4) x4 ⟨λi hi=>dg i zo,by omega,np,y⟩ zo (λz=>by have:=H.wX z;omega) λz=>?_;rw[dF,H.one zo,axE];exact au q0;exact au q1;exact au q4;exact au q5;exact au q6;exact au hm;exact aa;exact aa;exact aa;exact aa;simp(disch:=omega) [V]
theorem Ou(g:kE D nd):¬((nd:Int)=0)/\¬nd=0:=by have:=g.pos;omega
theorem abf(HT:aA T)(x:bM h b D nd dp ng tr)(g:kE D nd)(oz:1<=s)(hs:s<=60)(hc:CS h)(hb:22<=b)(Bl:-1000000000<dp/\dp<1000000000)
 (hk:∀h' D' cG fT(δ:Nat),ah (·=b) h h'->bM h' b D' cG (dp+δ) ng fT->kE D' cG->δ<=s+1->10^(nd+δ- 1)<=V D nd*2^s->V D nd*2^s<10^(nd+δ)->(δ=0->D' 0- 48=V D nd*2^s/10^(nd- 1))->k (.ret (.bA []) h')):aE T (W T) ⟨224⟩ [.ptr b 0,.i s] h k:=by
 rw[aJ HT.t224];have x':=x;unfold bM at x';have np:=Ou g;have s0:0<s:=oz;have s0':(0:Int)<s:=zo;have s6:¬60<s:=zo;have s6':¬(60:Int)<s:=zo;have e1:ko .u64 (.i (s:Int))=.v (.int .u64 (s:Int)):=by rw[vL,Ai zo]
 generalize hL:CC.loop l224_1=L;refine cC x' np.1 np.2 s0 s0' ?_;subst hL;rw[aP];show W T XP _ h [] _;simp(disch:=omega) [s6,s6',e1,-vL];refine ai9 HT x g oz hs hc hb Bl λh' D' cG fT δ a1 a2 a3 a4 a5 a6 a7=>?_;refine ag ?_;exact hk h' D' cG fT δ a1 a2 a3 a4 a5 a6 a7
theorem ajh(HT:aA T)(x:bM h b D nd dp ng tr)(g:kE D nd)(oz:1<=s)(hs:s<=60)(Bl:-1000000000<dp/\dp<1000000000)
 (hk:∀h' D' cG fT(q:Nat),ah (·=b) h h'->bM h' b D' cG (dp- q) ng fT->kE D' cG->q<=1000->(D 0- 48<2^s->1<=q)->(q=0->D' 0- 48=(D 0- 48)/2^s)->k (.ret (.bA []) h')):aE T (W T) ⟨224⟩ [.ptr b 0,.i (-(s:Int))] h k:=by
 rw[aJ HT.t224];have x':=x;unfold bM at x';have np:=Ou g;have s0:¬(0:Int)< -(s:Int):=zo;have s1:-(s:Int)<0:=zo;have s6:¬-(s:Int)< -60:=zo;have e0:uR (.i (-(s:Int)))=.v (.i (s:Int)):=by show OR.v (.i (w64 (0- -(s:Int))))=_;rw[gf zo zo];congr 2;omega
 have e1:ko .u64 (.i (s:Int))=.v (.int .u64 (s:Int)):=by rw[vL,Ai zo]
 generalize hL:CC.loop l224_0=L;generalize fW:-(s:Int)=ms at*;refine cC x' np.1 np.2 s0 s1 ?_;subst hL;rw[aP];show W T Jv _ h [] _;simp(disch:=omega) [s6,e0,e1,-vL];refine Ot HT x g oz hs Bl λh' D' cG fT q a1 a2 a3 a4 a5 a6=>?_;refine ag ?_;exact hk h' D' cG fT q a1 a2 a3 a4 a5 a6
theorem aji(HT:aA T){n:Nat}(x:bM h b D nd dp ng tr)(g:kE D nd)(cV:1<=n)(hn:n<=1000000)(Bl:-100000000<dp/\dp<100000000)
 (hk:∀h' D' cG fT(q:Nat),ah (·=b) h h'->bM h' b D' cG (dp- q) ng fT->kE D' cG->q<=20000000->k (.ret (.bA []) h')):aE T (W T) ⟨224⟩ [.ptr b 0,.i (-(n:Int))] h k:=by
 rw[aJ HT.t224];have x':=x;unfold bM at x';have np:=Ou g;have s0:¬(0:Int)< -(n:Int):=zo;have s1:-(n:Int)<0:=zo;generalize hL:CC.loop l224_0=L;generalize EF:CC.af r224_10=Oi;generalize fW:-(n:Int)=ms at s0 s1;refine cC x' np.1 np.2 s0 s1 ?_;subst hL fW;have key:∀(m n q0:Nat)(h1:Hp)(D1:Nat->Nat)(dc:Nat)(eU:Bool)(f:Fr),n<=60*(m+1)->1<=n->m<=16700->q0+(m+1)*1000<=20000000->ah (·=b) h h1->bM h1 b D1 dc (dp- q0) ng eU->kE D1 dc->J 0 f=.ptr b 0->J 1 f=.i (-(n:Int))->W T (.loop l224_0) f h1 [] (bY 3 (bF (W T Oi) (bY 0 (finish T (W T) [] k)))):=by
  intro m
  induction m with
  |zero=>
   intro n q0 h1 D1 dc eU f hn cV _ hq g1 x1 gg f0 f1;have s6:¬-(n:Int)< -60:=zo;have e0:uR (.i (-(n:Int)))=.v (.i (n:Int)):=by show OR.v (.i (w64 (0- -(n:Int))))=_;rw[gf zo zo];congr 2;omega
   have e1:ko .u64 (.i (n:Int))=.v (.int .u64 (n:Int)):=by rw[vL,Ai zo]
   rw[aP];show W T Jv _ h1 [] _;generalize fW:-(n:Int)=ms at f1 s6 e0;refine aU f0 f1 s6 ?_;subst EF;simp(disch:=omega) [f0,f1,e0,e1,-vL];refine Ot HT x1 gg cV zo zo λh' D' cG fT q a1 a2 a3 a4 a5 a6=>?_;refine ag ?_;exact hk h' D' cG fT (q0+q) (g1.trans a1) qar a3 zo
  |succ m ih=>
   intro n q0 h1 D1 dc eU f hn cV hm hq g1 x1 gg f0 f1
   by_cases c:n<=60
   have s6:¬-(n:Int)< -60:=zo;have e0:uR (.i (-(n:Int)))=.v (.i (n:Int)):=by show OR.v (.i (w64 (0- -(n:Int))))=_;rw[gf zo zo];congr 2;omega
   have e1:ko .u64 (.i (n:Int))=.v (.int .u64 (n:Int)):=by rw[vL,Ai zo]
   rw[aP];show W T Jv _ h1 [] _;generalize fW:-(n:Int)=ms at f1 s6 e0;refine aU f0 f1 s6 ?_;subst EF;simp(disch:=omega) [f0,f1,e0,e1,-vL];refine Ot HT x1 gg cV zo zo λh' D' cG fT q a1 a2 a3 a4 a5 a6=>?_;refine ag ?_;exact hk h' D' cG fT (q0+q) (g1.trans a1) qar a3 zo;have s6:-(n:Int)< -60:=zo;have z1:n- 60<=60*(m+1):=by clear hk x x' x1;omega
   have z2:1<=n- 60:=zo;have z3:m<=16700:=zo;have z4:∀q,q<=1000->q0+q+(m+1)*1000<=20000000:=λq _=>zo;have e0:lG (.i (-(n:Int))) (.i 60)=.v (.i (-((n- 60:Nat):Int))):=by rw[zR,gf zo zo];congr 2;omega
   rw[aP];generalize hL:CC.loop l224_0=L at ih⊢;show W T Jv _ h1 [] _;generalize fW:-(n:Int)=ms at f1 s6 e0;generalize mX:-((n- 60:Nat):Int)=ms2 at e0;refine aU f0 f1 s6 ?_;refine Ot HT (s:=60) x1 gg zd zd zo λh' D' cG fT q a1 a2 a3 a4 a5 a6=>?_;simp(disch:=omega) [f0,f1,e0,-zR];refine ih (n- 60) (q0+q) h' D' cG fT _ z1 z2 z3 (z4 q a4) (g1.trans a1) qar a3 ?_ ?_;exact zA;exact au mX
 refine key 16700 n 0 h D nd tr _ zo cV zd zd (ah.refl _) (by rw[show dp- ((0:Nat):Int)=dp by omega];exact x) g ?_ ?_;exact aa;exact aa
theorem ajj(HT:aA T)(x:bM h b D nd dp ng tr)(g:kE D nd){m:Int}(hm:-1000000000<m/\m<1000000000)(hk:∀r:Bool,k (.ret (.bool r) h)):aE T (W T) ⟨234⟩ [.ptr b 0,.i m] h k:=by
 rw[aJ HT.t234];have x':=x;unfold bM at x';have n8:=g.le
 by_cases c1:m<0
 refine aS x' c1 ?_;exact hk _;obtain⟨n,rfl⟩:=at6 (by omega:0<=m)
 by_cases c2:nd<=n
 have c2':(nd:Int)<=n:=zo;refine bK x' c1 c2 c2' ?_;exact hk _;have c2':¬(nd:Int)<=n:=zo;have c3:n<800:=zo;have d:=g.mB n zo
 by_cases c4:D n=53
 by_cases c5:n+1=nd
 have c5':(n:Int)+1=nd:=zo;cases tr with
 |true=>
  refine fY x' c1 c2 c2' c3 c4 c5 c5' ?_;exact hk _
 |false=>
  by_cases c6:0<n
  have c6':(0:Int)<n:=zo;have e1:(n:Int)- 1=((n- 1:Nat):Int):=zo;have c7:n- 1<800:=zo;have d1:=g.mB (n- 1) zo;have e2:jb (.u8 (D (n- 1))) (.u8 48)=.v (.u8 (D (n- 1)- 48)):=T' d1.1 zo;have e3:AH (.u8 (D (n- 1)- 48)) (.u8 2)=.v (.u8 ((D (n- 1)- 48)% 2)):=rfl;refine kC x' c1 c2 c2' c3 c4 c5 c5' c6 c6' e1 c7 (atQ e2 e3) ?_;exact hk _;have c6':¬(0:Int)<n:=zo;refine nA x' c1 c2 c2' c3 c4 c5 c5' c6 c6' ?_;exact hk _
 have c5':¬(n:Int)+1=nd:=zo;refine fY x' c1 c2 c2' c3 c4 c5 c5' ?_;exact hk _;refine cq x' c1 c2 c2' c3 c4 ?_;exact hk _
theorem ajk(HT:aA T)(x:bM h b D nd dp ng tr)(g:kE D nd)(Bl:-1000000000<dp/\dp<1000000000)(hk:∀r:Int,k (.ret (.int .u64 r) h)):aE T (W T) ⟨225⟩ [.ptr b 0] h k:=by
 rw[aJ HT.t225];have x':=x;unfold bM at x';have n8:=g.le
 by_cases c20:20<dp
 refine aS x' c20 ?_;exact hk _;generalize KT:XQ=EG;generalize pz:CC.loop l225_0=L0;generalize jg:CC.loop l225_1=L1;refine aS x' c20 ?_;have cM:∀(f:Fr),J 0 f=.ptr b 0->(∃v,J 4 f=.int .u64 v)->W T EG f h [] (finish T (W T) [.tmp 2] k):=by
  intro f f0 ⟨v,f4⟩;subst KT;refine aS f0 x' ?_;refine ajj HT x g Bl λr=>?_;cases r with
  |true=>refine aB f4 ?_;exact hk _
  |false=>refine aB f4 ?_;exact hk _
 have Ul:∀(m i:Nat)(f:Fr),(dp:Int)<=i+m->i+m<=2000->J 0 f=.ptr b 0->J 3 f=.i i->(∃v,J 4 f=.int .u64 v)->W T L0 f h [] (bY 2 (bF (W T EG) (finish T (W T) [.tmp 2] k))):=by
  intro m
  induction m with
  |zero=>
   intro i f hm i8 f0 f3 ⟨v,f4⟩;have c:¬(i:Int)<dp:=zo;subst pz;rw[aP];show W T MO f h [] _;refine bK f0 f3 x' c ?_;refine cM _ ?_ ⟨v,?_⟩;exact zA;exact zA
  |succ m ih=>
   intro i f hm i8 f0 f3 ⟨v,f4⟩
   by_cases c:(i:Int)<dp
   rw[<-pz,aP];show W T MO f h [] _;rw[pz];refine cC f0 f3 f4 x' c ?_;refine ih (i+1) _ zo zo ?_ ?_ ⟨v*10% 18446744073709551616,?_⟩;exact zA;exact aa;exact aa;rw[<-pz,aP];show W T MO f h [] _;refine bK f0 f3 x' c ?_;refine cM _ ?_ ⟨v,?_⟩;exact zA;exact zA
 have ajl:∀(m i:Nat)(f:Fr),m=nd- i->i<=nd->J 0 f=.ptr b 0->J 3 f=.i i->(∃v,J 4 f=.int .u64 v)->W T L1 f h [] (bY 0 (bF (W T ((CC.block 2 L0).seq EG)) (finish T (W T) [.tmp 2] k))):=by
  intro m
  induction m with
  |zero=>
   intro i f hm hi f0 f3 ⟨v,f4⟩;obtain rfl:i=nd:=zo;subst jg;rw[aP];show W T MN f h [] _
   by_cases c:(i:Int)<dp
   refine bK f0 f3 x' c ?_;refine Ul 1000 i _ zo zo ?_ ?_ ⟨v,?_⟩;exact zA;exact zA;exact zA;refine bK f0 f3 x' c ?_;refine Ul 1000 i _ zo zo ?_ ?_ ⟨v,?_⟩;exact zA;exact zA;exact zA
  |succ m ih=>
   intro i f hm hi f0 f3 ⟨v,f4⟩;have ao:i<nd:=zo;have i8:i<800:=zo;have d:=g.mB i ao;have e2:jb (.u8 (D i)) (.u8 48)=.v (.u8 (D i- 48)):=T' d.1 zo;have e3:=KY (a:=D i- 48) zo;obtain⟨a1,e4⟩:∃a,qj (.int .u64 v) (.int .u64 10)=.v (.int .u64 a):=⟨_,rfl⟩;obtain⟨a2,e5⟩:∃a,lG (.int .u64 a1) (.int .u64 ((D i- 48:Nat):Int))=.v (.int .u64 a):=⟨_,rfl⟩
   by_cases c:(i:Int)<dp
   rw[<-jg,aP];show W T MN f h [] _;rw[jg];simp(disch:=omega) [-vK,-vJ,f0,f3,f4,x',c,ao,i8,e2,e3,e4,e5];refine ih (i+1) _ zo zo ?_ ?_ ⟨a2,?_⟩;exact zA;exact aa;exact aa;rw[<-jg,aP];show W T MN f h [] _;refine cC f0 f3 f4 x' c ?_;refine Ul 1000 i _ zo zo ?_ ?_ ⟨v,?_⟩;exact zA;exact zA;exact zA
 refine ajl nd 0 _ rfl (auz _) ?_ ?_ ⟨0,?_⟩;exact aa;exact aa;exact aa
end
section
open Go (IntKind)
variable{h:Hp}{k:aK->Prop}{D:Nat->Nat}{b nd:Nat}{dp:Int}{ng tr:Bool}{s:List UInt8}
theorem Ov{c:UInt8}(h:kh c=true):48<=c.toNat/\c.toNat<=57:=by simpa[kh] using h
theorem abg{c:UInt8}(h:KR c):(48<=c.toNat/\c.toNat<=57)\/c.toNat=46\/c.toNat=101\/c.toNat=43\/c.toNat=45:=by rcases h with h|h|h|h|h;exact .inl (Ov h);subst h;exact .inr (.inl rfl);subst h;exact .inr (.inr (.inl rfl));subst h;exact .inr (.inr (.inr (.inl rfl)));subst h;exact .inr (.inr (.inr (.inr rfl)))
theorem abh(g:qa s){i:Nat}(hi:i<s.length):KR s[i]:=g.all _ (auy hi)
theorem Um(H2:uU T){u:Nat}(hu:u<256)(hk:k (.ret (.u8 (bU (λ_ a b=>a|||b) u 32)) h)):aE T (W T) ⟨185⟩ [.u8 u] h k:=by rw[aJ H2.t185];refine ag ?_;exact hk
theorem abi:∀u,u<128->32<=u->(u<64->bU (λ_ a b=>a|||b) u 32=u)/\(96<=u->bU (λ_ a b=>a|||b) u 32=u):=by decide
theorem Un{u:Nat}(h:(48<=u/\u<=57)\/u=46\/u=101\/u=43\/u=45):bU (λ_ a b=>a|||b) u 32=u:=by
 by_cases c:u<64
 exact(abi u zo zo).1 c;exact(abi u zo zo).2 zo
structure EL(D:Nat->Nat)(nd i:Nat)(dp:Int):Prop where
 mB:th D nd
 hd:0<nd->D 0≠48
 le:nd<=i
 dp:-(i:Int)<=dp/\dp<=i
theorem EL.or{i:Nat}(x:EL D nd i dp)(h:i<=800):nd=0\/kE D nd:=by rcases auP nd with e|e;exact .inl e;exact .inr ⟨x.mB,by have:=x.le;omega,e,x.hd e⟩
theorem ajm(fl:qa s)(hl:s.length<=60){K:aT->Prop}
 (hK:∀f' h' D'(cG i:Nat) lz,ah (·=b) h h'->bM h' b D' cG lz ng tr->EL D' cG i lz->i<=s.length->J 0 f'=.ptr b 0->J 1 f'=S s->J 5 f'=.i i->(∃sd,J 6 f'=.bool sd)->(∃sd,J 7 f'=.bool sd)->J 4 f'=.bool false->K (.exit 1 f' h' []))
 (hR:∀f' h' D'(cG i:Nat) lz,ah (·=b) h h'->bM h' b D' cG lz ng tr->EL D' cG i lz->i<=s.length->J 4 f'=.bool false->K (.ret f' h' [])):
 ∀(m i:Nat)(h1:Hp)(D1:Nat->Nat)(dc:Nat)(dG:Int)(sd sg:Bool)(f:Fr),m=s.length- i->i<=s.length->ah (·=b) h h1->bM h1 b D1 dc dG ng tr->EL D1 dc i dG->
  J 0 f=.ptr b 0->J 1 f=S s->J 5 f=.i i->J 6 f=.bool sd->J 7 f=.bool sg->J 4 f=.bool false->W T (.loop l207_1) f h1 [] K:=by
 intro m
 induction m with
 |zero=>
  intro i h1 D1 dc dG sd sg f hm hi g x I f0 f1 f5 f6 f7 f4;have e:i=s.length:=zo;subst e;rw[aP];show W T Jr f h1 [] _;unfold Jr;refine aS f1 f5 ?_;refine hK _ h1 D1 dc _ dG g x I zl ?_ ?_ ?_ ⟨sd,?_⟩ ⟨sg,?_⟩ ?_;exact zA;exact zA;exact zA;exact zA;exact zA;exact zA
 |succ m ih=>
  intro i h1 D1 dc dG sd sg f hm hi g x I f0 f1 f5 f6 f7 f4;have x':=x;unfold bM at x';have ao:i<s.length:=zo;have aY:(i:Int)<s.length:=zo;have oc:=abg (abh fl ao);have eg:s.getD i 0=s[i]:=by rw[aub,atT ao];rfl
  have ix:nh (S s) (.i (i:Int))=.v (.u8 s[i].toNat):=by rw[dQ zo (by simpa using ao)];simp only[awr];rw[eg]
  generalize s[i].toNat=u at oc ix;have I1:EL D1 dc (i+1) dG:=⟨I.mB,I.hd,by have:=I.le;omega,by have:=I.dp;omega⟩;have le:=I.le;have dpb:=I.dp;rw[aP];generalize hL:CC.loop l207_1=L at ih⊢;show W T Jr f h1 [] _;unfold Jr;generalize ju:CC.aR r207_24=Dr;have c95:¬u=95:=zo
  by_cases c46:u=46
  cases sd with
  |true=>
   simp(disch:=omega) [-dQ,f0,f1,f5,f6,ao,aY,ix,c95,c46];refine hR _ h1 D1 dc i dG g x I hi ?_;exact zA
  |false=>
   simp(disch:=omega) [-dQ,f0,f1,f5,f6,ao,aY,ix,c95,c46,x'];refine ih (i+1) _ D1 dc dc true sg _ zo ao (g.set _ (.inr rfl)) (Hp.bR rfl) ⟨I.mB,I.hd,by omega,by omega⟩ ?_ ?_ ?_ ?_ ?_ ?_;exact zA;exact zA;exact aa;exact aa;exact zA;exact zA
  by_cases cd:48<=u/\u<=57
  obtain⟨uu,rz⟩:=cd
  by_cases c0:u=48/\dc=0
  obtain⟨c0,rfl⟩:=c0;subst c0;have e1:w64 (dG- 1)=dG- 1:=gf zo zo;simp(disch:=omega) [-dQ,f0,f1,f5,f6,ao,aY,ix,x'];refine ih (i+1) _ D1 0 (dG- 1) sd true _ zo ao (g.set _ (.inr rfl)) (Hp.bR rfl) ⟨I.mB,I.hd,by omega,by omega⟩ ?_ ?_ ?_ ?_ ?_ ?_;exact zA;exact zA;exact aa;exact zA;exact aa;exact zA;have n8:dc<800:=zo;have n8':(dc:Int)<800:=zo;have nI:EL (qb D1 dc u) (dc+1) (i+1) dG:=⟨λj hj=>by
   unfold qb;split;exact⟨uu,rz⟩;exact I.mB j zo,λ_=>by
   unfold qb;split;rename_i e;intro q;exact c0 ⟨q,e.symm⟩;rename_i e;exact I.hd zo,by omega,by omega⟩
  have b8:∀f2,J 0 f2=.ptr b 0->J 1 f2=S s->J 5 f2=.i i->J 6 f2=.bool sd->J 7 f2=.bool true->J 4 f2=.bool false->W T Dr f2 h1 [] (bF (W T (CC.af r207_25)) (bF (W T (CC.exit 2)) (bY 3 (bF (W T (CC.exit 1)) (bY 2 (bF (W T (CC.af r207_28)) (bF (W T L) K))))))):=by intro f2 q0 q1 q5 q6 q7 q4;subst ju;rw[lI,mu];generalize ku _ _=fm;simp(disch:=omega) [-dQ,q0,q1,q5,x',ix,n8,n8'];refine ih (i+1) _ (qb D1 dc u) (dc+1) dG sd true _ zo ao ((g.set _ (.inr rfl)).set _ (.inr rfl)) (Hp.bR rfl) nI ?_ ?_ ?_ ?_ ?_ ?_;exact au q0;exact au q1;exact aa;exact au q6;exact au q7;exact au q4
  by_cases c48:u=48
  have z:¬dc=0:=λe=>c0 ⟨c48,e⟩;have z':¬(dc:Int)=0:=zo;simp(disch:=omega) [-dQ,f0,f1,f5,f6,ao,aY,ix,c95,c46,uu,rz,c48,z,z',n8,n8',x'];refine b8 _ ?_ ?_ ?_ ?_ ?_ ?_;exact zA;exact zA;exact zA;exact zA;exact aa;exact zA;simp(disch:=omega) [-dQ,f0,f1,f5,f6,ao,aY,ix,c95,c46,uu,rz,c48,n8,n8',x'];refine b8 _ ?_ ?_ ?_ ?_ ?_ ?_;exact zA;exact zA;exact zA;exact zA;exact aa;exact zA;have uu:48<=u->¬u<=57:=λa b=>cd ⟨a,b⟩
  by_cases c48:48<=u
  have c57:=uu c48;simp(disch:=omega) [-dQ,f0,f1,f5,f6,ao,aY,ix,c95,c46,c48,c57];refine hK _ h1 D1 dc i dG g x I hi ?_ ?_ ?_ ⟨sd,?_⟩ ⟨sg,?_⟩ ?_;exact zA;exact zA;exact zA;exact zA;exact zA;exact zA;simp(disch:=omega) [-dQ,f0,f1,f5,f6,ao,aY,ix,c95,c46,c48];refine hK _ h1 D1 dc i dG g x I hi ?_ ?_ ?_ ⟨sd,?_⟩ ⟨sg,?_⟩ ?_;exact zA;exact zA;exact zA;exact zA;exact zA;exact zA
theorem xh(fl:qa s){i:Nat}(ao:i<s.length):∃u,nh (S s) (.i (i:Int))=.v (.u8 u)/\((48<=u/\u<=57)\/u=46\/u=101\/u=43\/u=45):=by refine⟨s[i].toNat,?_,abg (abh fl ao)⟩;rw[dQ zo (by simpa using ao)];simp only[awr];rw[aub,atT ao];rfl
theorem ajn(fl:qa s)(hl:s.length<=60){K:aT->Prop}(hK:∀f'(i:Nat)(e:Int),i<=s.length->0<=e->e<100000->J 0 f'=.ptr b 0->J 1 f'=S s->J 4 f'=.bool false->J 5 f'=.i i->(∃g,J 8 f'=.i g/\(g=1\/g=-1))->J 9 f'=.i e->K (.exit 5 f' h [])):
 ∀(m i:Nat)(e:Int)(f:Fr),m=s.length- i->i<=s.length->0<=e->e<100000->J 0 f=.ptr b 0->J 1 f=S s->J 4 f=.bool false->J 5 f=.i i->(∃g,J 8 f=.i g/\(g=1\/g=-1))->J 9 f=.i e->W T (.loop l207_0) f h [] K:=by
 intro m
 induction m with
 |zero=>
  intro i e f hm hi e0 e1 f0 f1 f4 f5 ⟨g,f8,hg⟩ f9;have ee:i=s.length:=zo;subst ee;rw[aP];show W T Ri f h [] _;refine aS f1 f5 ?_;refine hK _ _ e zl e0 e1 ?_ ?_ ?_ ?_ ⟨g,?_,hg⟩ ?_;exact zA;exact zA;exact zA;exact zA;exact zA;exact zA
 |succ m ih=>
  intro i e f hm hi e0 e1 f0 f1 f4 f5 ⟨g,f8,hg⟩ f9;have ao:i<s.length:=zo;have aY:(i:Int)<s.length:=zo;obtain⟨u,ix,oc⟩:=xh fl ao;have c95:¬u=95:=zo;rw[aP];generalize hL:CC.loop l207_0=L at ih⊢;show W T Ri f h [] _
  by_cases cd:48<=u/\u<=57
  obtain⟨uu,rz⟩:=cd;have ec:ko .i64 (.u8 u)=.v (.i (u:Int)):=by show OR.v (.i (w64 (Int.ofNat u)))=_;rw[show Int.ofNat u=(u:Int) from rfl,gf zo zo]
  by_cases c:e<10000
  have e2:w64 (e*10)=e*10:=gf zo zo;simp(disch:=omega) [-dQ,f0,f1,f5,f9,ao,aY,ix,uu,rz,c95,c,ec];refine ih (i+1) (e*10+u- 48) _ zo ao zo zo ?_ ?_ ?_ ?_ ⟨g,?_,hg⟩ ?_;exact zA;exact zA;exact zA;exact aa;exact zA;exact aa;simp(disch:=omega) [-dQ,f0,f1,f5,f9,ao,aY,ix,uu,rz,c95,c];refine ih (i+1) e _ zo ao e0 e1 ?_ ?_ ?_ ?_ ⟨g,?_,hg⟩ ?_;exact zA;exact zA;exact zA;exact aa;exact zA;exact zA;have out:∀f',J 0 f'=.ptr b 0->J 1 f'=S s->J 4 f'=.bool false->J 5 f'=.i i->J 8 f'=.i g->J 9 f'=.i e->K (.exit 5 f' h []):=λf' q0 q1 q4 q5 q8 q9=>hK f' i e hi e0 e1 q0 q1 q4 q5 ⟨g,q8,hg⟩ q9
  by_cases c48:48<=u
  have c57:¬u<=57:=λq=>cd ⟨c48,q⟩;simp(disch:=omega) [-dQ,f0,f1,f5,f9,ao,aY,ix,c48,c57,c95];refine out _ ?_ ?_ ?_ ?_ ?_ ?_;exact zA;exact zA;exact zA;exact zA;exact zA;exact zA;simp(disch:=omega) [-dQ,f0,f1,f5,f9,ao,aY,ix,c48,c95];refine out _ ?_ ?_ ?_ ?_ ?_ ?_;exact zA;exact zA;exact zA;exact zA;exact zA;exact zA
theorem ajo(H2:uU T)(x:bM h b (λ_=>0) 0 0 false false) (fl:qa s) (hl:s.length<=60)
 (hk:∀(r:Bool) h' D' cG lz yw fT,ah (·=b) h h'->bM h' b D' cG lz yw fT->(cG=0\/kE D' cG)->-200000<lz->lz<200000->k (.ret (.bool r) h')):aE T (W T) ⟨207⟩ [.ptr b 0,S s] h k:=by
 rw[aJ H2.h.t207];have x':=x;unfold bM at x';have l0:0<s.length:=auA.2 fl.ne;obtain⟨u,ix,oc⟩:=xh fl l0;have ix:nh (S s) (.i 0)=.v (.u8 u):=ix;have dh:48<=u/\u<=57:=by
  have a:=Ov fl.hd;have e:nh (S s) (.i 0)=.v (.u8 (s.headD 0).toNat):=by
   rw[dQ zd (by simpa using l0)];cases s with
   |nil=>simp at l0
   |cons c r=>rfl
  rw[ix] at e;cases e;exact a
 have c43:¬u=43:=zo;have c45:¬u=45:=zo;have sl:¬(s.length:Int)<=0:=zo;have KZ:¬s.length=0:=zo;generalize ajp:Rl=T29;generalize jg:CC.loop l207_1=L1;simp(disch:=omega) [-dQ,x',ix,c43,c45,sl,KZ];generalize hH:(Hp.set (Hp.set h b _) b _:Hp)=H;have gH:ah (·=b) h H:=by rw[<-hH];exact((ah.refl (M:=(·=b)) h).set _ (.inr rfl)).set _ (.inr rfl)
 have xH:bM H b (λ_=>0) 0 0 false false:=by rw[<-hH];exact Hp.bR rfl
 clear hH;subst jg;refine ajm (h:=H) (b:=b) (ng:=false) (tr:=false) fl hl (λf1 h1 D1 dc i dG g1 x1 I hi q0 q1 q5 e6 e7 q4=>?_) (λf1 h1 D1 dc i dG g1 x1 I hi q4=>?_) s.length 0 H (λ_=>0) 0 0 false false _ rfl (auz _) (ah.refl _) xH ⟨λj hj=>by omega,λz=>by omega,at2 _,by decide⟩ ?_ ?_ ?_ ?_ ?_ ?_;obtain⟨sd,q6⟩:=e6;obtain⟨sg,q7⟩:=e7;have le:=I.le;have dpb:=I.dp;have yx:=I.or zo;have g2:=gH.trans g1;have bad:∀(f2:Fr) h2 D2(cZ:Nat) gU nD,ah (·=b) h h2->bM h2 b D2 cZ gU false nD->(cZ=0\/kE D2 cZ)->-200000<gU->gU<200000->J 4 f2=.bool false->finish T (W T) [.tmp 4] k (.ret f2 h2 []):=λf2 h2 D2 cZ gU nD a1 a2 a3 a4 a5 a6=>by refine aB a6 ?_;exact hk false h2 D2 cZ gU false nD a1 a2 a3 a4 a5
 subst ajp;unfold Rl;generalize Uk:Rk=T32;generalize abj:XJ=T50;cases sg with
 |false=>
  refine aS q7 q4 ?_;exact hk false h1 D1 dc dG false false g2 x1 yx zo zo
 |true=>
  have Uo:∀(f2:Fr) h2(gU:Int)(i2:Nat),ah (·=b) h h2->bM h2 b D1 dc gU false false->-200000<gU->gU<200000->J 1 f2=S s->J 4 f2=.bool false->J 5 f2=.i i2->W T T50 f2 h2 [] (finish T (W T) [.tmp 4] k):=by
   intro f2 h2 gU i2 a1 a2 a3 a4 p1 p4 p5;subst abj
   by_cases c:i2=s.length
   subst c;refine aU p1 p4 p5 ?_;exact hk true h2 D1 dc gU false false a1 a2 yx a3 a4;have c':¬(i2:Int)=s.length:=zo;refine cC p1 p4 p5 c c' ?_;exact hk false h2 D1 dc gU false false a1 a2 yx a3 a4
  have HH:∀(f2:Fr) h2(gU:Int),ah (·=b) h h2->bM h2 b D1 dc gU false false->-1000<gU->gU<1000->J 0 f2=.ptr b 0->J 1 f2=S s->J 4 f2=.bool false->J 5 f2=.i i->W T T32 f2 h2 [] (finish T (W T) [.tmp 4] k):=by
   intro f2 h2 gU a1 a2 a3 a4 p0 p1 p4 p5;have a2':=a2;unfold bM at a2';subst Uk;unfold Rk;rw[abj]
   by_cases ci:i<s.length
   have yy:(i:Int)<s.length:=zo;obtain⟨u1,yz,K0⟩:=xh fl ci;have lo:=Un K0;simp(disch:=omega) [-dQ,p0,p1,p4,p5,ci,yy,yz];refine Um H2 zo ?_;rw[lo]
   by_cases ce:u1=101
   subst ce
   by_cases cj:i+1<s.length
   have yA:¬(s.length:Int)<=(i:Int)+1:=zo;have yB:¬s.length<=i+1:=zo;obtain⟨u2,yC,oc2⟩:=xh fl cj;have yC:nh (S s) (.i ((i:Int)+1))=.v (.u8 u2):=yC;generalize ajq:Rj=T42;have EM:∀(f3:Fr)(j:Nat)(g:Int),(g=1\/g=-1)->j<=s.length->J 0 f3=.ptr b 0->J 1 f3=S s->J 4 f3=.bool false->J 5 f3=.i j->J 8 f3=.i g->W T T42 f3 h2 [] (bF (W T T50) (finish T (W T) [.tmp 4] k)):=by
    intro f3 j g hg hj r0 r1 r4 r5 r8;subst ajq;unfold Rj
    by_cases cl:j<s.length
    have yD:¬(s.length:Int)<=j:=zo;have yE:¬s.length<=j:=zo;obtain⟨u3,EN,oc3⟩:=xh fl cl
    by_cases cd:u3<48
    simp(disch:=omega) [-dQ,r0,r1,r4,r5,r8,yD,yE,EN,cd];exact hk false h2 D1 dc gU false false a1 a2 yx zo zo
    by_cases rz:57<u3
    simp(disch:=omega) [-dQ,r0,r1,r4,r5,r8,yD,yE,EN,cd,rz];exact hk false h2 D1 dc gU false false a1 a2 yx zo zo;generalize pz:CC.loop l207_0=L0;simp(disch:=omega) [-dQ,r0,r1,r4,r5,r8,yD,yE,EN,cd,rz];subst pz;refine ajn (h:=h2) (b:=b) fl hl (λf4 i4 e i4l e0 e1 z0 z1 z4 z5 e8 z9=>?_) (s.length- j) j 0 _ rfl hj (atY _) zd ?_ ?_ ?_ ?_ ⟨g,?_,hg⟩ ?_;obtain⟨g2,z8,nv⟩:=e8;have bd:-100000<e*g2/\e*g2<100000:=by rcases nv with q|q<;>subst q<;>omega
    have w1:w64 (e*g2)=e*g2:=gf zo zo;have em:qj (.i e) (.i g2)=.v (.i (e*g2)):=by rw[NG,w1]
    generalize e*g2=eg at bd em;have w2:w64 (gU+eg)=gU+eg:=gf zo zo;simp(disch:=omega) [-NG,em,z0,z4,z5,z8,z9,a2',w2];refine Uo _ _ (gU+eg) i4 (a1.set _ (.inr rfl)) (Hp.bR rfl) zo zo ?_ ?_ ?_;exact au z1;exact au z4;exact au z5;exact au r0;exact au r1;exact au r4;exact au r5;exact au r8;exact aa;have yD:(s.length:Int)<=j:=zo;have yE:s.length<=j:=zo;simp(disch:=omega) [-dQ,r0,r1,r4,r5,r8,yD,yE];exact hk false h2 D1 dc gU false false a1 a2 yx zo zo
   by_cases cp:u2=43
   subst cp;simp(disch:=omega) [-dQ,p0,p1,p4,p5,ci,yy,yz,yC,yA,yB];refine EM _ (i+1+1) 1 (.inl rfl) zo ?_ ?_ ?_ ?_ ?_;exact au p0;exact au p1;exact au p4;exact aa;exact aa
   by_cases cm:u2=45
   subst cm;simp(disch:=omega) [-dQ,p0,p1,p4,p5,ci,yy,yz,yC,yA,yB];refine EM _ (i+1+1) (-1) (.inr rfl) zo ?_ ?_ ?_ ?_ ?_;exact au p0;exact au p1;exact au p4;exact aa;exact aa;simp(disch:=omega) [-dQ,p0,p1,p4,p5,ci,yy,yz,yC,yA,yB,cp,cm];refine EM _ (i+1) 1 (.inl rfl) zo ?_ ?_ ?_ ?_ ?_;exact au p0;exact au p1;exact au p4;exact aa;exact aa;have yA:(s.length:Int)<=(i:Int)+1:=zo;have yB:s.length<=i+1:=zo;simp(disch:=omega) [-dQ,p0,p1,p4,p5,ci,yy,yz,yA,yB];exact hk false h2 D1 dc gU false false a1 a2 yx zo zo;refine aB ce ?_;refine Uo _ h2 gU i a1 a2 zo zo ?_ ?_ ?_;exact au p1;exact au p4;exact au p5;have yy:¬(i:Int)<s.length:=zo;simp(disch:=omega) [-dQ,p0,p1,p4,p5,ci,yy];refine Uo _ h2 gU i a1 a2 zo zo ?_ ?_ ?_;exact au p1;exact au p4;exact au p5
  have x1':=x1;unfold bM at x1';cases sd with
  |false=>
   refine bK q0 q6 q7 x1' ?_;refine HH _ _ dc (g2.set _ (.inr rfl)) (Hp.bR rfl) zo zo ?_ ?_ ?_ ?_;exact au q0;exact au q1;exact au q4;exact au q5
  |true=>
   refine bK q0 q6 q7 x1' ?_;refine HH _ _ dG g2 x1 zo zo ?_ ?_ ?_ ?_;exact au q0;exact au q1;exact au q4;exact au q5
 refine aB q4 ?_;exact hk false h1 D1 dc dG false false (gH.trans g1) x1 (I.or zo) (by have:=I.dp;omega) (by have:=I.dp;omega);exact aa;exact aa;exact aa;exact aa;exact aa;exact aa
end
section
open Go (IntKind)
variable{h:Hp}{k:aK->Prop}{D:Nat->Nat}{b nd:Nat}{dp:Int}{ng tr:Bool}
def pw(i:Nat):Nat:=[1,3,6,9,13,16,19,23,26].getD i 0
theorem abk:∀i,i<9->1<=pw i/\pw i<=27/\(2<=i->6<=pw i):=by decide
def EO(h:Hp):Prop:=∃q cap ex,cellsOf (h.get 11) 0 1=some [.slice q 0 1 9 cap ex]/\q<22/\∀i,i<9->cellsOf (h.get q) i 1=some [.i (pw i)]
theorem EO.kp{h':Hp}(x:EO h)(g:xe h h'):EO h':=by obtain⟨q,cap,ex,e,hq,a⟩:=x;exact⟨q,cap,ex,by rw[g 11 zd];exact e,hq,λi hi=>by rw[g q hq];exact a i hi⟩
theorem abl{n:Nat}(h:n<1000000000):uR (.i (n:Int))=.v (.i (-(n:Int))):=by show OR.v (.i (w64 (0- (n:Int))))=_;rw[gf zo zo];congr 2;omega
def Aj(D:Nat->Nat):Nat:=if 56<=D 0 then 1 else 0
theorem ajr(HT:aA T)(pt:EO h)(hb:22<=b)(hn:22<=h.nx){K:aT->Prop}
 (hK:∀f' h' D' cG(lz:Int) fT(e:Int),ah (·=b) h h'->bM h' b D' cG lz ng fT->kE D' cG->lz<=0->-2000<lz->-100<=e->e<=100000->J 0 f'=.ptr b 0->J 1 f'=.ptr 9 0->J 5 f'=.bool false->J 6 f'=.i e->K (.exit 0 f' h' [])):
 ∀(m:Nat)(h1:Hp)(D1:Nat->Nat)(dc:Nat)(dG:Int)(eU:Bool)(e:Int)(f:Fr),2*dG+Aj D1<=m->dG<=400->-2000<dG->-100<=e->e+27*m<=100000->ah (·=b) h h1->bM h1 b D1 dc dG ng eU->kE D1 dc->
  J 0 f=.ptr b 0->J 1 f=.ptr 9 0->J 5 f=.bool false->J 6 f=.i e->W T (.loop l208_1) f h1 [] K:=by
 intro m;have out:∀(h1:Hp)(D1:Nat->Nat)(dc:Nat)(dG:Int)(eU:Bool)(e:Int)(f:Fr),dG<=0->-2000<dG->-100<=e->e<=100000->ah (·=b) h h1->bM h1 b D1 dc dG ng eU->kE D1 dc->J 0 f=.ptr b 0->J 1 f=.ptr 9 0->J 5 f=.bool false->J 6 f=.i e->W T (.loop l208_1) f h1 [] K:=by intro h1 D1 dc dG eU e f c lo e0 e1 g x gg f0 f1 f5 f6;have x':=x;unfold bM at x';have c':¬0<dG:=zo;rw[aP];show W T Js f h1 [] _;unfold Js;refine aU f0 x' c' ?_;refine hK _ h1 D1 dc dG eU e g x gg c lo e0 e1 ?_ ?_ ?_ ?_;exact zA;exact zA;exact zA;exact zA
 induction m with
 |zero=>
  intro h1 D1 dc dG eU e f hm up lo e0 e1 g x gg f0 f1 f5 f6;exact out h1 D1 dc dG eU e f zo lo e0 zo g x gg f0 f1 f5 f6
 |succ m ih=>
  intro h1 D1 dc dG eU e f hm up lo e0 e1 g x gg f0 f1 f5 f6
  by_cases c:0<dG
  have x':=x;unfold bM at x';obtain⟨q,cap,ex,pe,hq,pa⟩:=pt.kp (.of g hb hn);obtain⟨n,rfl⟩:=at6 (by omega:0<=dG);have d0:=gg.mB 0 gg.pos;have dh:=gg.hd;rw[aP];generalize hL:CC.loop l208_1=L at ih⊢;show W T Js f h1 [] _;unfold Js;generalize ju:CC.aR r208_13=Dr;generalize Ah:CC.aR r208_15=KX;generalize hT:XK=T16;have rest:∀(f2:Fr)(s:Nat),1<=s->s<=27->(2<=n->6<=s)->(n=1->s=3)->J 0 f2=.ptr b 0->J 1 f2=.ptr 9 0->J 5 f2=.bool false->J 6 f2=.i e->J 8 f2=.i s->W T T16 f2 h1 [] (bY 1 (bF (W T L) K)):=by
   intro f2 s s1 s2 s3 s4 p0 p1 p5 p6 p8;subst hT;have ne:=abl (n:=s) zo;generalize Up:-(s:Int)=ms at ne;refine aU p0 p8 ne ?_;subst Up;refine ajh HT x gg s1 zo zo λh2 D2 cZ nD q a1 a2 a3 a4 a5 a6=>?_;have es:w64 (e+s)=e+s:=gf zo zo;refine aU p6 p8 es ?_;have dn:=a3.mB 0 a3.pos;have p64:6<=s->64<=2^s:=λz=>auG (by decide:0<2) z;have Uq:2*((n:Int)- q)+Aj D2<=m:=by
    have b2:Aj D2<=1:=by unfold Aj;split<;>omega
    rcases auP q with z|z;subst z;have n1:n=1:=by refine avu λz=>?_;have:=p64 (s3 zo);have:=a5 zo;omega
    have s3':=s4 n1;subst s3';have a5':¬D1 0- 48<2^3:=λz=>by have:=a5 z;omega
    have a6:=a6 rfl;have b1:Aj D1=1:=by unfold Aj;rw[atV zo]
    have b3:Aj D2=0:=by unfold Aj;rw[atS zo]
    rw[b1] at hm;rw[b3];omega;omega
   refine ih h2 D2 cZ ((n:Int)- q) nD (e+s) _ Uq zo zo zo zo (g.trans a1) a2 a3 ?_ ?_ ?_ ?_;exact au p0;exact au p1;exact au p5;exact aa
  have c0:0<n:=zo;have c0':(0:Int)<n:=zo;refine bK f0 x' c0 c0' ?_;subst ju;rw[lI,mu];generalize ku _ _=fm
  by_cases c9:9<=n
  have c9':(9:Int)<=n:=zo;refine cC f0 x' pe c9 c9' ?_;refine rest _ 27 zd zd (λ_=>by decide) (λz=>by omega) ?_ ?_ ?_ ?_ ?_;exact zA;exact zA;exact zA;exact zA;exact aa;have c9':¬(9:Int)<=n:=zo;obtain⟨w1,w2,w3⟩:=abk n zo;have pn:=pa n zo;have n9:n<9:=zo;refine cC f0 x' pe c9 c9' ?_;subst Ah;rw[lI,mu];generalize ku _ _=fm;refine cC f0 x' pe pn n9 ?_;refine rest _ (pw n) w1 w2 w3 (λz=>by subst z;rfl) ?_ ?_ ?_ ?_ ?_;exact zA;exact zA;exact zA;exact zA;exact aa;exact out h1 D1 dc dG eU e f zo lo e0 zo g x gg f0 f1 f5 f6
end
section
open Go (IntKind)
variable{h:Hp}{k:aK->Prop}{D D':Nat->Nat}{b nd δ:Nat}{dp:Int}{ng tr:Bool}
theorem ajs(g:kE D nd){s:Nat}(hs:6<=s)(h2:V D nd*2^s<10^(nd+δ)):1<=δ:=by
 obtain⟨v1,v2⟩:=KW g.mB g.pos g.hd;rcases auP δ with z|z;subst z;have p:64<=2^s:=auG (by decide:0<2) hs;have a:=at4 (10^(nd- 1)) v2;rw[avz] at a;have lo:10^(nd- 1)<=V D nd:=at1 a v1;have e:10^(nd+0)=10^(nd- 1)*10:=by rw[<-auX];congr 1;have:=g.pos;omega
 have b:=axp lo p;have q:10^(nd- 1)*10<=10^(nd- 1)*64:=au2 _ zd;omega;exact z
theorem ajt(g:kE D nd)(h2:V D nd*2^3<10^(nd+δ))(hz:δ=0->D' 0- 48=V D nd*2^3/10^(nd- 1))(gd:48<=D' 0):1<=δ\/D 0<D' 0/\δ=0:=by
 obtain⟨v1,v2⟩:=KW g.mB g.pos g.hd;rcases auP δ with z|z;right;refine⟨?_,z⟩;have hz:=hz z;subst z;have p:0<10^(nd- 1):=auZ zd;have e:10^(nd+0)=10^(nd- 1)*10:=by rw[<-auX];congr 1;have:=g.pos;omega
 generalize 10^(nd- 1)=P at*;have a:=at4 P v2;rw[avz] at a;have one:D 0- 48<=1:=by refine avu λc=>?_;have:=at4 P (by omega:2<=D 0- 48);omega
 have lo:8<=V D nd*2^3/P:=(awA p).2 zo;omega;exact .inl z
theorem aju(g:kE D nd)(h5:D 0<53)(h1:10^(nd+δ- 1)<=V D nd*2^1)(hz:δ=0->D' 0- 48=V D nd*2^1/10^(nd- 1))(gd:48<=D' 0):D 0<D' 0/\δ=0:=by
 obtain⟨v1,v2⟩:=KW g.mB g.pos g.hd;have up:=aa7 g.mB (i:=1) g.pos;have V1:V D 1=D 0- 48:=by simp[V]
 rw[V1] at up;have p:0<10^(nd- 1):=auZ zd;have z:δ=0:=by
  refine avu λc=>?_;have e:10^(nd+δ- 1)=10^(nd- 1)*10^δ:=by rw[<-auT];congr 1;have:=g.pos;omega
  have q:10<=10^δ:=by have:=auG (by decide:0<10) (by omega:1<=δ);omega
  rw[e] at h1;have a:=au2 (10^(nd- 1)) q;generalize 10^(nd- 1)=P at*;have:=at4 P (by omega:D 0- 48+1<=5);omega
 refine⟨?_,z⟩;have hz:=hz z;have lo:2*(D 0- 48)<=V D nd*2^1/10^(nd- 1):=by refine(awA p).2 ?_;rw[avM];omega
 omega
theorem ajv(HT:aA T)(pt:EO h)(ct:CS h)(hb:22<=b)(hn:22<=h.nx){K:aT->Prop}
 (hK:∀f' h' D' cG(lz:Int) fT(e:Int),ah (·=b) h h'->bM h' b D' cG lz ng fT->kE D' cG->-2000<lz->lz<2000->-900000<=e->e<=100000->J 0 f'=.ptr b 0->J 1 f'=.ptr 9 0->J 5 f'=.bool false->J 6 f'=.i e->K (.exit 2 f' h' [])):
 ∀(m:Nat)(h1:Hp)(D1:Nat->Nat)(dc:Nat)(dG:Int)(eU:Bool)(e:Int)(f:Fr),10*(-dG)+(57- D1 0)<=m->dG<=100->-2000<dG->e<=100000->-900000<=e- 27*m->ah (·=b) h h1->bM h1 b D1 dc dG ng eU->kE D1 dc->
  J 0 f=.ptr b 0->J 1 f=.ptr 9 0->J 5 f=.bool false->J 6 f=.i e->W T (.loop l208_0) f h1 [] K:=by
 intro m;have out:∀(h1:Hp)(D1:Nat->Nat)(dc:Nat)(dG:Int)(eU:Bool)(e:Int)(f:Fr),¬(dG<0\/dG=0/\D1 0<53)->dG<=100->-900000<=e->e<=100000->ah (·=b) h h1->bM h1 b D1 dc dG ng eU->kE D1 dc->J 0 f=.ptr b 0->J 1 f=.ptr 9 0->J 5 f=.bool false->J 6 f=.i e->W T (.loop l208_0) f h1 [] K:=by
  intro h1 D1 dc dG eU e f c up e0 e1 g x gg f0 f1 f5 f6;have x':=x;unfold bM at x';have c1:¬dG<0:=λz=>c (.inl z);rw[aP];show W T Jt f h1 [] _;unfold Jt
  by_cases z:dG=0
  have c2:¬D1 0<53:=λy=>c (.inr ⟨z,y⟩);subst z;refine aU f0 x' c2 ?_;refine hK _ h1 D1 dc 0 eU e g x gg zd zd e0 e1 ?_ ?_ ?_ ?_;exact zA;exact zA;exact zA;exact zA;refine bK f0 x' c1 z ?_;refine hK _ h1 D1 dc dG eU e g x gg zo zo e0 e1 ?_ ?_ ?_ ?_;exact zA;exact zA;exact zA;exact zA
 induction m with
 |zero=>
  intro h1 D1 dc dG eU e f hm up lo e0 e1 g x gg f0 f1 f5 f6;have d0:=gg.mB 0 gg.pos;exact out h1 D1 dc dG eU e f zo up zo e0 g x gg f0 f1 f5 f6
 |succ m ih=>
  intro h1 D1 dc dG eU e f hm up lo e0 e1 g x gg f0 f1 f5 f6
  by_cases c:dG<0\/dG=0/\D1 0<53
  have x':=x;unfold bM at x';have kp:=xe.of g hb hn;obtain⟨q,cap,ex,pe,hq,pa⟩:=pt.kp kp;obtain⟨n,bg⟩:=at6 (by omega:0<=-dG);obtain rfl:dG=-(n:Int):=zo;have d0:=gg.mB 0 gg.pos;rw[aP];generalize hL:CC.loop l208_0=L at ih⊢;show W T Jt f h1 [] _;unfold Jt;generalize ju:CC.aR r208_20=Dr;generalize Ah:CC.aR r208_22=KX;generalize hT:XL=T23;have rest:∀(f2:Fr)(s:Nat),1<=s->s<=27->(2<=n->6<=s)->(n=1->s=3)->(n=0->s=1)->J 0 f2=.ptr b 0->J 1 f2=.ptr 9 0->J 5 f2=.bool false->J 6 f2=.i e->J 9 f2=.i s->W T T23 f2 h1 [] (bY 3 (bF (W T L) K)):=by
   intro f2 s s1 s2 s3 s4 s5 p0 p1 p5 p6 p9;subst hT;refine aS p0 p9 ?_;refine abf HT x gg s1 zo (ct.kp kp) hb zo λh2 D2 cZ nD δ a1 a2 a3 a4 a5 a6 a7=>?_;have es:w64 (e- s)=e- s:=gf zo zo;refine aU p6 p9 es ?_;have dn:=a3.mB 0 a3.pos;have Uq:10*(-(-(n:Int)+δ))+(57- D2 0)<=m:=by rcases avh n 1 with z|z;have n0:n=0:=zo;have s1':=s5 n0;subst s1';have:=aju gg zo a5 a7 dn.1;omega;rcases avh n 2 with y|y;have s3':=s4 zo;subst s3';have:=ajt gg a6 a7 dn.1;omega;have:=ajs gg (s3 y) a6;omega
   refine ih h2 D2 cZ (-(n:Int)+δ) nD (e- s) _ Uq zo zo zo zo (g.trans a1) a2 a3 ?_ ?_ ?_ ?_;exact au p0;exact au p1;exact au p5;exact aa
  have nn:uR (.i (-(n:Int)))=.v (.i (n:Int)):=by show OR.v (.i (w64 (0- -(n:Int))))=_;rw[gf zo zo];congr 2;omega
  have k9:∀f2,J 0 f2=.ptr b 0->J 1 f2=.ptr 9 0->J 5 f2=.bool false->J 6 f2=.i e->W T Dr f2 h1 [] (bF (W T (CC.cond (.t 88) (CC.af r208_21) KX)) (bF (W T T23) (bY 3 (bF (W T L) K)))):=by
   intro f2 p0 p1 p5 p6;generalize Sh:-(n:Int)=mn at*;subst ju;rw[lI,mu];generalize ku _ _=fm
   by_cases c9:9<=n
   have c9':(9:Int)<=n:=zo;refine cq p0 x' pe c9 c9' nn ?_;refine rest _ 27 zd zd (λ_=>by decide) (λz=>by omega) (λz=>by omega) ?_ ?_ ?_ ?_ ?_;exact au p0;exact au p1;exact au p5;exact au p6;exact aa;have c9':¬(9:Int)<=n:=zo;obtain⟨w1,w2,w3⟩:=abk n zo;have pn:=pa n zo;have n9:n<9:=zo;refine cq p0 x' pe c9 c9' nn ?_;subst Ah;rw[lI,mu];generalize ku _ _=fm;refine cq p0 x' pe pn n9 nn ?_;refine rest _ (pw n) w1 w2 w3 (λz=>by subst z;rfl) (λz=>by subst z;rfl) ?_ ?_ ?_ ?_ ?_;exact au p0;exact au p1;exact au p5;exact au p6;exact aa
  rcases auP n with z|z;subst z;have c53:D1 0<53:=zo;have z1:¬(-((0:Nat):Int))<0:=by decide
  have z2:(-((0:Nat):Int))=0:=by decide
  refine cC f0 x' c53 z1 z2 ?_;refine k9 _ ?_ ?_ ?_ ?_;exact zA;exact zA;exact zA;exact zA;have z1:-(n:Int)<0:=zo;generalize Sh:-(n:Int)=mn at x' z1;refine aU f0 x' z1 ?_;refine k9 _ ?_ ?_ ?_ ?_;exact zA;exact zA;exact zA;exact zA;exact out h1 D1 dc dG eU e f c up zo e0 g x gg f0 f1 f5 f6
def Bm(h:Hp):Prop:=cellsOf (h.get 9) 0 1=some [.int .u64 52]/\cellsOf (h.get 9) 1 1=some [.int .u64 11]/\cellsOf (h.get 9) 2 1=some [.i (-1023)]
theorem Bm.kp{h':Hp}(x:Bm h)(g:xe h h'):Bm h':=by unfold Bm;rw[g 9 zd];exact x
theorem EP:oQ pF (.i 1) (.int .u64 11)=.v (.i 2048):=rfl
theorem abm{f:Fr}{v e:Int}{r:Bool}(x:bM h b D nd dp ng tr)(ft:Bm h){KK:aT->Prop}(f0:J 0 f=.ptr b 0)(f1:J 1 f=.ptr 9 0)(f5:J 5 f=.bool r)(f6:J 6 f=.i e)(f7:J 7 f=.int .u64 v)
 (hk:∀f' v r,J 4 f'=.int .u64 v->J 5 f'=.bool r->KK (.ret f' h [])):W T (CC.seq (.af r208_42) (.seq (.aR r208_43) (.seq (.seq (.af r208_44) (.cond (.t 228) (.aR r208_45) .skip)) (.seq (.af r208_46) .ret)))) f h [] KK:=by
 have x':=x;unfold bM at x';obtain⟨t1,t2,t3⟩:=ft;generalize ju:CC.aR r208_43=Dr;generalize Ah:CC.aR r208_45=KX;obtain⟨a1,e1⟩:∃a,oQ pF (.int .u64 1) (.int .u64 52)=.v (.int .u64 a):=⟨_,rfl⟩;obtain⟨a2,e2⟩:∃a,jb (.int .u64 a1) (.int .u64 1)=.v (.int .u64 a):=⟨_,rfl⟩;obtain⟨a3,e3⟩:∃a,jI (λ_ a b=>a&&&b) (.int .u64 v) (.int .u64 a2)=.v (.int .u64 a):=⟨_,rfl⟩;obtain⟨a4,e4⟩:∃a,jb (.i e) (.i (-1023))=.v (.i a):=⟨_,rfl⟩;obtain⟨a5,e5⟩:∃a,jb (.i 2048) (.i 1)=.v (.i a):=⟨_,rfl⟩;obtain⟨a6,e6⟩:∃a,jI (λ_ a b=>a&&&b) (.i a4) (.i a5)=.v (.i a):=⟨_,rfl⟩;obtain⟨a7,e7⟩:∃a,ko .u64 (.i a6)=.v (.int .u64 a):=⟨_,rfl⟩;obtain⟨a8,e8⟩:∃a,oQ pF (.int .u64 a7) (.int .u64 52)=.v (.int .u64 a):=⟨_,rfl⟩;obtain⟨a9,e9⟩:∃a,jI (λ_ a b=>a|||b) (.int .u64 a3) (.int .u64 a8)=.v (.int .u64 a):=⟨_,rfl⟩;obtain⟨a10,e10⟩:∃a,oQ pF (.int .u64 a1) (.int .u64 11)=.v (.int .u64 a):=⟨_,rfl⟩;obtain⟨a11,e11⟩:∃a,jI (λ_ a b=>a|||b) (.int .u64 a9) (.int .u64 a10)=.v (.int .u64 a):=⟨_,rfl⟩;simp(disch:=omega) [-ru,-kD,-oy,-G5,-vL,f0,f1,f5,f6,f7,t1,t2,t3,e1,e2,e3];subst ju;rw[lI,mu];generalize ku _ _=fm;cases ng with
 |false=>
  simp(disch:=omega) [-ru,-kD,-oy,-G5,-vL,f0,f1,f5,f6,f7,t1,t2,t3,e1,e2,e3,e4,e5,e6,e7,e8,e9,EP,x'];refine hk _ a9 r ?_ ?_;exact aa;exact aa
 |true=>
  simp(disch:=omega) [-ru,-kD,-oy,-G5,-vL,f0,f1,f5,f6,f7,t1,t2,t3,e1,e2,e3,e4,e5,e6,e7,e8,e9,EP,x'];subst Ah;rw[lI,mu];generalize ku _ _=fm;simp(disch:=omega) [-ru,-kD,-oy,-G5,-vL,f0,f1,f5,f6,f7,t1,t2,t3,e1,e10,e11];refine hk _ a11 r ?_ ?_;exact aa;exact aa
theorem ajw{f:Fr}{n:Nat}{C:CC}(x:bM h b D nd dp ng tr)(ft:Bm h){KK:aT->Prop}(f0:J 0 f=.ptr b 0)(f1:J 1 f=.ptr 9 0)
 (hk:∀f' v r,J 4 f'=.int .u64 v->J 5 f'=.bool r->KK (.ret f' h [])):W T (CC.seq (.af r208_39) (.seq (.aR r208_40) (.seq (.af r208_41) (.seq (.label 0) MJ)))) f h [] (pH (W T) C KK n):=by
 obtain⟨t1,t2,t3⟩:=ft;generalize ju:CC.aR r208_40=Dr;generalize hT:MJ=T42;refine ag ?_;subst ju;rw[lI,mu];generalize ku _ _=fm;simp(disch:=omega) [f0,f1,t1,t2,t3,EP];subst hT;refine abm (v:=0) (r:=true) (e:=1024) x ⟨t1,t2,t3⟩ ?_ ?_ ?_ ?_ ?_ (λf' v r p4 p5=>?_);exact zA;exact zA;exact aa;exact aa;exact aa;rw[Ta];exact hk f' v r p4 p5
theorem ajx(HT:aA T)(x:bM h b D nd dp ng tr)(yx:nd=0\/kE D nd)(Bl:-200000<dp/\dp<200000)(ct:CS h)(pt:EO h)(ft:Bm h)(hb:22<=b)(hn:22<=h.nx)
 (hk:∀v r h',ah (·=b) h h'->k (.ret (.bA [.int .u64 v,.bool r]) h')):aE T (W T) ⟨208⟩ [.ptr b 0,.ptr 9 0] h k:=by
 rw[aJ HT.t208];have b0:xO 0 Ju=some (.seq .skip MJ):=rfl;have b1:xO 1 Ju=some (.seq .skip XM):=rfl;have ft':=ft;obtain⟨t1,t2,t3⟩:=ft';have x':=x;unfold bM at x';generalize hC:Ju=C at b0 b1;have done:∀f' v r h',ah (·=b) h h'->J 4 f'=.int .u64 v->J 5 f'=.bool r->finish T (W T) [.tmp 4,.tmp 5] k (.ret f' h' []):=λf' v r h' g p4 p5=>by refine aS p4 p5 ?_;exact hk v r h' g
 generalize ER:finish T (W T) [.tmp 4,.tmp 5] k=Kf at done⊢;generalize hS:pH (W T) C Kf 8=KS;have J0:∀(f':Fr) h' D' cG lz yw fT(e v:Int)(r:Bool),ah (·=b) h h'->bM h' b D' cG lz yw fT->J 0 f'=.ptr b 0->J 1 f'=.ptr 9 0->J 5 f'=.bool r->J 6 f'=.i e->J 7 f'=.int .u64 v->KS (.jW 0 f' h' []):=by intro f' h' D' cG lz yw fT e v r g x1 p0 p1 p5 p6 p7;rw[<-hS,ZO,b0,ZP,Gi,Qq];show W T _ f' h' [] _;refine abm x1 (ft.kp (.of g hb hn)) p0 p1 p5 p6 p7 λf2 v r q4 q5=>?_;rw[Ta];exact done f2 v r h' g q4 q5
 have J1:∀(f':Fr) h' D' cG lz yw fT,ah (·=b) h h'->bM h' b D' cG lz yw fT->J 0 f'=.ptr b 0->J 1 f'=.ptr 9 0->KS (.jW 1 f' h' []):=by intro f' h' D' cG lz yw fT g x1 p0 p1;rw[<-hS,ZO,b1,ZP,Gi,Qq];show W T _ f' h' [] _;exact ajw x1 (ft.kp (.of g hb hn)) p0 p1 λf2 v r q4 q5=>done f2 v r h' g q4 q5
 have entry:∀f,J 0 f=.ptr b 0->J 1 f=.ptr 9 0->J 5 f=.bool false->W T C f h [] KS:=by
  intro f f0 f1 f5;clear hS b0 b1;subst hC;unfold Ju;have nn:∀n:Nat,n<1000000000->uR (.i (n:Int))=.v (.i (-(n:Int))):=λn hn=>abl hn;have EM:∀(f2:Fr) h2 D2 cZ(gU:Int) nD(e2 v2:Int),ah (·=b) h h2->bM h2 b D2 cZ gU ng nD->J 0 f2=.ptr b 0->J 1 f2=.ptr 9 0->J 5 f2=.bool false->J 6 f2=.i e2->J 7 f2=.int .u64 v2->W T ML f2 h2 [] KS:=by
   intro f2 h2 D2 cZ gU nD e2 v2 a1 a2 p0 p1 p5 p6 p7;unfold ML;obtain⟨s1,s2,s3⟩:=ft.kp (.of a1 hb hn);obtain⟨c1,e1⟩:∃a,oQ pF (.int .u64 1) (.int .u64 52)=.v (.int .u64 a):=⟨_,rfl⟩;obtain⟨c2,e2'⟩:∃a,jI (λ_ a b=>a&&&b) (.int .u64 v2) (.int .u64 c1)=.v (.int .u64 a):=⟨_,rfl⟩;generalize hG:CC.goto 0=G
   by_cases z:c2=0
   subst z;simp(maxSteps:=400000) (disch:=first|exact bh|fail) [-oy,p0,p1,p5,p6,p7,s1,s2,s3,e1,e2'];subst hG;refine ag ?_;refine J0 _ h2 D2 cZ gU ng nD (-1023) v2 false a1 a2 ?_ ?_ ?_ ?_ ?_;exact au p0;exact au p1;exact au p5;exact aa;exact au p7;simp(maxSteps:=400000) (disch:=first|exact bh|fail) [-oy,p0,p1,p5,p6,p7,s1,s2,s3,e1,e2',z];subst hG;refine ag ?_;refine J0 _ h2 D2 cZ gU ng nD e2 v2 false a1 a2 ?_ ?_ ?_ ?_ ?_;exact au p0;exact au p1;exact au p5;exact au p6;exact au p7
  have HH:∀(f2:Fr) h2 D2 cZ(gU:Int) nD(e2:Int),ah (·=b) h h2->bM h2 b D2 cZ gU ng nD->kE D2 cZ->-100000000<gU->gU<100000000->-1000000<=e2->e2<=1000000->J 0 f2=.ptr b 0->J 1 f2=.ptr 9 0->J 5 f2=.bool false->J 6 f2=.i e2->W T MM f2 h2 [] KS:=by
   intro f2 h2 D2 cZ gU nD e2 a1 a2 a3 d1 d2 e1 e3 p0 p1 p5 p6;have kp:=xe.of a1 hb hn;obtain⟨s1,s2,s3⟩:=ft.kp kp;have w1:w64 (e2- -1023)=e2+1023:=by rw[gf zo zo];omega
   unfold MM cI;generalize ju:CC.aR r208_30=Dr;generalize Ah:CC.aR r208_36=KX;generalize ajy:Rm=T31;generalize ajz:ML=T37 at EM;generalize Ur:CC.goto 1=G1;rw[Gi,Gi];subst ju;rw[lI,mu];generalize ku _ _=fm;have em:jb (.i e2) (.i (-1023))=.v (.i (e2+1023)):=by rw[kD,w1]
   by_cases c:2047<=e2+1023
   simp(maxSteps:=400000) (disch:=first|exact bh|fail) [-kD,p0,p1,p6,s1,s2,s3,em,EP,c,show jb (.i 2048) (.i 1)=.v (.i 2047) from rfl];subst Ur;refine ag ?_;refine J1 _ h2 D2 cZ gU ng nD a1 a2 ?_ ?_;exact au p0;exact au p1;simp(maxSteps:=400000) (disch:=first|exact bh|fail) [-kD,p0,p1,p6,s1,s2,s3,em,EP,c,show jb (.i 2048) (.i 1)=.v (.i 2047) from rfl];subst ajy;unfold Rm;rw[Ah,ajz,Ur];have e53:lG (.int .u64 1) (.int .u64 52)=.v (.int .u64 53):=rfl;have c53:ko .i64 (.int .u64 53)=.v (.i 53):=rfl;simp(disch:=omega) [-kD,-zR,p0,p1,s1,s2,s3,e53,c53];refine abf HT (s:=53) a2 a3 zd zd (ct.kp kp) hb zo λh3 D3 o8 CU δ b1 b2 b3 b4 b5 b6 b7=>?_;have a13:=a1.trans b1;obtain⟨s1,s2,s3⟩:=ft.kp (.of a13 hb hn);refine aB p0 ?_;refine ajk HT b2 b3 zo λv=>?_;obtain⟨z1,g1⟩:∃a,oQ pF (.int .u64 2) (.int .u64 52)=.v (.int .u64 a):=⟨_,rfl⟩
   by_cases cv:v=z1
   subst cv;have w2:w64 (e2+1)=e2+1:=gf zo zo;obtain⟨z2,g2⟩:∃a,sC (.int .u64 v) (.int .u64 1)=.v (.int .u64 a):=⟨_,rfl⟩;have JM:jb (.i (e2+1)) (.i (-1023))=.v (.i (e2+1+1023)):=by rw[kD,gf zo zo];exact aui (λz=>OR.v (.i z)) zo
   generalize hE:e2+1=e4 at w2 JM;have w3:lG (.i e2) (.i 1)=.v (.i e4):=by rw[zR,hE,w2]
   simp(disch:=omega) [-kD,-zR,-lg,p0,p1,p5,p6,s1,s2,s3,g1,g2,w3];subst Ah;rw[lI,mu];generalize ku _ _=fm
   by_cases c2:2047<=e4+1023
   simp(disch:=omega) [-kD,p0,p1,p6,s1,s2,s3,JM,EP,c2,show jb (.i 2048) (.i 1)=.v (.i 2047) from rfl];subst Ur;refine ag ?_;refine J1 _ h3 D3 o8 _ ng CU a13 b2 ?_ ?_;exact au p0;exact au p1;simp(disch:=omega) [-kD,p0,p1,p6,s1,s2,s3,JM,EP,c2,show jb (.i 2048) (.i 1)=.v (.i 2047) from rfl];refine EM _ h3 D3 o8 _ CU e4 z2 a13 b2 ?_ ?_ ?_ ?_ ?_;exact au p0;exact au p1;exact au p5;exact aa;exact aa;refine mz p0 p1 p5 p6 s1 s2 s3 g1 cv ?_;refine EM _ h3 D3 o8 _ CU e2 v a13 b2 ?_ ?_ ?_ ?_ ?_;exact au p0;exact au p1;exact au p5;exact au p6;exact aa
  rcases yx with z|gg;subst z;refine iR f0 f1 f5 x' t1 t2 t3 ?_;refine J0 _ h D 0 dp ng tr (-1023) 0 false (ah.refl _) x ?_ ?_ ?_ ?_ ?_;exact zA;exact zA;exact zA;exact aa;exact aa;have np:=Ou gg
  by_cases c1:310<dp
  refine iR f0 f1 f5 x' np.1 np.2 c1 ?_;refine J1 _ h D nd dp ng tr (ah.refl _) x ?_ ?_;exact zA;exact zA
  by_cases c2:dp< -330
  refine mz f0 f1 f5 x' np.1 np.2 c1 c2 t3 ?_;refine J0 _ h D nd dp ng tr (-1023) 0 false (ah.refl _) x ?_ ?_ ?_ ?_ ?_;exact zA;exact zA;exact zA;exact aa;exact aa;generalize abe:MM=T30 at HH⊢;generalize jg:CC.loop l208_1=L1;generalize pz:CC.loop l208_0=L0;refine mz f0 f1 f5 x' np.1 np.2 c1 c2 t3 ?_;subst jg;have bb:Aj D<=1:=by unfold Aj;split<;>omega
  refine ajr HT pt hb hn (ng:=ng) (λf2 h2 D2 cZ gU nD e g2 x2 gv d1 d2 e1 e2 p0 p1 p5 p6=>?_) 700 h D nd dp tr 0 _ zo zo zo zd zd (ah.refl _) x gg ?_ ?_ ?_ ?_;refine ag ?_;subst pz;have dd:=gv.mB 0 gv.pos;refine ajv HT pt ct hb hn (ng:=ng) (λf3 h3 D3 o8 dp3 CU e3 g3 x3 dL d3 d4 e4 e5 q0 q1 q5 q6=>?_) 20009 h2 D2 cZ gU nD e _ zo zo zo zo zo g2 x2 gv p0 p1 p5 p6;obtain⟨s1,s2,s3⟩:=ft.kp (.of g3 hb hn);have w1:jb (.i e3) (.i 1)=.v (.i (e3- 1)):=by rw[kD,gf zo zo]
  have w2:lG (.i (-1023)) (.i 1)=.v (.i (-1022)):=rfl
  by_cases c3:e3- 1< -1022
  obtain⟨n,en⟩:=at6 (by omega:0<=-1022- (e3- 1));have w3:jb (.i (-1022)) (.i (e3- 1))=.v (.i (n:Int)):=by rw[kD,gf zo zo,en]
  have w4:lG (.i (e3- 1)) (.i (n:Int))=.v (.i (-1022)):=by rw[zR,gf zo zo];congr 2;omega
  have ne:=nn n zo;generalize Up:-(n:Int)=ms at ne;generalize hE:e3- 1=e6 at c3 w1 w3 w4;simp(disch:=omega) [-kD,-zR,q0,q1,q5,q6,s3,w1,w2,w3,w4,c3,ne];subst Up;refine aji HT (n:=n) x3 dL zo zo zo λh4 D4 rW tr4 q b1 b2 b3 b4=>?_;simp(disch:=omega) [-kD,-zR,w4];refine HH _ h4 D4 rW _ tr4 (-1022) (g3.trans b1) b2 b3 zo zo zd zd ?_ ?_ ?_ ?_;exact au q0;exact au q1;exact au q5;exact aa;simp(disch:=omega) [-kD,-zR,q0,q1,q5,q6,s3,w1,w2,c3];refine HH _ h3 D3 o8 dp3 CU (e3- 1) g3 x3 dL zo zo zo zo ?_ ?_ ?_ ?_;exact au q0;exact au q1;exact au q5;exact aa;exact zA;exact zA;exact zA;exact aa
 subst ER;simp(disch:=omega) [Qr];rw[hS];refine entry _ ?_ ?_ ?_;exact aa;exact aa;exact aa
end
section
open Go (IntKind)
variable{h:Hp}{k:aK->Prop}{s:List UInt8}
structure Us(s:List UInt8)(f:Fr)(i nd nm:Nat)(dp m:Int)(tr sd sg:Bool):Prop where
 f0:J 0 f=S s
 f2:J 2 f=.int .u64 m
 f3:J 3 f=.i 0
 f4:J 4 f=.bool false
 f5:J 5 f=.bool tr
 f6:J 6 f=.bool false
 f7:J 7 f=.i i
 f8:J 8 f=.bool false
 f9:J 9 f=.bool false
 f10:J 10 f=.int .u64 10
 f11:J 11 f=.i 19
 f12:J 12 f=.u8 101
 f13:J 13 f=.bool sd
 f14:J 14 f=.bool sg
 f15:J 15 f=.i nd
 f16:J 16 f=.i nm
 f17:J 17 f=.i dp
structure RfB(i nd nm:Nat)(dp:Int):Prop where
 b1:nd<=i
 b2:nm<=nd
 b3:-(i:Int)<=dp/\dp<=i
theorem ajA(fl:qa s)(hl:s.length<=60){K:aT->Prop}(hK:∀f'(i nd nm:Nat)(dp m:Int)(tr sd sg:Bool),Us s f' i nd nm dp m tr sd sg->RfB i nd nm dp->i<=s.length->K (.exit 1 f' h [])):
 ∀(n i nd nm:Nat)(dp m:Int)(tr sd sg:Bool)(f:Fr),n=s.length- i->i<=s.length->Us s f i nd nm dp m tr sd sg->RfB i nd nm dp->W T (.loop l201_1) f h [] K:=by
 intro n
 induction n with
 |zero=>
  intro i nd nm dp m tr sd sg f hn hi x B;have e:i=s.length:=zo;subst e;rw[aP];show W T Jq f h [] _;unfold Jq;refine aS x.f0 x.f7 ?_;refine hK _ _ nd nm dp m tr sd sg ?_ B zl;constructor
  all_goals simp(disch:=omega) [x.f0,x.f2,x.f3,x.f4,x.f5,x.f6,x.f7,x.f8,x.f9,x.f10,x.f11,x.f12,x.f13,x.f14,x.f15,x.f16,x.f17]
 |succ n ih=>
  intro i nd nm dp m tr sd sg f hn hi x B;have ao:i<s.length:=zo;have aY:(i:Int)<s.length:=zo;obtain⟨u,ix,oc⟩:=xh fl ao;have b1:=B.b1;have b2:=B.b2;have b3:=B.b3;have c95:¬u=95:=zo;rw[aP];generalize hL:CC.loop l201_1=L at ih⊢;show W T Jq f h [] _;unfold Jq
  by_cases c46:u=46
  ·subst c46;cases sd with
   |true=>
    simp(disch:=omega) [-dQ,x.f0,x.f7,x.f13,ao,aY,ix];refine hK _ i nd nm dp m tr true sg ?_ B hi;constructor
    all_goals simp(disch:=omega) [x.f0,x.f2,x.f3,x.f4,x.f5,x.f6,x.f7,x.f8,x.f9,x.f10,x.f11,x.f12,x.f13,x.f14,x.f15,x.f16,x.f17]
   |false=>
    simp(disch:=omega) [-dQ,x.f0,x.f7,x.f13,x.f15,ao,aY,ix];refine ih (i+1) nd nm nd m tr true sg _ zo ao ?_ ⟨by omega,b2,by omega⟩;constructor
    all_goals simp(disch:=omega) [x.f0,x.f2,x.f3,x.f4,x.f5,x.f6,x.f7,x.f8,x.f9,x.f10,x.f11,x.f12,x.f13,x.f14,x.f15,x.f16,x.f17]
  ·by_cases cd:48<=u/\u<=57
   ·obtain⟨uu,rz⟩:=cd
    by_cases c0:u=48/\nd=0
    ·obtain⟨c0,rfl⟩:=c0;subst c0;have e1:w64 (dp- 1)=dp- 1:=gf zo zo;simp(disch:=omega) [-dQ,x.f0,x.f7,x.f15,x.f17,ao,aY,ix];refine ih (i+1) 0 nm (dp- 1) m tr sd true _ zo ao ?_ ⟨by omega,b2,by omega⟩;constructor
     all_goals simp(disch:=omega) [x.f0,x.f2,x.f3,x.f4,x.f5,x.f6,x.f7,x.f8,x.f9,x.f10,x.f11,x.f12,x.f13,x.f14,x.f15,x.f16,x.f17]
    ·have rest:∀f2:Fr,Us s f2 i (nd+1) nm dp m tr sd true->J 18 f2=.u8 u->W T Rb f2 h [] (bY 3 (bF (W T (CC.exit 1)) (bY 2 (bF (W T (CC.af r201_50)) (bF (W T L) K))))):=by
      intro f2 y p18
      by_cases c19:nm<19
      ·have c19':(nm:Int)<19:=zo;have e2:jb (.u8 u) (.u8 48)=.v (.u8 (u- 48)):=T' uu zo;have e3:=KY (a:=u- 48) zo;obtain⟨a1,e4⟩:∃a,qj (.int .u64 m) (.int .u64 10)=.v (.int .u64 a):=⟨_,rfl⟩;obtain⟨a2,e5⟩:∃a,lG (.int .u64 a1) (.int .u64 ((u- 48:Nat):Int))=.v (.int .u64 a):=⟨_,rfl⟩;simp(disch:=omega) [-vK,-vJ,y.f0,y.f2,y.f7,y.f10,y.f11,y.f16,p18,c19,c19',e2,e3,e4,e5];refine ih (i+1) (nd+1) (nm+1) dp a2 tr sd true _ zo ao ?_ ⟨by omega,by omega,by omega⟩;constructor
       all_goals simp(disch:=omega) [y.f0,y.f2,y.f3,y.f4,y.f5,y.f6,y.f7,y.f8,y.f9,y.f10,y.f11,y.f12,y.f13,y.f14,y.f15,y.f16,y.f17]
      ·have c19':¬(nm:Int)<19:=zo
       by_cases c48:u=48
       ·subst c48;refine mz y.f0 y.f2 y.f7 y.f10 y.f11 y.f16 p18 c19 c19' ?_;refine ih (i+1) (nd+1) nm dp m tr sd true _ zo ao ?_ ⟨by omega,by omega,by omega⟩;constructor
        all_goals simp(disch:=omega) [y.f0,y.f2,y.f3,y.f4,y.f5,y.f6,y.f7,y.f8,y.f9,y.f10,y.f11,y.f12,y.f13,y.f14,y.f15,y.f16,y.f17]
       ·refine nA y.f0 y.f2 y.f7 y.f10 y.f11 y.f16 p18 c19 c19' c48 ?_;refine ih (i+1) (nd+1) nm dp m true sd true _ zo ao ?_ ⟨by omega,by omega,by omega⟩;constructor
        all_goals simp(disch:=omega) [y.f0,y.f2,y.f3,y.f4,y.f5,y.f6,y.f7,y.f8,y.f9,y.f10,y.f11,y.f12,y.f13,y.f14,y.f15,y.f16,y.f17]
     generalize hT:Rb=T36 at rest⊢
     by_cases c48:u=48
     ·subst c48;have z:¬nd=0:=λe=>c0 ⟨rfl,e⟩;have z':¬(nd:Int)=0:=zo;simp(disch:=omega) [-dQ,x.f0,x.f7,x.f15,x.f17,ao,aY,ix,z,z'];refine rest _ ?_ ?_
      ·constructor
       all_goals simp(disch:=omega) [x.f0,x.f2,x.f3,x.f4,x.f5,x.f6,x.f7,x.f8,x.f9,x.f10,x.f11,x.f12,x.f13,x.f14,x.f15,x.f16,x.f17]
      exact aa
     ·simp(disch:=omega) [-dQ,x.f0,x.f7,x.f15,x.f17,ao,aY,ix,uu,rz,c48,c46,c95];refine rest _ ?_ ?_
      ·constructor
       all_goals simp(disch:=omega) [x.f0,x.f2,x.f3,x.f4,x.f5,x.f6,x.f7,x.f8,x.f9,x.f10,x.f11,x.f12,x.f13,x.f14,x.f15,x.f16,x.f17]
      exact aa
   ·by_cases c48:48<=u
    ·have c57:¬u<=57:=λz=>cd ⟨c48,z⟩;simp(disch:=omega) [-dQ,x.f0,x.f7,x.f10,ao,aY,ix,c46,c95,c48,c57];refine hK _ i nd nm dp m tr sd sg ?_ B hi;constructor
     all_goals simp(disch:=omega) [x.f0,x.f2,x.f3,x.f4,x.f5,x.f6,x.f7,x.f8,x.f9,x.f10,x.f11,x.f12,x.f13,x.f14,x.f15,x.f16,x.f17]
    ·simp(disch:=omega) [-dQ,x.f0,x.f7,x.f10,ao,aY,ix,c46,c95,c48];refine hK _ i nd nm dp m tr sd sg ?_ B hi;constructor
     all_goals simp(disch:=omega) [x.f0,x.f2,x.f3,x.f4,x.f5,x.f6,x.f7,x.f8,x.f9,x.f10,x.f11,x.f12,x.f13,x.f14,x.f15,x.f16,x.f17]
structure HI(f:Fr)(s:List UInt8)(i nm:Nat)(dp m:Int)(tr:Bool):Prop where
 f0:J 0 f=S s
 f2:J 2 f=.int .u64 m
 f3:J 3 f=.i 0
 f4:J 4 f=.bool false
 f5:J 5 f=.bool tr
 f6:J 6 f=.bool false
 f7:J 7 f=.i i
 f8:J 8 f=.bool false
 f9:J 9 f=.bool false
 f10:J 10 f=.int .u64 10
 f16:J 16 f=.i nm
 f17:J 17 f=.i dp
theorem ajB(fl:qa s)(hl:s.length<=60){nm:Nat}{dp m:Int}{tr:Bool}{K:aT->Prop}(hK:∀f'(i:Nat)(e g:Int),HI f' s i nm dp m tr->i<=s.length->0<=e->e<100000->(g=1\/g=-1)->J 19 f'=.i g->J 20 f'=.i e->K (.exit 5 f' h [])):
 ∀(n i:Nat)(e g:Int)(f:Fr),n=s.length- i->i<=s.length->0<=e->e<100000->(g=1\/g=-1)->HI f s i nm dp m tr->J 19 f=.i g->J 20 f=.i e->W T (.loop l201_0) f h [] K:=by
 intro n
 induction n with
 |zero=>
  intro i e g f hn hi e0 e1 hg x f19 f20;have ee:i=s.length:=zo;subst ee;rw[aP];show W T Rd f h [] _;refine aS x.f0 x.f7 ?_;refine hK _ _ e g ?_ zl e0 e1 hg ?_ ?_
  ·constructor
   all_goals simp(disch:=omega) [x.f0,x.f2,x.f3,x.f4,x.f5,x.f6,x.f7,x.f8,x.f9,x.f10,x.f16,x.f17]
  exact zA;exact zA
 |succ n ih=>
  intro i e g f hn hi e0 e1 hg x f19 f20;have ao:i<s.length:=zo;have aY:(i:Int)<s.length:=zo;obtain⟨u,ix,oc⟩:=xh fl ao;have c95:¬u=95:=zo;rw[aP];generalize hL:CC.loop l201_0=L at ih⊢;show W T Rd f h [] _
  by_cases cd:48<=u/\u<=57
  ·obtain⟨uu,rz⟩:=cd;have ec:ko .i64 (.u8 u)=.v (.i (u:Int)):=by show OR.v (.i (w64 (Int.ofNat u)))=_;rw[show Int.ofNat u=(u:Int) from rfl,gf zo zo]
   by_cases c:e<10000
   ·have e2:w64 (e*10)=e*10:=gf zo zo;simp(disch:=omega) [-dQ,x.f0,x.f7,f19,f20,ao,aY,ix,uu,rz,c95,c,ec];refine ih (i+1) (e*10+u- 48) g _ zo ao zo zo hg ?_ ?_ ?_
    ·constructor
     all_goals simp(disch:=omega) [x.f0,x.f2,x.f3,x.f4,x.f5,x.f6,x.f7,x.f8,x.f9,x.f10,x.f16,x.f17]
    exact zA;exact aa
   ·simp(disch:=omega) [-dQ,x.f0,x.f7,f19,f20,ao,aY,ix,uu,rz,c95,c];refine ih (i+1) e g _ zo ao e0 e1 hg ?_ ?_ ?_
    ·constructor
     all_goals simp(disch:=omega) [x.f0,x.f2,x.f3,x.f4,x.f5,x.f6,x.f7,x.f8,x.f9,x.f10,x.f16,x.f17]
    exact zA;exact zA
  ·by_cases c48:48<=u
   ·have c57:¬u<=57:=λq=>cd ⟨c48,q⟩;simp(disch:=omega) [-dQ,x.f0,x.f7,ao,aY,ix,c48,c57,c95];refine hK _ i e g ?_ hi e0 e1 hg ?_ ?_
    ·constructor
     all_goals simp(disch:=omega) [x.f0,x.f2,x.f3,x.f4,x.f5,x.f6,x.f7,x.f8,x.f9,x.f10,x.f16,x.f17]
    exact zA;exact zA
   ·simp(disch:=omega) [-dQ,x.f0,x.f7,ao,aY,ix,c48,c95];refine hK _ i e g ?_ hi e0 e1 hg ?_ ?_
    ·constructor
     all_goals simp(disch:=omega) [x.f0,x.f2,x.f3,x.f4,x.f5,x.f6,x.f7,x.f8,x.f9,x.f10,x.f16,x.f17]
    exact zA;exact zA
theorem ajC(H2:uU T)(fl:qa s)(hl:s.length<=60)
 (hk:∀(m e:Int)(tr ok:Bool)(i:Nat),i<=s.length->-300000<e->e<300000->k (.ret (.bA [.int .u64 m,.i e,.bool false,.bool tr,.bool false,.i i,.bool ok]) h)):aE T (W T) ⟨201⟩ [S s] h k:=by
 rw[aJ H2.h.t201];have l0:0<s.length:=auA.2 fl.ne;obtain⟨u,ix,oc⟩:=xh fl l0;have ix:nh (S s) (.i 0)=.v (.u8 u):=ix;have dh:48<=u/\u<=57:=by
  have a:=Ov fl.hd;have e:nh (S s) (.i 0)=.v (.u8 (s.headD 0).toNat):=by
   rw[dQ zd (by simpa using l0)];cases s with
   |nil=>simp at l0
   |cons c r=>rfl
  rw[ix] at e;cases e;exact a
 have c43:¬u=43:=zo;have c45:¬u=45:=zo;have sl:¬(s.length:Int)<=0:=zo;have KZ:¬s.length=0:=zo;generalize KT:Rh=EG;generalize ER:finish T (W T) [.tmp 2,.tmp 3,.tmp 4,.tmp 5,.tmp 6,.tmp 7,.tmp 8] k=Kf;have done:∀(f:Fr)(m e:Int)(tr ok:Bool)(i:Nat),i<=s.length->-300000<e->e<300000->J 2 f=.int .u64 m->J 3 f=.i e->J 4 f=.bool false->J 5 f=.bool tr->J 6 f=.bool false->J 7 f=.i i->J 8 f=.bool ok->Kf (.ret f h []):=λf m e tr ok i a b c p2 p3 p4 p5 p6 p7 p8=>by subst ER;refine iR p2 p3 p4 p5 p6 p7 p8 ?_;exact hk m e tr ok i a b c
 have key:∀(KS:aT->Prop),(∀f,Kf (.ret f h [])->KS (.ret f h []))->∀f:Fr,J 0 f=S s->J 2 f=.int .u64 0->J 3 f=.i 0->J 4 f=.bool false->J 5 f=.bool false->J 6 f=.bool false->J 7 f=.i 0->J 8 f=.bool false->J 9 f=.bool false->J 10 f=.int .u64 10->J 11 f=.i 19->J 12 f=.u8 101->W T EG f h [] KS:=by
  intro KS Ow f f0 f2 f3 f4 f5 f6 f7 f8 f9 f10 f11 f12;subst KT;unfold Rh;generalize Ox:Rg=T18;obtain⟨T57,abn⟩:∃X,Rf=X:=⟨_,rfl⟩;have e18:=Ox.symm;unfold Rg at e18;rw[abn] at e18;obtain⟨T77,abo⟩:∃X,XI=X:=⟨_,rfl⟩;have e57:=abn.symm;unfold Rf at e57;rw[abo] at e57;have Ut:∀(f:Fr)(i nm:Nat)(dp m:Int)(tr:Bool),HI f s i nm dp m tr->i<=s.length->nm<=100->-250000<dp->dp<250000->W T T77 f h [] KS:=by
   intro f i nm dp m tr x hi nb d1 d2;rw[<-abo];have w1:w64 (dp- nm)=dp- nm:=gf zo zo
   by_cases z:m=0
   ·subst z;refine cq x.f0 x.f2 x.f7 x.f9 x.f16 x.f17 ?_;refine Ow _ (done _ 0 0 tr true i hi zd zd ?_ ?_ ?_ ?_ ?_ ?_ ?_)
    all_goals simp(disch:=omega) [x.f0,x.f2,x.f3,x.f4,x.f5,x.f6,x.f7,x.f8,x.f9,x.f10,x.f16,x.f17]
   ·refine fY x.f0 x.f2 x.f7 x.f9 x.f16 x.f17 z w1 ?_;refine Ow _ (done _ m (dp- nm) tr true i hi zo zo ?_ ?_ ?_ ?_ ?_ ?_ ?_)
    all_goals simp(disch:=omega) [x.f0,x.f2,x.f3,x.f4,x.f5,x.f6,x.f7,x.f8,x.f9,x.f10,x.f16,x.f17]
  have bad:∀(f:Fr)(i nm:Nat)(dp m:Int)(tr:Bool),HI f s i nm dp m tr->i<=s.length->KS (.ret f h []):=λf i nm dp m tr x hi=>
   Ow _ (done _ m 0 tr false i hi zd zd x.f2 x.f3 x.f4 x.f5 x.f6 x.f7 x.f8)
  have abp:∀(f:Fr)(i nm:Nat)(dp m:Int)(tr:Bool),HI f s i nm dp m tr->J 12 f=.u8 101->i<=s.length->nm<=100->-100<=dp->dp<=100->W T T57 f h [] KS:=by
   intro f i nm dp m tr x p12 hi nb d1 d2;rw[e57];have z16:¬(10:Int)=16:=by decide
   by_cases ci:i<s.length
   ·have yy:(i:Int)<s.length:=zo;obtain⟨u1,yz,K0⟩:=xh fl ci;have lo:=Un K0;simp(disch:=omega) [-dQ,x.f0,x.f7,ci,yy,yz];refine Um H2 zo ?_;rw[lo]
    by_cases ce:u1=101
    ·subst ce
     by_cases cj:i+1<s.length
     ·have yA:¬(s.length:Int)<=(i:Int)+1:=zo;have yB:¬s.length<=i+1:=zo;obtain⟨u2,yC,oc2⟩:=xh fl cj;have yC:nh (S s) (.i ((i:Int)+1))=.v (.u8 u2):=yC;generalize ajD:Re=T67;have Uu:∀(f3:Fr)(j:Nat)(g:Int),(g=1\/g=-1)->j<=s.length->HI f3 s j nm dp m tr->J 19 f3=.i g->W T T67 f3 h [] (bF (W T T77) KS):=by
       intro f3 j g hg hj x p19;subst ajD;unfold Re
       by_cases cl:j<s.length
       ·have yD:¬(s.length:Int)<=j:=zo;have yE:¬s.length<=j:=zo;obtain⟨u3,EN,oc3⟩:=xh fl cl
        by_cases cd:u3<48
        ·simp(disch:=omega) [-dQ,x.f0,x.f7,yD,yE,EN,cd];refine bad _ j nm dp m tr ?_ hj;constructor
         all_goals simp(disch:=omega) [x.f0,x.f2,x.f3,x.f4,x.f5,x.f6,x.f7,x.f8,x.f9,x.f10,x.f16,x.f17]
        ·by_cases rz:57<u3
         ·simp(disch:=omega) [-dQ,x.f0,x.f7,yD,yE,EN,cd,rz];refine bad _ j nm dp m tr ?_ hj;constructor
          all_goals simp(disch:=omega) [x.f0,x.f2,x.f3,x.f4,x.f5,x.f6,x.f7,x.f8,x.f9,x.f10,x.f16,x.f17]
         ·generalize pz:CC.loop l201_0=L0;simp(disch:=omega) [-dQ,x.f0,x.f7,yD,yE,EN,cd,rz];subst pz;refine ajB fl hl (nm:=nm) (dp:=dp) (m:=m) (tr:=tr) (λf4 i4 e g2 x i4l e0 e1 nv z19 z20=>?_) (s.length- j) j 0 g _ rfl hj (atY _) zd hg ?_ ?_ ?_
          ·have bd:-100000<e*g2/\e*g2<100000:=by rcases nv with q|q<;>subst q<;>omega
           have w1:w64 (e*g2)=e*g2:=gf zo zo;have em:qj (.i e) (.i g2)=.v (.i (e*g2)):=by rw[NG,w1]
           generalize e*g2=eg at bd em;have w2:w64 (dp+eg)=dp+eg:=gf zo zo;simp(disch:=omega) [-NG,em,z19,z20,x.f17,w2];refine Ut _ i4 nm (dp+eg) m tr ?_ i4l nb zo zo;constructor
           all_goals simp(disch:=omega) [x.f0,x.f2,x.f3,x.f4,x.f5,x.f6,x.f7,x.f8,x.f9,x.f10,x.f16,x.f17]
          ·constructor
           all_goals simp(disch:=omega) [x.f0,x.f2,x.f3,x.f4,x.f5,x.f6,x.f7,x.f8,x.f9,x.f10,x.f16,x.f17]
          exact au p19;exact aa
       ·have yD:(s.length:Int)<=j:=zo;have yE:s.length<=j:=zo;simp(disch:=omega) [-dQ,x.f0,x.f7,yD,yE];refine bad _ j nm dp m tr ?_ hj;constructor
        all_goals simp(disch:=omega) [x.f0,x.f2,x.f3,x.f4,x.f5,x.f6,x.f7,x.f8,x.f9,x.f10,x.f16,x.f17]
      by_cases cp:u2=43
      ·subst cp;simp(disch:=omega) [-dQ,x.f0,x.f7,p12,yC,yA,yB];refine Uu _ (i+1+1) 1 (.inl rfl) zo ?_ ?_
       ·constructor
        all_goals simp(disch:=omega) [x.f0,x.f2,x.f3,x.f4,x.f5,x.f6,x.f7,x.f8,x.f9,x.f10,x.f16,x.f17]
       exact aa
      ·by_cases cm:u2=45
       ·subst cm;simp(disch:=omega) [-dQ,x.f0,x.f7,p12,yC,yA,yB];refine Uu _ (i+1+1) (-1) (.inr rfl) zo ?_ ?_
        ·constructor
         all_goals simp(disch:=omega) [x.f0,x.f2,x.f3,x.f4,x.f5,x.f6,x.f7,x.f8,x.f9,x.f10,x.f16,x.f17]
        exact aa
       ·simp(disch:=omega) [-dQ,x.f0,x.f7,p12,yC,yA,yB,cp,cm];refine Uu _ (i+1) 1 (.inl rfl) zo ?_ ?_
        ·constructor
         all_goals simp(disch:=omega) [x.f0,x.f2,x.f3,x.f4,x.f5,x.f6,x.f7,x.f8,x.f9,x.f10,x.f16,x.f17]
        exact aa
     ·have yA:(s.length:Int)<=(i:Int)+1:=zo;have yB:s.length<=i+1:=zo;simp(disch:=omega) [-dQ,x.f0,x.f7,p12,yA,yB];refine bad _ (i+1) nm dp m tr ?_ zo;constructor
      all_goals simp(disch:=omega) [x.f0,x.f2,x.f3,x.f4,x.f5,x.f6,x.f7,x.f8,x.f9,x.f10,x.f16,x.f17]
    ·refine bK p12 ce x.f10 z16 ?_;refine Ut _ i nm dp m tr ?_ hi nb zo zo;constructor
     all_goals simp(disch:=omega) [x.f0,x.f2,x.f3,x.f4,x.f5,x.f6,x.f7,x.f8,x.f9,x.f10,x.f16,x.f17]
   ·have yy:¬(i:Int)<s.length:=zo;simp(disch:=omega) [-dQ,x.f0,x.f7,x.f10,ci,yy,z16];refine Ut _ i nm dp m tr ?_ hi nb zo zo;constructor
    all_goals simp(disch:=omega) [x.f0,x.f2,x.f3,x.f4,x.f5,x.f6,x.f7,x.f8,x.f9,x.f10,x.f16,x.f17]
  have Uv:∀(f:Fr),J 0 f=S s->J 2 f=.int .u64 0->J 3 f=.i 0->J 4 f=.bool false->J 5 f=.bool false->J 6 f=.bool false->J 7 f=.i 0->J 8 f=.bool false->J 9 f=.bool false->J 10 f=.int .u64 10->J 11 f=.i 19->J 12 f=.u8 101->W T T18 f h [] KS:=by
   intro f f0 f2 f3 f4 f5 f6 f7 f8 f9 f10 f11 f12;rw[e18];generalize jg:CC.loop l201_1=L1;simp(disch:=omega) [Xg];subst jg;refine ajA fl hl (λf' i nd nm dp m tr sd sg x B hi=>?_) s.length 0 0 0 0 0 false false false _ rfl (auz _) ?_ ⟨at2 _,at2 _,by decide⟩
   ·have b1:=B.b1;have b2:=B.b2;have b3:=B.b3;have z16:¬(10:Int)=16:=by decide
    cases sg with
    |false=>
     refine aB x.f14 ?_;refine Ow _ (done _ m 0 tr false i hi zd zd ?_ ?_ ?_ ?_ ?_ ?_ ?_)
     all_goals simp(disch:=omega) [x.f0,x.f2,x.f3,x.f4,x.f5,x.f6,x.f7,x.f8,x.f9,x.f10,x.f16,x.f17]
    |true=>
     cases sd with
     |false=>
      refine bK x.f10 x.f13 x.f14 x.f15 ?_;refine abp _ i nm nd m tr ?_ ?_ hi zo zo zo
      ·constructor
       all_goals simp(disch:=omega) [x.f0,x.f2,x.f3,x.f4,x.f5,x.f6,x.f7,x.f8,x.f9,x.f10,x.f16,x.f17]
      exact au x.f12
     |true=>
      refine bK x.f10 x.f13 x.f14 x.f15 ?_;refine abp _ i nm dp m tr ?_ ?_ hi zo zo zo
      ·constructor
       all_goals simp(disch:=omega) [x.f0,x.f2,x.f3,x.f4,x.f5,x.f6,x.f7,x.f8,x.f9,x.f10,x.f16,x.f17]
      exact au x.f12
   ·constructor
    all_goals simp(disch:=omega) [f0,f2,f3,f4,f5,f6,f7,f8,f9,f10,f11,f12]
  by_cases c2:2<s.length
  ·have c2':(2:Int)<s.length:=zo
   by_cases c48:u=48
   ·obtain⟨u1,yz,K0⟩:=xh fl (show 1<s.length by omega);have yz:nh (S s) (.i 1)=.v (.u8 u1):=yz;have lo:=Un K0;have n120:¬u1=120:=zo;subst c48;simp(disch:=omega) [-dQ,f0,f7,c2,c2',ix,yz];refine Um H2 zo ?_;rw[lo];refine aB n120 ?_;refine Uv _ ?_ ?_ ?_ ?_ ?_ ?_ ?_ ?_ ?_ ?_ ?_ ?_
    all_goals simp(disch:=omega) [f0,f2,f3,f4,f5,f6,f7,f8,f9,f10,f11,f12]
   ·simp(disch:=omega) [-dQ,f0,f7,c2,c2',ix,c48];refine Uv _ ?_ ?_ ?_ ?_ ?_ ?_ ?_ ?_ ?_ ?_ ?_ ?_
    all_goals simp(disch:=omega) [f0,f2,f3,f4,f5,f6,f7,f8,f9,f10,f11,f12]
  ·have c2':¬(2:Int)<s.length:=zo;simp(disch:=omega) [-dQ,f0,f7,c2,c2'];refine Uv _ ?_ ?_ ?_ ?_ ?_ ?_ ?_ ?_ ?_ ?_ ?_ ?_
   all_goals simp(disch:=omega) [f0,f2,f3,f4,f5,f6,f7,f8,f9,f10,f11,f12]
 simp(disch:=omega) [-dQ,ix,c43,c45,sl,KZ,Qr];refine key _ (λf z=>by rw[Ta];exact z) _ ?_ ?_ ?_ ?_ ?_ ?_ ?_ ?_ ?_ ?_ ?_ ?_
 all_goals simp(disch:=omega)
end
section
open Go (IntKind FloatKind)
def lW(a:Nat):Prop:=∀s t,Ieee.double.read a≠.nan s t
def Bn(b:Nat):Bool:=match Ieee.double.read b with|.number _ n _=>decide (n≠0)|_=>false
theorem Uw{neg:Bool}{r:Nat}(h:r<=Ieee.double.infRung):lW (Ieee.double.word neg r):=by
 have e1:Ieee.double.infRung=9218868437227405312:=by decide
 have e2:Ieee.double.signWeight=9223372036854775808:=by decide
 have m:Ieee.double.word neg r% Ieee.double.signWeight=r:=by unfold Ieee.Format.word;split;rw[Nat.add_mod_left,avy zo];rw[avy zo]
 intro s t;unfold Ieee.Format.read;simp only[m];split;simp;split;simp;split;simp;omega
theorem abq{neg:Bool}{m:Nat}{p:Int}:lW (Ieee.double.nearest neg m p):=by unfold Ieee.Format.nearest;split;exact Uw (auz _);exact Uw (Nat.min_le_right _ _)
theorem abr{d:Ieee.Datum}(h:∀s t,d≠.nan s t):lW (Ieee.double.write d):=by
 cases d with
 |number s m p=>exact abq
 |infinity s=>exact Uw zl
 |nan s t=>exact absurd rfl (h s t)
theorem Ux{b:Nat}(h:Bn b=true):∃s n p,Ieee.double.read b=.number s n p/\n≠0:=by unfold Bn at h;split at h;exact⟨_,_,_,by assumption,by simpa using h⟩;cases h
theorem ajE{a b:Nat}(ha:lW a)(hb:Bn b=true):∃r,Ieee.double.mul a b=some r/\lW r:=by
 obtain⟨t,n,j,eb,n0⟩:=Ux hb;unfold Ieee.Format.mul;rw[eb];unfold lW at ha;generalize Ieee.double.read a=x at ha;cases x with
 |number s m i=>exact⟨_,rfl,abr zm⟩
 |infinity s=>
  refine⟨Ieee.double.write (.infinity (s^^t)),?_,abr zm⟩;simp[Ieee.Datum.product,n0]
 |nan s q=>exact absurd rfl (ha s q)
theorem ajF{a b:Nat}(ha:lW a)(hb:Bn b=true):∃r,Ieee.double.div a b=some r:=by
 obtain⟨t,n,j,eb,n0⟩:=Ux hb;unfold Ieee.Format.div;rw[eb];unfold lW at ha;generalize Ieee.double.read a=x at ha;cases x with
 |number s m i=>exact⟨_,by simp[Ieee.Datum.quotient,n0];rfl⟩
 |infinity s=>exact⟨_,by simp[Ieee.Datum.quotient];rfl⟩
 |nan s q=>exact absurd rfl (ha s q)
theorem ajG{a b:Nat}(ha:lW a)(hb:lW b):∃o,Ieee.double.order a b=some o:=by
 unfold lW at ha hb;unfold Ieee.Format.order;generalize Ieee.double.read a=x at ha;generalize Ieee.double.read b=y at hb;cases x with
 |nan s q=>exact absurd rfl (ha s q)
 |number s m i=>
  cases y with
  |nan s q=>exact absurd rfl (hb s q)
  |number=>exact⟨_,rfl⟩
  |infinity=>exact⟨_,rfl⟩
 |infinity s=>
  cases y with
  |nan s q=>exact absurd rfl (hb s q)
  |number=>exact⟨_,rfl⟩
  |infinity=>exact⟨_,rfl⟩
theorem abt{a b:Nat}(ha:lW a)(hb:Bn b=true):∃r,qj (.bN .f64 a) (.bN .f64 b)=.v (.bN .f64 r)/\lW r:=by obtain⟨r,e,n⟩:=ajE ha hb;refine⟨r,?_,n⟩;show(match Ieee.double.mul a b with|some r=>OR.v (.bN .f64 r)|none=>_)=_;rw[e]
theorem ajH{a b:Nat}(ha:lW a)(hb:Bn b=true):∃r,we (.bN .f64 a) (.bN .f64 b)=.v (.bN .f64 r):=by obtain⟨r,e⟩:=ajF ha hb;refine⟨r,?_⟩;show(match Ieee.double.div a b with|some r=>OR.v (.bN .f64 r)|none=>_)=_;rw[e]
theorem abu{a b:Nat}{g:Nat->Bool}(ha:lW a)(hb:lW b):∃r,mc g (.bN .f64 a) (.bN .f64 b)=.v (.bool r):=by
 obtain⟨o,e⟩:=ajG ha hb;have e':FloatKind.f64.format.order a b=some o:=e;have q:tK (.bN .f64 a) (.bN .f64 b)=some (match o with|.lt=>0|.eq=>1|.gt=>2):=by simp only[tK,e'];cases o<;>rfl
 unfold mc;rw[q];exact⟨_,rfl⟩
theorem ajI{a b:Nat}:∃r,Dv (.bN .f64) (.bN .f64 a) (.bN .f64 b)=.v (.bool r):=⟨_,rfl⟩
theorem ajJ{n:Int}:∃r,IZ .f64 (.int .u64 n)=.v (.bN .f64 r)/\lW r:=⟨_,rfl,abq⟩
end
section
variable{h:Hp}{k:aK->Prop}{s p:List UInt8}{c:UInt8}
theorem ajK(HT:aA T)(hk:∀r:Int,k (.ret (.i r) h)):aE T (W T) ⟨13⟩ [S s,S p] h k:=by rw[aJ HT.t13];refine ag ?_;rw[aJ HT.t25];have e:∃r:Int,qo .Mf [S s,S p]=.v (.i r):=⟨_,rfl⟩;obtain⟨r,e⟩:=e;refine aB e ?_;exact hk r
def uv(c:UInt8):Bool:=decide (65<=c.toNat/\c.toNat<=90)||decide (97<=c.toNat/\c.toNat<=122)||decide (c.toNat=95)
theorem ajL(HT:aA T)(hk:k (.ret (.bool (uv c)) h)):aE T (W T) ⟨39⟩ [.u8 c.toNat] h k:=by
 rw[aJ HT.t39];unfold uv at hk
 by_cases c1:65<=c.toNat<;>by_cases c2:c.toNat<=90<;>by_cases c3:97<=c.toNat<;>by_cases c4:c.toNat<=122<;>simp(disch:=omega) [c1,c2,c3,c4] at hk⊢<;>exact hk
def yF(s:List UInt8):Bool:=decide (s≠[])&&decide (s≠[95])&&decide (s.length<=40)&&uv (s.headD 0)&&s.all λc=>uv c||kh c
theorem abv(HT:aA T)(hl:s.length<1073741824)(hk:k (.ret (.bool (yF s)) h)):aE T (W T) ⟨23⟩ [S s] h k:=by
 rw[aJ HT.t23];generalize hL:CC.loop l23_0=L
 by_cases e1:s=[]
 subst e1;refine ag ?_;exact hk
 by_cases e2:s=[95]
 subst e2;refine ag ?_;exact hk
 by_cases e3:(40:Int)<s.length
 have:yF s=false:=by simp[yF];omega
 rw[this] at hk;refine aU e1 e2 e3 ?_;exact hk;refine aU e1 e2 e3 ?_;have e4:s.length<=40:=zo;have hn:yF s=(uv (s.headD 0)&&s.all λc=>uv c||kh c):=by simp[yF,e1,e2,e4]
 rw[hn] at hk;subst hL;have key:∀(m i:Nat)(f:Fr)(K:aT->Prop),m=s.length- i->i<=s.length->J 16 f=.i s.length->J 17 f=.i i->J 0 f=S s->
  (((∀j,(hj:j<s.length)->i<=j->uv s[j]=true\/j≠0/\kh s[j]=true)->∀f',K (.exit 0 f' h []))/\((∃j,∃hj:j<s.length,¬(uv s[j]=true\/j≠0/\kh s[j]=true))->∀f',J 2 f'=.bool false->K (.ret f' h [])))->W T (.loop l23_0) f h [] K:=by
  intro m
  induction m with
  |zero=>
   intro i f K hm hi f16 f17 f0 hk;have e:¬i<s.length:=zo;rw[aP];refine bK f16 f17 f0 e ?_;exact hk.1 (λj hj DV=>by omega) _
  |succ m ih=>
   intro i f K hm hi f16 f17 f0 hk;have ao:i<s.length:=zo;rw[aP];simp(disch:=omega) [f16,f17,f0,ao];refine ajL HT ?_;have ED:uv s[i]=true\/i≠0/\kh s[i]=true->∀f',J 16 f'=.i s.length->J 17 f'=.i ((i:Int)+1)->J 0 f'=S s->W T (.loop l23_0) f' h [] K:=λq f' f16 f17 f0=>by
    refine ih (i+1) f' K zo zo f16 (by rw[f17];rfl) f0 ⟨λhx vM=>hk.1 (λj hj DV=>?_) vM,hk.2⟩
    by_cases Gu:j=i
    subst Gu;exact q;exact hx j hj zo
   have Uy:¬(uv s[i]=true\/i≠0/\kh s[i]=true)->∀f',J 2 f'=.bool false->K (.ret f' h []):=λq=>hk.2 ⟨i,ao,q⟩;cases c1:uv s[i] with
   |true=>
    refine aU f16 f17 f0 ?_;exact ED (.inl c1) _ zA aa zA
   |false=>
    by_cases c0:i=0
    subst c0;refine bK f16 f17 f0 ao ?_;exact Uy (by simp[c1]) _ aa
    by_cases c2:s[i].toNat<48
    simp(disch:=omega) [f16,f17,f0,c0,c2,ao];exact Uy (by simp[c1,kh];omega) _ qbd
    by_cases c3:57<s[i].toNat
    simp(disch:=omega) [f16,f17,f0,c0,c2,c3,ao];exact Uy (by simp[c1,kh];omega) _ qbd;simp(disch:=omega) [f16,f17,f0,c0,c2,c3,ao];exact ED (.inr ⟨c0,by simp[kh];omega⟩) _ (by simp(disch:=omega) [f16]) qbd (by simp(disch:=omega) [f0])
 have jD:(∀j,(hj:j<s.length)->uv s[j]=true\/j≠0/\kh s[j]=true) <-> (uv (s.headD 0)&&s.all λc=>uv c||kh c)=true:=by
  obtain⟨c,r,rfl⟩:∃c r,s=c::r:=by cases s with|nil=>exact absurd rfl e1|cons c r=>exact⟨c,r,rfl⟩
  simp only[axh,atW,auO,awq];constructor;intro q;refine⟨by have:=q 0 zm;rcases this with q|q;exact q;exact absurd rfl q.1,λx hx=>?_⟩;obtain⟨j,hj,rfl⟩:=avC hx;rcases q j hj with q|q;exact .inl q;exact .inr q.2;rintro⟨q1,q2⟩ j hj;rcases j with _|j;exact .inl q1;rcases q2 _ (auy hj) with q|q;exact .inl q;exact .inr ⟨by omega,q⟩
 refine key _ 0 _ _ rfl zo aa aa aa ⟨λhx f'=>?_,λhx f' f2=>?_⟩;have:=jD.1 λj hj=>hx j hj (auz _);rw[this] at hk;refine ag ?_;exact hk;have:¬_:=mt jD.2 (by obtain⟨j,hj,hx⟩:=hx;exact λq=>hx (q j hj));rw[Bool.not_eq_true] at this;rw[this] at hk;refine aB f2 ?_;exact hk
def kwS:List UInt8:=[98,111,111,108,32,98,114,101,97,107,32,99,111,110,116,105,110,117,101,32,101,108,115,101,32,102,97,108,115,101,32,102,108,111,97,116,54,52,32,102,111,114,32,102,117,110,99,32,105,102,32,105,109,112,111,114,116,32,105,110,116,32,108,101,110,32,112,97,99,107,97,103,101,32,112,97,110,105,99,32,112,114,105,110,116,32,114,101,116,117,114,110,32,115,116,114,105,110,103,32,115,116,114,117,99,116,32,116,114,117,101,32,116,121,112,101,32,118,97,114]
def Oy(s:List UInt8):Bool:=decide (s∈vA kwS)
theorem ajM(HT:aA T)(hg:lO (h.get 1))(hk:∀h',ax h h'->k (.ret (.bool (Oy s)) h')):aE T (W T) ⟨24⟩ [S s] h k:=by rw[aJ HT.t24];refine ag ?_;refine aap (s:=kwS) HT zd zd hg qal qal λh1 v g1 hv=>?_;refine ag ?_;refine Ek HT hv qal ?_;refine ag ?_;exact hk _ g1
def rZ(u:List UInt8):Option (List UInt8):=
 let rest:=if eP u [102,105,108,101,58,47,47,47]=true then u.drop 8 else u
 let q:=iz rest 47
 let base:=if vu q.2.1 [46,103,111]=true then q.2.1.take (q.2.1.length- 3) else q.2.1
 if eP u [102,105,108,101,58,47,47,47]=true/\q.2.2 =true/\vu q.2.1 [46,103,111]=true/\yF q.1 =true/\Oy q.1 =false/\yF base=true then some q.1 else none
theorem abw:(iz s c).1.length<=s.length/\(iz s c).2.1.length<=s.length:=by unfold iz;split<;>simp<;>omega
theorem ajN(HT:aA T)(hl:s.length<1073741824)(hg:lO (h.get 1))(hk:∀h',ax h h'->k (.ret (match rZ s with|some d=>.bA [S d,.bool true]|none=>.bA [S [],.bool false]) h')):aE T (W T) ⟨12⟩ [S s] h k:=by
 rw[aJ HT.t12];have hd:∀rest d fl base b1 b2 b3,eP s [102,105,108,101,58,47,47,47]=b1->(if b1=true then s.drop 8 else s)=rest->iz rest 47=(d,fl,b2)->vu fl [46,103,111]=b3->(if b3=true then fl.take (fl.length- 3) else fl)=base->
  rZ s=if b1=true/\b2=true/\b3=true/\yF d=true/\Oy d=false/\yF base=true then some d else none:=by
  rintro rest d fl base b1 b2 b3 rfl rfl hq rfl rfl;simp only[rZ,hq]
 refine ag ?_;refine Tg HT zo ?_;generalize e1:eP s [102,105,108,101,58,47,47,47]=b1;rw[show([102,105,108,101,58,47,47,47]:List UInt8).length=8 from rfl];generalize hr:(if b1=true then s.drop 8 else s)=rest;have Cl:rest.length<=s.length:=by subst hr;split<;>simp
 refine aB hr ?_;refine Th HT zo ?_;have hq:=abw (s:=rest) (c:=47);generalize e2:iz rest 47=q at hq⊢;obtain⟨d,fl,b2⟩:=q;simp only at hq;refine ag ?_;refine ahh HT zo ?_;generalize e3:vu fl [46,103,111]=b3;generalize e4:(if b3=true then fl.take (fl.length- 3) else fl)=base;have RI:base.length<=s.length:=by subst e4;split<;>(try rw[auN])<;>omega
 have hd:=hd _ _ _ _ _ _ _ e1 hr e2 e3 e4;cases b1 with
 |false=>refine aB e4 ?_;rw[hd] at hk;exact hk _ aZ
 |true=>
 cases b2 with
 |false=>refine aB e4 ?_;rw[hd] at hk;exact hk _ aZ
 |true=>
 cases b3 with
 |false=>refine aB e4 ?_;rw[hd] at hk;exact hk _ aZ
 |true=>
 refine aB e4 ?_;refine abv HT zo ?_;cases e5:yF d with
 |false=>refine ag ?_;rw[hd] at hk;simp only[e5] at hk;exact hk _ aZ
 |true=>
 refine ag ?_;refine ajM HT hg λh1 g1=>?_;cases e6:Oy d with
 |true=>refine ag ?_;rw[hd] at hk;simp only[e5,e6] at hk;exact hk _ g1
 |false=>
 refine ag ?_;refine abv HT zo ?_;cases e7:yF base with
 |false=>refine ag ?_;rw[hd] at hk;simp only[e5,e6,e7] at hk;exact hk _ g1
 |true=>refine ag ?_;rw[hd] at hk;simp only[e5,e6,e7] at hk;exact hk _ g1
end
section
variable{h:Hp}{k:aK->Prop}{a b:Int}
def xj(a b:Int):Int:=if a<b then-1 else if b<a then 1 else 0
theorem abx(HT:aA T)(hk:k (.ret (.bool false) h)):aE T (W T) ⟨94⟩ [.i a] h k:=by rw[aJ HT.t94];refine ag ?_;exact hk
theorem aby(HT:aA T)(hk:k (.ret (.bool false) h)):aE T (W T) ⟨95⟩ [.i a] h k:=by rw[aJ HT.t95];refine ag ?_;exact hk
theorem Oz(HT:aA T)(hk:k (.ret (.i (xj a b)) h)):aE T (W T) ⟨56⟩ [.i a,.i b] h k:=by
 rw[aJ HT.t56];refine ag ?_;refine abx HT ?_;refine ag ?_;refine abx HT ?_;unfold xj at hk
 by_cases c1:a<b
 simp(disch:=omega) [c1] at hk⊢;exact hk
 by_cases c2:b<a
 simp(disch:=omega) [c1,c2] at hk⊢;exact hk;simp(disch:=omega) [c1,c2] at hk⊢;exact hk
theorem ajO(HT:aA T)(hk:k (.ret (.i (xj a b)) h)):aE T (W T) ⟨57⟩ [.i a,.i b] h k:=by
 rw[aJ HT.t57];refine ag ?_;refine aby HT ?_;refine ag ?_;refine aby HT ?_;unfold xj at hk
 by_cases c1:a<b
 simp(disch:=omega) [c1] at hk⊢;exact hk
 by_cases c2:b<a
 simp(disch:=omega) [c1,c2] at hk⊢;exact hk;simp(disch:=omega) [c1,c2] at hk⊢;exact hk
def Bo(l:List Int):Int:=(l.dropWhile λx=>decide (x=0)).headD 0
theorem abz(HT:aA T){L:List Int}{q r:Nat}{cap ex}{t:Nat->List AV}(hq:h.get q=.rows 3 1 r 0 t)(hr:L.length<=r)(ht:∀j,(hj:j<L.length)->t j=[.i L[j]]) (hl:L.length<1073741824) (hk:k (.ret (.i (Bo L)) h)):aE T (W T) ⟨55⟩ [.slice q 0 1 L.length cap ex] h k:=by
 rw[aJ HT.t55];refine ag ?_;have key:∀(m i:Nat)(f:Fr)(K:aT->Prop),m=L.length- i->i<=L.length->J 6 f=.slice q 0 1 L.length cap ex->J 7 f=.i L.length->J 8 f=.i i->J 3 f=.i 0->Bo L=Bo (L.drop i)->
  (Bo L=0->∀f',J 3 f'=.i 0->K (.exit 0 f' h []))->(∀f',J 2 f'=.i (Bo L)->K (.ret f' h []))->W T (.loop l55_0) f h [] K:=by
  intro m
  induction m with
  |zero=>
   intro i f K hm hi f6 f7 f8 f3 ho k1 k2;have e:¬i<L.length:=zo;rw[aP];refine bK f6 f7 f8 e ?_;refine k1 ?_ _ zA;rw[ho,auJ zo];rfl
  |succ m ih=>
   intro i f K hm hi f6 f7 f8 f3 ho k1 k2;have ao:i<L.length:=zo;rw[aP];have:=ht i ao
   by_cases e:L[i]=0
   refine fY f6 f7 f8 f3 hq this ao e ?_;refine ih (i+1) _ K zo zo zA zA aa zA ?_ k1 k2;rw[ho,aut ao];unfold Bo;rw[avJ qbb];have:Bo L=L[i]:=by rw[ho,aut ao];unfold Bo;rw[avK qbb,axh]
   refine fY f6 f7 f8 f3 hq (ht i ao) ao e ?_;exact k2 _ (by rw[this];exact aa)
 refine key _ 0 _ _ rfl zo aa aa aa aa rfl (λe f' f3=>?_) λf' f2=>?_;rw[e] at hk;refine aB f3 ?_;exact hk;refine aB f2 ?_;exact hk
structure cN where
 doc:Int
 at_:Int
 e:Int
def cN.row(f:cN):List AV:=[.i f.doc,.i f.at_,.i f.e]
def Uz(x y:cN):Int:=Bo [xj x.doc y.doc,xj x.at_ y.at_,xj x.e y.e]
theorem ajP(HT:aA T){x y:cN}(hk:∀h',ax h h'->k (.ret (.i (Uz x y)) h')):aE T (W T) ⟨30⟩ [.agg x.row,.agg y.row] h k:=by
 rw[aJ HT.t30];refine aB cN.row.eq_1 ?_;refine Oz HT ?_;refine ag ?_;refine Oz HT ?_;refine ag ?_;refine ajO HT ?_;refine ag ?_;refine abz HT (L:=[xj x.doc y.doc,xj x.at_ y.at_,xj x.e y.e]) (Hp.br rfl) zm (λj hj=>?_) zm ?_;exact match j,hj with
 |0,_=>rfl
 |1,_=>rfl
 |2,_=>rfl
 refine ag ?_;exact hk _ aZ
def Bp(f x:cN):cN:=if f.e=0\/Uz x f<0 then x else f
def bS(docs ajQ aq:AV)(f:cN)(nodes bu kG ajR:AV):List AV:=[docs,ajQ,aq,.i f.doc,.i f.at_,.i f.e,nodes,bu,kG,ajR]
theorem ES(HT:aA T){p:Nat}{c0 c1 c2 c6 c7 c8 c9:AV}{f x:cN}(hp:h.get p=.one 52 (bS c0 c1 c2 f c6 c7 c8 c9))(hk:∀h',ah (·=p) h h'->h'.get p=.one 52 (bS c0 c1 c2 (Bp f x) c6 c7 c8 c9)->k (.ret (.bA []) h')):
 aE T (W T) ⟨15⟩ [.ptr p 3,.i x.doc,.i x.at_,.i x.e] h k:=by
 rw[aJ HT.t15];have h1:=Hp.lt hp rfl;simp only[bS] at hp;unfold Bp at hk
 by_cases c1:f.e=0
 refine aS hp c1 ?_;refine hk _ aZ ?_;simp(disch:=omega) [bS,c1];refine aS hp c1 ?_;refine ajP HT (x:=x) (y:=f) λh2 g2=>?_;have e2:=g0 g2
 by_cases c2:Uz x f<0
 refine aU e2 hp c2 ?_;refine hk _ (ah.set (ah.cn (ah.trans aZ g2)) _ (.inr rfl)) ?_;simp(disch:=omega) [bS,c1,c2];refine aU e2 hp c2 ?_;refine hk _ (ah.cn (ah.trans aZ g2)) ?_;simp(disch:=first|exact bh|fail) [bS,e2,hp,c1,c2]
end
abbrev SL:=List (List UInt8×AV)
def di(L:SL):List (AV×AV):=L.map λp=>(S p.1,p.2)
def eV:SL->List UInt8->Option AV
 |[],_=>none
 |(a,v)::L,s=>if s=a then some v else eV L s
def mA:SL->List UInt8->AV->SL
 |[],s,v=>[(s,v)]
 |(a,w)::L,s,v=>if s=a then(a,v)::L else(a,w)::mA L s v
def cD(L:SL):List (List UInt8):=L.map (·.1)
section
variable{h:Hp}{k:aK->Prop}{s a:List UInt8}{L:SL}{v z:AV}{i aD:Nat}
theorem UA:∀L:SL,s∉cD L->yZ (.cell .str) (S s) (di L)=true
 |[],_=>rfl
 |(a,v)::L,h=>by simp only[cD,aul,atZ,not_or] at h;simp only[di,aul,yZ,Td,auK h.1];exact UA L h.2
theorem UB:∀L:SL,(cD L).Nodup->wj (.cell .str) (S s) (di L)=some (eV L s)
 |[],_=>rfl
 |(a,v)::L,h=>by
  simp only[cD,aul,au6] at h;simp only[di,aul,wj,Td,eV]
  by_cases e:s=a
  subst e;have:=UA L h.1;simp only[di] at this;simp[this];have:=UB L h.2;simp only[di] at this;simp[e,this]
theorem abA:∀L:SL,(cD L).Nodup->∃b,AJ (.cell .str) (S s) v (di L)=some (b,di (mA L s v))
 |[],_=>⟨_,rfl⟩
 |(a,w)::L,h=>by
  simp only[cD,aul,au6] at h;simp only[di,aul,AJ,Td,mA]
  by_cases e:s=a
  subst e;have:=UA L h.1;simp only[di] at this;simp[this];obtain⟨b,this⟩:=abA L h.2;simp only[di] at this;simp[e,this]
theorem OA:∀L:SL,cD (mA L s v)=if s∈cD L then cD L else cD L++[s]
 |[]=>rfl
 |(a,w)::L=>by
  have:=OA L;simp only[mA,cD,aul] at this⊢
  by_cases e:s=a
  simp[e];simp only[e,auM,aul,this,atZ,axR]
  by_cases q:s∈L.map (·.1)<;>simp[q]
theorem ajS(h:(cD L).Nodup):(cD (mA L s v)).Nodup:=by rw[OA];split;exact h;rename_i e;exact av'.2 ⟨h,by simp,λa ha b hb=>by simp at hb;subst hb;rintro rfl;exact e ha⟩
theorem Bq:∀L:SL,eV (mA L s v) a=if a=s then some v else eV L a
 |[]=>rfl
 |(b,w)::L=>by
  simp only[mA]
  by_cases e:s=b
  subst e;simp only[auo,eV];split<;>rfl;simp only[e,auM,eV,Bq L]
  by_cases e2:a=b
  subst e2;simp[Ne.symm e];simp[e2]
theorem Br:∀{L:SL},eV L s=none <-> s∉cD L
 |[]=>by simp[eV,cD]
 |(a,v)::L=>by
  have:=Br (L:=L);simp only[cD] at this;simp only[eV,cD,aul,atZ,not_or]
  by_cases e:s=a
  simp[e];simp[e,this]
def iV(h:Hp)(i:Nat)(L:SL):Prop:=(∃aD,h.get i=.map (di L) aD)/\(cD L).Nodup
theorem iV.lt(x:iV h i L):i<h.nx:=by obtain⟨⟨aD,e⟩,_⟩:=x;exact Hp.lt e rfl
theorem iV.jV(x:iV h i L){ok:Bool}:me (.cell .str) h z (.map i) (S s) ok=y7 ok ((eV L s).getD z) (eV L s).isSome:=by obtain⟨⟨aD,e⟩,hn⟩:=x;simp only[me,BS,cond,e,UB L hn];cases eV L s<;>rfl
theorem iV.pE(x:iV h i L):∃o,wk (.cell .str) h (.map i) (S s) v=.vh undef (h.set i o)/\∀h':Hp,h'.get i=o->iV h' i (mA L s v):=by obtain⟨⟨aD,e⟩,hn⟩:=x;obtain⟨bb,hu⟩:=abA (s:=s) (v:=v) L hn;refine⟨.map (di (mA L s v)) (cond bb (Nat.succ aD) aD),?_,λh' e'=>⟨⟨_,e'⟩,ajS hn⟩⟩;simp only[wk,BS,cond,e,hu]
theorem iV.new(e:h.get i=.map [] aD):iV h i []:=⟨⟨aD,e⟩,by simp[cD]⟩
theorem iV.mono{h':Hp}(x:iV h i L)(e:h'.get i=h.get i):iV h' i L:=by obtain⟨⟨aD,q⟩,hn⟩:=x;exact⟨⟨aD,by rw[e];exact q⟩,hn⟩
end
structure aC where
 kind:Int
 name:List UInt8
 doc:Int
 at_:Int
 dir:List UInt8
deriving DecidableEq
def aC.row(d:aC):List AV:=[.i d.kind,S d.name,.i d.doc,.i d.at_,S d.dir]
def qG:aC:=⟨0,[],0,0,[]⟩
abbrev dK:EK:=.Dm [.int .i64,.str,.int .i64,.int .i64,.str]
section
variable{h:Hp}{k:aK->Prop}{d e:aC}{L:List (aC×AV)}{v z:AV}{i aD:Nat}
theorem K2:cJ dK (.agg d.row) (.agg e.row)=some (decide (d=e)):=by
 obtain⟨a1,a2,a3,a4,a5⟩:=d;obtain⟨b1,b2,b3,b4,b5⟩:=e;have e1:∀a b:Int,sD (.int .i64) (.i a) (.i b)=some (decide (a=b)):=λa b=>by simp[sD,A6]
 simp only[cJ,aC.row,yX,e1,Z1,aC.mk.injEq]
 by_cases c1:a1=b1<;>by_cases c2:a2=b2<;>by_cases c3:a3=b3<;>by_cases c4:a4=b4<;>by_cases c5:a5=b5<;>simp[c1,c2,c3,c4,c5]
def vN(L:List (aC×AV)):List (AV×AV):=L.map λp=>(.agg p.1.row,p.2)
def vO(L:List (aC×AV)):List aC:=L.map (·.1)
def Ak:List (aC×AV)->aC->Option AV
 |[],_=>none
 |(a,v)::L,s=>if s=a then some v else Ak L s
def Bs:List (aC×AV)->aC->AV->List (aC×AV)
 |[],s,v=>[(s,v)]
 |(a,w)::L,s,v=>if s=a then(a,v)::L else(a,w)::Bs L s v
theorem UD:∀L:List (aC×AV),d∉vO L->yZ dK (.agg d.row) (vN L)=true
 |[],_=>rfl
 |(a,v)::L,h=>by simp only[vO,aul,atZ,not_or] at h;simp only[vN,aul,yZ,K2,auK h.1];exact UD L h.2
theorem abB:∀L:List (aC×AV),(vO L).Nodup->wj dK (.agg d.row) (vN L)=some (Ak L d)
 |[],_=>rfl
 |(a,v)::L,h=>by
  simp only[vO,aul,au6] at h;simp only[vN,aul,wj,K2,Ak]
  by_cases e:d=a
  subst e;have:=UD L h.1;simp only[vN] at this;simp[this];have:=abB L h.2;simp only[vN] at this;simp[e,this]
theorem abC:∀L:List (aC×AV),(vO L).Nodup->∃b,AJ dK (.agg d.row) v (vN L)=some (b,vN (Bs L d v))
 |[],_=>⟨_,rfl⟩
 |(a,w)::L,h=>by
  simp only[vO,aul,au6] at h;simp only[vN,aul,AJ,K2,Bs]
  by_cases e:d=a
  subst e;have:=UD L h.1;simp only[vN] at this;simp[this];obtain⟨b,this⟩:=abC L h.2;simp only[vN] at this;simp[e,this]
theorem abD:∀L:List (aC×AV),vO (Bs L d v)=if d∈vO L then vO L else vO L++[d]
 |[]=>rfl
 |(a,w)::L=>by
  have:=abD L;simp only[Bs,vO,aul] at this⊢
  by_cases e:d=a
  simp[e];simp only[e,auM,aul,this,atZ,axR]
  by_cases q:d∈L.map (·.1)<;>simp[q]
theorem UE:∀L:List (aC×AV),Ak (Bs L d v) e=if e=d then some v else Ak L e
 |[]=>rfl
 |(b,w)::L=>by
  simp only[Bs]
  by_cases e1:d=b
  subst e1;simp only[auo,Ak];split<;>rfl;simp only[e1,auM,Ak,UE L]
  by_cases e2:e=b
  subst e2;simp[Ne.symm e1];simp[e2]
def lX(h:Hp)(i:Nat)(N:List aC):Prop:=∃L aD,h.get i=.map (vN L) aD/\(vO L).Nodup/\(∀d v,Ak L d=some v->∃a b c e kv,v=.agg [a,b,c,e,S d.name,kv])/\∀d∈N,(Ak L d).isSome=true
theorem lX.lt{N}(x:lX h i N):i<h.nx:=by obtain⟨L,aD,e,_⟩:=x;exact Hp.lt e rfl
theorem lX.mono{h':Hp}{N}(x:lX h i N)(e:h'.get i=h.get i):lX h' i N:=by obtain⟨L,aD,q,r⟩:=x;exact⟨L,aD,by rw[e];exact q,r⟩
theorem lX.pE{N}(x:lX h i N){a b c f kv:AV}:∃o,wk dK h (.map i) (.agg d.row) (.agg [a,b,c,f,S d.name,kv])=.vh undef (h.set i o)/\∀h':Hp,h'.get i=o->lX h' i (d::N):=by obtain⟨L,aD,e,hn,h1,h2⟩:=x;obtain⟨bb,hu⟩:=abC (d:=d) (v:=.agg [a,b,c,f,S d.name,kv]) L hn;refine⟨.map (vN (Bs L d (.agg [a,b,c,f,S d.name,kv]))) (cond bb (Nat.succ aD) aD),?_,λh' e'=>⟨Bs L d (.agg [a,b,c,f,S d.name,kv]),_,e',?_,λd' v hv=>?_,λd' hd=>?_⟩⟩;simp only[wk,BS,K2,auS,cond,e,hu];rw[abD];split;exact hn;rename_i e;exact av'.2 ⟨hn,by simp,λa ha b hb=>by simp at hb;subst hb;rintro rfl;exact e ha⟩;rw[UE] at hv;split at hv;rename_i e;subst e;cases hv;exact⟨_,_,_,_,_,rfl⟩;exact h1 _ _ hv;rw[UE];split;rfl;rename_i e;rcases atZ.1 hd with rfl|hd;exact absurd rfl e;exact h2 _ hd
theorem lX.jV{N}(x:lX h i N)(hd:d∈N):∃a b c f kv,me dK h z (.map i) (.agg d.row) false=.v (.agg [a,b,c,f,S d.name,kv]):=by obtain⟨L,aD,e,hn,h1,h2⟩:=x;obtain⟨v,hv⟩:=awk.1 (h2 d hd);obtain⟨a,b,c,f,kv,rfl⟩:=h1 _ _ hv;refine⟨a,b,c,f,kv,?_⟩;simp only[me,BS,K2,auS,cond,e,abB L hn,hv,y7]
end
abbrev KM:=List UInt8->Option aC
def rA(m:KM)(s:List UInt8)(d:aC):KM:=λa=>if a=s then some d else m a
def aX:KM:=λ_=>none
def MK(h:Hp)(i:Nat)(m:KM):Prop:=∃L,iV h i L/\∀s,eV L s=(m s).map λd=>.agg d.row
def xk:List KM->List UInt8->Option aC
 |[],_=>none
 |m::ms,s=>match m s with|some d=>some d|none=>xk ms s
def si(lo hi:Nat)(h:Hp):List KM->AV->Prop
 |[],v=>v=.gJ
 |m::ms,v=>∃bb par kv lv,v=.ptr bb 0/\h.get bb=.one 112 [par,kv,lv]/\lo<bb/\bb<hi/\(kv=.kQ/\(∀s,m s=none)\/∃i,kv=.map i/\lo<i/\i<hi/\MK h i m)/\si lo hi h ms par
def lA(o:Option aC):AV:=.bA [.agg (o.getD qG).row,.bool o.isSome]
section
variable{h:Hp}{k:aK->Prop}{s nm:List UInt8}{m:KM}{ms:List KM}{d:aC}{i lo hi:Nat}{v:AV}
theorem MK.lt(x:MK h i m):i<h.nx:=by obtain⟨L,e,_⟩:=x;exact e.lt
theorem MK.mono{h':Hp}(x:MK h i m)(e:h'.get i=h.get i):MK h' i m:=by obtain⟨L,q,r⟩:=x;exact⟨L,q.mono e,r⟩
theorem MK.new{aD}(e:h.get i=.map [] aD):MK h i aX:=⟨[],iV.new e,λ_=>rfl⟩
theorem MK.jV(x:MK h i m){ok:Bool}{z:AV}:me (.cell .str) h z (.map i) (S s) ok=y7 ok ((m s).elim z λd=>.agg d.row) (m s).isSome:=by obtain⟨L,q,r⟩:=x;rw[q.jV,r];cases m s<;>rfl
theorem MK.pE(x:MK h i m):∃o,wk (.cell .str) h (.map i) (S s) (.agg d.row)=.vh undef (h.set i o)/\∀h':Hp,h'.get i=o->MK h' i (rA m s d):=by obtain⟨L,q,r⟩:=x;obtain⟨o,e,f⟩:=q.pE (s:=s) (v:=.agg d.row);refine⟨o,e,λh' e'=>⟨_,f h' e',λa=>?_⟩⟩;rw[Bq];unfold rA;split;rfl;exact r a
theorem si.mono{h':Hp}:∀{ms:List KM}{v:AV},(∀j,lo<j->j<hi->(∃l,h.get j=.one 112 l)\/(∃es aD,h.get j=.map es aD)->h'.get j=h.get j)->si lo hi h ms v->si lo hi h' ms v
 |[],_,_,x=>x
 |m::ms,v,g,x=>by obtain⟨bb,par,kv,lv,e1,e2,l1,l2,e3,x⟩:=x;refine⟨bb,par,kv,lv,e1,by rw[g bb l1 l2 (.inl ⟨_,e2⟩)];exact e2,l1,l2,?_,si.mono g x⟩;rcases e3 with e3|⟨i,q1,q2,q3,q4⟩;exact .inl e3;have q5:=q4;obtain⟨L,⟨⟨aD,q6⟩,_⟩,_⟩:=q5;exact .inr ⟨i,q1,q2,q3,q4.mono (g i q2 q3 (.inr ⟨_,_,q6⟩))⟩
theorem si.up{dD:Nat}(le:hi<=dD):∀{ms:List KM}{v:AV},si lo hi h ms v->si lo dD h ms v
 |[],_,x=>x
 |m::ms,v,x=>by obtain⟨bb,par,kv,lv,e1,e2,l1,l2,e3,x⟩:=x;refine⟨bb,par,kv,lv,e1,e2,l1,by omega,?_,x.up le⟩;rcases e3 with e3|⟨i,q1,q2,q3,q4⟩;exact .inl e3;exact .inr ⟨i,q1,q2,by omega,q4⟩
theorem ajT(HT:aA T)(hc:si lo hi h ms v)(hk:∀h',ax h h'->k (.ret (lA (xk ms s)) h')):aE T (W T) ⟨101⟩ [v,S s] h k:=by
 rw[aJ HT.t101];refine ag ?_;have key:∀(ms:List KM)(v:AV)(f:Fr)(h1:Hp)(K:aT->Prop),ax h h1->si lo hi h ms v->h.nx<h1.nx->h1.get h.nx=.one 34 qG.row->J 0 f=v->J 1 f=S s->J 4 f=.ptr h.nx 0->
  (xk ms s=none->∀f' h',ax h h'->h.nx<h'.nx->h'.get h.nx=.one 34 qG.row->J 4 f'=.ptr h.nx 0->K (.exit 0 f' h' []))->
  (∀d,xk ms s=some d->∀f' h',ax h h'->h.nx<h'.nx->h'.get h.nx=.one 34 d.row->J 4 f'=.ptr h.nx 0->J 5 f'=.bool true->K (.ret f' h' []))->W T (.loop l101_0) f h1 [] K:=by
  intro ms
  induction ms with
  |nil=>
   intro v f h1 K g hc hx hr f0 f1 f4 k1 k2;simp only[si] at hc;subst hc;rw[aP];refine aB f0 ?_;exact k1 rfl _ _ g hx hr zA
  |cons m ms ih=>
   intro v f h1 K g hc hx hr f0 f1 f4 k1 k2;obtain⟨bb,par,kv,lv,rfl,e2,l1,l2,e3,hc⟩:=hc;have n1:=Hp.lt e2 rfl;have e1:=g0 g;have e2':h1.get bb=.one 112 [par,kv,lv]:=by rw[e1 bb n1];exact e2
   rw[aP];have fC:me (.cell .str) h1 (.agg [.i 0,S [],.i 0,.i 0,S []]) kv (S s) true=.v (lA (m s)):=by rcases e3 with⟨rfl,q⟩|⟨i,rfl,q2,q3,q4⟩;rw[q];rfl;rw[(q4.mono (e1 i q4.lt)).jV];cases m s<;>rfl
   simp only[qG,aC.row] at hr;cases hm:m s with
   |some d=>
    rw[hm] at fC;simp only[lA,Option.getD,Option.isSome,aC.row] at fC;refine cq f0 f1 f4 e2' fC hr ?_;refine k2 d (by simp only[xk,hm]) _ _ ?_ ?_ ?_ ?_ ?_;exact(((g.push _).set _ (.inl zo)).set _ (.inl zo));refine ag ?_;omega;exact au aC.row.eq_1;exact zA;exact aa
   |none=>
    rw[hm] at fC;simp only[lA,Option.getD,Option.isSome,aC.row,qG] at fC;refine cq f0 f1 f4 e2' fC hr ?_;refine ih _ _ _ K ?_ hc ?_ ?_ aa zA zA (λq=>k1 (by simp only[xk,hm];exact q)) (λd q=>k2 d (by simp only[xk,hm];exact q));exact((g.push _).set _ (.inl zo));refine ag ?_;omega;simp(disch:=omega) [hr,qG,aC.row]
 refine key ms v _ _ _ aZ hc aa (by simp(disch:=omega) [qG,aC.row]) aa aa aa (λe f' h' g hx hr f4=>?_) (λd e f' h' g hx hr f4 f5=>?_);rw[e] at hk;simp only[qG,aC.row] at hr;refine aS f4 hr ?_;refine hk _ (g.set _ (.inl zl));rw[e] at hk;simp only[aC.row] at hr;refine aU f4 hr f5 ?_;exact hk _ g
end
structure dx where
 doc:Int
 at_:Int
 name:List UInt8
 is:Bool
 d:aC
deriving DecidableEq
def dx.row(u:dx):List AV:=[.i u.doc,.i u.at_,S u.name,.bool u.is,.i u.d.kind,S u.d.name,.i u.d.doc,.i u.d.at_,S u.d.dir]
def pA(h:Hp)(v:AV)(us:List dx):Prop:=
 us=[]/\v=.bx\/us≠[]/\∃q t,v=.slice q 0 9 us.length us.length false/\h.get q=.rows 36 9 us.length 0 t/\∀j,(hj:j<us.length)->t j=us[j].row
def uw(o:AO):Prop:=∃r f,o=.rows 36 9 r 0 f
structure Wf(M:Nat->Prop)(h h':Hp):Prop where
 nx:h.nx<=h'.nx
 get:∀i,i<h.nx->¬M i->¬uw (h.get i)->h'.get i=h.get i
section
variable{h:Hp}{k:aK->Prop}{s nm:List UInt8}{m:KM}{ms:List KM}{d:aC}{i lo hi:Nat}{v:AV}
theorem Wf.refl{M}(h:Hp):Wf M h h:=⟨at2 _,λ_ _ _ _=>rfl⟩
theorem Wf.trans{M}{a b c:Hp}(x:Wf M a b)(y:Wf M b c):Wf M a c:=⟨at1 x.nx y.nx,λi hi hm h36=>by have e:=x.get i hi hm h36;rw[y.get i (aur hi x.nx) hm (by rw[e];exact h36),e]⟩
theorem Wf.mono{M N}{a b:Hp}(x:Wf M a b)(le:∀i,i<a.nx->M i->N i):Wf N a b:=⟨x.nx,λi hi hn=>x.get i hi λhm=>hn (le i hi hm)⟩
theorem Wf.of{M}{a b:Hp}(x:ah M a b):Wf M a b:=⟨x.nx,λi hi hm _=>x.get i hi hm⟩
theorem pA.mono{h':Hp}{us}(x:pA h v us)(e:∀q,q<h.nx->uw (h.get q)->h'.get q=h.get q):pA h' v us:=by rcases x with x|⟨x,q,t,e1,e2,e3⟩;exact .inl x;exact .inr ⟨x,q,t,e1,by rw[e q (Hp.lt e2 rfl) ⟨_,_,e2⟩];exact e2,e3⟩
theorem pA.nC{M}{h':Hp}{us}(x:pA h v us)(g:ah M h h')(hm:∀q,M q->¬uw (h.get q)):pA h' v us:=
 x.mono λq hq h36=>g.get q hq λm=>hm q m h36
theorem UF(HT:aA T){p:Nat}{c0 c1 c2 c6 c7 c8 c9:AV}{f:cN}(hp:h.get p=.one 52 (bS c0 c1 c2 f c6 c7 c8 c9))(hm:MK h i m)
 (hk:∀h',ah (λj=>j=p\/j=i) h h'->h'.get p=.one 52 (bS c0 c1 c2 (if(m d.name).isSome=true then Bp f ⟨d.doc,d.at_,13⟩ else f) c6 c7 c8 c9)->MK h' i (rA m d.name d)->k (.ret (.bA []) h')):
 aE T (W T) ⟨65⟩ [.ptr p 0,.map i,.agg d.row] h k:=by
 rw[aJ HT.t65];have n1:=Hp.lt hp rfl;have n2:=hm.lt;have bg:p≠i:=by rintro rfl;obtain⟨L,⟨⟨aD,q6⟩,_⟩,_⟩:=hm;rw[q6] at hp;cases hp
 have fC:∀o,me (.cell .str) (h.push o) (.agg [.i 0,S [],.i 0,.i 0,S []]) (.map i) (S d.name) true=.v (lA (m d.name)):=λo=>by rw[(hm.mono (h':=h.push o) (Hp.qZ n2)).jV];cases m d.name<;>rfl
 cases e:m d.name with
 |none=>
  rw[e] at fC;simp only[lA,Option.getD,Option.isSome,aC.row,qG] at fC;simp only[aC.row];refine aB fC ?_;generalize hH:(((h.push _).push _).set _ _:Hp)=H;have UG:MK H i m:=hm.mono (by rw[<-hH];exact aa);obtain⟨o,eo,fo⟩:=UG.pE (s:=d.name) (d:=d);simp only[aC.row] at eo;have gH:ax h H:=by rw[<-hH];exact ah.set (ah.push (ah.push (ah.refl _) _) _) _ (.inl zo)
  have e5:H.get h.nx=.one 34 [.i d.kind,S d.name,.i d.doc,.i d.at_,S d.dir]:=by rw[<-hH];simp(disch:=first|exact bh|fail)
  refine aS e5 eo ?_;refine hk _ ((ah.cn gH).set _ (.inr (.inr rfl))) ?_ (fo _ (Hp.bR rfl));rw[Hp.de bg,gH.get _ n1 id,hp];simp[e]
 |some d'=>
  rw[e] at fC;simp only[lA,Option.getD,Option.isSome,aC.row] at fC;simp only[aC.row];refine aB fC ?_;refine ES HT (x:=⟨d.doc,d.at_,13⟩) (f:=f) (c0:=c0) (c1:=c1) (c2:=c2) (c6:=c6) (c7:=c7) (c8:=c8) (c9:=c9) (au hp) λH g e1=>?_;have gn:=g.nx
  try simp only[Hp.eE,Hp.iy] at gn
  have e5:H.get h.nx=.one 34 [.i d.kind,S d.name,.i d.doc,.i d.at_,S d.dir]:=by rw[g.get _ (by simp(disch:=first|exact bh|fail);omega) zo];simp(disch:=first|exact bh|fail)
  have UG:MK H i m:=hm.mono (by rw[g.get _ qan (Ne.symm bg)];exact aa);obtain⟨o,eo,fo⟩:=UG.pE (s:=d.name) (d:=d);simp only[aC.row] at eo;have gH:ah (λj=>j=p\/j=i) h H:=by refine ah.trans ?_ (g.mono λ_ _ h=>.inl h);exact fZ
  refine aS e5 eo ?_;refine hk _ (gH.set _ (.inr (.inr rfl))) ?_ (fo _ (Hp.bR rfl));rw[Hp.de bg,e1];simp[e]
end
end Yv
