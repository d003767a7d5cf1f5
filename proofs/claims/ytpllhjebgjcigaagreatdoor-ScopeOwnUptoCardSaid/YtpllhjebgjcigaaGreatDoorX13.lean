/- A part of the proof of 'ScopeOwnUptoCardSaid'. No condition. -/
import Derived.Test.YtpllhjebgjcigaaGreatDoorX12
import GoSem.PinnedTables
import Derived.Laws.IdiomStrings
import Derived.Lib.Bytealg
import Derived.Laws.Externs
set_option maxHeartbeats 16000000
set_option maxRecDepth 100000
set_option linter.all false
namespace Yv
variable{T:aM->Option CF}
theorem rG.up{N N':Nat}{lo hi dD:Int}{t:Tree}(x:rG N lo hi t)(h:N<=N')(h2:hi<=dD):rG N' lo dD t:=⟨x.kd,by have:=x.fa;omega,x.od.up (atY _) h2,x.ok,x.sm.up h,at1 x.len h,x.d⟩
theorem rG.gX{N:Nat}{lo hi:Int}{t:Tree}(x:rG N lo hi t):Yv.gX lo hi t:=by rw[Tree.eta t];exact .gen (by rw[x.kd];decide) (by rw[x.kd];decide) x.fa x.od
section
variable{dir:List UInt8}{j:Nat}{s:jv}{aq:List (List UInt8)}
def DG(s:jv):Prop:=∀q,∀d∈s.bu q,(d.kind=2\/d.kind=3)/\d∈s.nd
theorem adu:∀(ts:List Tree)(s:jv),DG s->DG (yL dir j ts s)/\(∀d∈s.nd,d∈(yL dir j ts s).nd)/\(yL dir j ts s).nd.length=s.nd.length+ts.length
 |[],s,h=>⟨h,λ_ h=>h,rfl⟩
 |t::ts,s,h=>by unfold yL;obtain⟨a,b,c⟩:=adu ts {s with nd:=⟨5,t.name,j,t.at,dir⟩::s.nd,rE:=true} λq d hd=>⟨(h q d hd).1,.tail _ (h q d hd).2⟩;exact⟨a,λd hd=>b d (.tail _ hd),by rw[c];simp<;>omega⟩
theorem adv{nd:List aC}{bu:List UInt8->List aC}{d:aC}{im Ik:List aC}{ot ot':Bool}(h:DG ⟨bu,im,nd,ot⟩)(hd:d.kind=2\/d.kind=3):DG ⟨vQ bu dir (bu dir++[d]),Ik,d::nd,ot'⟩:=λq e he=>by have he:e∈vQ bu dir (bu dir++[d]) q:=he;unfold vQ at he;split at he;rcases auj.1 he with c|c;exact⟨(h _ e c).1,.tail _ (h _ e c).2⟩;simp at c;subst c;exact⟨hd,.head _⟩;exact⟨(h _ e he).1,.tail _ (h _ e he).2⟩
theorem amv(t:Tree)(s:jv)(h:DG s):DG (kX dir j t s)/\(∀d∈s.nd,d∈(kX dir j t s).nd)/\(kX dir j t s).nd.length<=s.nd.length+1+t.kids.length/\(t.kind=2->⟨1,t.name,j,t.at,t.name⟩∈(kX dir j t s).nd):=by have up:∀d:aC,∀q,∀e∈s.bu q,(e.kind=2\/e.kind=3)/\e∈d::s.nd:=λd q e he=>⟨(h q e he).1,.tail _ (h q e he).2⟩;unfold kX;split<;>rename_i c1;exact⟨up _,λd h=>.tail _ h,by simp<;>omega,λ_=>.head _⟩;split<;>rename_i c2;obtain⟨a,b,c⟩:=adu (dir:=dir) (j:=j) t.kids {s with bu:=vQ s.bu dir (s.bu dir++[⟨2,t.name,j,t.at,dir⟩]),nd:=⟨2,t.name,j,t.at,dir⟩::s.nd} (adv (im:=s.kW) (ot:=s.rE) h (.inl rfl));exact⟨a,λd h=>b d (.tail _ h),by rw[c];simp<;>omega,λe=>absurd e c1⟩;split;exact⟨adv (im:=s.kW) (ot:=s.rE) h (.inr rfl),λd h=>.tail _ h,by simp<;>omega,λe=>absurd e c1⟩;exact⟨up _,λd h=>.tail _ h,by simp<;>omega,λe=>absurd e c1⟩
theorem adw{N:Nat}:∀(ts:List Tree)(s:jv),DG s->kP N ts->DG (tB dir j ts s)/\(∀d∈s.nd,d∈(tB dir j ts s).nd)/\(tB dir j ts s).nd.length<=s.nd.length+ts.length*(N+1)/\(∀t∈ts,t.kind=2->⟨1,t.name,j,t.at,t.name⟩∈(tB dir j ts s).nd)
 |[],s,h,_=>⟨h,λ_ h=>h,by simp[tB],λ_ h=>by cases h⟩
 |t::ts,s,h,hs=>by
  unfold tB;obtain⟨a,b,c,d⟩:=amv (dir:=dir) (j:=j) t s h;obtain⟨a',b',c',d'⟩:=adw ts _ a hs.2;have:t.kids.length<=N:=by have:=hs.1;rw[Tree.eta t] at this;exact this.1
  refine⟨a',λd hd=>b' d (b d hd),?_,λu hu e=>?_⟩;rw[atX,auC];omega;rcases atZ.1 hu with q|q;rw[q] at e⊢;exact b' _ (d e);exact d' u q e
theorem adx{N:Nat}{hi:Int}:∀(ts:List Tree)(j:Nat)(s:jv),DG s->(∀t∈ts,rG N 0 hi t)->DG (jG aq ts j s)/\(∀d∈s.nd,d∈(jG aq ts j s).nd)/\(jG aq ts j s).nd.length<=s.nd.length+ts.length*(N*(N+1))/\(∀i(hi:i<ts.length),∀x∈ts[i].kids,x.kind=2->⟨1,x.name,(j+i:Nat),x.at,x.name⟩∈(jG aq ts j s).nd)
 |[],_,s,h,_=>⟨h,λ_ h=>h,by simp[jG],λi hi=>absurd hi (avm _)⟩
 |t::ts,j,s,h,hf=>by
  unfold jG;have f:=hf t zm;obtain⟨a,b,c,d⟩:=adw (dir:=aq.getD j []) (j:=j) (N:=N) t.kids s h f.sm;obtain⟨a',b',c',d'⟩:=adx ts (j+1) _ a λt ht=>hf t qat;refine⟨a',λd hd=>b' d (b d hd),?_,λi hi x hx e=>?_⟩;have:t.kids.length*(N+1)<=N*(N+1):=at4 _ f.len;rw[atX,auC];omega;cases i with
  |zero=>exact b' _ (d x hx e)
  |succ i=>
   have:=d' i qaY x (by simpa using hx) e;rwa[show j+1+i=j+(i+1) by omega] at this
end
structure Pv(s:Sc):Prop where
 Po:∀j(hj:j+1<s.us.length),s.us[j].doc<s.us[j+1].doc\/s.us[j].doc=s.us[j+1].doc/\s.us[j].at_<s.us[j+1].at_
 us:∀u∈s.us,C' u s.nd
section
variable{E:fM}{nd:List aC}{hi:Int}{fs:List Tree}{aq:List (List UInt8)}{bu:List UInt8->List aC}
def Pw(u v:dx):Prop:=u.doc<v.doc\/u.doc=v.doc/\u.at_<v.at_
theorem tG.lo:∀{us:List dx}{lo:Int},tG E nd lo us hi->∀u∈us,lo<=u.at_/\u.doc=E.j/\C' u nd
 |_::_,_,a,u,h=>by rcases atZ.1 h with e|e;rw[e];exact⟨a.1,a.2.1,a.2.2.1⟩;obtain⟨b,c⟩:=a.2.2.2.lo u e;exact⟨by have:=a.1;omega,c⟩
theorem tG.pw:∀{us:List dx}{lo:Int},tG E nd lo us hi->us.Pairwise Pw
 |[],_,_=>.nil
 |u::us,_,a=>.cons (λv hv=>.inr (by obtain⟨b,c,_⟩:=a.2.2.2.lo v hv;exact⟨by rw[a.2.1,c],by omega⟩)) a.2.2.2.pw
theorem ady{N:Nat}{jt:List aC}(ht:∀q,∀d∈bu q,(d.kind=2\/d.kind=3)/\d∈jt) (HQ:∀i(hi:i<fs.length),∀x∈fs[i].kids,x.kind=2->⟨1,x.name,(i:Nat),x.at,x.name⟩∈jt):∀(ts:List Tree)(j:Nat)(s:Sc),(∀i,ts[i]? =fs[j+i]?)->(∀t∈ts,rG N 0 hi t)->(∀d∈jt,d∈s.nd)->s.us.Pairwise Pw->(∀u∈s.us,u.doc<j/\C' u s.nd)->
 (uB fs aq bu ts j s).us.Pairwise Pw/\(∀u∈(uB fs aq bu ts j s).us,C' u (uB fs aq bu ts j s).nd)/\((uB fs aq bu ts j s).us.length:Int)<=s.us.length+ts.length*hi
 |[],j,s,_,_,_,h1,h2=>⟨h1,λu h=>(h2 u h).2,by simp[uB]⟩
 |t::ts,j,s,hg,hf,hb,h1,h2=>by
  unfold uB;have f:=hf t zm;have g0:=hg 0;simp only[avk,aud] at g0;obtain⟨jl,ej⟩:=at0.1 g0.symm;have tg:Pt (C3 fs aq bu j) jt:=⟨ht,λx hx e=>by
   have q:(fs.getD j zT)=fs[j]:=by rw[aub,atT jl];rfl
   rw[show(C3 fs aq bu j).fs=fs from rfl,show(C3 fs aq bu j).j=j from rfl,q] at hx;exact HQ j jl x hx e⟩
  have w:=adt tg _ t (aw7 _) 0 hi false [] aX ⟨aX,aX,s⟩ f.gX ⟨hb,λ_ h=>(by cases h),.z,.z,.z⟩;generalize fU (C3 fs aq bu j) [] false aX t ⟨aX,aX,s⟩=w' at w⊢;obtain⟨new,e,a⟩:=w.us;have e:w'.sc.us=s.us++new:=e;have lo:=a.lo;have al:=a.len;have pw:w'.sc.us.Pairwise Pw:=by rw[e];refine au9.2 ⟨h1,a.pw,λu hu v hv=>.inl ?_⟩;have:=(h2 u hu).1;have:=(lo v hv).2.1;rw[this];exact(h2 u hu).1
  obtain⟨c1,c2,c3⟩:=ady ht HQ ts (j+1) w'.sc (λi=>by
   have:=hg (i+1);rw[auV] at this;rw[this];congr 1;omega) (λt h=>hf t (by simp[h])) (λd h=>w.nd d (hb d h)) pw λu hu=>by rw[e] at hu;rcases auj.1 hu with c|c;exact⟨by have:=(h2 u c).1;omega,(h2 u c).2.up w.nd⟩;have:=lo u c;exact⟨by rw[this.2.1];show(j:Int)<_;omega,this.2.2⟩
  refine⟨c1,c2,avU c3 ?_⟩;rw[e,auk,atX];have:((s.us.length+new.length:Nat):Int)<=s.us.length+hi:=zo;have:((ts.length+1:Nat):Int)*hi=ts.length*hi+hi:=by rw[show((ts.length+1:Nat):Int)=ts.length+1 by omega,Int.add_mul,Int.one_mul]
  omega
end
theorem DG0:DG l9:=λ_ _ h=>by cases h
theorem amw{fs:List Tree}{aq:List (List UInt8)}(h6:fs.length<=6)(hf:∀t∈fs,rG 9006 0 9000 t):O5 fs aq/\∀f,Pv (Lw fs aq f):=by obtain⟨a,b,c,d⟩:=adx (aq:=aq) fs 0 l9 DG0 hf;have hb:=λfl=>ady (aq:=aq) (bu:=(jG aq fs 0 l9).bu) a (λi hi x hx e=>by have:=d i hi x hx e;rwa[aue] at this) fs 0 ⟨fl,(jG aq fs 0 l9).nd,[]⟩ (λi=>by rw[aue]) hf (λ_ h=>h) .nil (λ_ h=>by cases h);refine⟨⟨λt h=>⟨(hf t h).fh,(hf t h).adm zd⟩,λt h=>(hf t h).d,?_,λfl=>?_⟩,λf=>⟨λj hj=>?_,(hb f).2.1⟩⟩;have:(l9.nd).length=0:=rfl;have:fs.length*(9006*(9006+1))<=6*(9006*(9006+1)):=at4 _ h6;omega;have:=(hb fl).2.2;simp only[aup] at this;omega;exact List.pairwise_iff_getElem.1 (hb f).1 j (j+1) _ hj (aw7 _)
theorem amx{docs:List Doc}{rs:List (PR Tree)}{aq:List (List UInt8)}(hd:∀d∈docs,d.text.length<=9000) (x:Ay docs rs aq) (ok:∀r∈rs,BF r):∀t∈rs.map pB,rG 9006 0 9000 t:=λt ht=>by
 obtain⟨r,hr,e⟩:=auR.1 ht;obtain⟨i,hi,ei⟩:=avC hr;have dD:i<docs.length:=by have:=x.rl;omega
 obtain⟨b,o,oi,_,e2⟩:=x.r i hi dD;have hl:=hd _ (auy dD);have:=V8 docs[i].text zo b o oi;rw[<-e2,ei] at this;have k:=ok r hr;subst e;cases r with
 |ok t m=>exact rG.up this zo zo
 |er=>cases k
 |dN=>cases k
theorem Wb{docs:List Doc}(h6:docs.length<=6)(hd:∀d∈docs,d.text.length<=9000) {rs:List (PR Tree)} {aq:List (List UInt8)} (x:Ay docs rs aq) (ok:∀r∈rs,BF r):O5 (rs.map pB) aq/\∀f,Pv (Lw (rs.map pB) aq f):=
 amw (by have:=x.rl;simp;omega) (amx hd x ok)
section
variable{h hB:Hp}{k:aK->Prop}{v:AV}{docs:List Doc}{us:List dx}
theorem adz{kp:aT->Prop}{fm:Fr}{dst:Option Nat}{f:Fr}{H:Hp}{pd:List Pd}{n i hi p:Nat}{r:List DI}{dl:List Df}{g:aM}{xs:List CX}{b:Bool}{a:List AV}(hg:J p f=.bool b)(ha:aQ (.call g xs) f H=.call g a)
 (hc:aE T (W T) g a H (NC kp fm dl dst f λf' h'=>qR pd (n+1) h' λgC=>cE (aE T (W T)) kp fm dl r (n+1) gC f' h')):cE (aE T (W T)) kp fm dl (⟨i,⟨dst,.call g xs,some (p,b)⟩,.ev,hi⟩::r) n pd f H:=by
 rw[Ka,hg,ha];cases b<;>exact hc
theorem AB{kp:aT->Prop}{fm:Fr}{dst:Option Nat}{f:Fr}{H:Hp}{pd:List Pd}{n i hi p:Nat}{r:List DI}{dl:List Df}{o:CO}{b:Bool}(x:AV)(hg:J p f=.bool b)(ha:aQ o f H=.v x)
 (hc:∀pd,cE (aE T (W T)) kp fm dl r n pd (put dst x f) H):cE (aE T (W T)) kp fm dl (⟨i,⟨dst,o,some (p,b)⟩,.rd,hi⟩::r) n pd f H:=by
 rw[ya,hg,ha];cases b<;>exact hc _
theorem amy:cJ (.Dm [.int .i64,.str,.int .i64,.int .i64,.str]) (.agg [.i 0,S [],.i 0,.i 0,S []]) (.agg [.i 0,S [],.i 0,.i 0,S []])=some true:=by rfl
theorem amz(HT:aA T){p aG tb:Nat}{c0 c1 c2 c8:AV}{s:Sc}(hp:uC p aG tb c0 c1 c2 c8 hB s)(hn:pA hB v s.us)(VT:s.us.length<1073741824)(ho:Pv s){K:aT->Prop}(hK:∀f' h',ax hB h'->K (.exit 0 f' h' [])):∀(n j:Nat)(h:Hp)(fr:Fr),j+n=s.us.length->ax hB h->
 J 3 fr=.ptr p 0->J 5 fr=v->J 6 fr=.i j->W T (.loop l3_0) fr h [] K:=by
 intro n
 induction n with
 |zero=>
  intro j h fr hj g f3 f5 f6;simp only[aud] at hj;subst hj;rw[aP];show W T Jl fr h [] _;unfold Jl;simp(maxSteps:=400000) (disch:=first|exact bh|fail) [f5,f6,hn.len];exact hK _ h g
 |succ n ih=>
  intro j h fr hj g f3 f5 f6;have ao:j<s.us.length:=zo;have aY:(j:Int)<s.us.length:=zo;obtain⟨q,t,rfl,hq,ht⟩:∃q t,v=.slice q 0 9 s.us.length s.us.length false/\hB.get q=.rows 36 9 s.us.length 0 t/\∀j,(hj:j<s.us.length)->t j=s.us[j].row:=by rcases hn with⟨e,_⟩|⟨_,x⟩;simp[e] at ao;exact x
  have lq:=Hp.lt hq rfl;have ng:=g.nx;have jT:=(g.get _ lq id).trans hq;have jH:=ht j ao;have ou:=ho.us _ (auy ao);rw[aP];generalize hL:CC.loop l3_0=L;show W T Jl fr h [] _;unfold Jl;generalize OV:Qx=B2;have rest:∀(bJ:Fr)(h1:Hp),ax hB h1->J 3 bJ=.ptr p 0->J 5 bJ=.slice q 0 9 s.us.length s.us.length false->J 6 bJ=.i j->h1.get h.nx=.one 36 s.us[j].row->J 7 bJ=.ptr h.nx 0->W T B2 bJ h1 [] (bY 1 (bF (W T (CC.af r3_19)) (bF (W T L) K))):=by
   intro bJ h1 g1 e3 e5 e6 hu e7;have nu:=Hp.lt hu rfl;simp only[dx.row] at hu;subst OV;unfold Qx
   by_cases c:s.us[j].is=true
   ·have nm:=ou.nm c;have nd:=ou.nd c;have lc:=ou.lc c;have im:=ou.im c;have kd:=ou.kd c;generalize hB3:Qw=B3;have tl:∀(uk:Fr)(loc:Bool),J 3 uk=.ptr p 0->J 5 uk=.slice q 0 9 s.us.length s.us.length false->J 6 uk=.i j->J 7 uk=.ptr h.nx 0->J 8 uk=.ptr h1.nx 0->J 9 uk=.bool loc->(loc=true->s.us[j].d.doc=s.us[j].doc/\s.us[j].d.at_<s.us[j].at_)->
     ∀H:Hp,ax h1 H->H.get h1.nx=.one 34 s.us[j].d.row->W T B3 uk H [] (bY 1 (bF (W T (CC.af r3_19)) (bF (W T L) K))):=by
     intro uk loc d3 d5 d6 d7 d8 d9 amA H gH hd;have nH:=Hp.lt hd rfl;have Wc:=(gH.get _ nu id).trans hu;simp only[aC.row] at hd;have gB:=g1.trans gH;have ps:=hp.g0 gB;subst hB3;unfold Qw;have b8:∀(Fj:Fr)(H3:Hp),ax hB H3->J 3 Fj=.ptr p 0->J 5 Fj=.slice q 0 9 s.us.length s.us.length false->J 6 Fj=.i j->J 147 Fj=.bool false->W T (.cond (.t 147) (.seq (.af r3_18) .ret) .skip) Fj H3 [] (bY 1 (bF (W T (CC.af r3_19)) (bF (W T L) K))):=by intro Fj H3 g3 b3 b5 b6 b147;refine bK b3 b5 b6 b147 ?_;subst hL;refine ih (j+1) _ _ zo g3 ?_ ?_ ?_;exact au b3;exact au b5;exact au b6
     (try unfold cI cQ at b8);(try unfold cI cQ);generalize hC:CC.cond (.t 147) (.seq (.af r3_18) .ret) .skip=C at b8⊢
     rw[Gi,lI,mu];generalize ku r3_17 uk=fm;generalize Px:bF (W T C) (bY 1 (bF (W T (CC.af r3_19)) (bF (W T L) K)))=KK;have An:=eq_true nm;simp(maxSteps:=400000) (disch:=first|exact bh|fail) [-Ka,-Cp,d3,d5,d6,d7,d8,d9,hd,Wc,An];refine adz (b:=false) (a:=[.ptr p 0,.agg s.us[j].d.row]) aa (au aC.row.eq_1) ?_;refine alY HT ps nd λh' a b c e kv g2=>?_;have lN:=(g2.get _ nH id).trans hd;have pM:=(g2.get _ (Hp.lt Wc rfl) id).trans Wc;cases loc
     by_cases k1:s.us[j].d.kind=1
     have Ik:=im k1;simp(maxSteps:=400000) (disch:=first|exact bh|fail) [-Ka,-Cp,d3,d5,d6,d7,d8,d9,lN,pM,An,k1,Ik];refine nA lN pM k1 Ik d3 d5 d6 d7 d8 d9 ?_;subst Px;simp(maxSteps:=400000) (disch:=first|exact bh|fail);exact b8 _ _ (gB.trans g2) qag qah qai qad;simp(maxSteps:=400000) (disch:=first|exact bh|fail) [-Ka,-Cp,d3,d5,d6,d7,d8,d9,lN,pM,An,k1,kd.1,kd.2];refine wM lN pM k1 kd.1 kd.2 d3 d5 d6 d7 d8 d9 ?_;subst Px;simp(maxSteps:=400000) (disch:=first|exact bh|fail);exact b8 _ _ (gB.trans g2) qag qah qai qad;have hl:=amA rfl;have fV:=eq_true hl.1;simp(maxSteps:=400000) (disch:=first|exact bh|fail) [-Ka,-Cp,d3,d5,d6,d7,d8,d9,lN,pM,An,fV];refine adz (b:=false) (a:=[.agg s.us[j].d.row,.agg s.us[j].row]) aa (bV aC.row.eq_1 dx.row.eq_1) ?_;refine alZ HT λh3 g3=>?_;have Py:=(g3.get _ (Hp.lt lN rfl) id).trans lN;have hu3:=(g3.get _ (Hp.lt pM rfl) id).trans pM;have ea:Pb s.us[j].d s.us[j]=true:=by unfold Pb;simp[hl.1,hl.2]
     by_cases k1:s.us[j].d.kind=1
     have Ik:=im k1;refine pU Py hu3 k1 Ik fV d3 d5 d6 d7 d8 d9 ea ?_;subst Px;simp(maxSteps:=400000) (disch:=first|exact bh|fail);exact b8 _ _ ((gB.trans g2).trans g3) qag qah qai qad;refine kC Py hu3 k1 kd.1 kd.2 fV d3 d5 d6 d7 d8 d9 ea ?_;subst Px;simp(maxSteps:=400000) (disch:=first|exact bh|fail);exact b8 _ _ ((gB.trans g2).trans g3) qag qah qai qad
    have hH:ax h1 ((h1.push (AO.one 34 [AV.i 0,S [],AV.i 0,AV.i 0,S []])).set h1.nx (AO.one 34 s.us[j].d.row)):=fZ
    by_cases c7:s.us[j].d.kind=7
    have lc:=lc (.inl c7);refine iR e3 e5 e6 e7 hu c c7 ?_;rw[<-c7];refine tl _ true ?_ ?_ ?_ ?_ ?_ ?_ (λ_=>lc) _ hH ?_;exact au e3;exact au e5;exact au e6;exact au e7;exact aa;exact aa;exact au aC.row.eq_1
    by_cases c6:s.us[j].d.kind=6
    have lc:=lc (.inr (.inl c6));refine fY e3 e5 e6 e7 hu c c7 c6 ?_;rw[<-c6];refine tl _ true ?_ ?_ ?_ ?_ ?_ ?_ (λ_=>lc) _ hH ?_;exact au e3;exact au e5;exact au e6;exact au e7;exact aa;exact aa;exact au aC.row.eq_1
    by_cases c8:s.us[j].d.kind=8
    have lc:=lc (.inr (.inr c8));refine mz e3 e5 e6 e7 hu c c7 c6 c8 ?_;rw[<-c8];refine tl _ true ?_ ?_ ?_ ?_ ?_ ?_ (λ_=>lc) _ hH ?_;exact au e3;exact au e5;exact au e6;exact au e7;exact aa;exact aa;exact au aC.row.eq_1;refine mz e3 e5 e6 e7 hu c c7 c6 c8 ?_;refine tl _ false ?_ ?_ ?_ ?_ ?_ ?_ nofun _ hH ?_;exact au e3;exact au e5;exact au e6;exact au e7;exact aa;exact aa;exact au aC.row.eq_1
   have e0:=ou.no (by simpa using c);simp(disch:=first|exact bh|fail) [e3,e5,e6,e7,hu,c,e0,qG,amy];subst hL;refine ih (j+1) _ _ zo ?_ ?_ ?_ ?_;exact g1;exact au e3;exact au e5;exact au e6
  generalize ju:CC.aR r3_10=Dr;refine fY f3 f5 f6 ao aY jT jH dx.row.eq_1 ?_;subst ju;rw[lI,mu];generalize ku _ _=fm;have Pz:ax hB ((h.push (AO.one 36 [AV.i 0,AV.i 0,S [],AV.bool false,AV.i 0,S [],AV.i 0,AV.i 0,S []])).set h.nx (AO.one 36 s.us[j].row)):=fZ;simp only[dx.row] at Pz;rcases auP j with rfl|jp;refine iR f3 f5 f6 ao aY jT jH ?_;refine rest _ _ Pz ?_ ?_ ?_ ?_ ?_;exact zA;exact zA;exact zA;exact au dx.row.eq_1;exact aa;have dj:(0:Int)<j:=zo;have ki:q≠h.nx:=zo;have nK:=ht (j- 1) zo;have ej:((j:Int)- 1).toNat=j- 1:=zo;have rR:=ho.Po (j- 1) zo;simp only[Nat.sub_add_cancel jp] at rR;rcases rR with c|⟨c,c2⟩;have n1:¬s.us[j].doc<s.us[j- 1].doc:=zo;have n2:¬s.us[j].doc=s.us[j- 1].doc:=zo;simp(disch:=omega) [-ya,f3,f5,f6,ao,aY,jT,jH,dj,jp,ki,nK,ej,dx.row,n1,n2];refine AB (b:=true) (.i s.us[j].doc) aa (zQ f3 f5 f6 ao aY jT jH dj jp ki nK ej (atQ (atQ dx.row.eq_1 n1) n2)) λpd=>?_;simp(disch:=omega) [-ya,f3,f5,f6,ao,aY,jT,jH,dj,jp,ki,nK,ej,dx.row,n1,n2];refine AB (b:=true) (.i s.us[j- 1].doc) aa (zQ f3 f5 f6 ao aY jT jH dj jp ki nK ej (atQ (atQ dx.row.eq_1 n1) n2)) λpd=>?_;simp(disch:=omega) [-ya,f3,f5,f6,ao,aY,jT,jH,dj,jp,ki,nK,ej,dx.row,n1,n2];refine AB (b:=false) (.i s.us[j].doc) aa (zQ f3 f5 f6 ao aY jT jH dj jp ki nK ej (atQ (atQ dx.row.eq_1 n1) n2)) λpd=>?_;simp(disch:=omega) [-ya,f3,f5,f6,ao,aY,jT,jH,dj,jp,ki,nK,ej,dx.row,n1,n2];refine AB (b:=false) (.i s.us[j- 1].doc) aa (zQ f3 f5 f6 ao aY jT jH dj jp ki nK ej (atQ (atQ dx.row.eq_1 n1) n2)) λpd=>?_;refine kC f3 f5 f6 ao aY jT jH dj jp ki nK ej (atQ (atQ dx.row.eq_1 n1) n2) ?_;refine rest _ _ Pz ?_ ?_ ?_ ?_ ?_;exact zA;exact zA;exact zA;exact au dx.row.eq_1;exact aa;have n1:¬s.us[j].doc<s.us[j- 1].doc:=zo;have n2':=eq_true c.symm;have n3:¬s.us[j].at_<=s.us[j- 1].at_:=zo;simp(disch:=omega) [-ya,n3,f3,f5,f6,ao,aY,jT,jH,dj,jp,ki,nK,ej,dx.row,n1,n2'];refine AB (b:=true) (.i s.us[j].doc) aa (zQ n3 f3 f5 f6 ao aY jT jH dj jp ki nK (atQ (atQ (atQ ej dx.row.eq_1) n1) n2')) λpd=>?_;simp(disch:=omega) [-ya,n3,f3,f5,f6,ao,aY,jT,jH,dj,jp,ki,nK,ej,dx.row,n1,n2'];refine AB (b:=true) (.i s.us[j- 1].doc) aa (zQ n3 f3 f5 f6 ao aY jT jH dj jp ki nK (atQ (atQ (atQ ej dx.row.eq_1) n1) n2')) λpd=>?_;simp(disch:=omega) [-ya,n3,f3,f5,f6,ao,aY,jT,jH,dj,jp,ki,nK,ej,dx.row,n1,n2'];refine AB (b:=false) (.i s.us[j].doc) aa (zQ n3 f3 f5 f6 ao aY jT jH dj jp ki nK (atQ (atQ (atQ ej dx.row.eq_1) n1) n2')) λpd=>?_;simp(disch:=omega) [-ya,n3,f3,f5,f6,ao,aY,jT,jH,dj,jp,ki,nK,ej,dx.row,n1,n2'];refine AB (b:=false) (.i s.us[j- 1].doc) aa (zQ n3 f3 f5 f6 ao aY jT jH dj jp ki nK (atQ (atQ (atQ ej dx.row.eq_1) n1) n2')) λpd=>?_;simp(disch:=omega) [-ya,n3,f3,f5,f6,ao,aY,jT,jH,dj,jp,ki,nK,ej,dx.row,n1,n2'];refine AB (b:=true) (.i s.us[j].at_) aa (zQ n3 f3 f5 f6 ao aY jT jH dj jp ki nK (atQ (atQ (atQ ej dx.row.eq_1) n1) n2')) λpd=>?_;simp(disch:=omega) [-ya,n3,f3,f5,f6,ao,aY,jT,jH,dj,jp,ki,nK,ej,dx.row,n1,n2'];refine AB (b:=true) (.i s.us[j- 1].at_) aa (zQ n3 f3 f5 f6 ao aY jT jH dj jp ki nK (atQ (atQ (atQ ej dx.row.eq_1) n1) n2')) λpd=>?_;refine kC n3 f3 f5 f6 ao aY jT jH dj jp ki nK (atQ (atQ (atQ ej dx.row.eq_1) n1) n2') ?_;refine rest _ _ Pz ?_ ?_ ?_ ?_ ?_;exact zA;exact zA;exact zA;exact au dx.row.eq_1;exact aa
end
section
variable{h:Hp}{k:aK->Prop}{v:AV}{docs:List Doc}
theorem We:∀{ds:List Doc}{d:Doc},d∈ds->d.text.length+d.uri.length<=pC ds
 |e::ds,d,h=>by
  have:pC (e::ds)=e.text.length+e.uri.length+pC ds:=by simp only[pC,aul,axF]
  rcases atZ.1 h with q|q;rw[q];omega;have:=We q;omega
theorem adA(HT:aA T)(hd:vV h v docs)(hl:docs.length<1073741824)(hb:pC docs<1073741824)(hg:yQ T h)(hA:Told Pe Ph)(hB:Told Pf Pj)(hk:∀h',Fm h h'->k (.ret (.bool true) h')):aE T (W T) ⟨3⟩ [v] h k:=by
 rw[aJ HT.t3];generalize rq:Qy=T3;refine ag ?_;refine al1 HT hd hl hb ?_
 by_cases c:docs.length<=6/\pC docs<=9000
 obtain⟨c1,c2⟩:=c;have sm:∀d∈docs,d.text.length<=9000:=λd m=>by have:=We m;omega
 refine aS c1 c2 ?_;subst rq;unfold Qy;generalize qE:Xm=T4;refine ag ?_;refine acJ HT hd hl (λd m=>by have:=We m;omega) (λd m=>adn _ (by have:=sm d m;omega)) hg.g (λrs aq x ok=>(Wb c1 sm x ok).1) (λh2 g2 Ie=>?_) (λrs aq f h2 rd hF he g2=>?_) λrs aq s h2 p aG tb c0 c1' c2' c8 rd hP he g2 ps=>?_;refine ag ?_;refine Pk HT ((hg.fm g2).g0 fZ) hA hB λh3 g3=>?_;refine ag ?_;exact hk _ ((g2.trans (.of fZ)).trans g3);refine aS cN.row.eq_1 he ?_;refine Pk HT ((hg.fm g2).g0 fZ) hA hB λh3 g3=>?_;refine ag ?_;exact hk _ ((g2.trans (.of fZ)).trans g3);refine ag ?_;subst qE;have ow:Pv s/\s.us.length<1073741824:=by obtain⟨ok,f2,_,_,f3,_,e⟩:=hP;obtain⟨po,ow⟩:=Wb c1 sm rd ok;rw[e];exact⟨ow f3,po.us f3⟩
 generalize hH:(Hp.set (Hp.push _ _) _ _:Hp)=H;have gH:ax h2 H:=by rw[<-hH];exact fZ
 clear hH;have psH:=ps.g0 gH;refine ag ?_;refine acK HT psH ow.2 λh3 v3 g3 n3=>?_;refine ag ?_;refine amz HT (psH.g0 g3) n3 ow.2 ow.1 (λf' h' g'=>?_) s.us.length 0 h3 _ zo (ah.refl _) aa aa aa;refine ag ?_;refine Pk HT ((((hg.fm g2).g0 gH).g0 g3).g0 g') hA hB λh4 g4=>?_;refine ag ?_;exact hk _ ((((g2.trans (.of gH)).trans (.of g3)).trans (.of g')).trans g4);refine aB c ?_;refine Pk HT hg hA hB λh' g=>?_;refine ag ?_;exact hk _ g
end
section
variable{T:aM->Option CF}{h:Hp}
theorem amB(H2:uU T)(L:xo h)(h5:ry h 5)(h6:ry h 6)(g3:Bi (h.get 3))(g4:Bj (h.get 4))(g1:lO (h.get 1)):Ax T h:=by
 refine⟨L.n,λh' l e=>?_⟩;have n:=L.n;have m5:ry h' 5:=⟨by omega,by rw[e 5 zo];exact h5.2⟩;have m6:ry h' 6:=⟨by omega,by rw[e 6 zo];exact h6.2⟩;have m3:Bi (h'.get 3):=by rw[e 3 zo];exact g3
 have m4:Bj (h'.get 4):=by rw[e 4 zo];exact g4
 exact⟨aiT H2.h m6,ak2 H2 (L.kp e zo) m5 m6,aiB H2.h m3 m4,aiK H2.h m3 m4,by rw[e 1 zo];exact g1⟩
end
section
open Go (IntKind)
open Go.Pinned (utf8FirstZ pow10Rows cheatRows)
def Wg(i:Nat):List AV:=[.u8 (if i=9\/i=10\/i=11\/i=12\/i=13\/i=32 then 1 else 0)]
def adB(i:Nat):List AV:=[.u8 (utf8FirstZ.getD i 0)]
def adC:List (Nat×Nat):=[(128,191),(160,191),(128,159),(144,191),(128,143)]
def adD(i:Nat):List AV:=[.u8 (adC.getD i (0,0)).1,.u8 (adC.getD i (0,0)).2]
def adE(i:Nat):List AV:=[.i (pw i)]
def Wh(i:Nat):List AV:=[.int .u64 (pow10Rows.getD i (0,0)).1,.int .u64 (pow10Rows.getD i (0,0)).2]
def Wi(i:Nat):List AV:=[.i (cheatRows.getD i (0,[])).1,S (cheatRows.getD i (0,[])).2]
def atr:List Nat:=[4607182418800017408,4621819117588971520,4636737291354636288,4652007308841189376,4666723172467343360]
theorem amC:Bi (.cB 1 256 adB):=by
 refine⟨_,rfl,λi hi=>⟨_,rfl,?_⟩⟩;have:∀i,i<256->utf8FirstZ.getD i 0<256/\(utf8FirstZ.getD i 0<240->utf8FirstZ.getD i 0=2\/utf8FirstZ.getD i 0=3\/utf8FirstZ.getD i 0=4\/utf8FirstZ.getD i 0=19\/utf8FirstZ.getD i 0=35\/utf8FirstZ.getD i 0=52\/utf8FirstZ.getD i 0=68):=by decide+kernel
 exact this i hi
theorem amD:Bj (.cB 2 16 adD):=⟨_,rfl,λ_ _=>⟨_,_,rfl⟩⟩
theorem amE:lO (.cB 1 256 Wg):=by
 refine⟨_,rfl,λc=>?_⟩;have:∀i,i<256->(if i=9\/i=10\/i=11\/i=12\/i=13\/i=32 then 1 else 0)=(if uf (UInt8.ofNat i)=true then 1 else 0):=by decide+kernel
 have h:=this c.toNat c.toNat_lt;rw[UInt8.ofNat_toNat] at h;simp only[Wg,h]
def adF(s:Nat):Bool:=let C:=(cheatRows.getD s (0,[])).2
 decide (∀i,i<C.length->48<=Cn C i/\Cn C i<=57)&&decide (0<C.length/\C.length<100)&&decide (V (Cn C) C.length=5^s)&&decide (48<Cn C (C.length- 1))&&decide (((cheatRows.getD s (0,[])).1 :Int)=(s:Int)+1- C.length)&&decide (Cn C 0≠48)
theorem amF:∀s,s<61->s=0\/adF s=true:=by decide+kernel
theorem adG{cnt k:Nat}{t:Nat->List AV}{x y:AV}(hk:k<cnt)(ht:t k=[x,y]):cellsOf (.cB 2 cnt t) (k*2) 1=some [x]:=by have BE:k+1<=cnt:=hk;simp[cellsOf,dY,BE,ht,gK,kH,cond]
theorem adH{cnt k:Nat}{t:Nat->List AV}{x y:AV}(hk:k<cnt)(ht:t k=[x,y]):cellsOf (.cB 2 cnt t) (k*2+1) 1=some [y]:=by have BE:k+1<=cnt:=hk;have e1:(k*2+1)% 2=1:=zo;have e2:(k*2+1)/2=k:=zo;simp[cellsOf,dY,e1,e2,BE,ht,gK,kH,cond]
end
def Wj(s:List UInt8):Option (Int×Nat×Int):=
 if 0<gu s then
  if s.take (gu s)∈Cr then some (2,gu s,0) else if 40<gu s then none else if El (s.take (gu s))=false then none else some (1,gu s,0)
 else if 0<dU s then if zS s=true then none else if dU s=1 then some (3,1,0) else none
 else if s.head?=some 34 then none
 else if eP s [59]=true then some (7,1,0) else if 0<o6 s then some (6,o6 s,0) else none
theorem amG{s:List UInt8}{r}(h:Wj s=some r)(o):fA o s=r/\r.2.2 =0:=by
 unfold Wj at h;unfold fA
 repeat' split at h
 all_goals first|(cases h;done)|skip
 all_goals(cases h;simp_all)
def Fk(s:List UInt8):Nat->Nat->Tk->List Tk->Option (List Tk)
 |0,_,_,_=>none
 |g+1,a,cM,bf=>
  if a<s.length then
   if s.getD a 0∈[32,9,13] then Fk s g (a+1) cM bf
   else if s.getD a 0=10 then Fk s g (a+1) t0 (bf++vI cM)
   else if eP (s.drop a) [47,47]=true then none
   else match Wj (s.drop a) with
    |none=>none
    |some r=>Fk s g (a+r.2.1) ⟨r.1,(s.drop a).take r.2.1,a,a+r.2.1⟩ (bf++[⟨r.1,(s.drop a).take r.2.1,a,a+r.2.1⟩])
  else some (bf++vI cM)
theorem PA(s:List UInt8):∀(g a:Nat)(cM:Tk)(bf l:List Tk),Fk s g a cM bf=some l->∀o,o9 s g o a cM bf=.ok l 0
 |0,_,_,_,_,h,_=>by cases h
 |g+1,a,cM,bf,l,h,o=>by unfold Fk at h;unfold o9;split at h<;>rename_i c;rw[atV c];split at h<;>rename_i c1;rw[atV c1];exact PA s g _ _ _ _ h o;rw[atS c1];split at h<;>rename_i c2;rw[atV c2];exact PA s g _ _ _ _ h o;rw[atS c2];split at h<;>rename_i c3;cases h;rw[atS c3];split at h;cases h;rename_i r e;obtain⟨e1,e2⟩:=amG e (o 0);rw[e1,atS (by rw[e2];simp)];exact PA s g _ _ _ _ h _;rw[atS c];cases h;rfl
def PB(l:List Tk):Bool:=l.all λt=> !bD t [[105,109,112,111,114,116]]
theorem adI{l:List Tk}(h:PB l=true)(n:Nat):¬bD (tk l n) [[105,109,112,111,114,116]]=true:=by rcases avh n l.length with c|c;have:=auO.1 h _ (adh c);simpa using this;rw[adi c];decide
theorem amH{l:List Tk}(h:PB l=true)(f:Nat)(o o':Nat->List UInt8×Bool)(n:Nat)(bf:List Tree):vH l f o n bf=vH l f o' n bf:=by
 cases f with
 |zero=>rfl
 |succ f=>unfold vH;rw[atS (adI h n),atS (adI h n)]
theorem amI{l:List Tk}(h:PB l=true)(sz:Nat)(o o':Nat->List UInt8×Bool):sj l sz o=sj l sz o':=by unfold sj Ad;simp only[amH h _ o o']
def PD:Nat->List UInt8×Bool:=λ_=>([],false)
def Il(s:List UInt8):List Tk:=((Fk s (s.length+1) 0 t0 []).getD [])++[fD s]
def Im(s:List UInt8):Tree:=pB (sj (Il s) s.length PD)
def Io(s:List UInt8):Bool:=decide (s.length<=9000)&&(Fk s (s.length+1) 0 t0 []).isSome&&PB (Il s)&&(match sj (Il s) s.length PD with|.ok _ _=>true|_=>false)&& !decide (yu (Im s) 64 (s.length+1)<=s.length)&&s.all λc=>decide (c.toNat<128)
theorem adJ{s:List UInt8}(h:Io s=true):s.length<=9000/\∀r,O4 s r->∃n,r=.ok (Im s) n:=by
 simp only[Io,atW,auU,avT,awn,auO] at h;obtain⟨⟨⟨⟨⟨h1,h2⟩,h3⟩,h4⟩,h5⟩,h6⟩:=h;refine⟨h1,λr ⟨b,o,oi,hb,e⟩=>?_⟩;have hb:=hb h6;obtain⟨l,el⟩:=awk.1 h2;have e1:=PA s _ _ _ _ _ el o;have eB:Il s=l++[fD s]:=by unfold Il;rw[el];rfl
 subst e;unfold Al tf;rw[atS zo,atS zo,e1];show∃n,(sj (l++[fD s]) s.length oi).bind _=_;rw[<-eB,amI h3 _ oi PD];unfold Im at h5⊢;revert h4 h5;generalize sj (Il s) s.length PD=q;intro h5 h4;cases q with
 |ok t n=>exact⟨n,atS h5⟩
 |er=>cases h4
 |dN=>cases h4
theorem amJ:Io (nG Pe).text=true:=by decide+kernel
theorem amK:Io (nG Pf).text=true:=by decide+kernel
end Yv
namespace Yv
section
variable{body:List UInt8}{L:List Int}
def Fl:List (List UInt8):=[[112]]
theorem adK:rZ (nG body).uri=some [112]:=(by decide+kernel:rZ [102,105,108,101,58,47,47,47,112,47,97,46,103,111]=some [112])
theorem adL{rs:List (PR Tree)}{aq:List (List UInt8)}(hg:Io (nG body).text=true)(x:Ay [nG body] rs aq):∃n,rs=[.ok (Im (nG body).text) n]/\aq=Fl:=by
 obtain⟨h1,h2,h3,h4⟩:=x
 match rs,aq,h1,h2,h3,h4 with
 |[r],[d],_,_,h3,h4=>
  obtain⟨n,e⟩:=(adJ hg).2 r (h3 0 zm zm);have d:=h4 0 zm;rw[show([nG body][0]'zm)=nG body from rfl,adK] at d;exact⟨n,by rw[e],by cases d;rfl⟩
theorem amL{t f:Tree}(hk:t.kids=[f])(h5:f.kind=5)(h0:(f.kids.headD zT).kind=0):Ih [t] Fl=(t.name=[112])/\Lv [t] Fl:=by
 have e:jG Fl [t] 0 l9=⟨vQ (λ_=>[]) [112] [⟨3,f.name,0,f.at,[112]⟩],[],[⟨3,f.name,0,f.at,[112]⟩],false⟩:=by unfold jG jG;rw[hk];unfold tB tB kX;rw[atS zo,atS zo,atV h0];rfl
 refine⟨?_,?_⟩;unfold Ih;apply propext;constructor;intro h;exact h.1 0 zm;intro h;refine⟨λj hj=>?_,λt' ht t2 h2=>?_⟩;obtain rfl:j=0:=by simp at hj;omega
 exact h;simp at ht;subst ht;rw[hk] at h2;simp at h2;subst h2;omega;unfold Lv;rw[e];refine⟨rfl,rfl,λq=>?_⟩;unfold vQ;simp only;split<;>simp
def Wk(t:Tree):Bool:=decide (t.name=[112])&&(match t.kids with|[f]=>decide (f.kind=5)&&decide ((f.kids.headD zT).kind=0)|_=>false)
theorem amM{t:Tree}(h:Wk t=true):Ih [t] Fl/\Lv [t] Fl:=by unfold Wk at h;simp only[atW,auU] at h;obtain⟨h1,h2⟩:=h;split at h2;simp only[atW,auU] at h2;have:=amL (t:=t) qaH h2.1 h2.2;exact⟨by rw[this.1];exact h1,this.2⟩;cases h2
theorem amN{t:Tree}{n}:yP [PR.ok t n] 0 vW=vW:=rfl
def Da(body:List UInt8):Sc:=Lw [Im (nG body).text] Fl vW
theorem adM(hg:Io (nG body).text=true)(h1:Wk (Im (nG body).text)=true)(hl:(Da body).us.length<1000000)
 (hf:(Da body).bN.e≠0->L=[(Da body).bN.e,w64 ((Da body).bN.at_- 10)]) (hp:(Da body).bN.e=0->L=vX (Da body).us):Told body L:=by
 have bz:=(adJ hg).1;have sm:∀d∈[nG body],d.text.length<=9000:=λd hd=>by simp at hd;subst hd;exact bz
 obtain⟨o1,o2⟩:=amM h1;refine⟨adn _ zo,?_,by rw[adK];simp,λrs aq x ok=>(Wb zm sm x ok).1,λrs aq f x hF he=>?_,λrs aq s x hP he=>?_⟩;simp only[nG,auk,atX,aup] at bz;omega;obtain⟨n,rfl,rfl⟩:=adL hg x;rcases hF with e|⟨_,f2,e2,c⟩;rw[amN] at e;subst e;exact absurd rfl he;have e2:=e2 o1;subst e2;rcases c with e|⟨_,f3,e3,e⟩;subst e;exact absurd rfl he;have e3:=e3 o2;subst e3;have e:f=(Da body).bN:=e;subst e;exact hf he;obtain⟨n,rfl,rfl⟩:=adL hg x;obtain⟨_,f2,e2,_,f3,e3,e⟩:=hP;have e2:=e2 o1;subst e2;have e3:=e3 o2;subst e3;have e:s=Da body:=e;subst e;exact⟨hl,hp he⟩
end
theorem adN:Told Pe Ph:=adM amJ qal qal (λh=>absurd qal h) λ_=>by decide+kernel
theorem adO:Told Pf Pj:=adM amK qal qal (λ_=>by decide+kernel) λh=>absurd h qal
end Yv
namespace Yv
variable{T:aM->Option CF}
section
open Go (IntKind)
open Go.Pinned (utf8FirstZ pow10Rows cheatRows)
def bsZ:List Nat:=[4607182418800017408,4621819117588971520,4636737291354636288,4652007308841189376,4666723172467343360,4681608360884174848,4696837146684686336,4711630319722168320,4726483295884279808,4741671816366391296,4756540486875873280,4771362005757984768,4786511204640096256,4801453603149578240,4816244402031689728,4831355200913801216,4846369599423283200,4861130398305394688,4876203697187506176,4891288408196988160,4906019910204099648,4921056587992461136,4936209963552724370]
def adP(i:Nat):List AV:=[.bN .f64 (bsZ.getD i 0)]
def amO(_:Nat):List AV:=[.int .u64 52,.int .u64 11,.i (-1023)]
def xB(t:Nat×Nat)(o:AO)(i:Nat):AO:=
 match i with
 |1=>.cB 1 256 Wg
 |3=>.cB 1 256 adB
 |4=>.cB 2 16 adD
 |5=>.cB 1 1 λ_=>[.iface t.1 .any]
 |6=>.cB 1 1 λ_=>[.iface t.2 .any]
 |8=>.cB 1 1 λ_=>[.bool true]
 |9=>.cB 3 1 amO
 |11=>.cB 1 1 λ_=>[.slice 19 0 1 9 9 true]
 |12=>.cB 1 1 λ_=>[.slice 21 0 1 23 23 true]
 |13=>.cB 2 696 Wh
 |15=>.cB 1 1 λ_=>[.slice 20 0 2 61 61 true]
 |19=>.cB 1 9 adE
 |20=>.cB 2 61 Wi
 |21=>.cB 1 23 adP
 |22=>o
 |n=>if n<22 then .eD else .uN
def nL(t:Nat×Nat)(o:AO):Hp:=⟨xB t o,23,[],λi hi=>by unfold xB;split<;>first|omega|(rw [atS zo])⟩
theorem adQ(t:Nat×Nat)(o:AO)(i:Nat):(nL t o).get i=xB t o i:=rfl
theorem amP:∀i,i<23->Bn (bsZ.getD i 0)=true:=by decide+kernel
theorem amQ{t:Nat×Nat}{o:AO}:xo (nL t o) where
 n:=by show 22<=23;decide
 ct:=⟨20,61,true,λs=>(cheatRows.getD s (0,[])).1,λs=>(cheatRows.getD s (0,[])).2,rfl,by decide,λs h1 h2=>by refine⟨adG (t:=Wi) zo rfl,adH (t:=Wi) zo rfl,?_⟩;have h:=(amF s zo).resolve_left zo;simp only[adF,atW,auU] at h;obtain⟨⟨⟨⟨⟨a1,a2⟩,a3⟩,a4⟩,a5⟩,a6⟩:=h;exact⟨a1,a2,a3,a4,a5,a6⟩⟩
 pt:=⟨19,9,true,rfl,by decide,λi hi=>sY (t:=adE) hi⟩
 ft:=⟨rfl,rfl,rfl⟩
 p10:=λi hi=>⟨_,_,adG (t:=Wh) hi rfl,adH (t:=Wh) hi rfl⟩
 pf:=⟨21,23,true,rfl,by decide,λi hi=>⟨_,sY (t:=adP) hi,amP i hi⟩⟩
 op:=rfl
theorem LD{t:Nat×Nat}{o:AO}(h34:¬rF o)(h36:¬uw o){i:Nat}(hi:i<23):¬rF ((nL t o).get i)/\¬uw ((nL t o).get i):=by
 rw[adQ];refine⟨?_,?_⟩;intro x;unfold xB at x;split at x<;>first|exact h34 x|(obtain⟨r,f,e⟩:=x;first|(cases e;done)|(split at e<;>cases e))
 intro x;unfold xB at x;split at x<;>first|exact h36 x|(obtain⟨r,f,e⟩:=x;first|(cases e;done)|(split at e<;>cases e))
theorem adR(H2:uU T){t:Nat×Nat}{o:AO}(h34:¬rF o)(h36:¬uw o):yQ T (nL t o) where
 g:=amB H2 amQ ⟨by show 5<23;decide,_,_,rfl⟩ ⟨by show 6<23;decide,_,_,rfl⟩ amC amD amE
 n:=λi hi=>LD h34 h36 zo
theorem amR(H2:uU T){t:Nat×Nat}{docs:List Doc}{r cap:Nat}{ex:Bool}{tt:Nat->List AV}{k:aK->Prop}(hr:docs.length<=r)(ht:∀j,(hj:j<docs.length)->tt j=docs[j].row) (hl:docs.length<1073741824) (hb:pC docs<1073741824)
 (hk:∀h',(∀i,i<23->h'.get i=(nL t (.cB 3 r tt)).get i)->k (.ret (.bool true) h')):aE T (W T) ⟨3⟩ [.slice 22 0 3 docs.length cap ex] (nL t (.cB 3 r tt)) k:=
 adA H2.h (.inr ⟨22,cap,ex,r,tt,rfl,.inr rfl,hr,ht⟩) hl hb (adR H2 qab qab) adN adO λh' g=>hk h' λi hi=>g.get i hi (LD qab qab hi).1 (LD qab qab hi).2
theorem amS(H2:uU T){t:Nat×Nat}{k:aK->Prop}(hk:∀h',(∀i,i<23->h'.get i=(nL t .eD).get i)->k (.ret (.bool true) h')):aE T (W T) ⟨3⟩ [.bx] (nL t .eD) k:=
 adA H2.h (.inl ⟨rfl,rfl⟩) zd zd (adR H2 qab qab) adN adO λh' g=>hk h' λi hi=>g.get i hi (LD qab qab hi).1 (LD qab qab hi).2
end
section
open Go
def rH(φ:aH):Md->FrameMode->Prop
 |.ret,u=>u=.returning
 |.bn v,u=>∃pv,u=.panicking [{v:=pv,recovered:=false}]/\aj φ v pv
 |.zp v,u=>∃pv,u=.panicking [{v:=pv,recovered:=true}]/\aj φ v pv
theorem rH.mono{φ ψ:aH}(le:φ.le ψ){m:Md}{u:FrameMode}(hm:rH φ m u):rH ψ m u:=by
 cases m with
 |ret=>exact hm
 |bn v=>obtain⟨pv,e,d⟩:=hm;exact⟨pv,e,nS le _ _ d⟩
 |zp v=>obtain⟨pv,e,d⟩:=hm;exact⟨pv,e,nS le _ _ d⟩
theorem rH.settle{φ:aH}{m:Md}{u:FrameMode}(hm:rH φ m u):rH φ (B7 m) (settle u):=by
 cases m with
 |ret=>have e:u=.returning:=hm;rw[e];rfl
 |bn v=>obtain⟨pv,e,d⟩:=hm;rw[e];exact⟨pv,rfl,d⟩
 |zp v=>obtain⟨pv,e,d⟩:=hm;rw[e];rfl
theorem rH.run{φ:aH}{m:Md}{u:FrameMode}(hm:rH φ m u):u≠.run:=by
 cases m with
 |ret=>have e:u=.returning:=hm;rw[e];simp
 |bn v=>obtain⟨pv,e,d⟩:=hm;rw[e];simp
 |zp v=>obtain⟨pv,e,d⟩:=hm;rw[e];simp
theorem rH.rec{φ:aH}{m:Md}{u:FrameMode}{c:Frame}{cs:List Frame}(h:rH φ m u):
 (∃v u',recoverD ({c with mode:=u}::cs)=some (v,{c with mode:=u'}::cs)/\aj φ m.recover.1 v/\rH φ m.recover.2 u')\/
 (recoverD ({c with mode:=u}::cs)=none/\aj φ m.recover.1 .nilIface/\rH φ m.recover.2 u):=by
 cases m with
 |ret=>
  right;have e:u=.returning:=h;exact⟨by simp only[recoverD,e],by simp only[Md.recover,aj],h⟩
 |bn x=>
  left;obtain⟨pv,e,d⟩:=h;exact⟨pv,.panicking [{v:=pv,recovered:=true}],by simp only[recoverD,e],d,pv,rfl,d⟩
 |zp x=>
  right;obtain⟨pv,e,d⟩:=h;exact⟨by simp only[recoverD,e],by simp only[Md.recover,aj],pv,e,d⟩
def Fo(P:Program):Prop:=∀o:Oper,eX P o.op=.recover->∀(ρ:Operand->Value)(w:World),∃w',(execOp ρ o).run P w=.ok .recover w'/\sL w w'
section
variable{P:Program}
theorem St.base{b:kB}{nt:Nat}{φ:aH}{f:Fr}{h:Hp}{ds:List Df}{a:Act}{w:World}(s:St P b nt φ f h ds a w):St P ⟨φ,h,w⟩ nt φ f h ds a w:=
 ⟨s.r,.refl φ h w,s.fr,s.df,s.sz,s.g⟩
def amT(P:Program)(b:kB)(nt:Nat)(nZ:Frame)(cs:List Frame)(k:aT->Md->Prop)(oo:aK):Exit->Act->List Frame->World->Prop:=
 λe a sV w=>∃out m u b1,Dn (k out m) oo/\sV={nZ with mode:=u}::cs/\rH b1.φ m u/\eS b.φ b.h b.w b1.φ b1.w b1.h/\Nv P b1 nt out e a w
theorem Fp(O:mS P)(RO:Fo P){b:kB}{nt:Nat}{nZ:Frame}{cs:List Frame}{aF:Array Oper}{kk:Md->Fr->Hp->Prop}{oo:aK}{Q:Exit->Act->List Frame->World->Prop}
 (hQ:∀φ f h a w m u,St P b nt φ f h [] a w->rH φ m u->Dn (kk m f h) oo->Q .normal a ({nZ with mode:=u}::cs) w):
 ∀(l:List CI)(k:Nat){φ:aH}{f:Fr}{h:Hp}{a:Act}{w:World}{m:Md}{u:FrameMode},(∀(j:Nat)(c:CI),l[j]? =some c->∃o,aF[k+j]? =some o/\kq P nt aF o=some c)->
  St P b nt φ f h [] a w->rH φ m u->Dn (uT kk l m f h) oo->
  wpOpsS P aF Q (List.range' k l.length) a ({nZ with mode:=u}::cs) w
 |[],k,φ,f,h,a,w,m,u,_,s,hm,hd=>hQ φ f h a w m u s hm hd
 |c::l,k,φ,f,h,a,w,m,u,hl,s,hm,hd=>by
  obtain⟨o,ho,hc⟩:=hl 0 c rfl;have fS:aF[k]? =some o:=ho;have fV:∀(j:Nat)(c:CI),l[j]? =some c->∃o,aF[k+1+j]? =some o/\kq P nt aF o=some c:=λj c' hj=>by obtain⟨o',h1,h2⟩:=hl (j+1) c' qax;exact⟨o',by rw[show k+1+j=k+(j+1) by omega];exact h1,h2⟩
  rw[atX,awD];simp only[wpOpsS,fS];simp only[uT] at hd;obtain⟨jZ,fK,Nx,_⟩:=wJ hc;cases hw:jO c.guard f with
  |none=>rw[hw] at hd;exact hd.bad.elim
  |some t=>
   rw[hw] at hd;have qz:=Zq s hc hw;cases t with
   |false=>
    rw[atS (by rw[qz];simp)];simp only at hd;rw[fK] at hd;exact Fp O RO hQ l (k+1) fV (s.Eb (.refl w) jZ DX) hm hd
   |true=>
    rw[atV qz];simp only at hd;split at hd;rename_i amU;obtain⟨w',cS,sm⟩:=RO o (by rw[<-Nx];exact amU) a.eval w;rw[cS];simp only;rw[fK] at hd;rcases hm.rec (c:=nZ) (cs:=cs) with⟨v,u',hr,qw,yg⟩|⟨hr,qw,yg⟩;rw[hr];exact Fp O RO hQ l (k+1) fV (s.Eb sm jZ qw) yg hd;rw[hr];exact Fp O RO hQ l (k+1) fV (s.Eb sm jZ qw) yg hd;have eT:=O φ h w f a o s.r s.g s.fr;rw[<-Nx] at eT;unfold Good at eT;generalize vl:(execOp a.eval o).run P w=jk at eT⊢;cases dJ:aQ c.op f h with
    |v x=>
     rw[dJ] at hd eT;obtain⟨n,v,w',rfl,hn,hx,sm⟩:=eT;simp only[MA] at hd;rw[fK] at hd;have hk:=Fp O RO hQ l (k+1) fV (s.Eb sm jZ hx) hm hd;rcases hn with rfl|⟨rfl,rfl⟩<;>exact hk
    |vh x h'=>
     rw[dJ] at hd eT;obtain⟨n,v,w',ψ,rfl,hn,r',eW,hx⟩:=eT;simp only[MA] at hd;rw[fK] at hd;have hk:=Fp O RO hQ l (k+1) fV (s.put r' eW jZ hx) (hm.mono eW.le) hd;rcases hn with rfl|⟨rfl,rfl⟩<;>exact hk
    |_=>rw[dJ] at hd;exact hd.bad.elim
theorem amV{rec:fJ}(rs:vo P rec)(O:mS P)(RO:Fo P){b:kB}{nt:Nat}{nZ:Frame}{cs:List Frame}{k:aT->Md->Prop}{oo:aK}(c:Code)
 {φ:aH} {f:Fr} {h:Hp} {a:Act} {w:World} {m:Md} {u:FrameMode} (s:St P b nt φ f h [] a w) (hm:rH φ m u) (hd:Dn (B6 rec (comp P nt c) m f h k) oo):
 c.wpS P (amT P b nt nZ cs k oo) a ({nZ with mode:=u}::cs) w:=by
 unfold B6 at hd;split at hd
 ·rename_i l x y vZ;cases c<;>simp only[comp,reduceCtorEq] at vZ
  case region=>(repeat' split at vZ)<;>cases vZ
  case cond=>split at vZ<;>cases vZ
  case seq c12 c3=>
   injection vZ with h12 h3;cases c12<;>simp only[comp,reduceCtorEq] at h12
   case region=>(repeat' split at h12)<;>cases h12
   case cond=>split at h12<;>cases h12
   case seq c1 c2=>
    injection h12 with h1 h2;cases c1<;>simp only[comp,reduceCtorEq] at h1
    case cond=>split at h1<;>cases h1
    case region id aF dr=>
     cases dr with
     |true=>split at h1<;>simp only[auo,reduceCtorEq] at h1<;>split at h1<;>cases h1
     |false=>
      split at h1;rename_i l' fV;simp only[at3,auM,CC.af.injEq] at h1;subst h1;obtain⟨e1,e2⟩:=Ny fV;refine wpS_seq (wpS_seq (wpS_region ?_));rw[avQ,<-e1];refine Fp O RO (b:=b) (nt:=nt) (oo:=oo) (kk:=λm f h=>rec x f h [] (bF (rec y) λo=>k o m)) ?_ l' 0 e2 s hm hd;intro AD f1 h1 a1 w1 m1 u1 s1 nW iu;rw[<-h2] at iu;refine wpS_of_wp (wp_mono (rs.wp nt c2 ⟨AD,h1,w1⟩ AD f1 h1 [] a1 w1 _ oo s1.base iu) ?_);rintro e a' w' ⟨out,lE,ho⟩;cases out with
      |jo f2 g2 mE=>
       obtain⟨rfl,m9,s2⟩:=ho;simp only[bF] at lE;rw[<-h3] at lE;refine wpS_of_wp (wp_mono (rs.wp nt c3 ⟨m9,g2,w'⟩ m9 f2 g2 mE a' w' _ oo s2.base lE) ?_);rintro e a'' SP ⟨out,amW,rI⟩;exact⟨out,m1,u1,⟨m9,g2,w'⟩,amW,rfl,nW.mono s2.st.le,s1.st.trans s2.st,rI⟩
      |exit B5 f2 g2 mE=>
       obtain⟨rfl,m9,s2⟩:=ho;exact⟨.exit B5 f2 g2 mE,m1,u1,⟨AD,h1,w1⟩,lE,rfl,nW,s1.st,rfl,m9,s2⟩
      |jW B5 f2 g2 mE=>
       obtain⟨rfl,m9,s2⟩:=ho;exact⟨.jW B5 f2 g2 mE,m1,u1,⟨AD,h1,w1⟩,lE,rfl,nW,s1.st,rfl,m9,s2⟩
      |ret f2 g2 mE=>
       obtain⟨rfl,m9,s2⟩:=ho;exact⟨.ret f2 g2 mE,m1,u1,⟨AD,h1,w1⟩,lE,rfl,nW,s1.st,rfl,m9,s2⟩
      |bn v f2 g2 mE=>
       obtain⟨pv,m9,rfl,hv,s2⟩:=ho;exact⟨.bn v f2 g2 mE,m1,u1,⟨AD,h1,w1⟩,lE,rfl,nW,s1.st,pv,m9,rfl,hv,s2⟩
      cases h1
 ·rename_i l y vZ;cases c<;>simp only[comp,reduceCtorEq] at vZ
  case region=>(repeat' split at vZ)<;>cases vZ
  case cond=>split at vZ<;>cases vZ
  case seq c1 c2=>
   injection vZ with h1 h2;cases c1<;>simp only[comp,reduceCtorEq] at h1
   case cond=>split at h1<;>cases h1
   case region id aF dr=>
    cases dr with
    |true=>split at h1<;>simp only[auo,reduceCtorEq] at h1<;>split at h1<;>cases h1
    |false=>
     split at h1;rename_i l' fV;simp only[at3,auM,CC.af.injEq] at h1;subst h1;obtain⟨e1,e2⟩:=Ny fV;refine wpS_seq (wpS_region ?_);rw[avQ,<-e1];refine Fp O RO (b:=b) (nt:=nt) (oo:=oo) (kk:=λm f h=>rec y f h [] λo=>k o m) ?_ l' 0 e2 s hm hd;intro AD f1 h1 a1 w1 m1 u1 s1 nW iu;rw[<-h2] at iu;refine wpS_of_wp (wp_mono (rs.wp nt c2 ⟨AD,h1,w1⟩ AD f1 h1 [] a1 w1 _ oo s1.base iu) ?_);rintro e a' w' ⟨out,lE,ho⟩;exact⟨out,m1,u1,⟨AD,h1,w1⟩,lE,rfl,nW,s1.st,ho⟩;cases h1
 refine wpS_of_wp (wp_mono (rs.wp nt c ⟨φ,h,w⟩ φ f h [] a w _ oo s.base hd) ?_);rintro e a' w' ⟨out,lE,ho⟩;exact⟨out,m,u,⟨φ,h,w⟩,lE,rfl,hm,s.st,ho⟩
theorem PE{gN:aM->Option CF}(T:Ed P gN){rec:fJ}(rs:vo P rec)(O:mS P)(RO:Fo P){b:kB}{fn:Func}{jk:List CR}(vl:iJ (B4 P fn.ntmps) fn.results.toList=some jk)
 {tmps:Array Value} {f:Fr} {kc:aK->Prop} {oo:aK}:∀(ds:List Df){es:List Deferred}{m:Md}{u:FrameMode}{φ:aH}{h:Hp}{w:World},R φ h w->eS b.φ b.h b.w φ w h->jq φ P->iq φ f tmps->
  Cm φ ds es->rH φ m u->Dn (pJ gN rec jk f kc ds m h) oo->LeavesInM (FW none) 0 P fn tmps (λe w'=>∃co,Dn (kc co) oo/\Nw b co e w') es u w
 |[],es,m,u,φ,h,w,r,st,g,hf,og,hm,hd=>by
  cases es with
  |cons=>exact og.elim
  |nil=>
   simp only[pJ] at hd;cases m with
   |ret=>
    have e:u=.returning:=hm;subst e;obtain⟨x,v,cS,hx,hk⟩:=Zw r hf vl hd;exact⟨v,cS,_,hk,φ,v,rfl,hx,r,st⟩
   |bn v=>
    obtain⟨pv,rfl,hv⟩:=hm;exact⟨_,hd,φ,pv,rfl,hv,r,st⟩
   |zp v=>exact hd.bad.elim
 |d::ds,es,m,u,φ,h,w,r,st,g,hf,og,hm,hd=>by
  cases es with
  |nil=>exact og.elim
  |cons e es=>
   obtain⟨Wl,amX⟩:=og;refine⟨hm.run,?_⟩;cases d with
   |fn dg das=>
   right;obtain⟨cap,args,sV,ht,ha,k8,oW⟩:=Wl;refine⟨λc=>(by cases c),?_⟩;simp only[pJ] at hd;cases Wm:gN dg with
   |none=>rw[Wm] at hd;exact hd.bad.elim
   |some c=>
    rw[Wm] at hd;simp only at hd;cases Fq:(Nat.beq c.num dg.n&&Ql c.jk) with
    |false=>rw[Fq] at hd;exact hd.bad.elim
    |true=>
     rw[Fq] at hd;simp only[atW] at Fq;obtain⟨c',jQ,Wn,amY⟩:=T dg c Wm (at7 Fq.1);obtain⟨PF,body,amZ,oY,CD,EJ,Ec⟩:=Zu jQ;have am0:c'.jk=[]:=by
      have:=Fq.2;rw[<-amY] at this;cases am1:c'.jk with
      |nil=>rfl
      |cons=>rw[am1] at this;cases this
     refine⟨.func dg.n,cap,dg.n,args++cap,ht,?_,λ_ _=>trivial,?_⟩;rw[ht,ha];exact Ec (args++cap) w;refine agI amZ oY λnZ cs am2=>?_;have wE:nZ={nZ with mode:=u}:=by subst am2;rfl
     rw[wE];have hvs:cz φ das (args++cap).toList:=by rw[axv,<-oW];exact k8
     have s:St P ⟨φ,h,w⟩ PF.ntmps φ (nQ das) h [] {tmps:=(args++cap)++Array.replicate (PF.ntmps- (args++cap).size) Go.undef,defers:=[]} w:=
      ⟨r,.refl φ h w,Zx hvs _,auW,by simp only[awa,axm];omega,g⟩
     rw[<-Wn,CD] at hd;have hw:=amV rs O RO (nZ:=nZ) (cs:=cs) body s hm hd;intro bb kk VI vk;obtain⟨e',a',cs2,w',hq,jA⟩:=hw bb kk VI vk;refine⟨e',a',cs2,w',?_,jA⟩;obtain⟨out,m',u',b1,lE,rfl,yg,lJ,ho⟩:=hq;have adS:∀(m9:aH)(f2:Fr)(h2:Hp),St P b1 PF.ntmps m9 f2 h2 [] a' w'->Dn (pJ gN rec jk f kc ds (B7 m') h2) oo->
      a'.defers=[]/\∃u'',({{nZ with mode:=u} with mode:=u'}::cs:List Frame)={{nZ with mode:=u} with mode:=u''}::cs/\∃v,(results PF a'.tmps).run P w'=.ok v w'/\
       LeavesInM (FW none) 0 P fn tmps (λe w'=>∃co,Dn (kc co) oo/\Nw b co e w') es (settle u'') w':=by
      intro m9 f2 h2 s2 lN;have dA:b1.φ.le m9:=s2.st.le;have adT:φ.le m9:=lJ.le.trans dA;refine⟨?_,u',rfl,?_⟩;have:=s2.df;cases SY:a'.defers with
      |nil=>rfl
      |cons=>rw[SY] at this;exact this.elim
      rw[am0] at EJ;obtain⟨x,v,cS,_,_⟩:=Zw (k:=λ_=>True) (oo:=.ret (.bA []) h2) s2.r s2.fr EJ (show Dn (wz h2 f2 [] λ_=>True) _ from trivial);exact⟨v,cS,PE T rs O RO vl ds s2.r (st.trans (lJ.trans s2.st)) s2.g (hf.mono adT) (amX.mono adT) (yg.mono dA).settle lN⟩
     cases out with
     |jo f2 h2 mE=>
      obtain⟨rfl,m9,s2⟩:=ho;cases mE with
      |cons=>exact lE.bad.elim
      |nil=>exact adS m9 f2 h2 s2 lE
     |ret f2 h2 mE=>
      obtain⟨rfl,m9,s2⟩:=ho;cases mE with
      |cons=>exact lE.bad.elim
      |nil=>exact adS m9 f2 h2 s2 lE
     |exit id f2 h2 mE=>exact lE.bad.elim
     |jW id f2 h2 mE=>exact lE.bad.elim
     |bn v f2 h2 mE=>exact lE.bad.elim
theorem am3{gN:aM->Option CF}(T:Ed P gN){rec:fJ}(rs:vo P rec)(O:mS P)(RO:Fo P){i:aM}{c:CF}(hc:gN i=some c)(hn:c.num=i.n)
 {args:List AV} {h:Hp} {k:aK->Prop} {oo:aK} {φ:aH} {w:World} {vs:Array Value} (r:R φ h w) (g:jq φ P) (A4:cz φ args vs.toList)
 (hd:Dn (rec c.body (nQ args) h [] (finish gN rec c.jk k)) oo):SW P i.n/\Calls P i.n vs w λe w'=>∃co,Dn (k co) oo/\Nw ⟨φ,h,w⟩ co e w':=by
 obtain⟨c',jQ,Wn,vl⟩:=T i c hc hn;obtain⟨fn,body,zL,hb,CD,EJ,Ec⟩:=Zu jQ;refine⟨Ec,SO.1 (callsIn_of_wp_marks (F:=FW none) (n:=0) zL hb trivial ?_)⟩;have s:St P ⟨φ,h,w⟩ fn.ntmps φ (nQ args) h [] {tmps:=vs++Array.replicate (fn.ntmps- vs.size) Go.undef,defers:=[]} w:=
  ⟨r,.refl φ h w,Zx A4 _,auW,by simp only[awa,axm];omega,g⟩
 rw[<-Wn,CD] at hd;refine wpIn_mono (rs.code none _ body _ φ _ h [] _ w _ oo (.inl rfl) s hd) ?_;rintro e a w' ⟨out,lE,ho⟩;rw[<-vl] at lE;cases out with
 |jo f2 h2 mE=>
  obtain⟨rfl,m9,s2⟩:=ho;exact PE T rs O RO EJ mE s2.r s2.st s2.g s2.fr s2.df (m:=.ret) rfl lE
 |ret f2 h2 mE=>
  obtain⟨rfl,m9,s2⟩:=ho;exact PE T rs O RO EJ mE s2.r s2.st s2.g s2.fr s2.df (m:=.ret) rfl lE
 |exit id f2 h2 mE=>exact lE.bad.elim
 |jW id f2 h2 mE=>exact lE.bad.elim
 |bn v f2 h2 mE=>
  obtain⟨pv,m9,rfl,hv,s2⟩:=ho;exact PE T rs O RO EJ mE s2.r s2.st s2.g s2.fr s2.df (m:=.bn v) ⟨pv,rfl,hv⟩ lE
theorem adU{gN:aM->Option CF}(T:Ed P gN){rec:fJ}(rs:vo P rec)(O:mS P)(RO:Fo P):zN P (aE gN rec):=by
 intro i args h k oo φ w vs hd r g A4;unfold aE at hd;cases hc:gN i with
 |none=>rw[hc] at hd;exact hd.bad.elim
 |some c=>
  rw[hc] at hd;simp only at hd;cases hn:Nat.beq c.num i.n with
  |false=>rw[hn] at hd;exact hd.bad.elim
  |true=>
   rw[hn] at hd;have gE:=at7 hn;exact am3 T rs O RO hc gE r g A4 hd
theorem am4{gN:aM->Option CF}(T:Ed P gN)(O:mS P)(RO:Fo P)(D:Nz P):zN P (aE gN (W gN)):=
 adU T (agS (λ_ rs=>adU T rs O RO) O D) O RO
end
theorem BJ{g1 g2:CX->AV}:∀{l:List CX},(∀x∈l,g1 x=g2 x)->jc g1 l=jc g2 l
 |[],_=>rfl
 |x::l,h=>by have e:jc g1 l=jc g2 l:=BJ λy hy=>h y (aug _ hy);simp only[jc,h x au0,e]
theorem PG{g1 g2:CX->AV}{x:Option CX}(h:∀y∈oX x,g1 y=g2 y):uS g1 x=uS g2 x:=by
 cases x with
 |none=>rfl
 |some x=>simp only[uS,h x (by simp[oX])]
theorem adV{g1 g2:CX->AV}:∀{ps:List (Nat×Nat×CX)}{l:List AV},(∀q∈ps,g1 q.2.2 =g2 q.2.2)->AI g1 l ps=AI g2 l ps
 |[],_,_=>rfl
 |(off,n,x)::r,l,h=>by have hx:g1 x=g2 x:=h (off,n,x) zm;have hr:∀q∈r,g1 q.2.2 =g2 q.2.2 :=λq hq=>h q qbf;simp only[AI,hx];split;congr 1;split;exact adV hr;rfl;rfl
theorem Wo{g1 g2:CX->AV}{rw len:Nat}:∀{ps:List (Nat×CX)}{t:N3 (List AV)},(∀q∈ps,g1 q.2 =g2 q.2)->wg rw len g1 ps t=wg rw len g2 ps t
 |[],_,_=>rfl
 |(j,x)::r,t,h=>by have hx:g1 x=g2 x:=h (j,x) zm;have hr:∀q∈r,g1 q.2 =g2 q.2 :=λq hq=>h q qbf;simp only[wg,hx];split;rw[Wo hr];rfl
theorem am5{c:CO}{f g:Fr}(h:∀x∈BZ c,x.get f=x.get g) (m:Hp):aQ c f m=aQ c g m:=by
 cases c
 case build z ps=>
  simp only[aQ,FY];rw[adV (g1:=λx=>x.get f) (g2:=λx=>x.get g) λq hq=>h _ (auR.2 ⟨q,hq,rfl⟩)]
 case Dq el rw len z ps=>
  simp only[aQ,FZ];rw[Wo (g1:=λx=>x.get f) (g2:=λx=>x.get g) λq hq=>h _ (auR.2 ⟨q,hq,rfl⟩)]
 case FG fn a b=>
  simp only[BZ,auj] at h;simp only[aQ];rw[BJ (g1:=λx=>x.get f) (g2:=λx=>x.get g) λx hx=>h x (.inl hx),BJ (g1:=λx=>x.get f) (g2:=λx=>x.get g) λx hx=>h x (.inr hx)]
 case call fn l=>
  have e':jc (λx=>x.get f) l=jc (λx=>x.get g) l:=BJ λx hx=>h x hx;simp only[aQ,e']
 case min l=>
  have e':jc (λx=>x.get f) l=jc (λx=>x.get g) l:=BJ λx hx=>h x hx;simp only[aQ,e']
 case max l=>
  have e':jc (λx=>x.get f) l=jc (λx=>x.get g) l:=BJ λx hx=>h x hx;simp only[aQ,e']
 case BO e l=>
  have e':jc (λx=>x.get f) l=jc (λx=>x.get g) l:=BJ λx hx=>h x hx;simp only[aQ,e']
 case FJ y l=>
  simp only[BZ,atZ] at h;simp only[aQ];rw[h y (.inl rfl),BJ (g1:=λx=>x.get f) (g2:=λx=>x.get g) λx hx=>h x (.inr hx)]
 case IJ y l=>
  simp only[BZ,atZ] at h;simp only[aQ];rw[h y (.inl rfl),BJ (g1:=λx=>x.get f) (g2:=λx=>x.get g) λx hx=>h x (.inr hx)]
 case FH x a b=>
  simp only[BZ,atZ,auj] at h;simp only[aQ];rw[h x (.inl rfl),PG (g1:=λx=>x.get f) (g2:=λx=>x.get g) λy hy=>h y (.inr (.inl hy)),PG (g1:=λx=>x.get f) (g2:=λx=>x.get g) λy hy=>h y (.inr (.inr hy))]
 case FI rw n x a b=>
  simp only[BZ,atZ,auj] at h;simp only[aQ];rw[h x (.inl rfl),PG (g1:=λx=>x.get f) (g2:=λx=>x.get g) λy hy=>h y (.inr (.inl hy)),PG (g1:=λx=>x.get f) (g2:=λx=>x.get g) λy hy=>h y (.inr (.inr hy))]
 all_goals
  simp only[BZ,atZ,awg,axx,forall_eq_or_imp,forall_eq] at h;simp only[aQ,h]
theorem LG{c:CO}(hp:AN c=true)(f:Fr)(m m':Hp):aQ c f m=aQ c f m':=by cases c<;>simp only[AN,at3] at hp<;>simp only[aQ]
open Classical in
theorem tS(p q:Nat)(v:AV)(f:Fr)[Decidable (p=q)]:J p (fO q v f)=if p=q then v else J p f:=by rw[RM];split<;>simp_all
theorem am6{t:Nat}(_:t<512):gz t=t:=rfl
theorem am7(p:Nat):gz p=p:=rfl
theorem Wp{p q:Nat}:Qe p q=true <-> p=q:=beq_iff
theorem am8{p:Nat}{l:List Nat}:Qg p l=true <-> p∈l:=by unfold Qg;rw[awE];constructor;rintro⟨q,hq,he⟩;rw[Wp.1 he];exact hq;intro h;exact⟨p,h,Wp.2 rfl⟩
def Db(f:Fr):List Nat->Fr
 |[]=>Fr.empty
 |p::l=>fO p (J p f) (Db f l)
open Classical in
theorem PI(f:Fr)(p:Nat):∀l:List Nat,J p (Db f l)=if p∈l then J p f else .any
 |[]=>by simp only[Db,awg,auM];rfl
 |q::l=>by
  simp only[Db,tS,PI f p l]
  by_cases e:p=q
  subst e;simp;simp[e]
theorem adW{x:CX}{p:Nat}:∀{l:List CX},x∈l->x=.t p->p∈F4 l
 |[],h,_=>by cases h
 |y::l,h,e=>by rcases atZ.1 h with h|h;subst h;subst e;simp[F4];have:=adW h e;cases y<;>simp[F4,this]
section
variable{P:Program}{nt:Nat}{φ:aH}{f:Fr}{h:Hp}{a:Act}{w:World}
def xC(φ:aH)(f:Fr)(tmps:Array Value)(c:CI):Prop:=∀p∈xN c,aj φ (J p f) (tmps.getD p Go.undef)
theorem adX{c:CI}(hl:xC φ f a.tmps c):iq φ (Db f (xN c)) a.tmps:=by
 classical
 refine⟨λt=>?_⟩;rw[PI];split;rename_i hm;exact hl _ hm;simp only[aj]
theorem am9(c:CI):aQ c.op (Db f (xN c)) h=aQ c.op f h:=by
 classical
 refine am5 (λx hx=>?_) h;cases x with
 |k v=>rfl
 |t p=>
  simp only[CX.get];rw[PI,atV];unfold xN;exact auj.2 (.inr (adW hx rfl))
theorem ana(c:CI):jO c.guard (Db f (xN c))=jO c.guard f:=by
 classical
 unfold jO;split;rfl;rename_i p b hg;rw[PI,atV];unfold xN;rw[hg];simp
theorem Wq(O:mS P)(r:R φ h w)(g:jq φ P){aF:Array Oper}{o:Oper}{c:CI}(hc:kq P nt aF o=some c)(hl:xC φ f a.tmps c):
 Gw P φ h w ((execOp a.eval o).run P w) (aQ c.op f h):=by
 have:=O φ h w (Db f (xN c)) a o r g (adX hl);unfold Good at this;rw[<-(wJ hc).2.2.1,am9] at this;exact this
theorem Ws(cP:nt<=a.tmps.size){aF:Array Oper}{o:Oper}{c:CI}(hc:kq P nt aF o=some c)(hl:xC φ f a.tmps c){t:Bool}(ht:jO c.guard f=some t):
 Region.wanted o (yielded aF a.tmps)=t:=by
 rw[<-ana] at ht;obtain⟨_,_,_,⟨hg,nv⟩|⟨j,bb,d,hg,hj,iu,lN,nv⟩⟩:=wJ hc;rw[nv] at ht;simp only[jO,atU] at ht;subst ht;simp[Region.wanted,hg];have hf:=adX hl;rw[nv] at ht;simp only[jO] at ht;have k8:=hf.at_ d lN;have ao:d<a.tmps.size:=aur iu cP;have ij:a.tmps[d]? =some (a.tmps.getD d Go.undef):=by simp[ao]
 simp only[Region.wanted,hg,yielded,hj,awf,ij];split at ht;rename_i u hu;simp only[atU] at ht;subst ht;rw[hu] at k8;simp only[aj] at k8;rw[k8];cases u<;>cases bb<;>rfl;rename_i l hu;simp only[atU] at ht;subst ht;rw[hu] at k8;simp only[aj] at k8;obtain⟨cs,e,_⟩:=k8;rw[e];cases bb<;>rfl;cases ht
end
theorem Wt{φ ψ:aH}:∀(n:Nat)(x:AV)(v:Value),za n x=true->aj φ x v->aj ψ x v
 |0,_,_,h,_=>by simp[za] at h
 |n+1,x,v,h,d=>by
  have hl:∀(l:List AV)(vs:List Value),l.all (za n)=true->cz φ l vs->cz ψ l vs:=by
   intro l
   induction l with
   |nil=>intro vs _ d;simpa only[cz] using d
   |cons x l ih=>
    intro vs h d;simp only[aw2,atW] at h;simp only[cz] at d⊢;obtain⟨u,r,rfl,d1,d2⟩:=d;exact⟨u,r,rfl,Wt n x u h.1 d1,ih r h.2 d2⟩
  cases x<;>simp only[za,at3,atW] at h
  case func f a b=>
   simp only[aj] at d⊢;obtain⟨fs,cs,rfl,g1,g2⟩:=d;exact⟨fs,cs,rfl,hl _ _ h.1 g1,hl _ _ h.2 g2⟩
  case iface t x=>
   simp only[aj] at d⊢;obtain⟨y,rfl,g⟩:=d;exact⟨y,rfl,Wt n x y h g⟩
  case agg l=>
   simp only[aj] at d⊢;obtain⟨cs,rfl,g1,g2⟩:=d;exact⟨cs,rfl,hl _ _ h g1,g2⟩
  case bA l=>
   simp only[aj] at d⊢;obtain⟨cs,rfl,g1⟩:=d;exact⟨cs,rfl,hl _ _ h g1⟩
  all_goals first|(simp only[aj];done)|simpa only[aj] using d
def Wu(o:AO):Prop:=o.ig=true/\∀(j:Nat)(x:AV),o.cell j=some x->Qf x=true
theorem adY(t:N3 (List AV)):∀(n k j:Nat),j<n->dY t (k+j)∈dw t n k
 |0,_,_,h=>zo
 |n+1,k,0,_=>by simp[dw]
 |n+1,k,j+1,h=>by simp only[dw];refine aug _ ?_;have:=adY t n (Nat.succ k) j zo;rwa[show Nat.succ k+j=k+(j+1) by omega] at this
theorem adZ{o:AO}(h:F2 o=true):Wu o:=by
 cases o<;>simp only[F2,at3] at h
 case one el l=>
  refine⟨rfl,λj x hx=>?_⟩;simp only[AO.cell] at hx;exact auO.1 h x (aua hx)
 case rows el rw cnt fz t=>
  refine⟨rfl,λj x hx=>?_⟩;simp only[AO.cell] at hx;split at hx;rename_i hj;have dX:0<rw:=by rcases auP rw with h0|h0;rw[h0] at hj;omega;exact h0
  have hk:j/rw<cnt:=auw qap;have:=adY t cnt 0 (j/rw) hk;rw[aue] at this;exact auO.1 (auO.1 h _ this) x (aua hx);cases hx
def Wv(k:Nat->AV):Prop:=∀(ψ χ:aH)(z r:Nat)(v:Value),χ.dom r->χ.aL r=ψ.aL z->χ.sh r=ψ.sh z->χ.sz r=ψ.sz z->aj ψ (k z) v->aj χ (k r) v
theorem ad0{c:CO}{o:AO}{k:Nat->AV}(h:F3 c=some (o,k)):(∀f h,aQ c f h=alloc h o k)/\Wu o/\Wv k:=by
 have kp:Wv λi=>.ptr i 0:=by intro ψ χ z r v hd h1 h2 h3 d;simp only[aj] at d⊢;exact⟨hd,by rw[d.2,h1,h2]⟩
 cases c<;>simp only[F3,reduceCtorEq] at h
 case alloc el l=>
  cases hf:F2 (.one el l) with
  |false=>rw[hf] at h;cases h
  |true=>
   rw[hf] at h;simp only[cond,atU,avj] at h;obtain⟨rfl,rfl⟩:=h;exact⟨λ_ _=>rfl,adZ hf,kp⟩
 case Dq el rw len z ps=>
  cases hk:ps.all λq=>Xb q.2 with
  |false=>rw[hk] at h;cases h
  |true=>
   rw[hk] at h;simp only[cond] at h;split at h;rename_i t ht;cases hf:F2 (.rows el rw len 0 t) with
   |false=>rw[hf] at h;cases h
   |true=>
    rw[hf] at h;simp only[atU,avj] at h;obtain⟨rfl,rfl⟩:=h;refine⟨λf m=>?_,adZ hf,?_⟩;simp only[aQ,FZ];rw[Wo (g1:=λx=>x.get f) (g2:=λx=>x.get Fr.empty) λq hq=>?_,ht];have:=auO.1 hk q hq;cases A5:q.2 with
    |t p=>rw[A5] at this;cases this
    |k v=>rfl
    intro ψ χ z r v hd h1 h2 h3 d;simp only[aj] at d⊢;obtain⟨_,a,c,rfl,e1,e2,e3,e4⟩:=d;refine⟨hd,a,c,rfl,e1,e2,e3,λhc=>?_⟩;rw[h1,h2,h3];exact e4 hc
   cases h
structure Ww(w w':World):Prop where
 size:w.heap.size<=w'.heap.size
 same:∀c,c<w.heap.size->w'.heap[c]? =w.heap[c]?
 os:w'.os=w.os
 output:w'.output=w.output
 tape:w'.tape=w.tape
theorem R.ext{φ:aH}{h:Hp}{w w':World}(r:R φ h w)(e:Ww w w'):R φ h w' where
 dom:=r.dom
 gq:=λi=>by
  by_cases hl:dH (h.get i)=true
  have ao:=r.lt i hl;refine(r.gq i).mono (.refl φ) ((r.dom i).2 (uY hl)) e.size (e.same _ ao) λek m aD todo eC eo aW fQ he=>?_;have JD:=r.gq i;rw[eo] at JD;obtain⟨_,_,anb,_⟩:=JD;exact⟨aW,fQ,by rw[<-e.same _ anb];exact he,at2 _,λ_=>⟨id,λ_=>rfl,λ_ _ _ h=>h,by simp⟩⟩;cases hg:h.get i<;>simp_all[dH,kM]
 inj:=r.inj
 lt:=λi hi=>aur (r.lt i hi) e.size
theorem eS.ext{φ:aH}{h:Hp}{w w':World}(e:Ww w w'):eS φ h w φ w' h:=
 ⟨.refl φ,e.size,λc hc _=>e.same c hc,λi hi=>.inl ⟨i,hi,rfl⟩,e.os,e.output,e.tape⟩
theorem R.Wx{φ:aH}{h g:Hp}{w:World}(r:R φ h w)(e:∀i,g.get i=h.get i):R φ g w where
 dom:=λi=>by rw[e];exact r.dom i
 gq:=λi=>by rw[e];exact r.gq i
 inj:=λi j=>by rw[e,e];exact r.inj i j
 lt:=λi=>by rw[e];exact r.lt i
theorem eS.Wx{φ ψ:aH}{h h' g:Hp}{w w':World}(s:eS φ h w ψ w' h')(e:∀i,g.get i=h'.get i):eS φ h w ψ w' g where
 le:=s.le
 size:=s.size
 frame:=s.frame
 xT:=λi=>by rw[e];exact s.xT i
 os:=s.os
 output:=s.output
 tape:=s.tape
def Fs(φ:aH)(h:Hp)(w:World)(b0 bk:Nat)(o:AO)(k:Nat->AV)(v:Value):Prop:=
 ∃(ψ:aH) (z:Nat),ψ.aL z=bk/\qu ψ w z o/\aj ψ (k z) v/\b0<=bk/\bk<w.heap.size/\∀i,dH (h.get i)=true->φ.aL i≠bk
theorem qu.same{ψ:aH}{w w':World}{z:Nat}{o:AO}(c:qu ψ w z o)(h:w'.heap[ψ.aL z]? =w.heap[ψ.aL z]?):qu ψ w' z o:=by obtain⟨wf,hu,hr,aO,fr,h1,h2⟩:=c;exact⟨wf,hu,λho=>by rw[h];exact hr ho,aO,fr,by rw[h];exact h1,h2⟩
theorem Fs.step{φ zO:aH}{h h':Hp}{w w':World}{b0 bk:Nat}{o:AO}{k:Nat->AV}{v:Value}(p:Fs φ h w b0 bk o k v)(s:eS φ h w zO w' h'):Fs zO h' w' b0 bk o k v:=by obtain⟨ψ,z,h0,h1,h2,h3,h4,h5⟩:=p;subst h0;refine⟨ψ,z,rfl,h1.same (s.frame _ h4 h5),h2,h3,aur h4 s.size,λi hi e=>?_⟩;rcases s.xT i hi with⟨j,hj,ej⟩|GV;exact h5 j hj (ej.trans e);omega
def Hd(n:Nat):Hp:=⟨λi=>if i<n then .eD else .uN,n,[],λi h=>atS (axJ.2 h)⟩
theorem Ip{n:Nat}(i:Nat):(Hd n).get i=.eD/\i<n\/(Hd n).get i=.uN/\¬i<n:=by
 by_cases e:i<n
 exact .inl ⟨atV e,e⟩;exact .inr ⟨atS e,e⟩
theorem anc{P:Program}{nt:Nat}{φ:aH}{a:Act}{w:World}(O:mS P)(g:jq φ P){aF:Array Oper}{o:Oper}{c:CI}(hc:kq P nt aF o=some c)
 {ob:AO} {k:Nat->AV} (hl:F3 c.op=some (ob,k)):∃nx v w',(execOp a.eval o).run P w=.ok nx w'/\M0 nx v/\Ww w w'/\
  ∃(ψ:aH) (z:Nat),qu ψ w' z ob/\aj ψ (k z) v/\w.heap.size<=ψ.aL z/\ψ.aL z<w'.heap.size:=by
 obtain⟨dJ,PJ,_⟩:=ad0 hl
 let PK:aH:=⟨λi=>i<P.globals.size,φ.aL,φ.sh,φ.sz,φ.cB,φ.prog⟩
 have r:R PK (Hd P.globals.size) w:=by refine⟨λi=>?_,λi=>?_,λi j hi=>?_,λi hi=>?_⟩;rcases Ip i with⟨h1,h2⟩|⟨h1,h2⟩;rw[h1];exact⟨λ_=>rfl,λ_=>h2⟩;rw[h1];exact⟨λh=>absurd h h2,λh=>by cases h⟩;rcases Ip i with⟨h1,_⟩|⟨h1,_⟩<;>rw[h1]<;>trivial;rcases Ip i with⟨h1,_⟩|⟨h1,_⟩<;>rw[h1] at hi<;>cases hi;rcases Ip i with⟨h1,_⟩|⟨h1,_⟩<;>rw[h1] at hi<;>cases hi
 have gd:jq PK P:=⟨g.1,λn h1 h2=>⟨h1,(g.2 n h1 h2).2⟩⟩;have hf:iq PK Fr.empty a.tmps:=⟨λt=>by have:J (gz t) Fr.empty=.any:=rfl;rw[this];simp only[aj]⟩
 have eT:=O PK (Hd P.globals.size) w Fr.empty a o r gd hf;unfold Good at eT;rw[<-(wJ hc).2.2.1,dJ] at eT;have hz:alloc (Hd P.globals.size) ob k=.vh (k P.globals.size) ((Hd P.globals.size).push ob):=rfl;rw[hz] at eT;obtain⟨nx,v,w',ψ,h1,h2,r',st,hd⟩:=eT;have ij:∀j:Nat,((Hd P.globals.size).push ob).get j=if j=P.globals.size then ob else(Hd P.globals.size).get j:=λj=>Hp.B8 ..
 have Ln:dH ob=true:=by have:=PJ.1;cases ob<;>first|rfl|cases this
 refine⟨nx,v,w',h1,h2,⟨st.size,λcc Bk=>st.frame cc Bk λi hi=>?_,st.os,st.output,st.tape⟩,ψ,P.globals.size,?_,hd,?_,?_⟩;rcases Ip i with⟨e1,_⟩|⟨e1,_⟩<;>rw[e1] at hi<;>cases hi;have:=r'.gq P.globals.size;rw[ij,atV rfl] at this;have nT:=PJ.1;cases ob<;>first|exact this|cases nT
 rcases st.xT P.globals.size (by rw[ij,atV rfl];exact Ln) with⟨j,hj,_⟩|GV;rcases Ip j with⟨e1,_⟩|⟨e1,_⟩<;>rw[e1] at hj<;>cases hj;exact GV;exact r'.lt P.globals.size (by rw[ij,atV rfl];exact Ln)
theorem ane{φ:aH}{h:Hp}{w:World}{b0 bk:Nat}{o:AO}{k:Nat->AV}{v:Value}(r:R φ h w)(hn:jN (h.get h.nx)=true)(hf:Wu o)(hk:Wv k)(p:Fs φ h w b0 bk o k v):
 ∃χ:aH,R χ (h.push o) w/\φ.le χ/\aj χ (k h.nx) v/\
  (∀i,dH ((h.push o:Hp).get i)=true->(dH (h.get i)=true/\χ.aL i=φ.aL i)\/χ.aL i=bk):=by
 obtain⟨ψ,z,Wy,hc,hd,N7,ao,jK⟩:=p;subst Wy;have ij:∀j:Nat,(h.push o:Hp).get j=if j=h.nx then o else h.get j:=λj=>by exact Hp.B8 ..
 have Ln:dH o=true:=by have:=hf.1;cases o<;>first|rfl|cases this
 have dB:¬φ.dom h.nx:=λd=>by rw[(r.dom _).1 d] at hn;cases hn
 have le:φ.le (φ.put h.nx (ψ.aL z) (ψ.sh z) (ψ.sz z)):=aH.Ca dB;have e1:(φ.put h.nx (ψ.aL z) (ψ.sh z) (ψ.sz z)).aL h.nx=ψ.aL z:=by simp[aH.put]
 have e2:(φ.put h.nx (ψ.aL z) (ψ.sh z) (ψ.sz z)).sh h.nx=ψ.sh z:=by simp[aH.put]
 have e3:(φ.put h.nx (ψ.aL z) (ψ.sh z) (ψ.sz z)).sz h.nx=ψ.sz z:=by simp[aH.put]
 have sN:∀j,j≠h.nx->(φ.put h.nx (ψ.aL z) (ψ.sh z) (ψ.sz z)).aL j=φ.aL j:=λj hj=>by simp[aH.put,hj]
 have hnl:∀j,dH (h.get j)=true->j≠h.nx:=λj hj e=>by subst e;cases hg:h.get h.nx<;>simp_all[jN,dH]
 refine⟨φ.put h.nx (ψ.aL z) (ψ.sh z) (ψ.sz z),⟨λi=>?_,λi=>?_,λi j hi hj e=>?_,λi hi=>?_⟩,le,hk _ _ _ _ _ (.inl rfl) e1 e2 e3 hd,λi hi=>?_⟩;rw[ij]
 by_cases e:i=h.nx
 rw[atV e];exact⟨λ_=>uY Ln,λ_=>.inl e⟩;rw[atS e,<-r.dom i];simp[aH.put,e];rw[ij]
 by_cases e:i=h.nx
 subst e;rw[atV rfl];have key:qu (φ.put h.nx (ψ.aL z) (ψ.sh z) (ψ.sz z)) w h.nx o:=by obtain⟨wf,hu,hr,aO,fr,q1,q2,q3,q4,q5,q6⟩:=hc;refine⟨wf,λh=>by rw[e2,e3];exact hu h,λho=>by rw[e1];exact hr ho,aO,fr,by rw[e1];exact q1,by rw[e3];exact q2,by rw[e2];exact q3,λj x hx=>?_,q5,by rw[e2];exact q6⟩;obtain⟨u,hu,Sk⟩:=q4 j x hx;exact⟨u,by rw[e2];exact hu,Wt 4 x u (hf.2 j x hx) Sk⟩
 have:=hf.1;cases o<;>first|exact key|cases this
 rw[atS e]
 by_cases hl:dH (h.get i)=true
 exact(r.gq i).mono le ((r.dom i).2 (uY hl)) zl rfl λ_ m aD todo eC _ aW fQ he=>⟨aW,fQ,he,at2 _,λ_=>⟨id,λ_=>rfl,λ_ _ _ hd=>nS le _ _ hd,by simp⟩⟩;cases hg:h.get i<;>simp_all[dH,kM];rw[ij] at hi hj
 by_cases ei:i=h.nx<;>by_cases ej:j=h.nx
 exact .inl (by rw[ei,ej]);rw[atS ej] at hj;rw[ei,e1,sN j ej] at e;exact absurd e.symm (jK j hj);rw[atS ei] at hi;rw[ej,e1,sN i ei] at e;exact absurd e (jK i hi);rw[atS ei] at hi;rw[atS ej] at hj;rw[sN i ei,sN j ej] at e;rw[ij i,ij j,atS ei,atS ej];exact r.inj i j hi hj e;rw[ij] at hi
 by_cases e:i=h.nx
 rw[e,e1];exact ao;rw[atS e] at hi;rw[sN i e];exact r.lt i hi;rw[ij] at hi
 by_cases e:i=h.nx
 exact .inr (by rw[e,e1]);rw[atS e] at hi;exact .inl ⟨hi,sN i e⟩
theorem ad1{c:CO}{f:Fr}{i:Nat}(hs:sF c f=some i):(∀h,∃s,aQ c f h=.bad s)\/
 ∃off l,∀h,aQ c f h=(match setCells (h.get i) off l with|some ob=>.vh undef (h.set i ob)|none=>.bad "store"):=by
 cases c<;>simp only[sF,reduceCtorEq] at hs
 case st n x v=>
  split at hs;rename_i j off hx;cases hs;simp only[aQ,FP,hx];cases hv:bQ (v.get f) with
  |none=>exact .inl λh=>⟨_,rfl⟩
  |some l=>
   cases hn:Nat.beq (gk l) n with
   |false=>exact .inl λh=>⟨ "store: size",by simp only[hn,cond]⟩
   |true=>exact .inr ⟨off,l,λh=>by simp only[hn,cond];rfl⟩
  cases hs
theorem Dc(h:Hp)(i j:Nat)(o:AO)[Decidable (j=i)]:(h.set i o).get j=if j=i then o else h.get j:=by
 rw[Hp.tS]
 by_cases e:j=i
 rw[atV e,atV e];rw[atS e,atS e]
theorem anf{c1 c2:CO}{f:Fr}{i j:Nat}(h1:sF c1 f=some i)(h2:sF c2 f=some j)(bg:i≠j){h g1 g2:Hp}{x1 x2:AV}(e1:aQ c1 f h=.vh x1 g1)(e2:aQ c2 f g1=.vh x2 g2):
 x1=undef/\x2=undef/\∃g,aQ c2 f h=.vh undef g/\∃g',aQ c1 f g=.vh undef g'/\∀k,g'.get k=g2.get k:=by
 classical
 rcases ad1 h1 with hb|⟨o1,l1,s1⟩;obtain⟨s,hs⟩:=hb h;rw[hs] at e1;cases e1;rcases ad1 h2 with hb|⟨o2,l2,s2⟩;obtain⟨s,hs⟩:=hb g1;rw[hs] at e2;cases e2;rw[s1] at e1;split at e1;rename_i ob1 qW;injection e1 with ex1 eg1;subst eg1;rw[s2] at e2;have hj:(h.set i ob1).get j=h.get j:=by rw[Dc,atS (Ne.symm bg)]
 rw[hj] at e2;split at e2;rename_i Wz fX;injection e2 with Hf eg2;subst eg2;refine⟨ex1.symm,Hf.symm,h.set j Wz,by rw[s2,fX],(h.set j Wz).set i ob1,?_,λk=>?_⟩;rw[s1];have hi:(h.set j Wz).get i=h.get i:=by rw[Dc,atS bg]
 rw[hi,qW];rw[Dc,Dc,Dc,Dc]
 by_cases ei:k=i
 rw[atV ei,atS (by rw[ei];exact bg),atV ei];rw[atS ei]
 by_cases ej:k=j
 rw[atV ej];rw[atV ej];rw[atS ej,atS ej,atS ei];cases e2;cases e1
theorem ad2(B:List Nat)(i:Nat):∀(l:List Edge)(s:Nat),(l.foldl (λs e=>if Region.binds .any e then s|||(2^e.on|||B.getD e.on 0) else s) s).testBit i=true->
 s.testBit i=true\/∃e∈l,Region.binds .any e=true/\(e.on=i\/pG B i e.on=true)
 |[],s,h=>.inl h
 |e::l,s,h=>by simp only[List.foldl_cons] at h;rcases ad2 B i l _ h with h|⟨e',qK,hb,hx⟩;split at h;rename_i hb;simp only[Nat.testBit_or,awq] at h;rcases h with h|h|h;exact .inl h;rw[Nat.testBit_two_pow] at h;exact .inr ⟨e,by simp,hb,.inl qba⟩;exact .inr ⟨e,by simp,hb,.inr h⟩;exact .inl h;exact .inr ⟨e',by simp[qK],hb,hx⟩
theorem WA{B:List Nat}:∀{aF:List Oper}{k:Nat},DD B k aF=true->∀(j:Nat)(o:Oper),aF[j]? =some o->
 (∀e∈o.after,Region.binds .any e=true->e.on<k+j)/\B.getD (k+j) 0=Qh B o.after.toList
 |[],_,_,j,o,ho=>by simp at ho
 |x::l,k,h,j,o,ho=>by
  simp only[DD,atW] at h;cases j with
  |zero=>
   simp at ho;subst ho;refine⟨λe he hb=>?_,at7 h.1.2⟩;have:=auO.1 h.1.1 e (axn.2 he);rw[hb] at this;simp only[axB,axy] at this;exact au1 this
  |succ j=>
   have:=WA h.2 j o (by simpa using ho);rw[show Nat.succ k+j=k+(j+1) by omega] at this;exact this
def sy(aF:Array Oper)(listed:Array Bool):Prop:=∀(j:Nat)(oj:Oper),aF[j]? =some oj->listed.getD j false=true->∀e∈oj.after,Region.binds .any e=true->listed.getD e.on false=true
theorem yR{B:List Nat}{aF:Array Oper}(hB:DD B 0 aF.toList=true){listed:Array Bool}(hc:sy aF listed):∀(j i:Nat)(oj:Oper),aF[j]? =some oj->
 (∀e∈oj.after,Region.binds .any e=true->listed.getD e.on false=true)->pG B i j=true->listed.getD i false=true:=by
 intro j
 induction j using Nat.strongRecOn with
 |_ j ih=>
  intro i oj hj hr ho;obtain⟨h1,h2⟩:=WA hB j oj qax;rw[aue] at h1 h2;unfold pG at ho;rw[h2] at ho;rcases ad2 B i _ _ ho with h|⟨e,he,hb,hx⟩;simp at h;have qK:e∈oj.after:=axn.1 he;have hl:=hr e qK hb;rcases hx with rfl|hx;exact hl;cases LJ:aF[e.on]? with
  |none=>
   exfalso;have ao:=h1 e qK hb;have:e.on<aF.size:=axP ao (auc.1 hj).1;rw[au7 this] at LJ;cases LJ
  |some oe=>exact ih e.on (h1 e qK hb) i oe LJ (hc e.on oe LJ hl) hx
end
section
open Go
variable{P:Program}{φ:aH}{h:Hp}{w:World}{f:Fr}{a:Act}{o:Oper}
theorem ang{s d e:TypeId}(r:R φ h w)(hs:P.underlying s=some .string)(hd:P.underlying d=some (.slice e))(he:P.underlying e=some (.int .u8)){l n:Nat}{st:ByteArray}(lJ:kR l n st):
 k6 P φ h w (convert s d (.string st)) (BX h e (.str l n)):=by
 simp only[BX];refine zH (λtX=>?_) λ_=>jY;unfold alloc;have hn:jN (h.get h.nx)=true:=h.fresh;have hl4:l<=1152921504606846975:=au1 tX;have cS:=run_bytes_of_string (P:=P) w s d e st hs hd he;have cP:=lJ.size;generalize hA:Go.bytesRow st (grownCap w st.size 0 e)=A at cS;generalize hC:grownCap w st.size 0 e=cp at cS hA;have J4:st.size<=cp:=by rw[<-hC];exact grownCap_ge w st.size 0 e
 have hAs:A.size=cp:=by rw[<-hA];unfold Go.bytesRow;simp;omega
 have dB:¬φ.dom h.nx:=λd=>by rw[(r.dom _).1 d] at hn;cases hn
 have le:φ.le (φ.put h.nx w.heap.size 0 cp):=aH.Ca dB;have sN:(w.drew.alloc (.cells A e (A.size,A.size+1))).heap[w.heap.size]? =some (.cells A e (A.size,A.size+1)):=avw;obtain⟨m1,m2⟩:=Gs (el:=e) (rw:=1) zo zo (Nl (l:=l) (n:=n));have zJ:qu (φ.put h.nx w.heap.size 0 cp) (w.drew.alloc (.cells A e (A.size,A.size+1))) h.nx (jJ e 1 l (mg l n)):=by
  refine⟨m1,(λh=>by cases h),(λh=>by cases h),A,(A.size,A.size+1),?_,?_,?_,λj x hx=>?_,λj v hv=>?_,λj h1 h2 h3=>?_⟩;have e1:(φ.put h.nx w.heap.size 0 cp).aL h.nx=w.heap.size:=atV rfl;rw[e1];exact sN;simp[aH.put,hAs]
  ·have:(jJ e 1 l (mg l n)).count=l*1:=rfl;rw[this];simp[aH.put];try omega
  obtain⟨hj,kN⟩:=Np (el:=e) (rw:=1) zo zo (Nl (l:=l) (n:=n)) j x hx;have kL:j<l:=zo;simp only[atV kL,atU] at kN;subst kN;obtain⟨b,hb,JP⟩:=lJ.get kL;refine⟨.int .u8 b.toNat,?_,by simp only[aj];rw[JP]⟩;have h0:(φ.put h.nx w.heap.size 0 cp).sh h.nx=0:=atV rfl;rw[h0,aue,<-hA];unfold Go.bytesRow;have hjs:j<st.data.size:=by rw[<-cP] at kL;exact kL
  rw[avI (by simpa using hjs),axC];have:st.data[j]? =some b:=by
   have h5:st[j]? =st.data[j]? :=by rw[axb st j (by rw[cP];exact kL),au7 hjs];rfl
   rw[<-h5];exact hb
  rw[this];rfl;rw[<-hA] at hv;unfold Go.bytesRow at hv;have hm:=Array.mem_of_getElem? hv;rcases Array.mem_append.1 hm with h1|h1;obtain⟨b,_,rfl⟩:=Array.mem_map.1 h1;rfl;have:=(Array.mem_replicate.1 h1).2;subst this;rfl;simp only at h1;omega
 obtain⟨r',eW⟩:=MT (h':=h.push (jJ e 1 l (mg l n))) (w':=w.drew.alloc (.cells A e (A.size,A.size+1))) (n:=h.nx) (o':=jJ e 1 l (mg l n)) (b:=w.heap.size) (s:=0) (z:=cp) (qv:=none) (r.same (Ck w)) hn rfl zm
  (λj=>by rw[Hp.B8];rfl) (.inl rfl) zm zm (λc hc _=>by rw[(MapKept.heap_alloc w.drew _).2 c hc]) (λ_ _=>.inr rfl) zJ rfl rfl rfl
 refine⟨_,_,_,cS,r',(eS.same (Ck w)).trans eW,?_⟩;rw[cP];have:=JU (φ:=φ) (n:=h.nx) (b:=w.heap.size) (rw:=1) (len:=l) (cap:=l) (c:=cp) (z:=cp) (ex:=false) zl zo zm zo;simpa using this
theorem anh{s d e:TypeId}(r:R φ h w)(hs:P.underlying s=some .string)(hd:P.underlying d=some (.slice e))(he:P.underlying e=some (.int .u8)){x:AV}{v:Value}(hx:aj φ x v):
 k6 P φ h w (convert s d v) (BX h e x):=by
 have key:∀(l n:Nat)(st:ByteArray),kR l n st->k6 P φ h w (convert s d (.string st)) (BX h e (.str l n)):=by intro l n st lJ;exact ang r hs hd he lJ
 cases x with
 |str l n=>
  simp only[aj] at hx;obtain⟨st,hv,lJ⟩:=hx;rw[hv];exact key l n st lJ
 |_=>exact jY
theorem LK{w:World}{b:Nat}{aO:Array Value}{e:TypeId}{fr:Nat×Nat}(hb:w.heap[b]? =some (.cells aO e fr)):w.shape? b=some (e,aO.size):=by simp[World.shape?,hb]
theorem WB{b off:Nat}{aO:Array Value}{e:TypeId}{fr:Nat×Nat}(hb:w.heap[b]? =some (.cells aO e fr)):(Conv.seenAt ⟨b,off,none⟩).run P w=.ok ⟨b,off,none⟩ w:=by simp[Conv.seenAt,viewAt,LK hb]
theorem ad3{i:Nat}{el:Nat}{l:List AV}(r:R φ h w)(hg:h.get i=.one el l):φ.sh i=0/\∃aO fr,w.heap[φ.aL i]? =some (.cells aO el fr)/\aO.size=l.length:=by have ok:=tW (i:=i) r qaD;rw[hg] at ok;obtain⟨aO,fr,b1,b2,_⟩:=ok.aL;have hu:=ok.unit rfl;exact⟨hu.1,aO,fr,b1,by rw[b2,hu.2];rfl⟩
theorem ani{s d t:TypeId}{n:Nat}(r:R φ h w)(hs:P.underlying s=some (.pointer t))(hd:P.underlying d=some .unsafePointer)(hz:fI P t=some (n+1)){x:AV}{u:Value}(hx:aj φ x u):
 dI P φ w (convert s d u) (Dz h t (n+1) x):=by
 unfold Dz;split;rename_i i off;split;rename_i el l hg;cases hc:(Nat.beq el t&&Nat.beq off 0&&Nat.beq (gk l) (n+1)) with
 |false=>trivial
 |true=>
  simp only[atW,beq_iff,tR] at hc;obtain⟨⟨rfl,rfl⟩,hl⟩:=hc;have kN:=hx;simp only[aj] at hx;obtain⟨_,rfl⟩:=hx;obtain⟨h0,aO,fr,b1,b2⟩:=ad3 r hg;refine⟨_,?_,kN⟩;rw[h0,aue];simp[convert,bZ hs,bZ hd,Conv.unsafePointer,WB b1,cellsIn,LK b1,vb hz,b2,hl]
 trivial;simp only[aj] at hx;subst hx;exact⟨.pointer none,by simp[convert,bZ hs,bZ hd,Conv.unsafePointer],by simp only[aj]⟩;trivial
theorem anj{s d t:TypeId}{n:Nat}(r:R φ h w)(hs:P.underlying s=some .unsafePointer)(hd:P.underlying d=some (.pointer t))(hz:fI P t=some n)(WC:liesAt P P.depth t 1 0 t 1=true){x:AV}{u:Value}(hx:aj φ x u):
 dI P φ w (convert s d u) (Dz h t n x):=by
 unfold Dz;split;rename_i i off;split;rename_i el l hg;cases hc:(Nat.beq el t&&Nat.beq off 0&&Nat.beq (gk l) n) with
 |false=>trivial
 |true=>
  simp only[atW,beq_iff,tR] at hc;obtain⟨⟨rfl,rfl⟩,hl⟩:=hc;have kN:=hx;simp only[aj] at hx;obtain⟨_,rfl⟩:=hx;obtain⟨h0,aO,fr,b1,b2⟩:=ad3 r hg;refine⟨_,?_,kN⟩;rw[h0,aue];have oW:P.cellsOf el=n:=by unfold fI at hz;unfold Program.cellsOf;split at hz;rename_i i hi;rw[hi];simpa using hz;cases hz
  by_cases hn:n=0
  subst hn;simp[convert,bZ hs,bZ hd,Conv.unsafePointer,WB b1,vb hz,variablesAt,LK b1];have ank:aO.size/P.cellsOf el=1:=by rw[b2,hl,oW];exact Nat.div_self zo
  simp[convert,bZ hs,bZ hd,Conv.unsafePointer,WB b1,vb hz,variablesAt,LK b1,ank,WC]
 trivial;simp only[aj] at hx;subst hx;exact⟨.pointer none,by simp[convert,bZ hs,bZ hd,Conv.unsafePointer],by simp only[aj]⟩;trivial
theorem anl{x y:AV}{o:Nat}(h:qk x y=some o){u v:Value}(hx:aj φ x u)(hy:aj φ y v):
 (∃k m n,u=.int k m/\v=.int k n/\o=uQ m n)\/(∃s t,u=.string s/\v=.string t/\∃l n l' n',kR l n s/\kR l' n' t/\o=v8 l n l' n'):=by
 unfold qk at h;split at h;cases h;simp only[aj] at hx hy;exact .inl ⟨_,_,_,hx,hy,rfl⟩;rename_i m n;cases h;simp only[aj] at hx hy;refine .inl ⟨_,_,_,hx,hy,?_⟩
 by_cases h1:m=n
 subst h1;rw[av1,RY];rfl;have e1:Nat.beq m n=false:=by cases hq:Nat.beq m n with|false=>rfl|true=>exact absurd (beq_iff.1 hq) h1
 by_cases h2:m<=n
 rw[e1,je.2 h2,Gx zo];rfl;have e2:Nat.ble m n=false:=by cases hq:Nat.ble m n with|false=>rfl|true=>exact absurd (je.1 hq) h2
 rw[e1,e2,Gy zo];rfl;rename_i k m j n;cases hk:qh k j with
 |false=>rw[hk] at h;cases h
 |true=>
  rw[hk] at h;cases h;obtain rfl:=AZ hk;simp only[aj] at hx hy;exact .inl ⟨_,_,_,hx,hy,rfl⟩
 cases h;simp only[aj] at hx hy;obtain⟨s,rfl,hs⟩:=hx;obtain⟨t,rfl,ht⟩:=hy;exact .inr ⟨s,t,rfl,rfl,_,_,_,_,hs,ht,rfl⟩;rename_i m n;cases hk:xK n m with
 |false=>rw[hk] at h;cases h
 |true=>
  rw[hk] at h;cases h;simp only[aj] at hx hy;obtain⟨x,rfl,hx⟩:=hx;have ao:n<m:=by simpa[DS] using hk
  exact .inl ⟨_,_,_,rfl,hy,(Gy zo).symm⟩
 rename_i m n;cases hk:xK m n with
 |false=>rw[hk] at h;cases h
 |true=>
  rw[hk] at h;cases h;simp only[aj] at hx hy;obtain⟨x,rfl,hx⟩:=hx;have ao:m<n:=by simpa[DS] using hk
  exact .inl ⟨_,_,_,rfl,hy,(Gx zo).symm⟩
 cases h
theorem anm{le:Bool}{x y:AV}{o:Nat}(h:qk x y=some o){u v:Value}(hx:aj φ x u)(hy:aj φ y v):
 ((if le then Builtin.min2 u v else Builtin.max2 u v).run P w)=.ok (if(cond le (Nat.ble o 1) (Nat.ble 1 o)) then u else v) w\/
 ((if le then Builtin.min2 u v else Builtin.max2 u v).run P w)=.ok (if(cond le (Nat.ble o 1) (Nat.ble 1 o)) then u else v) w/\True\/
 (u=v/\((if le then Builtin.min2 u v else Builtin.max2 u v).run P w)=.ok u w):=by
 rcases anl h hx hy with⟨k,m,n,rfl,rfl,rfl⟩|⟨s,t,rfl,rfl,l,n,l',n',hs,ht,rfl⟩;rcases axI m n with h1|h1|h1;left;rw[Gx h1];cases le with
 |true=>simp only[auo,Builtin.min2,Sem.run_pure];rw[atS zo];rfl
 |false=>simp only[at3,auM,Builtin.max2,Sem.run_pure];rw[atV zo];rfl
 subst h1;right;right;refine⟨rfl,?_⟩;cases le with
 |true=>simp[Builtin.min2]
 |false=>simp[Builtin.max2]
 left;rw[Gy h1];cases le with
 |true=>simp only[auo,Builtin.min2,Sem.run_pure];rw[atV zo];rfl
 |false=>simp only[at3,auM,Builtin.max2,Sem.run_pure];rw[atS zo];rfl
 left;have e:(if(cond le (Nat.ble (v8 l n l' n') 1) (Nat.ble 1 (v8 l n l' n'))) then Value.string s else Value.string t)=Value.string (if(cond le (Nat.ble (v8 l n l' n') 1) (Nat.ble 1 (v8 l n l' n'))) then s else t):=by split<;>rfl
 rw[e];cases le with
 |true=>
  have:=R0 (P:=P) (w:=w) .leq (λo=>Nat.ble o 1) rfl 0 hs ht;have hb:(Op.stringOp .leq s t).run P w=.ok (.bool (Nat.ble (v8 l n l' n') 1)) w:=by simpa only[binOp] using this
  simp only[auo,Builtin.min2,Sem.run_bind,hb,Result.andThen,asBool,Sem.run_pure,cond]
 |false=>
  have:=R0 (P:=P) (w:=w) .geq (λo=>Nat.ble 1 o) rfl 0 hs ht;have hb:(Op.stringOp .geq s t).run P w=.ok (.bool (Nat.ble 1 (v8 l n l' n'))) w:=by simpa only[binOp] using this
  simp only[at3,auM,Builtin.max2,Sem.run_bind,hb,Result.andThen,asBool,Sem.run_pure,cond]
theorem WD{le:Bool}:∀(l:List AV)(vs:List Value){x:AV}{u:Value},aj φ x u->cz φ l vs->dI P φ w (vs.foldlM (if le then Builtin.min2 else Builtin.max2) u) (wq le x l)
 |[],vs,x,u,hx,hl=>by simp only[cz] at hl;subst hl;exact⟨u,rfl,hx⟩
 |y::l,vs,x,u,hx,hl=>by
  simp only[cz] at hl;obtain⟨v,r,rfl,hy,hr⟩:=hl;simp only[wq];cases ho:qk x y with
  |none=>trivial
  |some o=>
   simp only[];have key:∃z,((if le then Builtin.min2 u v else Builtin.max2 u v).run P w)=.ok z w/\aj φ (cond (cond le (Nat.ble o 1) (Nat.ble 1 o)) x y) z:=by
    rcases anm (P:=P) (w:=w) (le:=le) ho hx hy with h1|h1|⟨h0,h1⟩;refine⟨_,h1,?_⟩;cases hc:cond le (Nat.ble o 1) (Nat.ble 1 o) with
    |true=>exact hx
    |false=>exact hy
    refine⟨_,h1.1,?_⟩;cases hc:cond le (Nat.ble o 1) (Nat.ble 1 o) with
    |true=>exact hx
    |false=>exact hy
    refine⟨u,h1,?_⟩;cases hc:cond le (Nat.ble o 1) (Nat.ble 1 o) with
    |true=>exact hx
    |false=>rw[h0];exact hy
   obtain⟨z,hz,tY⟩:=key;have ih:=WD (le:=le) l r tY hr;have e:(if le then Builtin.min2 else Builtin.max2) u v=(if le then Builtin.min2 u v else Builtin.max2 u v):=by cases le<;>rfl
   cases hm:wq le (cond (cond le (Nat.ble o 1) (Nat.ble 1 o)) x y) l with
   |v q=>
    rw[hm] at ih;obtain⟨q',h1,h2⟩:=ih;refine⟨q',?_,h2⟩;rw[List.foldlM_cons,Sem.run_bind,e,hz];exact h1
   |bad s=>trivial
   |_=>rw[hm] at ih;exact ih.elim
theorem R.rE{w':World}{b:Nat}(r:R φ h w)(hb:∀i,dH (h.get i)=true->φ.aL i≠b) (cP:w'.heap.size=w.heap.size) (hw:∀c,c≠b->w'.heap[c]? =w.heap[c]?)
 (hm:∀aW fQ,w'.heap[b]? ≠some (.map aW fQ)):R φ h w' where
 dom:=r.dom
 gq:=λi=>by
  by_cases hl:dH (h.get i)=true
  refine(r.gq i).mono (.refl φ) ((r.dom i).2 (uY hl)) (avp cP.symm) (hw _ (hb i hl)) λek m aD todo eC eo aW fQ he=>?_
  by_cases e:φ.aL m=b
  rw[e] at he;exact absurd he (hm aW fQ);exact⟨aW,fQ,by rw[<-hw _ e];exact he,at2 _,λ_=>⟨id,λ_=>rfl,λ_ _ _ h=>h,by simp⟩⟩;cases hg:h.get i<;>simp_all[dH,kM]
 inj:=r.inj
 lt:=λi hi=>by rw[cP];exact r.lt i hi
theorem ad4:∀(l:List Nat)(b off:Nat)(bf:ByteArray),(∀j c,l[j]? =some c->w.cell? ⟨b,off+j,none⟩=some (.int .u8 (Int.ofNat c)))->
 (loadBytes ⟨b,off,none⟩ bf l.length).run P w=.ok ((l.map Int.ofNat).foldl (λr n=>r.push (UInt8.ofNat n.toNat)) bf) w
 |[],_,_,_,_=>rfl
 |c::l,b,off,bf,h=>by
  have h0:=h 0 c rfl;rw[aud] at h0;simp only[atX,loadBytes,Sem.run_bind,run_load,h0,Result.andThen];rw[xV];have ih:=ad4 l b (off+1) (bf.push (Int.ofNat c).toNat.toUInt8) λj d hj=>by have:=h (j+1) d qax;rw[show off+1+j=off+(j+1) by omega];exact this
  rw[ih];rfl
theorem ann{b off n:Nat}{aO:Array Value}{e:TypeId}{fr:Nat×Nat}(hb:w.heap[b]? =some (.cells aO e fr))(hn:n≠0):
 (w.freeze ⟨b,off,none⟩ n).heap.size=w.heap.size/\(∀c,c≠b->(w.freeze ⟨b,off,none⟩ n).heap[c]? =w.heap[c]?)/\(∀aW fQ,(w.freeze ⟨b,off,none⟩ n).heap[b]? ≠some (.map aW fQ))/\
  (w.freeze ⟨b,off,none⟩ n).os=w.os/\(w.freeze ⟨b,off,none⟩ n).output=w.output/\(w.freeze ⟨b,off,none⟩ n).tape=w.tape:=by
 unfold World.freeze;rw[atS hn];refine⟨by simp,λc hc=>?_,λaW fQ=>?_,rfl,rfl,rfl⟩;simp only[av3];rw[atS (Ne.symm hc)];simp only[av3,hb,auo,au3];simp
theorem ano{pt lt ty u:TypeId}(r:R φ h w)(hp:P.underlying pt=some (.pointer u))(hz:fI P u=some 1)(yh:sameLayout P P.depth u u=true){x y:AV}{v z:Value}(hx:aj φ x v)(hy:aj φ y z):
 k6 P φ h w (Builtin.unsafeString_ #[pt,lt] ty #[v,z]) (AL h u x y):=by
 unfold AL;cases hn:mM y with
 |none=>exact jY
 |some n=>
  obtain⟨k,rfl⟩:=tU hy hn;cases n with
  |zero=>
   have hs0:aj φ (.str 0 0) (.string .empty):=by simp only[aj];exact⟨_,rfl,by simpa[cO] using MW .empty [] rfl⟩
   simp only[];split;simp only[aj] at hx;subst hx;exact⟨.string .empty,w,rfl,hs0,.refl w⟩;simp only[aj] at hx;obtain⟨_,rfl⟩:=hx;exact⟨.string .empty,w,rfl,hs0,.refl w⟩;exact jY
  |succ n=>
   simp only[];split;rename_i i off;split;rename_i el nN cnt fz t hg;refine zH (λsU=>?_) λ_=>jY;rw[beq_iff] at sU;subst sU;split;rename_i rs gO;split;rename_i l hl;have rB:n+1<=1152921504606846976:=by have GF:=(tW (i:=i) r qaD).wf;rw[hg] at GF;simp only[kZ] at gO;have h1:=(qt gO).1;simp only[atW,beq_iff,je] at h1;have:=GF.2.1;have h2:=h1.2;simp only[uV] at h2;omega
   rw[<-hg] at gO;obtain⟨vs,v1,v2,_,v4⟩:=Nk r gO;obtain⟨e1,e2⟩:=Zm hl;subst e1;obtain⟨b1,b2⟩:=agB v2 v1;simp only[aj] at hx;obtain⟨att,rfl⟩:=hx;have fR:(h.get i).ig=true:=by rw[hg];rfl
   have ok:=tW r fR;obtain⟨aO,fr,q1,q2,q3,q4,q5,q6⟩:=ok.aL;rw[hg] at q1;change w.heap[φ.aL i]? =some (.cells aO el fr) at q1;have nU:∀j c,l[j]? =some c->w.cell? ⟨φ.aL i,φ.sh i+off+j,none⟩=some (.int .u8 (Int.ofNat c)):=λj c hj=>by exact v4 j _ (by rw[b2,auh,hj];rfl)
   have hbound:φ.sh i+off+(n+1)<=aO.size:=by have hj:l[n]? =some (l[n]'zo):=atT zo;have:=nU n _ hj;simp only[World.cell?,q1] at this;have:=(auc.1 (by simpa using this)).1;omega
   have oW:P.cellsOf el=1:=by unfold fI at hz;unfold Program.cellsOf;split at hz;rename_i i hi;rw[hi];simpa using hz;cases hz
   have WC:liesAt P P.depth el aO.size (φ.sh i+off) el (n+1)=true:=by unfold Program.depth at yh⊢;simp only[liesAt,awq];left;unfold Program.depth;simp only[rowAt,oW,axW,axV,avX,av8];simp only[Nat.one_ne_zero,auM,awq,atW,auU];exact .inl ⟨hbound,yh⟩
   have wF:=ad4 (P:=P) (w:=w) l (φ.aL i) (φ.sh i+off) .empty nU;rw[b1] at wF;obtain⟨f1,f2,f3,f4,f5,f6⟩:=ann (off:=φ.sh i+off) (n:=n+1) q1 zo;have cS:(Builtin.unsafeString_ #[pt,lt] ty #[.pointer (some ⟨φ.aL i,φ.sh i+off,none⟩),.int k (Int.ofNat (n+1))]).run P w=
    .ok (.string ((l.map Int.ofNat).foldl (λr n=>r.push (UInt8.ofNat n.toNat)) .empty)) (w.freeze ⟨φ.aL i,φ.sh i+off,none⟩ (n+1)):=by
    have SG:¬(Int.ofNat (n+1)>IntKind.i64.max):=by
     have:IntKind.i64.max=9223372036854775807:=by decide
     rw[this];simp only[au8];omega
    have anp:¬(Int.ofNat (n+1)<0):=by simp only[au8];omega
    have hz0:¬(Int.ofNat (n+1)=0):=by simp only[au8];omega
    have htn:(Int.ofNat (n+1)).toNat=n+1:=rfl;change Sem.run P (Bind.bind (asInt (Value.int k (Int.ofNat (n+1)))) _) w=_;rw[Sem.run_bind,show(asInt (Value.int k (Int.ofNat (n+1)))).run P w=.ok (Int.ofNat (n+1)) w from rfl];simp only[Result.andThen];simp only[awy,avk];rw[atS anp,atS SG,atS hz0];simp only[Sem.run_bind,Sem.run_pure,Result.andThen,elemOf,bZ hp,variablesAt,run_program,run_shape,LK q1,oW,axW,htn,WC,auo,wF,run_freeze,Sem.run_bind,Sem.run_pure,Result.andThen]
   obtain⟨ψ,le,r1,Ch⟩:=r.Yf (g:=h.set i .eD) λj=>by
    classical
    rw[Dc]
    by_cases e:j=i
    rw[atV e];exact .inr rfl;rw[atS e];exact .inl rfl
   have jK:∀j,dH ((h.set i .eD).get j)=true->ψ.aL j≠φ.aL i:=λj hj e=>by
    classical
    obtain⟨h1,h2⟩:=Ch j hj;rw[h2] at e;have hli:dH (h.get i)=true:=by rw[hg];rfl
    have:=r.MS h1 qaD e;subst this;rw[Dc,atV rfl] at hj;cases hj
   refine⟨_,_,ψ,cS,r1.rE jK f1 f2 f3,?_,?_⟩;refine⟨le,avp f1.symm,λc hc bg=>f2 c (Ne.symm (bg i qaD)),λj hj=>?_,f4,f5,f6⟩;obtain⟨h1,h2⟩:=Ch j hj;exact .inl ⟨j,h1,h2.symm⟩;simp only[aj];exact⟨_,rfl,by rw[<-b1];exact agC e2⟩;exact jY;exact jY;exact jY;exact jY
theorem ad5(n c:Nat):∀(k j:Nat),DC n c k j=match(List.range' j k).find? (λi=>Nat.beq (lF n i) c) with|some i=>Int.ofNat i|none=>-1
 |0,_=>rfl
 |k+1,j=>by
  simp only[DC,awD,awM];cases hb:Nat.beq (lF n j) c with
  |true=>rfl
  |false=>simp only[cond];exact ad5 n c k (j+1)
theorem ad6{p q:Nat->Bool}:∀{l:List Nat},(∀x∈l,p x=q x)->l.find? p=l.find? q
 |[],_=>rfl
 |x::l,h=>by simp only[awM,h x au0,ad6 λy hy=>h y (aug _ hy)]
theorem anq{l n c:Nat}{s:ByteArray}(hs:kR l n s)(hc:c<=255):firstIdx s (Int.ofNat c).toNat.toUInt8=DC n c l 0:=by
 rw[ad5];unfold firstIdx;rw[hs.size,avQ];rw[ad6 (q:=λi=>Nat.beq (lF n i) c) λi hi=>?_];rfl;have LM:i<l:=by rw[List.mem_range'_1] at hi;omega
 obtain⟨b,hb,JP⟩:=hs.get LM;have e:s[i]! =b:=by rw[axe s i (by rw[hs.size];exact LM)];rw[axb s i (by rw[hs.size];exact LM)] at hb;exact auQ hb
 rw[e,avA,av9,beq_iff,<-JP,<-avi];have:(Int.ofNat c).toNat.toUInt8.toNat=c:=by show(UInt8.ofNat c).toNat=c;simp[axG];omega
 rw[this]
theorem ad7:∀(x y:List UInt8),Lib.compareBytes x y=if Op.bytesLess x y then-1 else if x=y then 0 else 1
 |[],[]=>rfl
 |[],b::y=>by simp[Lib.compareBytes,Op.bytesLess]
 |a::x,[]=>by simp[Lib.compareBytes,Op.bytesLess]
 |a::x,b::y=>by
  unfold Lib.compareBytes;simp only[Op.bytesLess];rw[ad7 x y]
  by_cases h1:a<b
  simp[h1]
  by_cases h2:a=b
  subst h2;have:¬a<a:=UInt8.lt_irrefl a;simp[this];have h3:b<a:=UInt8.lt_of_le_of_ne (UInt8.not_lt.1 h1) (Ne.symm h2);simp[h1,h2,h3]
theorem Ft{fn:Func}{N:String}{e:Array Value->Sem Value}(hn:fn.name=N)(ho:fn.origin= "")(h1:(Extern.allGenericRows.lookup N).isNone=true)(h2:(Extern.allTypedRows.lookup N).isNone=true)(h3:Extern.allRows.lookup N=some e)
 (h4:(Extern.allNextRows.lookup N).isNone=true):Extern.find fn=some e/\Extern.findNext fn=none:=by
 have e1:=awe.1 h1;have e2:=awe.1 h2;have e4:=awe.1 h4;have e5:Extern.allNextRows.lookup ""=none:=by kernel_rfl
 constructor;simp only[Extern.find,hn,e1,e2,h3,awF];rfl;simp only[Extern.findNext,hn,ho,e4,e5,awF];rfl
theorem Fu{g:Nat}{fn:Func}{vs:Array Value}{e:Array Value->Sem Value}(hf:P.funcs[g]? =some fn)(sQ:(fn.name== "runtime.NumGoroutine")=false)(hb:fn.body.isNone=true)(he:Extern.find fn=some e/\Extern.findNext fn=none)
 {x:OR} (hv:dI P φ w (e vs) x):Gw P φ h w ((callFunc g vs).run P w) x:=by
 rw[run_callFunc_extern hf sQ hb he.2 he.1];cases x with
 |v y=>
  obtain⟨v,h1,h2⟩:=hv;exact⟨.value v,v,w,by rw[h1];rfl,.inl rfl,h2,.refl w⟩
 |bad s=>trivial
 |_=>exact hv.elim
theorem anr{g:Nat}{fn:Func}{l:List AV}{vs:List Value}(hf:P.funcs[g]? =some fn)(sQ:(fn.name== "runtime.NumGoroutine")=false)(hb:fn.body.isNone=true)(ho:fn.origin= "")(hl:cz φ l vs):
 Gw P φ h w ((callFunc g vs.toArray).run P w) (qo (Mx fn.name) l):=by
 unfold Mx;split
 ·rename_i hn;have gE:fn.name= "internal/bytealg.IndexByteString":=by simpa using hn
  have he:=Ft gE ho qaa qaa (e:=Extern.BytealgIndexByte.indexByte) qaa qaa;unfold qo;split
  case h_1=>
   rename_i st n c _;simp only[cz,aj] at hl;obtain⟨_,_,rfl,⟨s,rfl,hs⟩,_,_,rfl,rfl,rfl⟩:=hl;refine Fu hf sQ hb he ?_;cases hc:Nat.ble c 255 with
   |false=>trivial
   |true=>
    exact⟨_,run_indexByte_string s (Int.ofNat c) w,by simp only[aj];rw[anq hs (au1 hc)]⟩
  all_goals first|trivial|(rename_i tH;cases tH)
 ·split
  ·rename_i hn;have gE:fn.name= "internal/bytealg.abigen_runtime_cmpstring":=by simpa using hn
   have he:=Ft gE ho qaa qaa (e:=Extern.BytealgCompare.compare) qaa qaa;unfold qo;split
   case h_2=>
    rename_i l1 n1 l2 n2 _;simp only[cz,aj] at hl;obtain⟨_,_,rfl,⟨s,rfl,hs⟩,_,_,rfl,⟨t,rfl,ht⟩,rfl⟩:=hl;refine Fu hf sQ hb he ?_;refine⟨_,Lib.run_compareString s t w,?_⟩;simp only[aj];rw[ad7,Yo hs ht,Go.ByteArray.toList_eq,Go.ByteArray.toList_eq]
    by_cases h1:Op.bytesLess s.data.toList t.data.toList=true
    rw[atV h1,atV h1];rfl;rw[atS h1,atS h1]
    by_cases h2:s.data.toList=t.data.toList
    rw[atV h2,atV h2];rfl;rw[atS h2,atS h2];rfl
   all_goals first|trivial|(rename_i tH;cases tH)
  ·split
   ·rename_i hn;have gE:fn.name= "internal/abi.NoEscape":=by simpa using hn
    have he:=Ft gE ho qaa qaa (e:=Extern.AbiNoEscape.same) qaa qaa;unfold qo;split
    case h_3=>
     rename_i x _;simp only[cz] at hl;obtain⟨v,_,rfl,hx,rfl⟩:=hl;exact Fu hf sQ hb he ⟨v,rfl,hx⟩
    all_goals first|trivial|(rename_i tH;cases tH)
   ·split
    ·rename_i hn;have gE:fn.name= "internal/strconv.float64frombits":=by simpa using hn
     have he:=Ft gE ho qaa qaa (e:=Extern.MathFloatBits.float64frombits) qaa qaa;unfold qo;split
     case h_4=>
      rename_i n _;simp only[cz,aj] at hl;obtain⟨_,_,rfl,rfl,rfl⟩:=hl;exact Fu hf sQ hb he ⟨.float .f64 n.toNat,rfl,by simp only[aj]⟩
     all_goals first|trivial|(rename_i tH;cases tH)
    ·split
     ·rename_i hn;have gE:fn.name= "internal/strconv.float32frombits":=by simpa using hn
      have he:=Ft gE ho qaa qaa (e:=Extern.MathFloatBits.float32frombits) qaa qaa;unfold qo;split
      case h_5=>
       rename_i n _;simp only[cz,aj] at hl;obtain⟨_,_,rfl,rfl,rfl⟩:=hl;exact Fu hf sQ hb he ⟨.float .f32 n.toNat,rfl,by simp only[aj]⟩
      all_goals first|trivial|(rename_i tH;cases tH)
     ·split
      ·rename_i hn;have gE:fn.name= "math.Float64frombits":=by simpa using hn
       have he:=Ft gE ho qaa qaa (e:=Extern.MathFloatBits.float64frombits) qaa qaa;unfold qo;split
       case h_4=>
        rename_i n _;simp only[cz,aj] at hl;obtain⟨_,_,rfl,rfl,rfl⟩:=hl;exact Fu hf sQ hb he ⟨.float .f64 n.toNat,rfl,by simp only[aj]⟩
       all_goals first|trivial|(rename_i tH;cases tH)
      ·split
       ·rename_i hn;have gE:fn.name= "math.Float64bits":=by simpa using hn
        have he:=Ft gE ho qaa qaa (e:=Extern.MathFloatBits.float64bits) qaa qaa;unfold qo;split
        case h_6=>
         rename_i n _;simp only[cz,aj] at hl;obtain⟨_,_,rfl,rfl,rfl⟩:=hl;exact Fu hf sQ hb he ⟨.int .u64 n,rfl,by simp only[aj];rfl⟩
        all_goals first|trivial|(rename_i tH;cases tH)
       ·unfold qo;split
        all_goals first|trivial|(rename_i tH;cases tH)
theorem PM{c:Option CX}{x:Option Operand}(h:Yj φ f a.eval c x):Cf φ (uS (λx=>x.get f) c) (x.map a.eval):=by cases c<;>cases x<;>first|exact h|trivial
theorem ans{b:BinOp}(hb:b≠.eql/\b≠.neq)(t:TypeId)(x y:Operand)(u v:Value):(do eqGuard b t x y u v;binOp b t u v:Sem Value).run P w=(binOp b t u v).run P w:=by cases b<;>first|rfl|exact absurd rfl hb.1 |exact absurd rfl hb.2
theorem dI.congr{s s':Sem Value}{x:OR}(h:dI P φ w s x)(e:s'.run P w=s.run P w):dI P φ w s' x:=by cases x<;>first|(obtain⟨v,h1,h2⟩:=h;exact⟨v,e.trans h1,h2⟩)|exact h
theorem tI{b:BinOp}{t ty:TypeId}{x y:Operand}{co:CO}(ho:o.op=.binOp b t x y ty)(hb:b≠.eql/\b≠.neq)(hp:dI P φ w (binOp b t (a.eval x) (a.eval y)) (aQ co f h)):Good P φ h w f a o co:=
 iO (s:=do eqGuard b t x y (a.eval x) (a.eval y);binOp b t (a.eval x) (a.eval y)) qak (hp.congr (ans hb t x y _ _))
theorem ant(G:jq φ P)(hf:iq φ f a.tmps){b:BinOp}{t ty:TypeId}{x y:Operand}(ho:o.op=.binOp b t x y ty):Good P φ h w f a o (F8 P b t x y):=by
 unfold F8;cases b<;>simp only[]
 case add=>exact kA G hf λc d hc hd=>tI ho ⟨by simp,by simp⟩ (afo t hc hd)
 case sub=>exact kA G hf λc d hc hd=>tI ho ⟨by simp,by simp⟩ (afp t hc hd)
 case mul=>exact kA G hf λc d hc hd=>tI ho ⟨by simp,by simp⟩ (afq t hc hd)
 case quo=>exact kA G hf λc d hc hd=>tI ho ⟨by simp,by simp⟩ (afs t hc hd)
 case rem=>exact kA G hf λc d hc hd=>tI ho ⟨by simp,by simp⟩ (afu t hc hd)
 case and=>exact kA G hf λc d hc hd=>tI ho ⟨by simp,by simp⟩ (M6 (.inl ⟨rfl,rfl⟩) t hc hd)
 case or=>exact kA G hf λc d hc hd=>tI ho ⟨by simp,by simp⟩ (M6 (.inr (.inl ⟨rfl,rfl⟩)) t hc hd)
 case xor=>exact kA G hf λc d hc hd=>tI ho ⟨by simp,by simp⟩ (M6 (.inr (.inr (.inl ⟨rfl,rfl⟩))) t hc hd)
 case andNot=>exact kA G hf λc d hc hd=>tI ho ⟨by simp,by simp⟩ (M6 (.inr (.inr (.inr ⟨rfl,rfl⟩))) t hc hd)
 case shl=>exact kA G hf λc d hc hd=>tI ho ⟨by simp,by simp⟩ (afv t hc hd)
 case shr=>exact kA G hf λc d hc hd=>tI ho ⟨by simp,by simp⟩ (afw t hc hd)
 case lss=>exact kA G hf λc d hc hd=>tI ho ⟨by simp,by simp⟩ (M7 .lss _ rfl t hc hd)
 case leq=>exact kA G hf λc d hc hd=>tI ho ⟨by simp,by simp⟩ (M7 .leq _ rfl t hc hd)
 case gtr=>exact kA G hf λc d hc hd=>tI ho ⟨by simp,by simp⟩ (M7 .gtr _ rfl t hc hd)
 case geq=>exact kA G hf λc d hc hd=>tI ho ⟨by simp,by simp⟩ (M7 .geq _ rfl t hc hd)
 case eql=>
  cases hk:B1 P t x y with
  |none=>exact cy
  |some k=>
   refine kA G hf λc d hc hd=>iO (s:=do eqGuard .eql t x y (a.eval x) (a.eval y);binOp .eql t (a.eval x) (a.eval y)) qak ?_;simp only[aQ,Dv];cases he:cJ k (c.get f) (d.get f) with
   |none=>trivial
   |some r=>exact⟨_,Yx (.inl ⟨rfl,rfl⟩) hk he hc hd,by simp only[aj];rfl⟩
 case neq=>
  cases hk:B1 P t x y with
  |none=>exact cy
  |some k=>
   refine kA G hf λc d hc hd=>iO (s:=do eqGuard .neq t x y (a.eval x) (a.eval y);binOp .neq t (a.eval x) (a.eval y)) qak ?_;simp only[aQ,Mo];cases he:cJ k (c.get f) (d.get f) with
   |none=>trivial
   |some r=>exact⟨_,Yx (.inr ⟨rfl,rfl⟩) hk he hc hd,by simp only[aj];rfl⟩
theorem anu(G:jq φ P)(hf:iq φ f a.tmps)(r:R φ h w){s d:TypeId}{x:Operand}(ho:o.op=.convert s d x):Good P φ h w f a o (F9 P s d x):=by
 have he:execOp a.eval o=(do pure (.value (<-convert s d (a.eval x)))):=by simp[execOp,ho]
 unfold F9;split;rename_i i k h1 h2;exact gY G hf λc hc=>iO he (afF h1 h2 hc);rename_i i k h1 h2;exact gY G hf λc hc=>iO he (afG h1 h2 hc);rename_i i k h1 h2;exact gY G hf λc hc=>iO he (afH h1 h2 hc);rename_i e h1 h2;split;rename_i h3 h4;exact gY G hf λc hc=>vf he (anh r h1 h2 h3 hc);exact cy;rename_i t h1 h2;split;rename_i n h3;exact gY G hf λc hc=>iO he (ani r h1 h2 h3 hc);exact cy;rename_i u h1 h2;split;rename_i n h3;split;rename_i h4;exact gY G hf λc hc=>iO he (anj r h1 h2 h3 h4 hc);exact cy;exact cy;exact cy
theorem ad8{ek:EK}{i m:Nat}{aD:Nat}{todo:List AV}{c:Nat}{x:AV}(hx:todo[c]? =some x):∀(n c0:Nat),c0<=c->c<c0+n->IS ek h i m aD (todo.eraseIdx c) x∈AK ek h i m aD todo n c0
 |0,c0,h1,h2=>zo
 |n+1,c0,h1,h2=>by
  simp only[AK]
  by_cases e:c0=c
  subst e;rw[Y2 c0 todo x hx];simp;have ih:IS ek h i m aD (todo.eraseIdx c) x∈AK ek h i m aD todo n (Nat.succ c0):=ad8 hx n (Nat.succ c0) zo zo;split;exact aug _ ih;exact ih
theorem anv{x:AV}{u:Value}{ty:TypeId}(r:R φ h w)(hx:aj φ x u):k6 P φ h w (Instr.next u false ty) (BV h x false):=by
 unfold BV;split;rename_i i off;refine zH (λrQ=>?_) λ_=>jY;rw[beq_iff] at rQ;subst rQ;simp only[aj] at hx;obtain⟨hd,rfl⟩:=hx;split;rename_i ek m aD todo eC hg;simp only[cond];split;rename_i es IT hm;refine zH (λhv=>?_) λ_=>jY;rw[beq_iff] at hv;subst hv;have hn:=agi (P:=P) (ty:=ty) r hg hm;have k8:∀v z,aj φ wm (.tuple #[.bool true,v,z]):=λv z=>by simp only[wm,aj];refine⟨_,rfl,qS.2 ⟨by simp only[aj],qS.2 ⟨by simp only[aj],qS.2 ⟨by simp only[aj],sJ⟩⟩⟩⟩
 split;rcases hn with⟨_,cS⟩|⟨c,x,v,z,w',hc,_⟩;exact⟨_,w,cS,by simp only[aj];exact⟨_,rfl,qS.2 ⟨by simp only[aj],sJ⟩⟩,.refl w⟩;simp at hc;rename_i e;rcases hn with⟨h0,_⟩|⟨c,x,v,z,w',hc,yS,cS,hR⟩;cases h0;have wE:c=0:=by simp at hc;exact hc
 subst wE;simp at yS;subst yS;exact⟨_,w',φ,cS,hR.1,hR.2,k8 v z⟩;rcases hn with⟨h0,_⟩|⟨c,x,v,z,w',hc,yS,cS,hR⟩;subst h0;rename_i h1 _;exact absurd rfl h1;exact⟨_,w',φ,IS ek h i m aD (todo.eraseIdx c) x,ad8 yS _ 0 (auz _) (by rw[tR];omega),cS,hR.1,hR.2,k8 v z⟩;exact jY;exact jY;exact jY
theorem anw{s:Sem Value}{x:AV}:k6 P φ h w s (BV h x true):=by unfold BV;split;refine zH (λ_=>?_) λ_=>jY;split<;>exact jY;exact jY
theorem anx(G:jq φ P)(hf:iq φ f a.tmps)(r:R φ h w){x:Operand}{s:Bool}(ho:o.op=.next x s):Good P φ h w f a o (ap P (λx=>.IF x s) x):=by
 have he:execOp a.eval o=(do pure (.value (<-Instr.next (a.eval x) s o.type))):=by simp[execOp,ho]
 refine gY G hf λc hc=>vf he ?_;cases s with
 |true=>exact anw
 |false=>exact anv r hc
theorem anz(G:jq φ P)(hf:iq φ f a.tmps)(r:R φ h w){t u e:TypeId}{ud:TypeDesc}{i:TypeInfo}{z:List AV}{s:Nat}{x y:Operand}(ht:P.underlying t=some (.slice e))(hu:P.underlying u=some ud)(lK:DJ ud=true)
 (hi:P.info? e=some i) (hs:i.size=s+1) (hz:rO P e=some z) (A1:gk z=s+1) (he:execOp a.eval o=(do pure (.value (<-Builtin.append_ #[t,u] o.type #[a.eval x,a.eval y])))):Good P φ h w f a o (jm P (.append e (s+1) i.bytes) x y):=by
 have ad9:(∃e',ud=.slice e')\/ud=.string:=by cases ud<;>first|exact .inl ⟨_,rfl⟩|exact .inr rfl|(simp[DJ] at lK)
 have mO:0<i.size:=zo;have ad':z.length=i.size:=by rw[tR] at A1;omega
 refine kA G hf λc d hc hd=>vf he ?_;simp only[aQ];rw[<-hs];cases hx:c.get f with
 |bx=>
  rw[hx] at hc;simp only[aj] at hc;rw[hc];exact agt r ht hu ad9 hi hz mO ad' hd
 |slice q off nN len cap ex=>rw[hx] at hc;exact agy r ht hu ad9 hi hz mO ad' hc hd
 |_=>
  unfold kJ;split;split<;>exact jY;exact jY
theorem PN{l m:List AV}{us vs:List Value}(h1:cz φ l us)(h2:cz φ m vs):cz φ (fF l m) (us++vs):=by rw[XW];exact XV h1 h2
theorem anA{b:Builtin}{c:Go.Call}(ho:o.op=.call c)(hc:c.callee=.builtin b):
 ∃cs,execOp a.eval o=builtin b c.argTypes o.type cs (c.args.map a.eval):=by
 refine⟨c.args.map fun|.const _=>true|_=>false,?_⟩;simp[execOp,ho,resolve,hc,invoke];rfl
theorem toList_map(l:Array Operand):(l.map a.eval)=(l.toList.map a.eval).toArray:=by apply axK;simp
theorem anB(G:jq φ P)(hf:iq φ f a.tmps)(r:R φ h w){b:Builtin}{c:Go.Call}(ho:o.op=.call c)(xD:c.callee=.builtin b):Good P φ h w f a o (DL P b c.argTypes.toList c.args.toList):=by
 obtain⟨cs,jz⟩:=anA (a:=a) ho xD;rw[toList_map] at jz;have hat:c.argTypes=c.argTypes.toList.toArray:=by simp
 rw[hat] at jz;generalize c.argTypes.toList=at_ at jz⊢;generalize c.args.toList=args at jz⊢;unfold DL;split;rename_i x y t u;split;rename_i e ud h1 h2;split;rename_i h3;split;rename_i i h4;split;rename_i s z h5 h6;split;rename_i h7;exact anz G hf r h1 h2 h3 h4 h5 h6 h7 jz;exact cy;exact cy;exact cy;exact cy;exact cy;rename_i x t;have uJ:execOp a.eval o=(do pure (.value (<-Builtin.len_ #[t] o.type #[a.eval x]))):=jz;split;rename_i h1;exact gY G hf λc hc=>iO uJ (Ss r h1 (.inl ⟨rfl,rfl⟩) hc);rename_i e h1;exact gY G hf λc hc=>iO uJ (Ss r h1 (.inr (.inl ⟨rfl,e,rfl⟩)) hc);rename_i q e h1;exact gY G hf λc hc=>iO uJ (Ss r h1 (.inr (.inr ⟨rfl,q,e,rfl⟩)) hc);rename_i n e h1;refine iO uJ ?_;exact⟨.int .i64 n,by simp[Builtin.len_,bZ h1,goInt],by simp only[CX.get,aj]⟩;exact cy;rename_i x y t u;have uJ:execOp a.eval o=(do pure (.value (<-Builtin.copy_ #[t,u] o.type #[a.eval x,a.eval y]))):=jz;split;rename_i e h1;split;rename_i s h2;exact kA G hf λc d hc hd=>vf uJ (agA r h1 h2 (Nat.succ_pos s) hc hd);exact cy;exact cy;have uJ:execOp a.eval o=(do pure (.value (<-Builtin.min_ at_.toArray o.type (args.map a.eval).toArray))):=jz;refine Cc G hf λcs hl=>iO uJ ?_;simp only[aQ];cases hm:jc (λx=>x.get f) cs with
 |nil=>trivial
 |cons q l=>
  rw[hm] at hl;simp only[cz] at hl;obtain⟨u,vs,hu,h1,h2⟩:=hl;have:=WD (P:=P) (w:=w) (le:=true) l vs h1 h2;rw[hu];exact this
 have uJ:execOp a.eval o=(do pure (.value (<-Builtin.max_ at_.toArray o.type (args.map a.eval).toArray))):=jz;refine Cc G hf λcs hl=>iO uJ ?_;simp only[aQ];cases hm:jc (λx=>x.get f) cs with
 |nil=>trivial
 |cons q l=>
  rw[hm] at hl;simp only[cz] at hl;obtain⟨u,vs,hu,h1,h2⟩:=hl;have:=WD (P:=P) (w:=w) (le:=false) l vs h1 h2;rw[hu];exact this
 rename_i x;have uJ:execOp a.eval o=(do pure (.value (<-Builtin.unsafeSliceData_ at_.toArray o.type #[a.eval x]))):=jz;exact gY G hf λc hc=>iO uJ (af' hc);rename_i x n t lt;have uJ:execOp a.eval o=(do pure (.value (<-Builtin.unsafeString_ #[t,lt] o.type #[a.eval x,a.eval n]))):=jz;split;rename_i u h1;split;rename_i h2;split;rename_i h3;simp only[atW] at h3;exact kA G hf λc d hc hd=>vf uJ (ano r h1 h2 h3.2 hc hd);exact cy;exact cy;exact cy;unfold Good;trivial;exact cy
theorem aea{fo:Operand}{c:Go.Call}(ho:o.op=.call c)(hc:c.callee=.value fo){g:Nat}{fs cs:Array Value}(hv:a.eval fo=.func (.func g) fs cs):
 execOp a.eval o=callFunc g ((fs++c.args.map a.eval)++cs):=by
 simp[execOp,ho,resolve,hc,hv,Deferred.ofValue,invoke]
theorem anC{t:Nat}{g:aM}:∀{l:List (Nat×aM)},Qc t l=some g->(t,g)∈l
 |[],h=>by cases h
 |p::l,h=>by
  simp only[Qc] at h;cases hb:Nat.beq p.1 t with
  |true=>
   rw[hb] at h;cases h;rw[<-at7 hb];exact au0 ..
  |false=>rw[hb] at h;exact aug _ (anC h)
theorem anD(G:jq φ P)(hf:iq φ f a.tmps)(r:R φ h w){c:Go.Call}(ho:o.op=.call c):Good P φ h w f a o (AQ P c):=by
 unfold AQ;split;rename_i g xD;have jz:=aea (a:=a) ho xD (g:=g) (fs:=#[]) (cs:=#[]) rfl;have A4:(#[]++c.args.map a.eval++#[]:Array Value)=(c.args.toList.map a.eval).toArray:=by apply axK;simp
 rw[A4] at jz;split;rename_i fn zL;split;exact cy;rename_i sQ;have anE:(fn.name== "runtime.NumGoroutine")=false:=by simpa using sQ
 split;rename_i hb;split;rename_i hor;refine Cc G hf λcs hl=>?_;unfold Good;rw[jz];exact anr zL anE hb (by simpa using hor) hl;exact cy;refine Cc G hf λcs hl=>?_;unfold Good;rw[jz];exact⟨_,w,rfl,.refl w,hl⟩;exact cy;rename_i fo _ xD;refine gY G hf λcf rS=>Cc G hf λcs hl=>?_;unfold Good;simp only[aQ,Ms];cases hx:cf.get f with
 |func g first cap=>
  rw[hx] at rS;simp only[aj] at rS;obtain⟨fs,sV,hv,d1,d2⟩:=rS;rw[aea (a:=a) ho xD hv];refine⟨_,w,rfl,.refl w,?_⟩;have:=PN d1 (PN hl d2);simpa[av7] using this
 |_=>trivial
 rename_i rv m xD;exact cy;rename_i b xD;exact anB G hf r ho xD
end
end Yv
