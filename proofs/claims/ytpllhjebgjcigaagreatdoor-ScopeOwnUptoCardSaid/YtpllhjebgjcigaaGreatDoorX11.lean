/- A part of the proof of 'ScopeOwnUptoCardSaid'. No condition. -/
import Derived.Test.YtpllhjebgjcigaaGreatDoorX10
set_option maxHeartbeats 16000000
set_option maxRecDepth 100000
set_option linter.all false
namespace Yv
variable{T:aM->Option CF}
structure jv where
 bu:List UInt8->List aC
 kW:List aC
 nd:List aC
 rE:Bool
def rF(o:AO):Prop:=∃r f,o=.rows 34 5 r 0 f
structure gW(M:Nat->Prop)(h h':Hp):Prop where
 nx:h.nx<=h'.nx
 get:∀i,i<h.nx->¬M i->¬rF (h.get i)->h'.get i=h.get i
def DM(aG tb pb mb:Nat)(i:Nat):Prop:=i=aG\/i=tb\/i=pb\/i=mb
structure gj(p aG tb pb mb:Nat)(c0 c1 c2 c9:AV)(f:cN)(n:Nat)(h:Hp)(s:jv)(B:Kk->Option Nat)(D:Kk->List aC):Prop where
 hp:h.get p=.one 52 (bS c0 c1 c2 f (.map aG) (.map tb) (.map pb) c9)
 nd:lX h aG s.nd
 bP:nF h tb pb mb B D
 d0:∀q,D (0,q)=s.bu q
 d3:D (3,[])=s.kW
 yK:s.rE=false->∀q,D (1,q)=[]/\D (2,q)=[]
 len:∀κ,(D κ).length<=s.nd.length
 imp:∀d∈s.kW,∃i:Nat,i<n/\d.doc=i
 ne:aG≠tb/\aG≠pb/\aG≠mb
section
variable{h h':Hp}{p aG tb pb mb n:Nat}{c0 c1 c2 c9:AV}{f:cN}{s:jv}{B:Kk->Option Nat}{D:Kk->List aC}{d:aC}
theorem gW.refl{M}(h:Hp):gW M h h:=⟨at2 _,λ_ _ _ _=>rfl⟩
theorem gW.trans{M}{a b c:Hp}(x:gW M a b)(y:gW M b c):gW M a c:=⟨at1 x.nx y.nx,λi hi hm h34=>by have e:=x.get i hi hm h34;rw[y.get i (aur hi x.nx) hm (by rw[e];exact h34),e]⟩
theorem gW.of{M}{a b:Hp}(x:ah M a b):gW M a b:=⟨x.nx,λi hi hm _=>x.get i hi hm⟩
theorem gj.Lj(x:gj p aG tb pb mb c0 c1 c2 c9 f n h s B D):∃es aD,h.get aG=.map es aD:=by obtain⟨L,aD,q,_⟩:=x.nd;exact⟨_,_,q⟩
theorem gj.pne(x:gj p aG tb pb mb c0 c1 c2 c9 f n h s B D):¬DM aG tb pb mb p:=by have hp:=x.hp;rintro(rfl|rfl|rfl|rfl);obtain⟨es,aD,q⟩:=x.Lj;rw[q] at hp;cases hp;obtain⟨es,aD,q⟩:=x.bP.lZ 0 zd;rw[show ja p pb mb 0=p from rfl] at q;rw[q] at hp;cases hp;obtain⟨es,aD,q⟩:=x.bP.lZ 1 zd;rw[show ja tb p mb 1=p from rfl] at q;rw[q] at hp;cases hp;obtain⟨es,aD,q⟩:=x.bP.lZ 2 zd;rw[show ja tb pb p 2=p from rfl] at q;rw[q] at hp;cases hp
theorem gj.Vn(x:gj p aG tb pb mb c0 c1 c2 c9 f n h s B D){i:Nat}(hi:i=p\/i=aG\/i=tb\/i=pb\/i=mb)(κ:Kk):B κ≠some i:=by intro e;have rb:=((x.bP.rows κ).2 _ e).2;rcases hi with rfl|rfl|rfl|rfl|rfl;exact rb.acn x.hp;obtain⟨es,aD,q⟩:=x.Lj;exact rb.E2 q;obtain⟨es,aD,q⟩:=x.bP.lZ 0 zd;exact rb.E2 q;obtain⟨es,aD,q⟩:=x.bP.lZ 1 zd;exact rb.E2 q;obtain⟨es,aD,q⟩:=x.bP.lZ 2 zd;exact rb.E2 q
theorem gj.g0(x:gj p aG tb pb mb c0 c1 c2 c9 f n h s B D)(g:ax h h'):gj p aG tb pb mb c0 c1 c2 c9 f n h' s B D:=by have lt:=x.bP.lt;refine⟨(g.get _ (Hp.lt x.hp rfl) id).trans x.hp,x.nd.mono (g.get _ x.nd.lt id),x.bP.mono λi hi=>g.get i ?_ id,x.d0,x.d3,x.yK,x.len,x.imp,x.ne⟩;rcases hi with rfl|rfl|rfl|⟨κ,e⟩;exact lt.1;exact lt.2.1;exact lt.2.2;exact((x.bP.rows κ).2 _ e).2.lt
theorem gj.note(x:gj p aG tb pb mb c0 c1 c2 c9 f n h s B D)(g:ah (·=aG) h h')(hn:lX h' aG (d::s.nd)):gj p aG tb pb mb c0 c1 c2 c9 f n h' {s with nd:=d::s.nd} B D:=by have lt:=x.bP.lt;obtain⟨n1,n2,n3⟩:=x.ne;have pn:p≠aG:=λe=>x.pne (.inl e);refine⟨(g.get _ (Hp.lt x.hp rfl) pn).trans x.hp,hn,x.bP.mono λi hi=>?_,x.d0,x.d3,x.yK,λκ=>awv (x.len κ),x.imp,x.ne⟩;rcases hi with rfl|rfl|rfl|⟨κ,e⟩;exact g.get _ lt.1 (Ne.symm n1);exact g.get _ lt.2.1 (Ne.symm n2);exact g.get _ lt.2.2 (Ne.symm n3);exact g.get _ ((x.bP.rows κ).2 _ e).2.lt λq=>x.Vn (.inr (.inl q)) κ e
def vQ(t:List UInt8->List aC)(q:List UInt8)(l:List aC):List UInt8->List aC:=λa=>if a=q then l else t a
theorem gj.add(x:gj p aG tb pb mb c0 c1 c2 c9 f n h {s with nd:=d::s.nd} B D)(pP:∀κ,(D κ).length<=s.nd.length) {c:Nat} (hc:c<3) (q:List UInt8) (bz:s.nd.length<536870912) {t1:Nat->List AV} (E4:t1 0=d.row) {h1:Hp} (e1:h1=h.push (.rows 34 5 1 0 t1)):
 ∃H' o,kJ h1 34 5 56 (kV (B (c,q)) (D (c,q))) (.slice h.nx 0 5 1 1 true)=.vh (qc h1.nx (D (c,q)++[d])) H'/\wk (.cell .str) H' (.map (ja tb pb mb c)) (S q) (qc h1.nx (D (c,q)++[d]))=.vh undef (H'.set (ja tb pb mb c) o)/\
  (∀i,i<h.nx->¬rF (h.get i)->H'.get i=h.get i)/\h.nx<H'.nx/\
  gj p aG tb pb mb c0 c1 c2 c9 f n (H'.set (ja tb pb mb c) o) {s with bu:=if c=0 then vQ s.bu q (s.bu q++[d]) else s.bu,nd:=d::s.nd,rE:=if c=0 then s.rE else true} (iY B (c,q) (some h1.nx)) (iY D (c,q) (D (c,q)++[d]))/\
  gW (DM aG tb pb mb) h (H'.set (ja tb pb mb c) o):=by
 have g01:ax h h1:=by rw[e1];exact aZ
 have xp:h1.nx=h.nx+1:=by rw[e1];rfl
 have x1:=x.g0 g01;have hs:rD h1 h.nx [d]:=by
  refine⟨1,t1,by rw[e1];exact Hp.br rfl,by simp,λj hj=>?_⟩;obtain rfl:j=0:=by simp at hj;omega
  exact E4
 have GR:∀κ,B κ≠some h.nx:=λκ e=>by have:=((x.bP.rows κ).2 _ e).2.lt;omega
 obtain⟨H',ea,l1,hr,he⟩:=x1.bP.fF (c,q) (ds:=[d]) (sv:=.slice h.nx 0 5 1 1 true) rfl hs zm (GR _) (by have:=pP (c,q);simp;omega);obtain⟨o,em,OS⟩:=x1.bP.put hc zm zl hr he;have GS:∀i,i<h1.nx->¬rF (h1.get i)->H'.get i=h1.get i:=λi hi h34=>he i hi λe=>by obtain⟨r,t,w,_⟩:=((x1.bP.rows _).2 _ e).2;exact h34 ⟨r,t,w⟩
 have C4:∀i,i<h.nx->¬rF (h.get i)->H'.get i=h.get i:=λi hi h34=>by rw[GS i zo (by rw[g01.get i hi id];exact h34),g01.get i hi id]
 have n34:∀{es aD},¬rF (.map es aD):=λ⟨_,_,e⟩=>by cases e
 have Vo:=OS (H'.set (ja tb pb mb c) o) (Hp.bR rfl) (λi hi=>Hp.de hi);obtain⟨n1,n2,n3⟩:=x.ne;have pm:p≠ja tb pb mb c:=λe=>x.pne qaq;have nm:aG≠ja tb pb mb c:=by unfold ja;split;exact n1;split;exact n2;exact n3
 refine⟨H',o,ea,em,C4,by omega,⟨?_,x.nd.mono ?_,Vo,λq'=>?_,?_,λho q'=>?_,λκ=>?_,x.imp,x.ne⟩,⟨?_,λi hi hm h34=>?_⟩⟩;rw[Hp.de pm,C4 p (Hp.lt x.hp rfl) qbl];exact x.hp;obtain⟨es,aD,w⟩:=x.Lj;rw[Hp.de nm,C4 _ x.nd.lt (by rw[w];exact n34)];unfold iY
 by_cases h0:c=0
 subst h0;simp only[auo];unfold vQ;have:=x.d0 q'
 by_cases e:q'=q
 subst e;rw[atV rfl,atV rfl,this];rw[atS qaf,atS e,this];rw[atS (by simp;intro e;exact absurd e.symm h0)];simp only[h0,auM];exact x.d0 q';unfold iY;rw[atS (by simp;intro e;omega)];exact x.d3
 by_cases h0:c=0
 subst h0;simp only[auo] at ho;unfold iY;rw[atS zm,atS zm];exact x.yK ho q';simp only[h0,auM] at ho;cases ho;unfold iY;split;have:=pP (c,q);simp;omega;exact awv (pP κ);have:=x.bP.lt;rw[Hp.tT];omega;unfold ja;split;omega;split<;>omega;have bg:i≠ja tb pb mb c:=λe=>hm qaq;rw[Hp.de bg,C4 i hi h34]
theorem gj.ale(x:gj p aG tb pb mb c0 c1 c2 c9 f n h {s with nd:=d::s.nd} B D)(pP:∀κ,(D κ).length<=s.nd.length) (bz:s.nd.length<536870912) {t1:Nat->List AV} (E4:t1 0=d.row) (Vp:∃i:Nat,i<n/\d.doc=i) {h1:Hp} (e1:h1=h.push (.rows 34 5 1 0 t1)):
 ∃H',kJ h1 34 5 56 (kV (B (3,[])) (D (3,[]))) (.slice h.nx 0 5 1 1 true)=.vh (qc h1.nx (D (3,[])++[d])) H'/\(∀i,i<h.nx->¬rF (h.get i)->H'.get i=h.get i)/\h.nx<H'.nx/\
  gj p aG tb pb mb c0 c1 c2 c9 f n H' {s with kW:=s.kW++[d],nd:=d::s.nd} (iY B (3,[]) (some h1.nx)) (iY D (3,[]) (D (3,[])++[d])):=by
 have g01:ax h h1:=by rw[e1];exact aZ
 have xp:h1.nx=h.nx+1:=by rw[e1];rfl
 have x1:=x.g0 g01;have hs:rD h1 h.nx [d]:=by
  refine⟨1,t1,by rw[e1];exact Hp.br rfl,by simp,λj hj=>?_⟩;obtain rfl:j=0:=by simp at hj;omega
  exact E4
 have GR:∀κ,B κ≠some h.nx:=λκ e=>by have:=((x.bP.rows κ).2 _ e).2.lt;omega
 obtain⟨H',ea,l1,hr,he⟩:=x1.bP.fF (3,[]) (ds:=[d]) (sv:=.slice h.nx 0 5 1 1 true) rfl hs zm (GR _) (by have:=pP (3,[]);simp;omega);have GS:∀i,i<h1.nx->¬rF (h1.get i)->H'.get i=h1.get i:=λi hi h34=>he i hi λe=>by obtain⟨r,t,w,_⟩:=((x1.bP.rows _).2 _ e).2;exact h34 ⟨r,t,w⟩
 have C4:∀i,i<h.nx->¬rF (h.get i)->H'.get i=h.get i:=λi hi h34=>by rw[GS i zo (by rw[g01.get i hi id];exact h34),g01.get i hi id]
 have n34:∀{es aD},¬rF (.map es aD):=λ⟨_,_,e⟩=>by cases e
 have key:∀E3,B E3≠some h1.nx:=λE3 e=>by have:=((x1.bP.rows E3).2 _ e).2.lt;omega
 have Vo:nF H' tb pb mb (iY B (3,[]) (some h1.nx)) (iY D (3,[]) (D (3,[])++[d])):=by
  refine⟨λc hc=>?_,λκ=>?_,λκ xq b h1' h2'=>?_,x.bP.ne⟩;obtain⟨L,m,w⟩:=x1.bP.map c hc;refine⟨L,m.mono (he _ m.lt λe=>?_),λq=>?_⟩;obtain⟨es,aD,w'⟩:=x1.bP.lZ c hc;exact((x1.bP.rows _).2 _ e).2.E2 w';have bg:((c,q):Kk)≠(3,[]):=by intro e;have:=aui Prod.fst e;simp at this;omega
  rw[w];unfold iY;rw[atS bg,atS bg];unfold iY
  by_cases hk:κ=(3,[])
  subst hk;simp only[auo];exact⟨λe=>qbj,λb e=>by cases e;exact⟨by simp,hr⟩⟩;simp only[hk,auM];refine⟨(x1.bP.rows κ).1,λb e=>⟨((x1.bP.rows κ).2 b e).1,?_⟩⟩;have rb:=((x1.bP.rows κ).2 b e).2;exact rb.mono (he b rb.lt λe'=>hk (x1.bP.inj _ _ _ e e'));unfold iY at h1' h2'
  by_cases k1:κ=(3,[])
  by_cases k2:xq=(3,[])
  rw[k1,k2];rw[atV k1] at h1';rw[atS k2] at h2';cases h1';exact absurd h2' (key _)
  by_cases k2:xq=(3,[])
  rw[atV k2] at h2';rw[atS k1] at h1';cases h2';exact absurd h1' (key _);rw[atS k1] at h1';rw[atS k2] at h2';exact x1.bP.inj _ _ _ h1' h2'
 refine⟨H',ea,C4,by omega,⟨?_,x.nd.mono ?_,Vo,λq'=>?_,?_,λho q'=>?_,λκ=>?_,λd' bC=>?_,x.ne⟩⟩;rw[C4 p (Hp.lt x.hp rfl) qbl];exact x.hp;obtain⟨es,aD,w⟩:=x.Lj;rw[C4 _ x.nd.lt (by rw[w];exact n34)];unfold iY;rw[atS zm];exact x.d0 q';unfold iY;rw[atV rfl];have:=x.d3;simp only at this;rw[this]
 unfold iY;rw[atS zm,atS zm];exact x.yK ho q';unfold iY;split;have:=pP (3,[]);simp;omega;exact awv (pP κ);rcases auj.1 bC with hh|hh;exact x.imp _ hh;obtain rfl:=awQ.1 hh;exact Vp
end
section
variable{h h':Hp}{p aG tb pb mb n:Nat}{c0 c1 c2 c9:AV}{f:cN}{s:jv}{B:Kk->Option Nat}{D:Kk->List aC}{d:aC}
theorem gj.maps(x:gj p aG tb pb mb c0 c1 c2 c9 f n h s B D):∀i,DM aG tb pb mb i->∃es aD,h.get i=.map es aD:=by rintro i (rfl|rfl|rfl|rfl);exact x.Lj;exact x.bP.lZ 0 zd;exact x.bP.lZ 1 zd;exact x.bP.lZ 2 zd
theorem gj.C5(x:gj p aG tb pb mb c0 c1 c2 c9 f n h s B D)(g:gW (DM aG tb pb mb) h h'){i:Nat}{o:AO}(e:h.get i=o)(hn:jN o=false)(h1:∀es aD,o≠.map es aD) (h2:¬rF o):h'.get i=o:=by rw[g.get i (Hp.lt e hn) (λm=>by obtain⟨es,aD,w⟩:=x.maps i m;rw[e] at w;exact h1 _ _ w) (by rw[e];exact h2)];exact e
theorem gj.one(x:gj p aG tb pb mb c0 c1 c2 c9 f n h s B D)(g:gW (DM aG tb pb mb) h h'){i el l}(e:h.get i=.one el l):h'.get i=.one el l:=
 x.C5 g e rfl (λ_ _ q=>by cases q) (λ⟨_,_,q⟩=>by cases q)
theorem gj.nf(x:gj p aG tb pb mb c0 c1 c2 c9 f n h s B D)(g:gW (DM aG tb pb mb) h h'):NF 0 h h':=λi r ff _ e=>
 x.C5 g e rfl (λ_ _ q=>by cases q) (λ⟨_,_,q⟩=>by cases q)
theorem gj.Au(x:gj p aG tb pb mb c0 c1 c2 c9 f n h s B D)(g:gW (DM aG tb pb mb) h h'){v:AV}{ws}(y:cY h v ws):cY h' v ws:=by obtain⟨b,cap,ex,r,t,e1,hb,h1⟩:=y;exact⟨b,cap,ex,r,t,e1,x.C5 g hb rfl (λ_ _ q=>by cases q) (λ⟨_,_,q⟩=>by cases q),h1⟩
def yL(dir:List UInt8)(j:Nat):List Tree->jv->jv
 |[],s=>s
 |t::ts,s=>yL dir j ts {s with nd:=⟨5,t.name,j,t.at,dir⟩::s.nd,rE:=true}
theorem OT{dir j}:∀(ts:List Tree)(s:jv),s.nd.length<=(yL dir j ts s).nd.length
 |[],_=>at2 _
 |t::ts,s=>at1 (axX s.nd.length) (OT ts {s with nd:=⟨5,t.name,j,t.at,dir⟩::s.nd,rE:=true})
theorem alf(HT:aA T){j m:Nat}{kv:AV}{key:List UInt8}{aq:List (List UInt8)}(hj:j<aq.length):∀(ts:List Tree)(i:Nat)(s:jv)(h:Hp)(B:Kk->Option Nat)(D:Kk->List aC)(fr:Fr)(K:aT->Prop),i+ts.length=m->m<4294967296->gj p aG tb pb mb c0 c1 c2 c9 f n h s B D->cY h c2 aq->
 (ts≠[]->∃b cap ex r ff,kv=.slice b 0 6 m cap ex/\h.get b=.rows 39 6 r 0 ff/\m<=r/\∀q,(hq:q<ts.length)->ay 0 h ts[q] (ff (i+q)))->(yL aq[j] j ts s).nd.length<536870912->
 J 0 fr=.ptr p 0->J 4 fr=.i j->J 8 fr=S key->J 124 fr=kv->J 125 fr=.i m->J 126 fr=.i i->
 (∀f' h' B' D',(∀q,q<=123/\q≠10->J q f'=J q fr)->gW (DM aG tb pb mb) h h'->gj p aG tb pb mb c0 c1 c2 c9 f n h' (yL aq[j] j ts s) B' D'->B' (3,[])=B (3,[])/\D' (3,[])=D (3,[])->K (.exit 5 f' h' []))->W T (.loop l33_4) fr h [] K:=by
 intro ts
 induction ts with
 |nil=>
  intro i s h B D fr K hi hm x hd hb bz f0 f4 f8 f124 f125 f126 hk;simp only[aup,aud] at hi;subst hi;rw[aP];refine aU f124 f125 f126 ?_;exact hk _ _ B D (λq hq=>by repeat rw[eG (m:=124) zo zd]) (gW.refl _) x ⟨rfl,rfl⟩
 |cons t ts ih=>
  intro i s h B D fr K hi hm x hd hb bz f0 f4 f8 f124 f125 f126 hk;obtain⟨b,cap,ex,r,ff,rfl,hb,hr,iW⟩:=hb zm;simp only[atX] at hi;have ao:i<m:=zo;have aY:(i:Int)<m:=zo;have eJ:=iW 0 zm;simp only[aus,aud] at eJ;obtain⟨kv,jE,hkv⟩:=eJ.cells;have lb:=Hp.lt hb rfl;unfold yL at bz hk;have hp:=x.hp;have lp:=Hp.lt hp rfl;simp only[bS] at hp;have By:=x.bP.lt;have fC:∀H:Hp,nF H tb pb mb B D->me (.cell .str) H .bx (.map pb) (S key) false=.v (kV (B (1,key)) (D (1,key))):=λH y=>y.jV (c:=1) zd;have gA:ax h ((h.push (.one 39 [.i 0,.i 0,.i 0,.i 0,S [],.bx])).set h.nx (.one 39 [.i t.kind,.i t.ak,.i t.to,.i t.at,S t.name,kv])):=fZ;have xA:=x.g0 gA;have aco:=fC _ xA.bP;have zB:fP (kV (B (1,key)) (D (1,key))) (kV (B (1,key)) (D (1,key)))=true:=Eh _;rw[aP];refine kC f0 f4 f8 f124 f125 f126 ao aY hb jE hkv.bQ hp aco ?_;generalize hH:((h.push _).set _ _:Hp)=H at gA xA aco⊢;have u1:H.get h.nx=.one 39 [.i t.kind,.i t.ak,.i t.to,.i t.at,S t.name,kv]:=by rw[<-hH];simp(disch:=omega)
  clear hH;have hdA:=hd.mono (M:=λ_=>False) gA λ_ _ _ _=>id;refine CV HT (p:=p) (aG:=aG) (j:=j) (N:=s.nd) xA.hp xA.nd hdA hj λh2 gn cZ=>?_;have en:(⟨5,t.name,(j:Int),t.at,if(5:Int)=1 then t.name else aq[j]⟩:aC)=⟨5,t.name,j,t.at,aq[j]⟩:=by simp
  rw[en] at cZ⊢;generalize vg:(⟨5,t.name,(j:Int),t.at,aq[j]⟩:aC)=dd at*;have x2:=xA.note gn cZ;have eK:=x2.hp;simp only[bS] at eK;have yM:=Hp.lt eK rfl;have atk:=x2.bP.lt;have At:=fC _ x2.bP;have gB:ax h2 (h2.push (.rows 34 5 1 0 (cx (cx fG 0 [.i 0,S [],.i 0,.i 0,S []]) 0 [.i dd.kind,S dd.name,.i dd.doc,.i dd.at_,S dd.dir]))):=aZ;have E5:=fC _ (x2.g0 gB).bP;obtain⟨H',o,ea,em,vR,lH,x4,g4⟩:=x2.add x.len (c:=1) zd key (auD (at1 (axX s.nd.length) (OT ts {s with nd:=dd::s.nd,rE:=true})) bz) (t1:=cx (cx fG 0 [.i 0,S [],.i 0,.i 0,S []]) 0 [.i dd.kind,S dd.name,.i dd.doc,.i dd.at_,S dd.dir]) qaS rfl;have lB:H'.get p=_:=(vR p yM qaI).trans eK;simp only[aC.row];refine cC eK At E5 zB ea ?_;have eM:ja tb pb mb 1=pb:=rfl;rw[eM] at em x4 g4;simp only[Hp.eE] at em;refine bK lB em f126 ao ?_;have g24:gW (DM aG tb pb mb) h (H'.set pb o):=((gW.of (ah.cn gA)).trans (gW.of (gn.mono λ_ _ q=>.inl q))).trans g4;have nf:=x.nf g24;refine ih (i+1) _ (H'.set pb o) _ _ _ K zo hm x4 (x.Au g24 hd) (λ_=>⟨b,cap,ex,r,ff,rfl,nf _ _ _ (auz _) hb,hr,λq hq=>?_⟩) bz zA zA zA zA zA aa λf' h' B' D' hf g' x' e3=>hk f' h' B' D' (λq hq=>?_) (g24.trans g') x' ⟨e3.1.trans (by unfold iY;rw[atS zm]),e3.2.trans (by unfold iY;rw[atS zm])⟩;have:=iW (q+1) zn;simp only[auu,show i+(q+1)=i+1+q by omega] at this;exact this.nf nf zl
  ·rw[hf q hq];have:=hq.2
   repeat first|rw[eG (m:=124) zo zd]|rw[qA,atS this]
end
section
variable{h h':Hp}{k:aK->Prop}{p aG tb pb mb n:Nat}{c0 c1 c2 c9:AV}{f:cN}{s:jv}{B:Kk->Option Nat}{D:Kk->List aC}{d:aC}
theorem acp(HT:aA T){a b:List UInt8}(ha:a.length<4294967296)(hb:b.length<4294967296)(hk:k (.ret (S (a++[32]++b)) h)):aE T (W T) ⟨60⟩ [S a,S b] h k:=by rw[aJ HT.t60];have e1:lG (S a) (S [32])=.v (S (a++[32])):=Tc zn;have e2:lG (S (a++[32])) (S b)=.v (S (a++[32]++b)):=Tc zn;refine aS e1 e2 ?_;simpa using hk
def kX(dir:List UInt8)(j:Nat)(t:Tree)(s:jv):jv:=
 if t.kind=2 then{s with kW:=s.kW++[⟨1,t.name,j,t.at,t.name⟩],nd:=⟨1,t.name,j,t.at,t.name⟩::s.nd}
 else if t.kind=3 then yL dir j t.kids {s with bu:=vQ s.bu dir (s.bu dir++[⟨2,t.name,j,t.at,dir⟩]),nd:=⟨2,t.name,j,t.at,dir⟩::s.nd}
 else if(t.kids.headD zT).kind=0 then{s with bu:=vQ s.bu dir (s.bu dir++[⟨3,t.name,j,t.at,dir⟩]),nd:=⟨3,t.name,j,t.at,dir⟩::s.nd}
 else{s with nd:=⟨4,t.name,j,t.at,dir⟩::s.nd,rE:=true}
def tB(dir:List UInt8)(j:Nat):List Tree->jv->jv
 |[],s=>s
 |t::ts,s=>tB dir j ts (kX dir j t s)
def yN(t:Tree):Prop:=t.kind=2\/(t.kind=3/\t.name.length<4294967296)\/(t.kind≠3/\t.kids≠[]/\((t.kids.headD zT).kind≠0->(t.kids.headD zT).kids≠[]/\((t.kids.headD zT).kids.headD zT).name.length<4294967296))
theorem alg{dir j}(t:Tree)(s:jv):s.nd.length+1<=(kX dir j t s).nd.length:=by unfold kX;split;simp;split;exact OT t.kids {s with bu:=vQ s.bu dir (s.bu dir++[⟨2,t.name,j,t.at,dir⟩]),nd:=⟨2,t.name,j,t.at,dir⟩::s.nd};split<;>simp
theorem Vq{dir j}:∀(ts:List Tree)(s:jv),s.nd.length<=(tB dir j ts s).nd.length
 |[],_=>at2 _
 |t::ts,s=>at1 (at1 (axX _) (alg t s)) (Vq ts (kX dir j t s))
def fN(fr:Fr)(B:Kk->Option Nat)(D:Kk->List aC):Prop:=J 3 fr=kV (B (3,[])) (D (3,[]))
theorem E6{α:Type}{B:Kk->α}{κ xq:Kk}{x:α}(h:xq≠κ):iY B κ x xq=B xq:=by unfold iY;rw[atS h]
theorem atl:True:=trivial
end
theorem Vr:∀{l:List Tree}(h:0<l.length),l[0]=l.headD zT
 |a::l,_=>rfl
section
variable{h h':Hp}{k:aK->Prop}{p aG tb pb mb n:Nat}{c0 c1 c2 c9:AV}{f:cN}{s:jv}{B:Kk->Option Nat}{D:Kk->List aC}{d:aC}{j nc:Nat}{aq:List (List UInt8)}{t:Tree}{row:List AV}{fr:Fr}{K:aT->Prop}
def Ll(p aG tb pb mb:Nat)(c0 c1 c2 c9:AV)(f:cN)(n:Nat)(fr:Fr)(h:Hp)(s:jv)(K:aT->Prop):Prop:=
 ∀f' h' B' D',(∀q,q=0\/q=2\/q=4\/q=34\/q=35\/q=36\/22<=q/\q<=28->J q f'=J q fr)->fN f' B' D'->gW (DM aG tb pb mb) h h'->gj p aG tb pb mb c0 c1 c2 c9 f n h' s B' D'->K (.jo f' h' [])
theorem HV{q p:Nat}{v:AV}{f:Fr}(h1:q=0\/q=2\/q=4\/q=34\/q=35\/q=36\/22<=q/\q<=28)(h2:37<=p\/p=3\/5<=p/\p<=21):J q (fO p v f)=J q f:=by rw[qA,atS zo]
theorem alh(HT:aA T)(x:gj p aG tb pb mb c0 c1 c2 c9 f n h s B D)(hd:cY h c2 aq)(hj:j<aq.length)(sR:j<n)(hr:h.get nc=.one 39 row)(hn:ay 0 h t row)(hk:t.kind=2)
 (bz:(kX aq[j] j t s).nd.length<536870912) (f0:J 0 fr=.ptr p 0) (f4:J 4 fr=.i j) (f7:J 7 fr=.ptr nc 0) (fi:fN fr B D) (hK:Ll p aG tb pb mb c0 c1 c2 c9 f n fr h (kX aq[j] j t s) K):W T Gl fr h [] K:=by
 obtain⟨kv,rfl,hkv⟩:=hn.cells;unfold fN at fi;have hs:kX aq[j] j t s={s with kW:=s.kW++[⟨1,t.name,j,t.at,t.name⟩],nd:=⟨1,t.name,j,t.at,t.name⟩::s.nd}:=by unfold kX;rw[atV hk]
 rw[hs] at hK bz;simp only at bz;refine cq f0 f4 f7 fi hr hk ?_;rw[<-hk];refine CV HT (p:=p) (aG:=aG) (j:=j) (N:=s.nd) x.hp x.nd hd hj λh2 gn cZ=>?_;have en:(⟨1,t.name,(j:Int),t.at,if(1:Int)=1 then t.name else aq[j]⟩:aC)=⟨1,t.name,j,t.at,t.name⟩:=by simp
 rw[en] at cZ⊢;have Vp:∃i:Nat,i<n/\(⟨1,t.name,(j:Int),t.at,t.name⟩:aC).doc=i:=⟨j,sR,rfl⟩;generalize vg:(⟨1,t.name,(j:Int),t.at,t.name⟩:aC)=dd at*;have x2:=x.note gn cZ;obtain⟨H',ea,vR,lH,x4⟩:=x2.ale x.len qbm (t1:=cx (cx fG 0 [.i 0,S [],.i 0,.i 0,S []]) 0 [.i dd.kind,S dd.name,.i dd.doc,.i dd.at_,S dd.dir]) qaS Vp rfl;simp only[aC.row];refine aB ea ?_;have g4:gW (DM aG tb pb mb) h H':=(gW.of (gn.mono λ_ _ q=>.inl q)).trans ⟨by omega,λi hi _ h34=>vR i hi h34⟩;refine hK _ H' _ _ (λq hq=>?_) ?_ g4 x4
 ·repeat rw[HV hq zd]
 unfold fN iY;simp(disch:=omega) [kV]
theorem ali(HT:aA T)(x:gj p aG tb pb mb c0 c1 c2 c9 f n h s B D)(hd:cY h c2 aq)(hj:j<aq.length)(hr:h.get nc=.one 39 row)(hn:ay 0 h t row)(hk:t.kind≠2)(Bz:t.kind≠3)(bg:t.kids≠[])(js:(t.kids.headD zT).kind=0)
 (bz:(kX aq[j] j t s).nd.length<536870912) (f0:J 0 fr=.ptr p 0) (f4:J 4 fr=.i j) (f7:J 7 fr=.ptr nc 0) (fi:fN fr B D) (hK:Ll p aG tb pb mb c0 c1 c2 c9 f n fr h (kX aq[j] j t s) K):W T Gl fr h [] K:=by
 obtain⟨kv,rfl,hkv⟩:=hn.cells;unfold fN at fi;have hs:kX aq[j] j t s={s with bu:=vQ s.bu aq[j] (s.bu aq[j]++[⟨3,t.name,j,t.at,aq[j]⟩]),nd:=⟨3,t.name,j,t.at,aq[j]⟩::s.nd}:=by unfold kX;rw[atS hk,atS Bz,atV js]
 rw[hs] at hK bz;simp only at bz;obtain⟨b,cap,ex,r,ff,rfl,hb,Bg,iW⟩:=hkv.rows bg;have E7:0<t.kids.length:=auA.2 bg;have eJ:=iW 0 E7;simp only[aud] at eJ;rw[Vr E7] at eJ;obtain⟨OE,e0,C2⟩:=eJ.cells;rw[js] at e0;have hp:=x.hp;simp only[bS] at hp;have lp:=Hp.lt hp rfl;have fC:∀H:Hp,nF H tb pb mb B D->me (.cell .str) H .bx (.map tb) (S aq[j]) false=.v (kV (B (0,aq[j])) (D (0,aq[j]))):=λH y=>y.jV (c:=0) zd;have Lm:=fC _ x.bP;have zB:fP (kV (B (0,aq[j])) (D (0,aq[j]))) (kV (B (0,aq[j])) (D (0,aq[j])))=true:=Eh _;have bC:=hd;obtain⟨db,xu,xw,dr,dt,rfl,kY,HW,vS⟩:=bC;have qd:=vS j hj;have eY:(j:Int)<aq.length:=zo;have h00:(0:Int)<t.kids.length:=zo;have HX:=Hp.lt kY rfl;refine kC f0 f4 f7 fi hr hk Bz hb E7 h00 e0 hp (atQ (atQ (atQ (atQ kY qd) hj) eY) Lm) ?_;refine CV HT (p:=p) (aG:=aG) (j:=j) (N:=s.nd) x.hp x.nd hd hj λh2 gn cZ=>?_;have en:(⟨3,t.name,(j:Int),t.at,if(3:Int)=1 then t.name else aq[j]⟩:aC)=⟨3,t.name,j,t.at,aq[j]⟩:=by simp
 rw[en] at cZ⊢;generalize vg:(⟨3,t.name,(j:Int),t.at,aq[j]⟩:aC)=dd at*;have x2:=x.note gn cZ;have eK:=x2.hp;simp only[bS] at eK;have yM:=Hp.lt eK rfl;have g2:gW (DM aG tb pb mb) h h2:=gW.of (gn.mono λ_ _ q=>.inl q);have BA:=x.C5 g2 kY rfl (λ_ _ q=>by cases q) (λ⟨_,_,q⟩=>by cases q);have Vs:=Hp.lt BA rfl;have At:=fC _ x2.bP;have gB:ax h2 (h2.push (.rows 34 5 1 0 (cx (cx fG 0 [.i 0,S [],.i 0,.i 0,S []]) 0 [.i dd.kind,S dd.name,.i dd.doc,.i dd.at_,S dd.dir]))):=aZ;have E5:=fC _ (x2.g0 gB).bP;obtain⟨H',o,ea,em,vR,lH,x4,g4⟩:=x2.add x.len (c:=0) zd aq[j] qbm (t1:=cx (cx fG 0 [.i 0,S [],.i 0,.i 0,S []]) 0 [.i dd.kind,S dd.name,.i dd.doc,.i dd.at_,S dd.dir]) qaS rfl;have lB:H'.get p=_:=(vR p yM qaI).trans eK;have Vt:H'.get db=_:=(vR db Vs qbp).trans BA;have eM:ja tb pb mb 0=tb:=rfl;rw[eM] at em x4 g4;simp only[Hp.eE] at em;simp only[aC.row];refine pU eK BA qd hj eY At E5 zB ea lB Vt em ?_;refine hK _ _ _ _ (λq hq=>?_) ?_ (g2.trans g4) x4
 ·repeat rw[HV hq zd]
 unfold fN iY;exact zA
end
section
variable{h h':Hp}{k:aK->Prop}{p aG tb pb mb n:Nat}{c0 c1 c2 c9:AV}{f:cN}{s:jv}{B:Kk->Option Nat}{D:Kk->List aC}{d:aC}{j nc:Nat}{aq:List (List UInt8)}{t:Tree}{row:List AV}{fr:Fr}{K:aT->Prop}
theorem alj(HT:aA T)(x:gj p aG tb pb mb c0 c1 c2 c9 f n h s B D)(hd:cY h c2 aq)(hj:j<aq.length)(mT:aq[j].length<4294967296)(hr:h.get nc=.one 39 row)(hn:ay 0 h t row)(hk:t.kind≠2)(Bz:t.kind≠3)(bg:t.kids≠[])(js:(t.kids.headD zT).kind≠0)(acq:(t.kids.headD zT).kids≠[])(sk:((t.kids.headD zT).kids.headD zT).name.length<4294967296)
 (bz:(kX aq[j] j t s).nd.length<536870912) (f0:J 0 fr=.ptr p 0) (f2:J 2 fr=.map mb) (f4:J 4 fr=.i j) (f7:J 7 fr=.ptr nc 0) (fi:fN fr B D) (hK:Ll p aG tb pb mb c0 c1 c2 c9 f n fr h (kX aq[j] j t s) K):W T Gl fr h [] K:=by
 obtain⟨kv,rfl,hkv⟩:=hn.cells;unfold fN at fi;have hs:kX aq[j] j t s={s with nd:=⟨4,t.name,j,t.at,aq[j]⟩::s.nd,rE:=true}:=by unfold kX;rw[atS hk,atS Bz,atS js]
 rw[hs] at hK bz;simp only at bz;obtain⟨b,cap,ex,r,ff,rfl,hb,Bg,iW⟩:=hkv.rows bg;have E7:0<t.kids.length:=auA.2 bg;have eJ:=iW 0 E7;simp only[aud] at eJ;rw[Vr E7] at eJ;obtain⟨OE,e0,C2⟩:=eJ.cells;obtain⟨b0,atm,ex0,r0,ff0,rfl,N7,atn,acr⟩:=C2.rows acq;have yO:0<(t.kids.headD zT).kids.length:=auA.2 acq;have cV:=acr 0 yO;simp only[aud] at cV;rw[Vr yO] at cV;obtain⟨kv1,e1,U3⟩:=cV.cells;have hp:=x.hp;simp only[bS] at hp;have lp:=Hp.lt hp rfl;have bC:=hd;obtain⟨db,xu,xw,dr,dt,rfl,kY,HW,vS⟩:=bC;have qd:=vS j hj;have eY:(j:Int)<aq.length:=zo;have h00:(0:Int)<t.kids.length:=zo;have h01:(0:Int)<(t.kids.headD zT).kids.length:=zo;have HX:=Hp.lt kY rfl;clear acr C2;generalize ato:((t.kids.headD zT).kids.headD zT).name=nmv at*;generalize atp:(t.kids.headD zT).kind=k0v at*;generalize Ln:(t.kids.headD zT).kids.length=lv at*;refine kC f0 f2 f4 f7 fi hr hk Bz hb E7 h00 e0 (atQ (atQ (atQ (atQ (atQ (atQ (atQ (atQ (atQ N7 e1) hp) kY) qd) hj) eY) yO) h01) js) ?_;refine acp HT mT sk ?_;generalize aq[j]++[32]++nmv=key;have fC:∀H:Hp,nF H tb pb mb B D->me (.cell .str) H .bx (.map mb) (S key) false=.v (kV (B (2,key)) (D (2,key))):=λH y=>y.jV (c:=2) zd;have Lm:=fC _ x.bP;have zB:fP (kV (B (2,key)) (D (2,key))) (kV (B (2,key)) (D (2,key)))=true:=Eh _;refine cq f0 f2 f4 f7 hr Lm ?_;refine CV HT (p:=p) (aG:=aG) (j:=j) (N:=s.nd) x.hp x.nd hd hj λh2 gn cZ=>?_;have en:(⟨4,t.name,(j:Int),t.at,if(4:Int)=1 then t.name else aq[j]⟩:aC)=⟨4,t.name,j,t.at,aq[j]⟩:=by simp
 rw[en] at cZ⊢;generalize vg:(⟨4,t.name,(j:Int),t.at,aq[j]⟩:aC)=dd at*;have x2:=x.note gn cZ;have g2:gW (DM aG tb pb mb) h h2:=gW.of (gn.mono λ_ _ q=>.inl q);have At:=fC _ x2.bP;have gB:ax h2 (h2.push (.rows 34 5 1 0 (cx (cx fG 0 [.i 0,S [],.i 0,.i 0,S []]) 0 [.i dd.kind,S dd.name,.i dd.doc,.i dd.at_,S dd.dir]))):=aZ;have E5:=fC _ (x2.g0 gB).bP;obtain⟨H',o,ea,em,vR,lH,x4,g4⟩:=x2.add x.len (c:=2) zd key qbm (t1:=cx (cx fG 0 [.i 0,S [],.i 0,.i 0,S []]) 0 [.i dd.kind,S dd.name,.i dd.doc,.i dd.at_,S dd.dir]) qaS rfl;have eM:ja tb pb mb 2=mb:=rfl;rw[eM] at em x4 g4;simp only[Hp.eE] at em;simp only[aC.row];refine cC At E5 zB ea em ?_;refine hK _ _ _ _ (λq hq=>?_) ?_ (g2.trans g4) x4
 ·repeat rw[HV hq zd]
 unfold fN iY;exact zA
theorem alk(HT:aA T)(x:gj p aG tb pb mb c0 c1 c2 c9 f n h s B D)(hd:cY h c2 aq)(hj:j<aq.length)(mT:aq[j].length<4294967296)(hr:h.get nc=.one 39 row)(hn:ay 0 h t row)(rB:rY t)(Bz:t.kind=3)(sk:t.name.length<4294967296)
 (bz:(kX aq[j] j t s).nd.length<536870912) (f0:J 0 fr=.ptr p 0) (f4:J 4 fr=.i j) (f7:J 7 fr=.ptr nc 0) (fi:fN fr B D) (hK:Ll p aG tb pb mb c0 c1 c2 c9 f n fr h (kX aq[j] j t s) K):W T (CC.block 4 (.seq (.af r33_8) (.cond (.t 69) (.af r33_9) (.seq (.af r33_10) (.cond (.t 80) (.seq (.aR r33_11) (.seq (.aR r33_12) (.seq (.af r33_13) (.block 5 (.loop l33_4))))) (.seq (.af r33_18) (.cond (.t 148) (.seq (.aR r33_19) (.aR r33_20)) (.aR r33_21)))))))) fr h [] K:=by
 obtain⟨kv,rfl,hkv⟩:=hn.cells;unfold fN at fi;have hk:¬t.kind=2:=zo;have hs:kX aq[j] j t s=yL aq[j] j t.kids {s with bu:=vQ s.bu aq[j] (s.bu aq[j]++[⟨2,t.name,j,t.at,aq[j]⟩]),nd:=⟨2,t.name,j,t.at,aq[j]⟩::s.nd}:=by unfold kX;rw[atS hk,atV Bz]
 rw[hs] at hK bz;have hp:=x.hp;simp only[bS] at hp;have lp:=Hp.lt hp rfl;have fC:∀H:Hp,nF H tb pb mb B D->me (.cell .str) H .bx (.map tb) (S aq[j]) false=.v (kV (B (0,aq[j])) (D (0,aq[j]))):=λH y=>y.jV (c:=0) zd;have Lm:=fC _ x.bP;have zB:fP (kV (B (0,aq[j])) (D (0,aq[j]))) (kV (B (0,aq[j])) (D (0,aq[j])))=true:=Eh _;have bC:=hd;obtain⟨db,xu,xw,dr,dt,rfl,kY,HW,vS⟩:=bC;have qd:=vS j hj;have eY:(j:Int)<aq.length:=zo;have HX:=Hp.lt kY rfl;generalize hL4:CC.loop l33_4=L4;refine pU f0 f4 f7 fi hr Bz hp kY qd hj eY Lm ?_;rw[<-Bz];refine CV HT (p:=p) (aG:=aG) (j:=j) (N:=s.nd) x.hp x.nd hd hj λh2 gn cZ=>?_;have en:(⟨2,t.name,(j:Int),t.at,if(2:Int)=1 then t.name else aq[j]⟩:aC)=⟨2,t.name,j,t.at,aq[j]⟩:=by simp
 rw[en] at cZ⊢;have alm:=auD (OT t.kids _) bz;simp only[atX] at alm;generalize vg:(⟨2,t.name,(j:Int),t.at,aq[j]⟩:aC)=dd at*;have x2:=x.note gn cZ;have eK:=x2.hp;simp only[bS] at eK;have yM:=Hp.lt eK rfl;have g2:gW (DM aG tb pb mb) h h2:=gW.of (gn.mono λ_ _ q=>.inl q);have BA:=x.C5 g2 kY rfl (λ_ _ q=>by cases q) (λ⟨_,_,q⟩=>by cases q);have Vs:=Hp.lt BA rfl;have At:=fC _ x2.bP;have gB:ax h2 (h2.push (.rows 34 5 1 0 (cx (cx fG 0 [.i 0,S [],.i 0,.i 0,S []]) 0 [.i dd.kind,S dd.name,.i dd.doc,.i dd.at_,S dd.dir]))):=aZ;have E5:=fC _ (x2.g0 gB).bP;obtain⟨H',o,ea,em,vR,lH,x4,g4⟩:=x2.add x.len (c:=0) zd aq[j] zo (t1:=cx (cx fG 0 [.i 0,S [],.i 0,.i 0,S []]) 0 [.i dd.kind,S dd.name,.i dd.doc,.i dd.at_,S dd.dir]) qaS rfl;have lB:H'.get p=_:=(vR p yM qaI).trans eK;have Vt:H'.get db=_:=(vR db Vs qbp).trans BA;have eM:ja tb pb mb 0=tb:=rfl;rw[eM] at em x4 g4;simp only[Hp.eE] at em;have g24:=g2.trans g4;have CE:=x.one g24 hr;have m7:=x4.hp;simp only[bS] at m7;have aln:=x.C5 g24 kY rfl (λ_ _ q=>by cases q) (λ⟨_,_,q⟩=>by cases q);have nf:=x.nf g24;have zY:=hkv.nf nf;have hsk:=Aq rB;generalize hH4:H'.set tb o=H4 at*;simp only[aC.row];refine kC eK BA qd hj eY At E5 zB ea lB Vt em (atQ (atQ (atQ (atQ (atQ (atQ hH4 f0) f4) f7) m7) aln) CE) ?_;refine acp HT mT sk ?_;simp(disch:=omega) [f7,CE,zY.len];subst hL4;refine alf HT (key:=aq[j]++[32]++t.name) (aq:=aq) (m:=t.kids.length) (kv:=kv) hj t.kids 0 _ H4 _ _ _ _ zo hsk.1 x4 (x.Au g24 hd) zY.rows bz zA zA aa aa aa aa λf' h' B' D' hf g' x' e3=>?_;refine ag ?_;refine hK f' h' B' D' (λq hq=>?_) ?_ (g24.trans g') x'
 ·rw[hf q zo]
  repeat rw[HV hq zd]
 unfold fN;rw[hf 3 zd,e3.1,e3.2];unfold iY;exact zA
end
def jG(aq:List (List UInt8)):List Tree->Nat->jv->jv
 |[],_,s=>s
 |t::ts,j,s=>jG aq ts (j+1) (tB (aq.getD j []) j t.kids s)
theorem acs{aq}:∀(ts:List Tree)(j:Nat)(s:jv),s.nd.length<=(jG aq ts j s).nd.length
 |[],_,_=>at2 _
 |t::ts,j,s=>at1 (Vq t.kids s) (acs ts (j+1) (tB (aq.getD j []) j t.kids s))
section
variable{h h':Hp}{k:aK->Prop}{p aG tb pb mb n:Nat}{c0 c1 c2 c9:AV}{f:cN}{aq:List (List UInt8)}
theorem alo(HT:aA T){j m:Nat}{kv:AV}(hj:j<aq.length)(sR:j<n)(mT:aq[j].length<4294967296):∀(ts:List Tree)(i:Nat)(s:jv)(h:Hp)(B:Kk->Option Nat)(D:Kk->List aC)(fr:Fr)(K:aT->Prop),i+ts.length=m->m<4294967296->gj p aG tb pb mb c0 c1 c2 c9 f n h s B D->cY h c2 aq->
 (ts≠[]->∃b cap ex r ff,kv=.slice b 0 6 m cap ex/\h.get b=.rows 39 6 r 0 ff/\m<=r/\∀q,(hq:q<ts.length)->ay 0 h ts[q] (ff (i+q)))->pq ts->(∀t∈ts,yN t)->(tB aq[j] j ts s).nd.length<536870912->
 J 0 fr=.ptr p 0->J 2 fr=.map mb->J 4 fr=.i j->J 34 fr=kv->J 35 fr=.i m->J 36 fr=.i i->fN fr B D->
 (∀f' h' B' D',(∀q,q=0\/q=2\/22<=q/\q<=28->J q f'=J q fr)->fN f' B' D'->gW (DM aG tb pb mb) h h'->gj p aG tb pb mb c0 c1 c2 c9 f n h' (tB aq[j] j ts s) B' D'->K (.exit 2 f' h' []))->W T (.loop l33_5) fr h [] K:=by
 intro ts
 induction ts with
 |nil=>
  intro i s h B D fr K hi hm x hd hb sm BB bz f0 f2 f4 f34 f35 f36 fi hk;simp only[aup,aud] at hi;subst hi;rw[aP];refine aU f34 f35 f36 ?_;refine hk _ _ B D (λq hq=>by repeat rw[HV zo zd]) ?_ (gW.refl _) x;unfold fN at fi⊢;exact zA
 |cons t ts ih=>
  intro i s h B D fr K hi hm x hd hb sm BB bz f0 f2 f4 f34 f35 f36 fi hk;obtain⟨b,cap,ex,r,ff,rfl,hb,hr,iW⟩:=hb zm;simp only[atX] at hi;have ao:i<m:=zo;have aY:(i:Int)<m:=zo;have eJ:=iW 0 zm;simp only[aus,aud] at eJ;obtain⟨kv,jE,hkv⟩:=eJ.cells;have lb:=Hp.lt hb rfl;unfold pq at sm;unfold tB at bz hk;have yO:=auD (Vq ts _) bz;have OL:=BB t zm;generalize hC:Gl=C;rw[aP];show W T ((CC.af r33_6).seq ((CC.cond (CX.t 37) CC.skip (CC.exit 2)).seq ((CC.block 3 ((CC.af r33_7).seq Gl)).seq (CC.af r33_22)))) fr h [] _;rw[hC];refine fY f34 f35 f36 ao aY hb jE hkv.bQ ?_;rw[<-jE];generalize hH:((h.push _).set _ _:Hp)=H;have gH:ax h H:=by rw[<-hH];exact fZ
  have u1:H.get h.nx=.one 39 (ff i):=by rw[<-hH,Hp.bR rfl]
  clear hH;have xH:=x.g0 gH;have HY:=hd.mono (M:=λ_=>False) gH λ_ _ _ _=>id;have OU:=eJ.nf (mY gH) zl;have Lo:=fi;unfold fN at Lo;have nx:∀bJ,(∀q,q=0\/q=2\/q=4\/q=34\/q=35\/q=36\/22<=q/\q<=28->J q bJ=J q fr)->Ll p aG tb pb mb c0 c1 c2 c9 f n bJ H (kX aq[j] j t s) (bY 3 (bF (W T (.af r33_22)) (bF (W T (.loop l33_5)) K))):=by intro bJ E8 f' h' B' D' hf tv g2 x2;have e0:=(hf 0 zd).trans (E8 0 zd);have e2:=(hf 2 zd).trans (E8 2 zd);have e4:=(hf 4 zd).trans (E8 4 zd);have e34:=(hf 34 zd).trans (E8 34 zd);have e35:=(hf 35 zd).trans (E8 35 zd);have e36:=(hf 36 zd).trans (E8 36 zd);have g02:gW (DM aG tb pb mb) h h':=(gW.of (ah.cn gH)).trans g2;have nf:=x.nf g02;refine aS (e36.trans f36) ao ?_;refine ih (i+1) _ h' B' D' _ K zo hm x2 (x.Au g02 hd) (λ_=>⟨b,cap,ex,r,ff,rfl,nf _ _ _ (auz _) hb,hr,λq hq=>?_⟩) sm.2 (λt ht=>BB t qat) bz (au (e0.trans f0)) (au (e2.trans f2)) (au (e4.trans f4)) (au (e34.trans f34)) (au (e35.trans f35)) aa ?_ λf3 h3 B3 D3 so vP g3 x3=>hk f3 h3 B3 D3 (λq hq=>?_) vP (g02.trans g3) x3;have:=iW (q+1) zn;simp only[auu,show i+(q+1)=i+1+q by omega] at this;exact this.nf nf zl;unfold fN at tv⊢;exact zA;rw[so q hq];have e:=(hf q zo).trans (E8 q zo);rw[<-e,qA,atS zo,qA,atS zo]
  have K1:∀q,q=0\/q=2\/q=4\/q=34\/q=35\/q=36\/22<=q/\q<=28->J q (fO 7 (.ptr h.nx 0) (fO 39 (.agg (ff i)) (fO 38 (.ptr b (i*6)) (fO 37 (.bool true) fr))))=J q fr:=λq hq=>by repeat rw[HV hq zd]
  have xp:=nx _ K1;have i1:fN (fO 7 (.ptr h.nx 0) (fO 39 (.agg (ff i)) (fO 38 (.ptr b (i*6)) (fO 37 (.bool true) fr)))) B D:=by unfold fN;exact zA
  have i7:J 7 (fO 7 (.ptr h.nx 0) (fO 39 (.agg (ff i)) (fO 38 (.ptr b (i*6)) (fO 37 (.bool true) fr))))=.ptr h.nx 0:=aa;have i0:=(K1 0 zd).trans f0;have i2:=(K1 2 zd).trans f2;have i4:=(K1 4 zd).trans f4;generalize fO 7 (.ptr h.nx 0) (fO 39 (.agg (ff i)) (fO 38 (.ptr b (i*6)) (fO 37 (.bool true) fr)))=Vu at*;subst hC
  by_cases c2':t.kind=2
  exact alh HT xH HY hj sR u1 OU c2' yO i0 i4 i7 i1 xp
  by_cases c3:t.kind=3
  rcases OL with q|q|q;exact absurd q c2';exact alk HT xH HY hj mT u1 OU sm.1 c3 q.2 yO i0 i4 i7 i1 xp;exact absurd c3 q.1;obtain⟨q1,q2⟩:t.kids≠[]/\((t.kids.headD zT).kind≠0->(t.kids.headD zT).kids≠[]/\((t.kids.headD zT).kids.headD zT).name.length<4294967296):=by rcases OL with q|q|q;exact absurd q c2';exact absurd q.1 c3;exact q.2
  by_cases c4:(t.kids.headD zT).kind=0
  exact ali HT xH HY hj u1 OU c2' c3 q1 c4 yO i0 i4 i7 i1 xp;exact alj HT xH HY hj mT u1 OU c2' c3 q1 c4 (q2 c4).1 (q2 c4).2 yO i0 i2 i4 i7 i1 xp
theorem alp(HT:aA T){fs:List Tree}(pK:fs.length=aq.length)(hn:fs.length=n)(nV:n<4294967296)(mT:∀d∈aq,d.length<4294967296):∀(ts:List Tree)(j:Nat)(s:jv)(h:Hp)(B:Kk->Option Nat)(D:Kk->List aC)(fr:Fr)(K:aT->Prop),j+ts.length=n->(∀i(hi:i<ts.length),fs[j+i]? =some ts[i])->gj p aG tb pb mb c0 c1 c2 c9 f n h s B D->yb h c2 aq->
 lC 0 h c1 fs->pq ts->(∀t∈ts,∀t'∈t.kids,yN t')->(jG aq ts j s).nd.length<536870912->J 0 fr=.ptr p 0->J 2 fr=.map mb->J 26 fr=c1->J 27 fr=.i n->J 28 fr=.i j->fN fr B D->
 (∀f' h' B' D',J 0 f'=.ptr p 0->J 2 f'=.map mb->fN f' B' D'->gW (DM aG tb pb mb) h h'->gj p aG tb pb mb c0 c1 c2 c9 f n h' (jG aq ts j s) B' D'->K (.exit 0 f' h' []))->W T (.loop l33_6) fr h [] K:=by
 intro ts
 induction ts with
 |nil=>
  intro j s h B D fr K hj jh x hd hc sm BB bz f0 f2 f26 f27 f28 fi hk;simp only[aup,aud] at hj;subst hj;rw[aP];refine aU f26 f27 f28 ?_;refine hk _ _ B D zA zA ?_ (gW.refl _) x;unfold fN at fi⊢;exact zA
 |cons t ts ih=>
  intro j s h B D fr K hj jh x hd hc sm BB bz f0 f2 f26 f27 f28 fi hk;have tY:=hd;have hd:=hd (Cq (j:=j) (by simp only[atX] at hj;omega));simp only[atX] at hj;have ao:j<n:=zo;have aY:(j:Int)<n:=zo;have jf:j<fs.length:=zo;have jd:j<aq.length:=zo;have et:fs[j]=t:=by have:=jh 0 zm;simp only[aud,atT jf,aus] at this;exact auQ this
  obtain⟨b,cap,ex,r,ff,rfl,hb,hr,iW⟩:=hc.rows (by rintro rfl;simp at jf);rw[hn] at f26;have eJ:=iW j jf;simp only[aue,et] at eJ;obtain⟨kv,jE,hkv⟩:=eJ.cells;have lb:=Hp.lt hb rfl;have jr:j<r:=zo;unfold pq at sm;unfold jG at bz hk;have yO:=auD (acs ts _ _) bz;have ed:aq.getD j []=aq[j]:=by simp[List.getD,jd]
  rw[ed] at bz hk yO;have Lo:=fi;unfold fN at Lo;generalize hL:CC.loop l33_5=L;rw[aP];simp(disch:=omega) [f26,f27,f28,ao,aY,hb,jE,hkv.bQ,hkv.len];generalize hH:((h.push _).set _ _:Hp)=H;have gH:ax h H:=by rw[<-hH];exact fZ
  clear hH;have xH:=x.g0 gH;have HY:=hd.mono (M:=λ_=>False) gH λ_ _ _ _=>id;have HZ:=hkv.nf (mY gH);have smk:=Aq sm.1;subst hL;refine alo HT (m:=t.kids.length) (kv:=kv) jd ao (mT _ (auy jd)) t.kids 0 s H B D _ _ zo smk.1 xH HY HZ.rows smk.2 (BB t zm) yO zA zA aa aa aa aa (by unfold fN;exact zA) λf' h' B' D' hf tv g2 x2=>?_;have g02:gW (DM aG tb pb mb) h h':=(gW.of (ah.cn gH)).trans g2;have e0:=hf 0 zd;have e2:=hf 2 zd;have e26:=hf 26 zd;have e27:=hf 27 zd;have e28:=hf 28 zd
  simp(disch:=omega) [f0,f2,f26,f27,f28] at e0 e2 e26 e27 e28;refine aS e28 ao ?_;have jQ:lC 0 h' (.slice b 0 6 fs.length cap ex) fs:=hc.nf (x.nf g02);refine ih (j+1) _ h' B' D' _ K zo (λi hi=>?_) x2 (λ_=>x.Au g02 hd) jQ sm.2 (λt ht=>BB t qat) bz (au e0) (au e2) (bV e26 hn) (au e27) aa (by unfold fN at tv⊢;exact zA) λf3 h3 B3 D3 a0 a2 vP g3 x3=>hk f3 h3 B3 D3 a0 a2 vP (g02.trans g3) x3;have:=jh (i+1) zn;simp only[auu] at this;rw[show j+1+i=j+(i+1) by omega];exact this
end
section
variable{h h':Hp}{k:aK->Prop}{p aG tb pb mb n:Nat}{c0 c1 c2 c9:AV}{f:cN}{aq:List (List UInt8)}
structure kn(p aG tb pb mb:Nat)(c0 c1 c2 c9:AV)(f:cN)(n:Nat)(h:Hp)(s:jv)(B:Kk->Option Nat)(D:Kk->List aC):Prop where
 hp:h.get p=.one 52 (bS c0 c1 c2 f (.map aG) (.map tb) (.map pb) c9)
 nd:lX h aG s.nd
 bP:nF h tb pb mb B D
 d0:∀q,D (0,q)=s.bu q
 d3:D (3,[])=s.kW
 yK:s.rE=false->∀q,D (1,q)=[]
 len:∀κ,(D κ).length<1073741824
 imp:∀d∈s.kW,∃i:Nat,i<n/\d.doc=i
 ne:aG≠tb/\aG≠pb/\aG≠mb
theorem gj.b{s B D}(x:gj p aG tb pb mb c0 c1 c2 c9 f n h s B D)(hl:s.nd.length<536870912):kn p aG tb pb mb c0 c1 c2 c9 f n h s B D:=
 ⟨x.hp,x.nd,x.bP,x.d0,x.d3,λho q=>(x.yK ho q).1,λκ=>by have:=x.len κ;omega,x.imp,x.ne⟩
theorem alq(HT:aA T){s:jv}{D0:Kk->List aC}{L:SL}{aD it:Nat}{B2:List UInt8->Option Nat}(pP:∀κ,(D0 κ).length<536870912) (hL:∀q,eV L q=(B2 q).map λb=>qc b (D0 (2,q))) (C6:(cD L).Nodup):∀(m:Nat)(todo:List (List UInt8))(h:Hp)(eC:Option AV)(B:Kk->Option Nat)(D:Kk->List aC)(fr:Fr)(K:aT->Prop),todo.length=m->
 kn p aG tb pb mb c0 c1 c2 c9 f n h s B D->h.get mb=.map (di L) aD->h.get it=.jx (.cell .str) mb aD (todo.map S) eC->todo.Nodup->(∀q∈todo,(eV L q).isSome=true)->(∀q,B (2,q)=B2 q/\D (2,q)=D0 (2,q))->(∀q,D (1,q)=if q∈todo then D0 (1,q) else D0 (1,q)++D0 (2,q))->(s.rE=false->∀q,D0 (2,q)=[])->
 J 0 fr=.ptr p 0->J 185 fr=.ptr it 0->fN fr B D->(∀f' h' B' D',J 0 f'=.ptr p 0->fN f' B' D'->gW (λi=>DM aG tb pb mb i\/i=it) h h'->kn p aG tb pb mb c0 c1 c2 c9 f n h' s B' D'->K (.exit 7 f' h' []))->W T (.loop l33_3) fr h [] K:=by
 intro m
 induction m with
 |zero=>
  intro todo h eC B D fr K bz x mP gV dB gD h2 h1 h0 f0 f185 fi hk;obtain rfl:=avW.1 bz;rw[aP];refine aB f185 ?_;refine C1 gV mP (λ_=>?_) (λe r hp=>absurd hp.length_eq zm);refine ag ?_;refine hk _ h B D zA ?_ (gW.refl _) x;unfold fN at fi⊢;exact zA
 |succ m ih=>
  intro todo h eC B D fr K bz x mP gV dB gD h2 h1 h0 f0 f185 fi hk;rw[aP];refine aB f185 ?_;refine C1 gV mP (λe=>by subst e;simp at bz) (λe r hp=>?_);have he:e∈todo:=hp.mem_iff.1 zm;have Bw:(e::r).Nodup:=hp.nodup_iff.2 dB;obtain⟨b2,fX⟩:∃b,B2 e=some b:=by
   have:=gD e he;rw[hL] at this;cases q:B2 e with
   |none=>rw[q] at this;cases this
   |some b=>exact⟨b,rfl⟩
  have hv:eV L e=some (qc b2 (D0 (2,e))):=by rw[hL,fX];rfl
  have l1:=Hp.lt mP rfl;have l2:=Hp.lt gV rfl;have zV:mb≠it:=by rintro rfl;rw[mP] at gV;cases gV
  have nit:∀i el l,h.get i=.one el l->i≠it:=λi el l q e=>by rw[e,gV] at q;cases q
  have uE:∀i es ve,h.get i=.map es ve->i≠it:=λi es ve q e=>by rw[e,gV] at q;cases q
  have nir:∀κ b,B κ=some b->b≠it:=λκ b q e=>by obtain⟨r,t,w,_⟩:=((x.bP.rows κ).2 b q).2;rw[e,gV] at w;cases w
  generalize hH:h.set it (.jx (.cell .str) mb aD (r.map S) (some (S e)))=H;have gH:ah (·=it) h H:=by rw[<-hH];exact ah.set (M:=(·=it)) (ah.refl _) _ (.inr rfl)
  have vT:H.get it=.jx (.cell .str) mb aD (r.map S) (some (S e)):=by rw[<-hH];exact Hp.bR rfl
  clear hH;have su:H.get mb=.map (di L) aD:=(gH.get _ l1 zV).trans mP;have lB:H.get p=_:=(gH.get _ (Hp.lt x.hp rfl) (nit _ _ _ x.hp)).trans x.hp;have E9:nF H tb pb mb B D:=x.bP.mono λi hi=>by have By:=x.bP.lt;rcases hi with rfl|rfl|rfl|⟨κ,e⟩;obtain⟨es,ve,w⟩:=x.bP.lZ 0 zd;exact gH.get _ By.1 (uE _ _ _ w);obtain⟨es,ve,w⟩:=x.bP.lZ 1 zd;exact gH.get _ By.2.1 (uE _ _ _ w);obtain⟨es,ve,w⟩:=x.bP.lZ 2 zd;exact gH.get _ By.2.2 (uE _ _ _ w);exact gH.get _ ((x.bP.rows κ).2 _ e).2.lt (nir _ _ e)
  have en:=OC (h:=H) vT su C6 hv;have OV:B (2,e)=some b2:=(h2 e).1.trans fX;obtain⟨Fa,dX⟩:=(E9.rows (2,e)).2 b2 OV;rw[(h2 e).2] at Fa dX;have DW:D (1,e)=D0 (1,e):=by rw[h1,atV he]
  have fC:=E9.jV (c:=1) zd (s:=e);have eM:ja tb pb mb 1=pb:=rfl;rw[eM] at fC;obtain⟨H2,ea,lH2,hrn,vR⟩:=E9.fF (1,e) (sv:=qc b2 (D0 (2,e))) rfl dX Fa (λq=>by have:=E9.inj _ _ _ q OV;simp at this) (by rw[DW];have:=pP (1,e);have:=pP (2,e);omega);obtain⟨o,em,OS⟩:=E9.put (c:=1) (s:=e) zd Fa zl hrn vR;rw[eM] at em OS;have alr:=OS (H2.set pb o) (Hp.bR rfl) (λi hi=>Hp.de hi);have kp:∀i,i<H.nx->¬rF (H.get i)->H2.get i=H.get i:=λi hi h34=>vR i hi λq=>by obtain⟨r,t,w,_⟩:=((E9.rows _).2 _ q).2;exact h34 ⟨r,t,w⟩
  have eK:H2.get p=_:=(kp p (Hp.lt lB rfl) (by rw[lB];rintro⟨_,_,q⟩;cases q)).trans lB;have dj:=lB;have H6:=eK;simp only[bS] at dj H6;have lp:=Hp.lt dj rfl;simp only[wm];refine fY f185 f0 en dj fC ea H6 em ?_;obtain⟨n1,n2,n3⟩:=x.ne;obtain⟨es,ve,OW⟩:=E9.lZ 1 zd;have ppb:p≠pb:=λq=>by rw[<-eM] at q;rw[<-q,lB] at OW;cases OW
  obtain⟨s1,s2,s3⟩:=x.bP.ne;have als:lX (H2.set pb o) aG s.nd:=by obtain⟨LL,ve',w,_⟩:=x.nd;have w0:H.get aG=h.get aG:=gH.get _ (Hp.lt w rfl) (uE _ _ _ w);refine x.nd.mono ?_;rw[Hp.de n2,kp _ (by have:=gH.nx;have:=Hp.lt w rfl;omega) (by rw[w0,w];rintro⟨_,_,q⟩;cases q),w0]
  have Lo:=fi;unfold fN at Lo;have g3:gW (λi=>DM aG tb pb mb i\/i=it) h (H2.set pb o):=by
   refine⟨?_,λi hi hm h34=>?_⟩;have:=gH.nx;have hs:H2.nx<=(H2.set pb o).nx:=by rw[Hp.iy];exact Nat.le_max_left _ _
   omega;rw[Hp.de (λq=>hm (.inl (.inr (.inr (.inl q))))),kp i qaR (by rw[gH.get i hi λq=>hm (.inr q)];exact h34),gH.get i hi λq=>hm (.inr q)]
  have x3:kn p aG tb pb mb c0 c1 c2 c9 f n (H2.set pb o) s (iY B (1,e) (some H.nx)) (iY D (1,e) (D (1,e)++D0 (2,e))):=by
   refine⟨by rw[Hp.de ppb];exact eK,als,alr,λq=>?_,?_,λho q=>?_,λκ=>?_,x.imp,x.ne⟩;rw[E6 zm];exact x.d0 q;rw[E6 zm];exact x.d3;unfold iY;split;rw[x.yK ho e,h0 ho e];rfl;exact x.yK ho q;unfold iY;split;rw[DW];have:=pP (1,e);have:=pP (2,e);simp;omega
   exact x.len κ
  refine ih r (H2.set pb o) (some (S e)) _ _ _ K ?_ x3 (by rw[Hp.de (Ne.symm s3),kp _ (Hp.lt su rfl) (by rw[su];rintro⟨_,_,q⟩;cases q)];exact su) ?_ (au6.1 Bw).2 (λq hq=>gD q (hp.mem_iff.1 qbf)) (λq=>?_) (λq=>?_) h0 zA zA ?_ λf' h' B' D' a0 a1 g' x'=>hk f' h' B' D' a0 a1 (g3.trans g') x';have:=hp.length_eq;simp at this;omega;have:it≠pb:=λq=>by rw[eM,<-q,vT] at OW;cases OW
  rw[Hp.de this,kp _ (Hp.lt vT rfl) (by rw[vT];rintro⟨_,_,q⟩;cases q)];exact vT;rw[E6 zm,E6 zm];exact h2 q
  by_cases q':q=e
  subst q';have:q∉r:=(au6.1 Bw).1;unfold iY;rw[atV rfl,atS this,DW];rw[E6 (by simp[q']),h1];have:q∈todo <-> q∈r:=by rw[<-hp.mem_iff];simp[q']
  simp only[this];unfold fN;rw[E6 zm,E6 zm];exact zA
end
section
variable{h h':Hp}{k:aK->Prop}{p aG tb pb mb n:Nat}{c0 c1 c2 c9:AV}{f f':cN}{aq:List (List UInt8)}{s:jv}{B:Kk->Option Nat}{D:Kk->List aC}
theorem kn.pk(x:kn p aG tb pb mb c0 c1 c2 c9 f n h s B D):p≠aG/\p≠tb/\p≠pb/\p≠mb/\∀κ,B κ≠some p:=by have hp:=x.hp;refine⟨?_,?_,?_,?_,λκ e=>((x.bP.rows κ).2 _ e).2.acn hp⟩;obtain⟨L,aD,q,_⟩:=x.nd;rintro rfl;rw[q] at hp;cases hp;obtain⟨es,aD,q⟩:=x.bP.lZ 0 zd;rw[show ja tb pb mb 0=tb from rfl] at q;rintro rfl;rw[q] at hp;cases hp;obtain⟨es,aD,q⟩:=x.bP.lZ 1 zd;rw[show ja tb pb mb 1=pb from rfl] at q;rintro rfl;rw[q] at hp;cases hp;obtain⟨es,aD,q⟩:=x.bP.lZ 2 zd;rw[show ja tb pb mb 2=mb from rfl] at q;rintro rfl;rw[q] at hp;cases hp
theorem kn.Av{M:Nat->Prop}(x:kn p aG tb pb mb c0 c1 c2 c9 f n h s B D)(g:ah M h h')(hM:∀i,M i->i≠aG/\i≠tb/\i≠pb/\i≠mb/\∀κ,B κ≠some i) (hp:h'.get p=.one 52 (bS c0 c1 c2 f' (.map aG) (.map tb) (.map pb) c9)):kn p aG tb pb mb c0 c1 c2 c9 f' n h' s B D:=by have By:=x.bP.lt;refine⟨hp,x.nd.mono (g.get _ x.nd.lt λm=>(hM _ m).1 rfl),x.bP.mono λi hi=>?_,x.d0,x.d3,x.yK,x.len,x.imp,x.ne⟩;rcases hi with rfl|rfl|rfl|⟨κ,e⟩;exact g.get _ By.1 λm=>(hM _ m).2.1 rfl;exact g.get _ By.2.1 λm=>(hM _ m).2.2.1 rfl;exact g.get _ By.2.2 λm=>(hM _ m).2.2.2.1 rfl;exact g.get _ ((x.bP.rows κ).2 _ e).2.lt λm=>(hM _ m).2.2.2.2 κ e
theorem rD.Vv{b:Nat}{ds:List aC}(x:rD h b ds)(bg:ds≠[]):yG h (qc b ds) ds:=by obtain⟨r,t,e,l,w⟩:=x;exact .inr ⟨bg,b,t,_,_,r,rfl,e,l,w⟩
theorem alu(HT:aA T){L:SL}{aD it:Nat}(hL:∀q,eV L q=(B (0,q)).map λb=>qc b (D (0,q))) (C6:(cD L).Nodup):∀(m:Nat)(todo:List (List UInt8))(f:cN)(h:Hp)(eC:Option AV)(fr:Fr)(K:aT->Prop),todo.length=m->
 kn p aG tb pb mb c0 c1 c2 c9 f n h s B D->h.get tb=.map (di L) aD->h.get it=.jx (.cell .str) tb aD (todo.map S) eC->todo.Nodup->(∀q∈todo,(eV L q).isSome=true)->
 J 0 fr=.ptr p 0->J 208 fr=.ptr it 0->fN fr B D->(∀f' h' fl,J 0 f'=.ptr p 0->fN f' B D->ah (λi=>i=p\/i=it) h h'->kn p aG tb pb mb c0 c1 c2 c9 fl n h' s B D->((∀q,((D (0,q)).map (·.name)).Nodup)->fl=f)->K (.exit 9 f' h' []))->W T (.loop l33_2) fr h [] K:=by
 intro m
 induction m with
 |zero=>
  intro todo f h eC fr K bz x mP gV dB gD f0 f1 fi hk;obtain rfl:=avW.1 bz;rw[aP];refine aB f1 ?_;refine C1 gV mP (λ_=>?_) (λe r hp=>absurd hp.length_eq zm);refine ag ?_;refine hk _ h f zA ?_ (ah.refl _) x λ_=>rfl;unfold fN at fi⊢;exact zA
 |succ m ih=>
  intro todo f h eC fr K bz x mP gV dB gD f0 f1 fi hk;rw[aP];refine aB f1 ?_;refine C1 gV mP (λe=>by subst e;simp at bz) (λe r hp=>?_);have he:e∈todo:=hp.mem_iff.1 zm;have Bw:(e::r).Nodup:=hp.nodup_iff.2 dB;obtain⟨b2,fX⟩:∃b,B (0,e)=some b:=by
   have:=gD e he;rw[hL] at this;cases q:B (0,e) with
   |none=>rw[q] at this;cases this
   |some b=>exact⟨b,rfl⟩
  have hv:eV L e=some (qc b2 (D (0,e))):=by rw[hL,fX];rfl
  have l1:=Hp.lt mP rfl;have l2:=Hp.lt gV rfl;have zV:tb≠it:=by rintro rfl;rw[mP] at gV;cases gV
  have hM:∀i,i=it->i≠aG/\i≠tb/\i≠pb/\i≠mb/\∀κ,B κ≠some i:=by
   rintro i rfl;have uE:∀j es ve,h.get j=.map es ve->i≠j:=λj es ve q e=>by rw[e] at gV;rw[q] at gV;cases gV
   refine⟨?_,?_,?_,?_,λκ q=>?_⟩;obtain⟨L,aD,q,_⟩:=x.nd;exact uE _ _ _ q;obtain⟨es,ve,w⟩:=x.bP.lZ 0 zd;exact uE _ _ _ w;obtain⟨es,ve,w⟩:=x.bP.lZ 1 zd;exact uE _ _ _ w;obtain⟨es,ve,w⟩:=x.bP.lZ 2 zd;exact uE _ _ _ w;obtain⟨r,t,w,_⟩:=((x.bP.rows κ).2 _ q).2;rw[w] at gV;cases gV
  have Lq:p≠it:=λq=>by have:=x.hp;rw[q,gV] at this;cases this
  generalize hH:h.set it (.jx (.cell .str) tb aD (r.map S) (some (S e)))=H;have gH:ah (·=it) h H:=by rw[<-hH];exact ah.set (M:=(·=it)) (ah.refl _) _ (.inr rfl)
  have vT:H.get it=.jx (.cell .str) tb aD (r.map S) (some (S e)):=by rw[<-hH];exact Hp.bR rfl
  clear hH;have su:H.get tb=.map (di L) aD:=(gH.get _ l1 zV).trans mP;have xH:kn p aG tb pb mb c0 c1 c2 c9 f n H s B D:=x.Av gH hM ((gH.get _ (Hp.lt x.hp rfl) Lq).trans x.hp);have en:=OC (h:=H) vT su C6 hv;obtain⟨Fa,dX⟩:=(xH.bP.rows (0,e)).2 b2 fX;simp only[wm];refine aU f1 f0 en ?_;refine Vk HT (f:=f) xH.hp (dX.Vv Fa) (xH.len (0,e)) λh2 f2 g2 eK mC=>?_;have pk:=xH.pk;have x2:kn p aG tb pb mb c0 c1 c2 c9 f2 n h2 s B D:=xH.Av g2 (λi q=>by subst q;exact pk) eK;have mp:tb≠p:=λq=>by rw[q,xH.hp] at su;cases su
  refine ag ?_;refine ih r f2 h2 (some (S e)) _ K ?_ x2 ((g2.get _ (Hp.lt su rfl) mp).trans su) ((g2.get _ (Hp.lt vT rfl) (Ne.symm Lq)).trans vT) (au6.1 Bw).2 (λq hq=>gD q (hp.mem_iff.1 qbf)) zA zA ?_ λf' h' fl a0 a1 g' x' hn=>hk f' h' fl a0 a1 ?_ x' λhh=>(hn hh).trans (mC (hh e));have:=hp.length_eq;simp at this;omega;unfold fN at fi⊢;exact zA;exact((gH.mono λ_ _ q=>.inr q).trans (g2.mono λ_ _ q=>.inl q)).trans g'
theorem alv(HT:aA T){L:SL}{aD it:Nat}(hL:∀q,eV L q=(B (1,q)).map λb=>qc b (D (1,q))) (C6:(cD L).Nodup):∀(m:Nat)(todo:List (List UInt8))(f:cN)(h:Hp)(eC:Option AV)(fr:Fr)(K:aT->Prop),todo.length=m->
 kn p aG tb pb mb c0 c1 c2 c9 f n h s B D->h.get pb=.map (di L) aD->h.get it=.jx (.cell .str) pb aD (todo.map S) eC->todo.Nodup->(∀q∈todo,(eV L q).isSome=true)->
 J 0 fr=.ptr p 0->J 220 fr=.ptr it 0->fN fr B D->(∀f' h' fl,J 0 f'=.ptr p 0->fN f' B D->ah (λi=>i=p\/i=it) h h'->kn p aG tb pb mb c0 c1 c2 c9 fl n h' s B D->((∀q,((D (1,q)).map (·.name)).Nodup)->fl=f)->K (.exit 11 f' h' []))->W T (.loop l33_1) fr h [] K:=by
 intro m
 induction m with
 |zero=>
  intro todo f h eC fr K bz x mP gV dB gD f0 f1 fi hk;obtain rfl:=avW.1 bz;rw[aP];refine aB f1 ?_;refine C1 gV mP (λ_=>?_) (λe r hp=>absurd hp.length_eq zm);refine ag ?_;refine hk _ h f zA ?_ (ah.refl _) x λ_=>rfl;unfold fN at fi⊢;exact zA
 |succ m ih=>
  intro todo f h eC fr K bz x mP gV dB gD f0 f1 fi hk;rw[aP];refine aB f1 ?_;refine C1 gV mP (λe=>by subst e;simp at bz) (λe r hp=>?_);have he:e∈todo:=hp.mem_iff.1 zm;have Bw:(e::r).Nodup:=hp.nodup_iff.2 dB;obtain⟨b2,fX⟩:∃b,B (1,e)=some b:=by
   have:=gD e he;rw[hL] at this;cases q:B (1,e) with
   |none=>rw[q] at this;cases this
   |some b=>exact⟨b,rfl⟩
  have hv:eV L e=some (qc b2 (D (1,e))):=by rw[hL,fX];rfl
  have l1:=Hp.lt mP rfl;have l2:=Hp.lt gV rfl;have zV:pb≠it:=by rintro rfl;rw[mP] at gV;cases gV
  have hM:∀i,i=it->i≠aG/\i≠tb/\i≠pb/\i≠mb/\∀κ,B κ≠some i:=by
   rintro i rfl;have uE:∀j es ve,h.get j=.map es ve->i≠j:=λj es ve q e=>by rw[e] at gV;rw[q] at gV;cases gV
   refine⟨?_,?_,?_,?_,λκ q=>?_⟩;obtain⟨L,aD,q,_⟩:=x.nd;exact uE _ _ _ q;obtain⟨es,ve,w⟩:=x.bP.lZ 0 zd;exact uE _ _ _ w;obtain⟨es,ve,w⟩:=x.bP.lZ 1 zd;exact uE _ _ _ w;obtain⟨es,ve,w⟩:=x.bP.lZ 2 zd;exact uE _ _ _ w;obtain⟨r,t,w,_⟩:=((x.bP.rows κ).2 _ q).2;rw[w] at gV;cases gV
  have Lq:p≠it:=λq=>by have:=x.hp;rw[q,gV] at this;cases this
  generalize hH:h.set it (.jx (.cell .str) pb aD (r.map S) (some (S e)))=H;have gH:ah (·=it) h H:=by rw[<-hH];exact ah.set (M:=(·=it)) (ah.refl _) _ (.inr rfl)
  have vT:H.get it=.jx (.cell .str) pb aD (r.map S) (some (S e)):=by rw[<-hH];exact Hp.bR rfl
  clear hH;have su:H.get pb=.map (di L) aD:=(gH.get _ l1 zV).trans mP;have xH:kn p aG tb pb mb c0 c1 c2 c9 f n H s B D:=x.Av gH hM ((gH.get _ (Hp.lt x.hp rfl) Lq).trans x.hp);have en:=OC (h:=H) vT su C6 hv;obtain⟨Fa,dX⟩:=(xH.bP.rows (1,e)).2 b2 fX;simp only[wm];refine aU f1 f0 en ?_;refine Vk HT (f:=f) xH.hp (dX.Vv Fa) (xH.len (1,e)) λh2 f2 g2 eK mC=>?_;have pk:=xH.pk;have x2:kn p aG tb pb mb c0 c1 c2 c9 f2 n h2 s B D:=xH.Av g2 (λi q=>by subst q;exact pk) eK;have mp:pb≠p:=λq=>by rw[q,xH.hp] at su;cases su
  refine ag ?_;refine ih r f2 h2 (some (S e)) _ K ?_ x2 ((g2.get _ (Hp.lt su rfl) mp).trans su) ((g2.get _ (Hp.lt vT rfl) (Ne.symm Lq)).trans vT) (au6.1 Bw).2 (λq hq=>gD q (hp.mem_iff.1 qbf)) zA zA ?_ λf' h' fl a0 a1 g' x' hn=>hk f' h' fl a0 a1 ?_ x' λhh=>(hn hh).trans (mC (hh e));have:=hp.length_eq;simp at this;omega;unfold fN at fi⊢;exact zA;exact((gH.mono λ_ _ q=>.inr q).trans (g2.mono λ_ _ q=>.inl q)).trans g'
end
def l9:jv:=⟨λ_=>[],[],[],false⟩
section
variable{h h':Hp}{k:aK->Prop}{p aG tb pb mb n:Nat}{c0 c1 c2 c9:AV}{f f':cN}{aq:List (List UInt8)}{s:jv}{B:Kk->Option Nat}{D:Kk->List aC}
theorem kn.nO(x:kn p aG tb pb mb c0 c1 c2 c9 f n h s B D):Bu h tb s.bu:=by
 obtain⟨L,m,q⟩:=x.bP.map 0 zd;refine⟨L,m,λa=>?_⟩;rw[q,<-x.d0 a];cases hB:B (0,a) with
 |none=>exact .inl ⟨(x.bP.rows (0,a)).1 hB,rfl⟩
 |some b=>
  obtain⟨h1,h2⟩:=(x.bP.rows (0,a)).2 b hB;exact h2.Vv h1
theorem alw(HT:aA T)(pT:aq.length=n):∀(m i:Nat)(f:cN)(h:Hp)(fr:Fr)(K:aT->Prop),m=s.kW.length- i->i<=s.kW.length->kn p aG tb pb mb c0 c1 c2 c9 f n h s B D->yb h c2 aq->
 J 0 fr=.ptr p 0->J 228 fr=kV (B (3,[])) (D (3,[]))->J 229 fr=.i s.kW.length->J 230 fr=.i i->(∀f' h' fl,ah (·=p) h h'->kn p aG tb pb mb c0 c1 c2 c9 fl n h' s B D->(i=s.kW.length->fl=f)->K (.exit 13 f' h' []))->W T (.loop l33_0) fr h [] K:=by
 intro m
 induction m with
 |zero=>
  intro i f h fr K hm hi x hd f0 f228 f229 f230 hk;have e:¬i<s.kW.length:=zo;rw[aP];refine aU f229 f230 e ?_;exact hk _ h f (ah.refl _) x λ_=>rfl
 |succ m ih=>
  intro i f h fr K hm hi x hd f0 f228 f229 f230 hk;have ao:i<s.kW.length:=zo;have Lr:=x.d3;have TY:=x.len (3,[]);obtain⟨b,hb⟩:∃b,B (3,[])=some b:=by
   cases q:B (3,[]) with
   |none=>
    have:=(x.bP.rows (3,[])).1 q;rw[Lr] at this;rw[this] at ao;simp at ao
   |some b=>exact⟨b,rfl⟩
  obtain⟨bg,r,t,GQ,hr,ht⟩:=(x.bP.rows (3,[])).2 b hb;rw[hb] at f228;rw[Lr] at f228 hr TY;have H8:t i=s.kW[i].row:=by have:=ht i (by rw[Lr];exact ao);simp only[Lr] at this;exact this
  obtain⟨jd,hjd,acu⟩:=x.imp s.kW[i] (auy ao);generalize s.kW[i]=d at H8 acu;simp only[aC.row,acu] at H8;simp only[kV,qc] at f228;have lb:=Hp.lt GQ rfl;have hp:=x.hp;simp only[bS] at hp;have lp:=Hp.lt hp rfl;have OX:jd<aq.length:=zo;have bC:=hd (Cq OX);have hd:=hd (Cq OX);obtain⟨db,xu,xw,dr,dt,rfl,kY,HW,vS⟩:=bC;have qd:=vS jd OX;have eY:(jd:Int)<aq.length:=zo;have HX:=Hp.lt kY rfl;rw[aP];refine pU f0 f228 f229 f230 ao GQ H8 hp kY qd OX eY ?_;generalize hH:((h.push _).set _ _:Hp)=H;have gH:ax h H:=by rw[<-hH];exact fZ
  have u1:H.get h.nx=.one 34 [.i d.kind,S d.name,.i jd,.i d.at_,S d.dir]:=by rw[<-hH];simp(disch:=omega)
  clear hH;have pk:=x.pk;have xH:kn p aG tb pb mb c0 c1 (.slice db 0 1 aq.length xu xw) c9 f n H s B D:=x.Av gH (λ_ q=>q.elim) ((gH.get _ lp id).trans x.hp);refine UI HT (p:=p) (tb:=tb) (bu:=s.bu) xH.hp xH.nO (by rw[<-x.d0];exact x.len _) λh2 g2=>?_;have x2:kn p aG tb pb mb c0 c1 (.slice db 0 1 aq.length xu xw) c9 f n h2 s B D:=xH.Av g2 (λ_ q=>q.elim) ((g2.get _ (Hp.lt xH.hp rfl) id).trans xH.hp);have u2:=(g2.get _ (Hp.lt u1 rfl) id).trans u1;have lu2:=Hp.lt u2 rfl;generalize uy (s.bu aq[jd]) d.name=o;have b8:∀(bJ:Fr)(h3:Hp)(f3:cN),ah (·=p) h h3->kn p aG tb pb mb c0 c1 (.slice db 0 1 aq.length xu xw) c9 f3 n h3 s B D->J 0 bJ=.ptr p 0->J 228 bJ=kV (B (3,[])) (D (3,[]))->J 229 bJ=.i s.kW.length->J 230 bJ=.i i->W T (.af r33_42) bJ h3 [] (bF (W T (.loop l33_0)) K):=by intro bJ h3 f3 g3 x3 e0 e228 e229 e230;refine aS e230 ao ?_;exact ih (i+1) f3 h3 _ K zo zo x3 (λ_=>hd.mono g3 λq r t e m=>by subst m;rw[x.hp] at e;cases e) (au e0) (au e228) (au e229) aa λf' h' fl g' x' hh=>hk f' h' fl (g3.trans g') x' λe=>absurd e zo
  have f228':J 228 fr=kV (B (3,[])) (D (3,[])):=by rw[hb,Lr];exact f228
  generalize hN:CC.af r33_42=N at b8⊢;cases o with
  |none=>
   simp only[lA,Option.getD,Option.isSome,qG,aC.row];refine aU u2 f230 ao ?_;generalize oF:((h2.push _).set _ _:Hp)=H3;have uA:ax h2 H3:=by rw[<-oF];exact fZ
   have x3:kn p aG tb pb mb c0 c1 (.slice db 0 1 aq.length xu xw) c9 f n H3 s B D:=x2.Av uA (λ_ q=>q.elim) ((uA.get _ (Hp.lt x2.hp rfl) id).trans x2.hp);have g3:ah (·=p) h H3:=ah.cn ((gH.trans g2).trans uA);exact ih (i+1) f H3 _ K zo zo x3 (λ_=>hd.mono g3 λq r t e m=>by subst m;rw[x.hp] at e;cases e) zA zA zA aa λf' h' fl g' x' hh=>hk f' h' fl (g3.trans g') x' λe=>absurd e zo
  |some e=>
   simp only[lA,Option.getD,Option.isSome,aC.row];refine aS u2 f0 ?_;generalize oF:(((h2.push _).set _ _).push _:Hp)=H3;have uA:ax h2 H3:=by rw[<-oF];exact fZ
   have HU:∃t,H3.get (h2.nx+1)=.rows 34 5 2 0 t/\t 0=(⟨0,d.name,jd,d.at_,[]⟩:aC).row/\t 1=(⟨0,d.name,e.doc,e.at_,[]⟩:aC).row:=by refine⟨_,by rw[<-oF];exact Hp.br zm,?_,?_⟩<;>simp[aC.row]
   obtain⟨t3,q1,q2,q3⟩:=HU;clear oF;have x3:kn p aG tb pb mb c0 c1 (.slice db 0 1 aq.length xu xw) c9 f n H3 s B D:=x2.Av uA (λ_ q=>q.elim) ((uA.get _ (Hp.lt x2.hp rfl) id).trans x2.hp);have alx:yG H3 (.slice (h2.nx+1) 0 5 2 2 true) [⟨0,d.name,jd,d.at_,[]⟩,⟨0,d.name,e.doc,e.at_,[]⟩]:=by
    refine .inr ⟨by simp,_,t3,_,_,2,rfl,q1,by simp,λj hj=>?_⟩;exact match j,hj with
    |0,_=>q2
    |1,_=>q3
   refine Vk HT (f:=f) x3.hp alx zm λh4 f4 g4 m7 _=>?_;have x4:kn p aG tb pb mb c0 c1 (.slice db 0 1 aq.length xu xw) c9 f4 n h4 s B D:=x3.Av g4 (λi q=>by subst q;exact pk) m7;refine ag ?_;exact b8 _ h4 f4 ((ah.cn ((gH.trans g2).trans uA)).trans g4) x4 zA zA zA zA
end
section
variable{h h':Hp}{k:aK->Prop}{p aG tb pb mb n:Nat}{c0 c1 c2 c9:AV}{f f':cN}{aq:List (List UInt8)}{s:jv}{B:Kk->Option Nat}{D:Kk->List aC}
theorem kn.g0(x:kn p aG tb pb mb c0 c1 c2 c9 f n h s B D)(g:ax h h'):kn p aG tb pb mb c0 c1 c2 c9 f n h' s B D:=
 x.Av g (λ_ q=>q.elim) ((g.get _ (Hp.lt x.hp rfl) id).trans x.hp)
theorem aly{o:Option Nat}{ds:List aC}{H:Hp}(hn:o=none->ds=[]):tL 1 H (kV o ds)=.v (.i ds.length):=by
 cases o with
 |none=>rw[hn rfl];rfl
 |some b=>rfl
def DF(p aG tb pb:Nat)(h h':Hp):Prop:=gW (λi=>i=p\/i=aG\/i=tb\/i=pb) h h'
theorem alz(HT:aA T){fs:List Tree}(hp:h.get p=.one 52 (bS c0 c1 c2 f (.map aG) (.map tb) (.map pb) c9))(dB:lX h aG [])(K3:iV h tb [])(OY:iV h pb [])(bg:aG≠tb/\aG≠pb/\tb≠pb)
 (hd:yb h c2 aq) (hc:lC 0 h c1 fs) (pK:fs.length=aq.length) (nV:fs.length<4294967296) (mT:∀d∈aq,d.length<4294967296) (sm:pq fs) (BB:∀t∈fs,∀t'∈t.kids,yN t') (bz:(jG aq fs 0 l9).nd.length<536870912)
 (hk:∀h' fl,DF p aG tb pb h h'->h'.get p=.one 52 (bS c0 c1 c2 fl (.map aG) (.map tb) (.map pb) c9)->lX h' aG (jG aq fs 0 l9).nd->Bu h' tb (jG aq fs 0 l9).bu->(∀q,((jG aq fs 0 l9).bu q).length<1073741824)->
  ((jG aq fs 0 l9).rE=false->(jG aq fs 0 l9).kW=[]->(∀q,(((jG aq fs 0 l9).bu q).map (·.name)).Nodup)->fl=f)->k (.ret (.bA []) h')):aE T (W T) ⟨33⟩ [.ptr p 0] h k:=by
 rw[aJ HT.t33];have dj:=hp;simp only[bS] at dj;have lp:=Hp.lt hp rfl;have dW:=K3.lt;have lpb:=OY.lt;have OK:=dB.lt;generalize hL6:CC.loop l33_6=L6;generalize Uj:CC.loop l33_3=L3;generalize wQ:CC.loop l33_2=L2;generalize jg:CC.loop l33_1=L1;generalize pz:CC.loop l33_0=L0;simp(disch:=omega) [dj,hc.len];have g1:ax h (h.push (.map [] 0)):=aZ;have x1:gj p aG tb pb h.nx c0 c1 c2 c9 f fs.length (h.push (.map [] 0)) l9 (λ_=>none) (λ_=>[]):=by
  refine⟨(g1.get _ lp id).trans hp,dB.mono (g1.get _ OK id),⟨λc hc=>?_,λκ=>⟨λ_=>rfl,λb e=>by cases e⟩,λ_ _ _ e=>qbj,⟨bg.2.2,by omega,by omega⟩⟩,λ_=>rfl,rfl,λ_ _=>⟨rfl,rfl⟩,λ_=>auz _,λd hd=>(by cases hd),⟨bg.1,bg.2.1,by omega⟩⟩
  match c,hc with
  |0,_=>exact⟨[],K3.mono (g1.get _ dW id),λ_=>rfl⟩
  |1,_=>exact⟨[],OY.mono (g1.get _ lpb id),λ_=>rfl⟩
  |2,_=>exact⟨[],iV.new (Hp.br rfl),λ_=>rfl⟩
 have iu:yb _ c2 aq:=λne=>(hd ne).mono (M:=λ_=>False) g1 λ_ _ _ _=>id;subst hL6;refine alp HT (fs:=fs) pK rfl nV mT fs 0 l9 _ _ _ _ _ zo (λi hi=>by simp[hi]) x1 iu (hc.nf (mY g1)) sm BB bz aa aa aa aa aa (by unfold fN;simp(disch:=omega) [kV]) λf2 h2 B2 D2 a0 a2 tv g2 x2=>?_;have lN:yb h2 c2 aq:=λne=>x1.Au g2 (iu ne);obtain⟨L,⟨⟨aD,em⟩,C6⟩,hLq⟩:=x2.bP.map 2 zd;simp only[show(2:Nat)≠0 from by decide,show(2:Nat)≠1 from by decide,auM] at em;have lm:=Hp.lt em rfl;simp(disch:=omega) [a2,OD em];have gP:ax h2 (h2.push (.jx (.cell .str) h.nx aD ((cD L).map S) none)):=aZ;have xP:=(x2.b bz).g0 gP;subst Uj;refine alq HT (D0:=D2) (L:=L) (aD:=aD) (it:=h2.nx) (B2:=λq=>B2 (2,q)) (λκ=>auD (x2.len κ) bz) hLq C6 _ (cD L) _ none B2 D2 _ _ rfl xP ((gP.get _ lm id).trans em) (Hp.br rfl) C6 (λq hq=>?_) (λ_=>⟨rfl,rfl⟩) (λq=>?_) (λho q=>(x2.yK ho q).2) (au a0) aa (by unfold fN at tv⊢;exact zA) λf3 h3 B3 D3 b0 vP g3 x3=>?_;cases hv:eV L q with
 |none=>exact absurd hq (Br.1 hv)
 |some v=>rfl
 by_cases hq:q∈cD L
 rw[atV hq];have:B2 (2,q)=none:=by
  have:=Br.2 hq;rw[hLq] at this;cases hb:B2 (2,q) with
  |none=>rfl
  |some b=>rw[hb] at this;cases this
 rw[atS hq,(x2.bP.rows (2,q)).1 this,av5];have kF:=x3.hp;simp only[bS] at kF;have lp3:=Hp.lt kF rfl;obtain⟨LT,⟨⟨acv,et⟩,hTn⟩,hTq⟩:=x3.bP.map 0 zd;simp only[auo] at et;have lt3:=Hp.lt et rfl;simp(disch:=omega) [b0,kF,OD et];have gQ:ax h3 (h3.push (.jx (.cell .str) tb acv ((cD LT).map S) none)):=aZ;have xQ:=x3.g0 gQ;have gD:∀{L:SL},∀q∈cD L,(eV L q).isSome=true:=λ{L} q hq=>by
  cases hv:eV L q with
  |none=>exact absurd hq (Br.1 hv)
  |some v=>rfl
 subst wQ;refine alu HT (L:=LT) (aD:=acv) (it:=h3.nx) hTq hTn _ (cD LT) f _ none _ _ rfl xQ ((gQ.get _ lt3 id).trans et) (Hp.br rfl) hTn gD (au b0) aa (by unfold fN at vP⊢;exact zA) λf4 h4 fl4 c0' OM g4 x4 Ld=>?_;have m7:=x4.hp;simp only[bS] at m7;have lp4:=Hp.lt m7 rfl;obtain⟨LP,⟨⟨acw,ep⟩,hPn⟩,hPq⟩:=x4.bP.map 1 zd;simp only[show(1:Nat)≠0 from by decide,auM,auo] at ep;have lt4:=Hp.lt ep rfl;simp(disch:=omega) [c0',m7,OD ep];have gR:ax h4 (h4.push (.jx (.cell .str) pb acw ((cD LP).map S) none)):=aZ;have xR:=x4.g0 gR;subst jg;refine alv HT (L:=LP) (aD:=acw) (it:=h4.nx) hPq hPn _ (cD LP) fl4 _ none _ _ rfl xR ((gR.get _ lt4 id).trans ep) (Hp.br rfl) hPn gD (au c0') aa (by unfold fN at OM⊢;exact zA) λf5 h5 fl5 d0' fi5 g5 x5 hf5=>?_;have acy:=fi5;unfold fN at acy;have hl5:tL 1 h5 (kV (B3 (3,[])) (D3 (3,[])))=.v (.i (jG aq fs 0 l9).kW.length):=by rw[<-x5.d3];exact aly (x5.bP.rows (3,[])).1
 refine aS acy hl5 ?_;have pk:=x5.pk;have qF:DF p aG tb pb h h5:=by
  refine⟨?_,λi hi hm h34=>?_⟩;have:=g1.nx;have:=g2.nx;have:=gP.nx;have:=g3.nx;have:=gQ.nx;have:=g4.nx;have:=gR.nx;have:=g5.nx;omega
  have q1:=g1.nx;have q2:=g2.nx;have q3:=gP.nx;have q4:=g3.nx;have q5:=gQ.nx;have q6:=g4.nx;have q7:=gR.nx
  simp only[not_or] at hm;have e1:=g1.get i hi id;have e2:=(g2.get i zo (by rintro(r|r|r|r)<;>omega) (by rw[e1];exact h34)).trans e1;have e3:=(gP.get i zo id).trans e2;have e4:=(g3.get i zo (by rintro((r|r|r|r)|r)<;>omega) (by rw[e3];exact h34)).trans e3;have e5:=(gQ.get i zo id).trans e4;have e6:=(g4.get i zo (by rintro(r|r)<;>omega)).trans e5;have e7:=(gR.get i zo id).trans e6;exact(g5.get i zo (by rintro(r|r)<;>omega)).trans e7
 have Vw:yb h5 c2 aq:=λne=>by obtain⟨b,cap,ex,r,t,e1,hb,hw⟩:=hd ne;refine⟨b,cap,ex,r,t,e1,?_,hw⟩;rw[qF.get b (Hp.lt hb rfl) ?_ (by rw[hb];rintro⟨_,_,q⟩;cases q)];exact hb;rintro(rfl|rfl|rfl|rfl);rw[hb] at hp;cases hp;obtain⟨L,aD,q,_⟩:=dB;rw[hb] at q;cases q;obtain⟨⟨_,q⟩,_⟩:=K3;rw[hb] at q;cases q;obtain⟨⟨_,q⟩,_⟩:=OY;rw[hb] at q;cases q
 subst pz;refine alw HT (aq:=aq) pK.symm _ 0 fl5 h5 _ _ rfl (auz _) x5 Vw (au d0') aa aa aa λf6 h6 fl6 g6 x6 tA=>?_;refine ag ?_;refine hk h6 fl6 ⟨at1 qF.nx g6.nx,λi hi hm h34=>?_⟩ x6.hp x6.nd x6.nO (λq=>by rw[<-x6.d0];exact x6.len _) λho HQ hn=>?_;rw[g6.get i (aur hi qF.nx) (λq=>hm (.inl q)),qF.get i hi hm h34];rw[tA (by rw[HQ];rfl),hf5 λq=>by rw[x5.yK ho q];exact List.nodup_nil,Ld λq=>by rw[x4.d0];exact hn q]
end
def Ls(fs:List Tree):List (List UInt8):=fs.flatMap λt=>t.kids.map (·.name)
def H9(fs:List Tree)(Q:SL):Nat:=((Ls fs).filter λs=>decide (s∉cD Q)).length
structure oJ(h:Hp)(sb:Nat)(Q:SL):Prop where
 m:iV h sb Q
 v:∀s w,eV Q s=some w->w=.i 1
theorem alA{fs:List Tree}{Q Q':SL}{x:List UInt8}(hx:x∈Ls fs)(h1:x∉cD Q)(h2:x∈cD Q')(hs:∀s,s∈cD Q->s∈cD Q'):H9 fs Q'<H9 fs Q:=by
 unfold H9;have key:∀l:List (List UInt8),(l.filter λs=>decide (s∉cD Q')).length<=(l.filter λs=>decide (s∉cD Q)).length/\(x∈l->(l.filter λs=>decide (s∉cD Q')).length<(l.filter λs=>decide (s∉cD Q)).length):=by
  intro l
  induction l with
  |nil=>exact⟨at2 _,λh=>by cases h⟩
  |cons a l ih=>
   simp only[awB]
   by_cases a1:a∈cD Q
   have a2:=hs a a1;simp only[a1,a2,not_true,aw',at3,auM];refine⟨ih.1,λhm=>ih.2 ?_⟩;rcases atZ.1 hm with rfl|hm;exact absurd a1 h1;exact hm
   by_cases a2:a∈cD Q'
   simp only[a1,a2,not_true,aw',at3,auM,avR,auS,auo,atX];exact⟨by omega,λ_=>by omega⟩;simp only[a1,a2,avR,auS,auo,atX];refine⟨by omega,λhm=>?_⟩;rcases atZ.1 hm with rfl|hm;exact absurd h2 a2;have:=ih.2 hm;omega
 exact(key _).2 hx
section
variable{p sb:Nat}{c0 c1 c2 c6 c7 c8 c9:AV}{f:cN}{fs:List Tree}{aq:List (List UInt8)}{to:List UInt8}
def alB(T:aM->Option CF)(p sb:Nat)(c0 c1 c2 c6 c7 c8 c9:AV)(f:cN)(fs:List Tree)(aq:List (List UInt8))(to:List UInt8)(m:Nat):Prop:=
 ∀(Q:SL)(ak:List UInt8)(h:Hp)(k:aK->Prop),H9 fs Q=m->ak∈Ls fs->ak∉cD Q->oJ h sb Q->h.get p=.one 52 (bS c0 c1 c2 f c6 c7 c8 c9)->cY h c2 aq->lC 0 h c1 fs->
  (∀(b:Bool) h' Q',ah (·=sb) h h'->oJ h' sb Q'->(∀s,s∈cD Q->s∈cD Q')->k (.ret (.bool b) h'))->aE T (W T) ⟨32⟩ [.ptr p 0,S ak,S to,.map sb] h k
theorem oJ.mono{h h':Hp}{sb:Nat}{Q:SL}(x:oJ h sb Q)(e:h'.get sb=h.get sb):oJ h' sb Q:=⟨x.m.mono e,x.v⟩
theorem oJ.ne{h:Hp}{Q:SL}(x:oJ h sb Q){i el l}(e:h.get i=.one el l):i≠sb:=by rintro rfl;obtain⟨⟨_,q⟩,_⟩:=x.m;rw[e] at q;cases q
theorem oJ.nr{h:Hp}{Q:SL}(x:oJ h sb Q){i el rw r z t}(e:h.get i=.rows el rw r z t):i≠sb:=by rintro rfl;obtain⟨⟨_,q⟩,_⟩:=x.m;rw[e] at q;cases q
theorem oJ.nf{h h':Hp}{Q:SL}(x:oJ h sb Q)(g:ah (·=sb) h h'):NF 0 h h':=λi r ff _ e=>by rw[g.get i (Hp.lt e rfl) (x.nr e)];exact e
theorem oJ.Au{h h':Hp}{Q:SL}{v ws}(x:oJ h sb Q)(g:ah (·=sb) h h')(y:cY h v ws):cY h' v ws:=y.mono g λi r t e m=>x.nr e m
theorem alC(HT:aA T)(pK:fs.length=aq.length)(nV:fs.length<4294967296)(CY:∀t∈fs,t.kids.length<4294967296):∀m,alB T p sb c0 c1 c2 c6 c7 c8 c9 f fs aq to m:=by
 intro m
 induction m using Nat.strongRecOn with
 |_ m ih=>
 intro Q ak h k hm alD OZ sq hp hd hc hk;rw[aJ HT.t32]
 by_cases e0:ak=to
 refine aB e0 ?_;exact hk true h Q (ah.refl _) sq λ_ h=>h;have lsb:=sq.m.lt;have lp:=Hp.lt hp rfl;have alE:me (.cell .str) h (.i 0) (.map sb) (S ak) false=.v (.i 0):=by rw[sq.m.jV,Br.2 OZ];rfl
 obtain⟨o,eo,fo⟩:=sq.m.pE (s:=ak) (v:=.i 1);have psb:=sq.ne hp;have g1:ah (·=sb) h (h.set sb o):=ah.set (M:=(·=sb)) (ah.refl _) _ (.inr rfl);have sq1:oJ (h.set sb o) sb (mA Q ak (.i 1)):=⟨fo _ (Hp.bR rfl),λs w hw=>by rw[Bq] at hw;split at hw;cases hw;rfl;exact sq.v _ _ hw⟩
 have fu:(h.set sb o).get p=_:=(g1.get _ lp psb).trans hp;have iu:=sq.Au g1 hd;have mR:=hc.nf (sq.nf g1);have Vx:∀s,s∈cD Q->s∈cD (mA Q ak (.i 1)):=λs hs=>by rw[OA,atS OZ];simp[hs]
 have alF:ak∈cD (mA Q ak (.i 1)):=by rw[OA,atS OZ];simp
 have C7:=fu;simp only[bS] at C7;generalize hL:CC.loop l32_1=L;simp(disch:=omega) [e0,alE,eo,C7,mR.len];subst hL;have U':∀(ts:List Tree)(j i n':Nat)(kv:AV)(Q1:SL)(h1:Hp)(fr:Fr)(K:aT->Prop),(hj:j<aq.length)->i+ts.length=n'->n'<4294967296->(∀t∈ts,t.name∈Ls fs)->(ts≠[]->∃b cap ex r ff,kv=.slice b 0 6 n' cap ex/\h1.get b=.rows 39 6 r 0 ff/\n'<=r/\∀q,(hq:q<ts.length)->ay 0 h1 ts[q] (ff (i+q)))->
  oJ h1 sb Q1->(∀s,s∈cD Q->s∈cD Q1)->ak∈cD Q1->h1.get p=.one 52 (bS c0 c1 c2 f c6 c7 c8 c9)->cY h1 c2 aq->lC 0 h1 c1 fs->
  J 0 fr=.ptr p 0->J 1 fr=S ak->J 2 fr=S to->J 3 fr=.map sb->J 9 fr=.i j->J 31 fr=kv->J 32 fr=.i n'->J 33 fr=.i i->
  (∀f' h' Q',(∀q,q<=7\/20<=q/\q<=25->J q f'=J q fr)->ah (·=sb) h1 h'->oJ h' sb Q'->(∀s,s∈cD Q1->s∈cD Q')->K (.exit 2 f' h' []))->(∀f' h' Q',ah (·=sb) h1 h'->oJ h' sb Q'->(∀s,s∈cD Q1->s∈cD Q')->J 8 f'=.bool true->K (.ret f' h' []))->W T (.loop l32_0) fr h1 [] K:=by
  intro ts
  induction ts with
  |nil=>
   intro j i n' kv Q1 h1 fr K hj hi gE hU hb s1 oz Aw fu iu mR f0 f1 f2 f3 f9 f31 f32 f33 k1 k2;simp only[aup,aud] at hi;subst hi;rw[aP];refine aU f31 f32 f33 ?_;exact k1 _ _ Q1 (λq hq=>by repeat rw[qA,atS zo]) (ah.refl _) s1 λ_ h=>h
  |cons t ts Vy=>
   intro j i n' kv Q1 h1 fr K hj hi gE hU hb s1 oz Aw fu iu mR f0 f1 f2 f3 f9 f31 f32 f33 k1 k2;obtain⟨b,cap,ex,r,ff,rfl,hb,hr,iW⟩:=hb zm;simp only[atX] at hi;have ao:i<n':=zo;have aY:(i:Int)<n':=zo;have eJ:=iW 0 zm;simp only[aus,aud] at eJ;obtain⟨kv,jE,hkv⟩:=eJ.cells;have lb:=Hp.lt hb rfl;have C7:=fu;simp only[bS] at C7;have Vz:=Hp.lt fu rfl;have alG:=iu;obtain⟨db,xu,xw,dr,dt,rfl,kY,HW,vS⟩:=alG;have qd:=vS j hj;have eY:(j:Int)<aq.length:=zo;have HX:=Hp.lt kY rfl;have nx:∀(bJ:Fr)(h2:Hp)(Q2:SL),(∀q,q<=7\/q=9\/20<=q/\q<=25\/31<=q/\q<=33->J q bJ=J q fr)->ah (·=sb) h1 h2->oJ h2 sb Q2->(∀s,s∈cD Q1->s∈cD Q2)->W T (.af r32_12) bJ h2 [] (bF (W T (.loop l32_0)) K):=by
    intro bJ h2 Q2 hf g2 s2 mX;have e33:=(hf 33 zo).trans f33;have nf:=s1.nf g2;refine aS e33 ao ?_;refine Vy j (i+1) n' _ Q2 h2 _ K hj zo gE (λt ht=>hU t qat) (λ_=>⟨b,cap,ex,r,ff,rfl,nf _ _ _ (auz _) hb,hr,λq hq=>?_⟩) s2 (λs hs=>mX s (oz s hs)) (mX _ Aw) ((g2.get _ Vz (s1.ne fu)).trans fu) (s1.Au g2 iu) (mR.nf nf) (au ((hf 0 zo).trans f0)) (au ((hf 1 zo).trans f1)) (au ((hf 2 zo).trans f2)) (au ((hf 3 zo).trans f3)) (au ((hf 9 zo).trans f9)) (au ((hf 31 zo).trans f31)) (au ((hf 32 zo).trans f32)) aa (λf' h' Q' BD g' s' fW=>k1 f' h' Q' (λq hq=>?_) (g2.trans g') s' λs hs=>fW s (mX s hs)) (λf' h' Q' g' s' fW e8=>k2 f' h' Q' (g2.trans g') s' (λs hs=>fW s (mX s hs)) e8);have:=iW (q+1) zn;simp only[auu,show i+(q+1)=i+1+q by omega] at this;exact this.nf nf zl
    ·rw[BD q hq]
     repeat rw[qA,atS zo]
     exact hf q zo
   generalize hN:CC.af r32_12=N at nx;have gH:ax h1 ((h1.push (.one 39 [.i 0,.i 0,.i 0,.i 0,S [],.bx])).set h1.nx (.one 39 [.i t.kind,.i t.ak,.i t.to,.i t.at,S t.name,kv])):=fZ;have sH:=s1.mono (gH.get _ s1.m.lt id);have GS:∀q,q<=7\/q=9\/20<=q/\q<=25\/31<=q/\q<=33->True:=λ_ _=>trivial;rw[aP];show W T QI fr h1 [] _;unfold QI;rw[hN]
   by_cases c1:aq[j]=ak
   ·by_cases c2:t.kind=2
    ·by_cases c3:t.name∈cD Q1
     ·have fC:me (.cell .str) ((h1.push (.one 39 [.i 0,.i 0,.i 0,.i 0,S [],.bx])).set h1.nx (.one 39 [.i t.kind,.i t.ak,.i t.to,.i t.at,S t.name,kv])) (.i 0) (.map sb) (S t.name) false=.v (.i 1):=by
       rw[sH.m.jV];cases q:eV Q1 t.name with
       |none=>exact absurd c3 (Br.1 q)
       |some w=>rw[s1.v _ _ q];rfl
      rw[c2] at fC;refine kC f0 f1 f2 f3 f9 f31 f32 f33 ao aY hb jE (atQ (atQ (atQ (atQ (atQ (atQ (atQ (atQ hkv.bQ C7) kY) qd) hj) eY) c1) c2) fC) ?_;rw[c2] at gH sH;exact nx _ _ Q1 (λq hq=>by repeat rw[qA,atS zo]) (ah.cn gH) sH λ_ h=>h
     ·have fC:me (.cell .str) ((h1.push (.one 39 [.i 0,.i 0,.i 0,.i 0,S [],.bx])).set h1.nx (.one 39 [.i t.kind,.i t.ak,.i t.to,.i t.at,S t.name,kv])) (.i 0) (.map sb) (S t.name) false=.v (.i 0):=by rw[sH.m.jV,Br.2 c3];rfl
      rw[c2] at fC;refine kC f0 f1 f2 f3 f9 f31 f32 f33 ao aY hb jE (atQ (atQ (atQ (atQ (atQ (atQ (atQ (atQ hkv.bQ C7) kY) qd) hj) eY) c1) c2) fC) ?_;rw[c2] at gH sH;have xU:=hU t zm;refine ih (H9 fs Q1) (by rw[<-hm];exact alA alD OZ Aw oz) Q1 t.name _ _ rfl xU c3 sH ((gH.get _ Vz id).trans fu) (iu.mono (M:=λ_=>False) gH λ_ _ _ _=>id) (mR.nf (mY gH)) λbb h2 Q2 g2 s2 mX=>?_;have g12:ah (·=sb) h1 h2:=(ah.cn gH).trans g2;cases bb with
      |true=>
       refine ag ?_;exact k2 _ h2 Q2 g12 s2 mX aa
      |false=>
       refine ag ?_;exact nx _ h2 Q2 (λq hq=>by repeat rw[qA,atS zo]) g12 s2 mX
    ·refine kC f0 f1 f2 f3 f9 f31 f32 f33 ao aY hb jE (atQ (atQ (atQ (atQ (atQ (atQ (atQ hkv.bQ C7) kY) qd) hj) eY) c1) c2) ?_;exact nx _ _ Q1 (λq hq=>by repeat rw[qA,atS zo]) (ah.cn gH) sH λ_ h=>h
   ·refine kC f0 f1 f2 f3 f9 f31 f32 f33 ao aY hb jE (atQ (atQ (atQ (atQ (atQ (atQ hkv.bQ C7) kY) qd) hj) eY) c1) ?_;exact nx _ _ Q1 (λq hq=>by repeat rw[qA,atS zo]) (ah.cn gH) sH λ_ h=>h
 have Lc:∀(ts:List Tree)(j:Nat)(Q1:SL)(h1:Hp)(fr:Fr)(K:aT->Prop),j+ts.length=fs.length->(∀i(hi:i<ts.length),fs[j+i]? =some ts[i])->oJ h1 sb Q1->(∀s,s∈cD Q->s∈cD Q1)->ak∈cD Q1->h1.get p=.one 52 (bS c0 c1 c2 f c6 c7 c8 c9)->cY h1 c2 aq->lC 0 h1 c1 fs->
  J 0 fr=.ptr p 0->J 1 fr=S ak->J 2 fr=S to->J 3 fr=.map sb->J 23 fr=c1->J 24 fr=.i fs.length->J 25 fr=.i j->
  (∀f' h' Q',ah (·=sb) h1 h'->oJ h' sb Q'->(∀s,s∈cD Q1->s∈cD Q')->K (.exit 0 f' h' []))->(∀f' h' Q',ah (·=sb) h1 h'->oJ h' sb Q'->(∀s,s∈cD Q1->s∈cD Q')->J 8 f'=.bool true->K (.ret f' h' []))->W T (.loop l32_1) fr h1 [] K:=by
  intro ts
  induction ts with
  |nil=>
   intro j Q1 h1 fr K hj jh s1 oz Aw fu iu mR f0 f1 f2 f3 f23 f24 f25 k1 k2;simp only[aup,aud] at hj;subst hj;rw[aP];refine aU f23 f24 f25 ?_;exact k1 _ _ Q1 (ah.refl _) s1 λ_ h=>h
  |cons t ts Vy=>
   intro j Q1 h1 fr K hj jh s1 oz Aw fu iu mR f0 f1 f2 f3 f23 f24 f25 k1 k2;simp only[atX] at hj;have ao:j<fs.length:=zo;have aY:(j:Int)<fs.length:=zo;have jd:j<aq.length:=zo;have et:fs[j]=t:=by have:=jh 0 zm;simp only[aud,atT ao,aus] at this;exact auQ this
   have tm:t∈fs:=by rw[<-et];exact auy ao
   obtain⟨b,cap,ex,r,ff,rfl,hb,hr,iW⟩:=mR.rows qaZ;have eJ:=iW j ao;simp only[aue,et] at eJ;obtain⟨kv,jE,hkv⟩:=eJ.cells;have lb:=Hp.lt hb rfl;have jr:j<r:=zo;generalize hL:CC.loop l32_0=L;rw[aP];simp(disch:=omega) [f23,f24,f25,ao,aY,hb,jE,hkv.bQ,hkv.len];generalize hH:((h1.push _).set _ _:Hp)=H;have gH:ax h1 H:=by rw[<-hH];exact fZ
   clear hH;have sH:=s1.mono (gH.get _ s1.m.lt id);have HZ:=hkv.nf (mY gH);have hcH:=mR.nf (mY gH);subst hL;refine U' t.kids j 0 t.kids.length kv Q1 H _ _ jd zo (CY t tm) (λt' jL=>List.mem_flatMap.2 ⟨t,tm,auR.2 ⟨t',jL,rfl⟩⟩) HZ.rows sH oz Aw ((gH.get _ (Hp.lt fu rfl) id).trans fu) (iu.mono (M:=λ_=>False) gH λ_ _ _ _=>id) hcH zA zA zA zA aa aa aa aa (λf' h2 Q2 hf g2 s2 mX=>?_) (λf' h2 Q2 g2 s2 mX e8=>?_);have e0:=hf 0 zo;have e1:=hf 1 zo;have e2:=hf 2 zo;have e3:=hf 3 zo;have e23:=hf 23 zo;have e24:=hf 24 zo;have e25:=hf 25 zo
   simp(disch:=omega) [f0,f1,f2,f3,f23,f24,f25] at e0 e1 e2 e3 e23 e24 e25;have g12:ah (·=sb) h1 h2:=(ah.cn gH).trans g2;refine aS e25 ao ?_;refine Vy (j+1) Q2 h2 _ K zo (λi hi=>?_) s2 (λs hs=>mX s (oz s hs)) (mX _ Aw) ((g12.get _ (Hp.lt fu rfl) (s1.ne fu)).trans fu) (s1.Au g12 iu) (mR.nf (s1.nf g12)) (au e0) (au e1) (au e2) (au e3) (au e23) (au e24) aa (λf' h' Q' g' s' fW=>k1 f' h' Q' (g12.trans g') s' λs hs=>fW s (mX s hs)) (λf' h' Q' g' s' fW e8=>k2 f' h' Q' (g12.trans g') s' (λs hs=>fW s (mX s hs)) e8);have:=jh (i+1) zn;simp only[auu] at this;rw[show j+1+i=j+(i+1) by omega];exact this;refine ag ?_;exact k2 _ h2 Q2 ((ah.cn gH).trans g2) s2 mX e8
 refine Lc fs 0 _ _ _ _ zo (λi hi=>by simp[hi]) sq1 Vx alF fu iu mR aa aa aa aa aa aa aa (λf' h' Q' g' s' fW=>?_) (λf' h' Q' g' s' fW e8=>?_);refine ag ?_;exact hk false h' Q' (g1.trans g') s' λs hs=>fW s (Vx s hs);refine aB e8 ?_;exact hk true h' Q' (g1.trans g') s' λs hs=>fW s (Vx s hs)
end
section
variable{p:Nat}{c0 c1 c2 c6 c7 c8 c9:AV}{fs:List Tree}{aq:List (List UInt8)}
structure uF(h:Hp)(wb:Nat)(Q:SL):Prop where
 m:iV h wb Q
 v:∀s w,eV Q s=some w->∃c:Int,w=.i c
theorem uF.mono{h h':Hp}{wb:Nat}{Q:SL}(x:uF h wb Q)(e:h'.get wb=h.get wb):uF h' wb Q:=⟨x.m.mono e,x.v⟩
theorem uF.jV{h:Hp}{wb:Nat}{Q:SL}(x:uF h wb Q){s:List UInt8}:∃c:Int,me (.cell .str) h (.i 0) (.map wb) (S s) false=.v (.i c):=by
 rw[x.m.jV];cases hq:eV Q s with
 |none=>exact⟨0,rfl⟩
 |some w=>obtain⟨c,rfl⟩:=x.v _ _ hq;exact⟨c,rfl⟩
theorem uF.put{h:Hp}{wb:Nat}{Q:SL}(x:uF h wb Q){s:List UInt8}{c:Int}:∃o,wk (.cell .str) h (.map wb) (S s) (.i c)=.vh undef (h.set wb o)/\∀h':Hp,h'.get wb=o->∃Q',uF h' wb Q':=by obtain⟨o,eo,fo⟩:=x.m.pE (s:=s) (v:=.i c);refine⟨o,eo,λh' e=>⟨_,fo h' e,λa w hw=>?_⟩⟩;rw[Bq] at hw;split at hw;cases hw;exact⟨_,rfl⟩;exact x.v _ _ hw
structure oK(p:Nat)(c0 c1 c2 c6 c7 c8 c9:AV)(fs:List Tree)(aq:List (List UInt8))(f:cN)(h:Hp):Prop where
 hp:h.get p=.one 52 (bS c0 c1 c2 f c6 c7 c8 c9)
 hd:yb h c2 aq
 hc:lC 0 h c1 fs
theorem oK.mono{f f':cN}{h h':Hp}{M:Nat->Prop}(x:oK p c0 c1 c2 c6 c7 c8 c9 fs aq f h)(g:ah M h h')(hM:∀i,M i->∀el rw r z t,h.get i≠.rows el rw r z t) (hp:h'.get p=.one 52 (bS c0 c1 c2 f' c6 c7 c8 c9)):oK p c0 c1 c2 c6 c7 c8 c9 fs aq f' h':=
 ⟨hp,λne=>(x.hd ne).mono g λi r t e m=>hM i m _ _ _ _ _ e,x.hc.nf (λi r ff _ e=>by rw[g.get i (Hp.lt e rfl) λm=>hM i m _ _ _ _ _ e];exact e)⟩
theorem oK.g0{f:cN}{h h':Hp}(x:oK p c0 c1 c2 c6 c7 c8 c9 fs aq f h)(g:ax h h'):oK p c0 c1 c2 c6 c7 c8 c9 fs aq f h':=x.mono g (λ_ m=>m.elim) ((g.get _ (Hp.lt x.hp rfl) id).trans x.hp)
theorem alH(HT:aA T)(pK:fs.length=aq.length)(nV:fs.length<4294967296)(CY:∀t∈fs,t.kids.length<4294967296) {j n' wb:Nat} (hj:j<aq.length) (gE:n'<4294967296):∀(ts:List Tree)(i:Nat)(kv:AV)(Q:SL)(f:cN)(h:Hp)(fr:Fr)(K:aT->Prop),i+ts.length=n'->(∀t∈ts,t.name∈Ls fs)->
 (ts≠[]->∃b cap ex r ff,kv=.slice b 0 6 n' cap ex/\h.get b=.rows 39 6 r 0 ff/\n'<=r/\∀q,(hq:q<ts.length)->ay 0 h ts[q] (ff (i+q)))->oK p c0 c1 c2 c6 c7 c8 c9 fs aq f h->uF h wb Q->
 J 0 fr=.ptr p 0->J 2 fr=.i j->J 4 fr=.map wb->J 36 fr=kv->J 37 fr=.i n'->J 38 fr=.i i->
 (∀f' h' fl,(∀q,q<=2\/7<=q/\q<=12->J q f'=J q fr)->ah (λi=>i=p\/i=wb) h h'->oK p c0 c1 c2 c6 c7 c8 c9 fs aq fl h'->((∀t∈ts,t.kind≠2)->fl=f)->K (.exit 2 f' h' []))->W T (.loop l16_0) fr h [] K:=by
 intro ts
 induction ts with
 |nil=>
  intro i kv Q f h fr K hi hU hb x w f0 f2 f4 f36 f37 f38 hk;simp only[aup,aud] at hi;subst hi;rw[aP];refine aU f36 f37 f38 ?_;exact hk _ _ f (λq hq=>by repeat rw[qA,atS zo]) (ah.refl _) x λ_=>rfl
 |cons t ts ih=>
  intro i kv Q f h fr K hi hU hb x w f0 f2 f4 f36 f37 f38 hk;obtain⟨b,cap,ex,r,ff,rfl,hb,hr,iW⟩:=hb zm;simp only[atX] at hi;have ao:i<n':=zo;have aY:(i:Int)<n':=zo;have eJ:=iW 0 zm;simp only[aus,aud] at eJ;obtain⟨kv,jE,hkv⟩:=eJ.cells;have lb:=Hp.lt hb rfl;have VA:p≠wb:=by rintro rfl;obtain⟨⟨_,q⟩,_⟩:=w.m;rw[x.hp] at q;cases q
  have hMr:∀(h1:Hp)(f1:cN)(Q1:SL),oK p c0 c1 c2 c6 c7 c8 c9 fs aq f1 h1->uF h1 wb Q1->∀i,(i=p\/i=wb)->∀el rw r z t,h1.get i≠.rows el rw r z t:=by rintro h1 f1 Q1 x1 w1 i (rfl|rfl) el rw r z t e;rw[x1.hp] at e;cases e;obtain⟨⟨_,q⟩,_⟩:=w1.m;rw[q] at e;cases e
  have nx:∀(bJ:Fr)(h2:Hp)(Q2:SL)(f2':cN),(∀q,q<=2\/q=4\/7<=q/\q<=12\/36<=q/\q<=38->J q bJ=J q fr)->ah (λi=>i=p\/i=wb) h h2->oK p c0 c1 c2 c6 c7 c8 c9 fs aq f2' h2->uF h2 wb Q2->(t.kind≠2->f2'=f)->W T (.af r16_17) bJ h2 [] (bF (W T (.loop l16_0)) K):=by
   intro bJ h2 Q2 f2' hf g2 x2 w2 mC;have e38:=(hf 38 zo).trans f38;have nf:NF 0 h h2:=λi r ff _ e=>by rw[g2.get i (Hp.lt e rfl) λm=>hMr h f Q x w i m _ _ _ _ _ e];exact e
   refine aS e38 ao ?_;refine ih (i+1) _ Q2 f2' h2 _ K zo (λt ht=>hU t qat) (λ_=>⟨b,cap,ex,r,ff,rfl,nf _ _ _ (auz _) hb,hr,λq hq=>?_⟩) x2 w2 (au ((hf 0 zo).trans f0)) (au ((hf 2 zo).trans f2)) (au ((hf 4 zo).trans f4)) (au ((hf 36 zo).trans f36)) (au ((hf 37 zo).trans f37)) aa λf' h' fl BD g' x' nV=>hk f' h' fl (λq hq=>?_) (g2.trans g') x' λhh=>(nV λt ht=>hh t qat).trans (mC (hh t zm));have:=iW (q+1) zn;simp only[auu,show i+(q+1)=i+1+q by omega] at this;exact this.nf nf zl
   ·rw[BD q hq]
    repeat rw[qA,atS zo]
    exact hf q zo
  generalize hN:CC.af r16_17=N at nx;generalize OQ:Xp=R4;rw[aP];show W T QH fr h [] _;unfold QH;rw[hN,OQ];have gH:ax h ((h.push (.one 39 [.i 0,.i 0,.i 0,.i 0,S [],.bx])).set h.nx (.one 39 [.i t.kind,.i t.ak,.i t.to,.i t.at,S t.name,kv])):=fZ
  by_cases ck:t.kind=2
  ·have hU0:=hU t zm;have xA:=x.g0 gH;have wA:=w.mono (gH.get _ w.m.lt id);have u1:((h.push (.one 39 [.i 0,.i 0,.i 0,.i 0,S [],.bx])).set h.nx (.one 39 [.i t.kind,.i t.ak,.i t.to,.i t.at,S t.name,kv])).get h.nx=.one 39 [.i t.kind,.i t.ak,.i t.to,.i t.at,S t.name,kv]:=Hp.bR rfl;rw[ck] at gH xA wA u1;have CJ:∀(bJ:Fr)(h2:Hp)(Q2:SL)(vU:cN),(∀q,q<=2\/q=4\/7<=q/\q<=12\/36<=q/\q<=38->J q bJ=J q fr)->J 6 bJ=.ptr h.nx 0->ah (λi=>i=p\/i=wb) h h2->h2.get h.nx=.one 39 [.i 2,.i t.ak,.i t.to,.i t.at,S t.name,kv]->oK p c0 c1 c2 c6 c7 c8 c9 fs aq vU h2->uF h2 wb Q2->
    W T R4 bJ h2 [] (bY 3 (bF (W T N) (bF (W T (.loop l16_0)) K))):=by
    intro bJ h2 Q2 vU hf f6 g2 un x2 w2;have e0:=(hf 0 zo).trans f0;have e2:=(hf 2 zo).trans f2;subst OQ;have eK:=x2.hp;simp only[bS] at eK;have yM:=Hp.lt eK rfl;have lu:=Hp.lt un rfl;refine cC e0 e2 f6 eK un ?_;refine Ek HT (x2.hd (Cq hj)) zo ?_;have ER:∀(uk:Fr),(∀q,q<=2\/q=4\/7<=q/\q<=12\/36<=q/\q<=38->J q uk=J q bJ)->(∀q,q<=2\/q=4\/7<=q/\q<=12\/36<=q/\q<=38->J q uk=J q fr):=λuk h1 q hq=>(h1 q hq).trans (hf q hq);have acz:∀(e:Int)(h3:Hp)(Q3:SL)(Ia:cN)(h4:Hp),ah (λi=>i=p\/i=wb) h h3->oK p c0 c1 c2 c6 c7 c8 c9 fs aq Ia h3->uF h3 wb Q3->ah (·=p) h3 h4->h4.get p=.one 52 (bS c0 c1 c2 (Bp Ia ⟨j,t.at,e⟩) c6 c7 c8 c9)->ah (λi=>i=p\/i=wb) h h4/\oK p c0 c1 c2 c6 c7 c8 c9 fs aq (Bp Ia ⟨j,t.at,e⟩) h4/\uF h4 wb Q3:=by intro e h3 Q3 Ia h4 g3 x3 w3 g4 m7;exact⟨g3.trans (g4.mono λ_ _ q=>.inl q),x3.mono g4 (λi q=>by subst q;exact λ_ _ _ _ _ e=>by rw[x3.hp] at e;cases e) m7,w3.mono (g4.get _ w3.m.lt (Ne.symm VA))⟩
    by_cases c3:t.name∈aq
    ·have lN:=x2.hd (Cq hj);obtain⟨db,xu,xw,dr,dt,VB,kY,HW,vS⟩:=lN;have qd:=vS j hj;have eY:(j:Int)<aq.length:=zo;have HX:=Hp.lt kY rfl;rw[VB] at eK;refine nA c3 e0 e2 f6 eK un kY qd hj eY ?_;have gM:ax h2 (h2.push (.map [] 0)):=aZ;have xM:=x2.g0 gM;refine alC HT (sb:=h2.nx) (fs:=fs) (aq:=aq) (f:=vU) (c0:=c0) (c1:=c1) (c2:=c2) (c6:=c6) (c7:=c7) (c8:=c8) (c9:=c9) pK nV CY (H9 fs []) [] t.name _ _ rfl hU0 (by simp[cD]) ⟨iV.new (Hp.br rfl),λs w hw=>by cases hw⟩ xM.hp (xM.hd (Cq hj)) xM.hc λbb h3 Q3 g3 s3 _=>?_;have g23:ax h2 h3:=ah.sX gM g3 λi hi=>by subst hi;exact at2 _
     have x3:=x2.g0 g23;have w3:=w2.mono (g23.get _ w2.m.lt id);have g03:ah (λi=>i=p\/i=wb) h h3:=g2.trans (ah.cn g23);have un3:=(g23.get _ lu id).trans un;cases bb with
     |false=>
      refine ag ?_;exact nx _ h3 Q2 vU (ER _ λq hq=>by repeat rw[qA,atS zo]) g03 x3 w3 λe=>absurd ck e
     |true=>
      refine bK e0 e2 f6 un3 ?_;refine ES HT (x:=⟨j,t.at,16⟩) (f:=vU) x3.hp λh4 g4 m7=>?_;obtain⟨a1,a2,a3⟩:=acz 16 h3 Q2 vU h4 g03 x3 w3 g4 m7;refine ag ?_;exact nx _ h4 Q2 _ (ER _ λq hq=>by repeat rw[qA,atS zo]) a1 a2 a3 λe=>absurd ck e
    ·refine cC c3 e0 e2 f6 un ?_;refine ES HT (x:=⟨j,t.at,12⟩) (f:=vU) x2.hp λh4 g4 m7=>?_;obtain⟨a1,a2,a3⟩:=acz 12 h2 Q2 vU h4 g2 x2 w2 g4 m7;refine ag ?_;exact nx _ h4 Q2 _ (ER _ λq hq=>by repeat rw[qA,atS zo]) a1 a2 a3 λe=>absurd ck e
   generalize hH:((h.push (.one 39 [.i 0,.i 0,.i 0,.i 0,S [],.bx])).set h.nx (.one 39 [.i 2,.i t.ak,.i t.to,.i t.at,S t.name,kv]):Hp)=H at gH xA wA u1;obtain⟨c,hc⟩:=wA.jV (s:=t.name);obtain⟨o,eo,fo⟩:=wA.put (s:=t.name) (c:=w64 (c+1));obtain⟨Q5,w5⟩:=fo (H.set wb o) (Hp.bR rfl);obtain⟨c5,VD⟩:=w5.jV (s:=t.name);have g5:ah (λi=>i=p\/i=wb) h (H.set wb o):=ah.set (ah.cn gH) _ (.inr (.inr rfl));have u5:(H.set wb o).get h.nx=.one 39 [.i 2,.i t.ak,.i t.to,.i t.at,S t.name,kv]:=by rw[Hp.de (by have:=w.m.lt;omega)];exact u1
   have x5:oK p c0 c1 c2 c6 c7 c8 c9 fs aq f (H.set wb o):=xA.mono (M:=(·=wb)) (ah.set (M:=(·=wb)) (ah.refl _) _ (.inr rfl)) (λi q=>hMr H f Q xA wA i (.inr q)) (by rw[Hp.de VA];exact xA.hp);have lu1:=Hp.lt u1 rfl;have lu5:=Hp.lt u5 rfl;refine kC f0 f2 f4 f36 f37 f38 ao aY hb jE hkv.bQ ck (atQ (atQ (atQ (atQ hH hc) eo) VD) u1) ?_
   by_cases c6:1<c5
   ·refine cC c6 f0 f2 u5 VD ?_;refine ES HT (x:=⟨j,t.at,13⟩) (f:=f) x5.hp λh6 g6 yH=>?_;refine ag ?_;exact CJ _ h6 Q5 _ (λq hq=>by repeat rw[qA,atS zo]) aa (g5.trans (g6.mono λ_ _ q=>.inl q)) ((g6.get _ lu5 (by have:=Hp.lt x.hp rfl;omega)).trans u5) (x5.mono g6 (λi q=>by subst q;exact λ_ _ _ _ _ e=>by rw[x5.hp] at e;cases e) yH) (w5.mono (g6.get _ w5.m.lt (Ne.symm VA)))
   ·refine cC c6 f0 f2 u5 VD ?_;exact CJ _ (H.set wb o) Q5 f (λq hq=>by repeat rw[qA,atS zo]) aa g5 u5 x5 w5
  ·refine pU f0 f2 f4 f36 f37 f38 ao aY hb jE hkv.bQ ck ?_;exact nx _ _ Q f (λq hq=>by repeat rw[qA,atS zo]) (ah.cn gH) (x.g0 gH) (w.mono (gH.get _ w.m.lt id)) λ_=>rfl
end
section
variable{h:Hp}{k:aK->Prop}{p:Nat}{c0 c1 c2 c6 c7 c8 c9:AV}{f:cN}{fs:List Tree}{aq:List (List UInt8)}
theorem alI(HT:aA T)(pK:fs.length=aq.length)(nV:fs.length<4294967296)(CY:∀t∈fs,t.kids.length<4294967296) (x:oK p c0 c1 c2 c6 c7 c8 c9 fs aq f h)
 (hk:∀h' fl,ah (·=p) h h'->oK p c0 c1 c2 c6 c7 c8 c9 fs aq fl h'->((∀j(hj:j<fs.length),fs[j].name=aq.getD j [])->(∀t∈fs,∀t'∈t.kids,t'.kind≠2)->fl=f)->k (.ret (.bA []) h')):aE T (W T) ⟨16⟩ [.ptr p 0] h k:=by
 rw[aJ HT.t16];have dj:=x.hp;simp only[bS] at dj;have lp:=Hp.lt dj rfl;have key:∀(ts:List Tree)(j:Nat)(f:cN)(h1:Hp)(fr:Fr)(K:aT->Prop),j+ts.length=fs.length->(∀i(hi:i<ts.length),fs[j+i]? =some ts[i])->oK p c0 c1 c2 c6 c7 c8 c9 fs aq f h1->J 0 fr=.ptr p 0->J 10 fr=c1->J 11 fr=.i fs.length->J 12 fr=.i j->
  (∀f' h' fl,ah (·=p) h1 h'->oK p c0 c1 c2 c6 c7 c8 c9 fs aq fl h'->((∀i(hi:i<ts.length),ts[i].name=aq.getD (j+i) [])->(∀t∈ts,∀t'∈t.kids,t'.kind≠2)->fl=f)->K (.exit 0 f' h' []))->W T (.loop l16_1) fr h1 [] K:=by
  intro ts
  induction ts with
  |nil=>
   intro j f h1 fr K hj jh x1 f0 f10 f11 f12 hk;simp only[aup,aud] at hj;subst hj;rw[aP];refine aU f10 f11 f12 ?_;exact hk _ _ f (ah.refl _) x1 λ_ _=>rfl
  |cons t ts ih=>
   intro j f h1 fr K hj jh x1 f0 f10 f11 f12 hk;simp only[atX] at hj;have ao:j<fs.length:=zo;have aY:(j:Int)<fs.length:=zo;have jd:j<aq.length:=zo;have acA:(j:Int)<aq.length:=zo;have et:fs[j]=t:=by have:=jh 0 zm;simp only[aud,atT ao,aus] at this;exact auQ this
   have tm:t∈fs:=by rw[<-et];exact auy ao
   obtain⟨b,cap,ex,r,ff,rfl,hb,hr,iW⟩:=x1.hc.rows qaZ;have eJ:=iW j ao;simp only[aue,et] at eJ;obtain⟨kv,jE,hkv⟩:=eJ.cells;have lb:=Hp.lt hb rfl;have jr:j<r:=zo;have fu:=x1.hp;simp only[bS] at fu;have Vz:=Hp.lt fu rfl;have iu:=x1.hd (Cq jd);obtain⟨db,xu,xw,dr,dt,VB,kY,HW,vS⟩:=iu;have qd:=vS j jd;have HX:=Hp.lt kY rfl;rw[VB] at fu;have ed:aq.getD j []=aq[j]:=by simp[List.getD,jd]
   generalize hL:CC.loop l16_0=L;generalize hR5:MF=R5;have go5:∀(bJ:Fr)(h2:Hp)(vU:cN),ah (·=p) h1 h2->oK p c0 (.slice b 0 6 fs.length cap ex) c2 c6 c7 c8 c9 fs aq vU h2->h2.get h1.nx=.one 39 [.i t.kind,.i t.ak,.i t.to,.i t.at,S t.name,kv]->lC 0 h2 kv t.kids->J 0 bJ=.ptr p 0->J 2 bJ=.i j->J 3 bJ=.ptr h1.nx 0->J 10 bJ=.slice b 0 6 fs.length cap ex->J 11 bJ=.i fs.length->J 12 bJ=.i j->(t.name=aq[j]->vU=f)->
    W T R5 bJ h2 [] (bY 1 (bF (W T (.af r16_18)) (bF (W T (.loop l16_1)) K))):=by
    intro bJ h2 vU g2 x2 un wW e0 e2 e3 e10 e11 e12 mC;subst hR5;unfold MF;have lu:=Hp.lt un rfl;have gM:ax h2 (h2.push (.map [] 0)):=aZ;have xM:=x2.g0 gM;have hkM:=wW.nf (mY gM);simp(maxSteps:=400000) (disch:=first|exact bh|fail) [e0,e2,e3,un,hkM.len];subst hL;refine alH HT pK nV CY (j:=j) (n':=t.kids.length) (wb:=h2.nx) jd (CY t tm) t.kids 0 kv [] vU _ _ _ zo (λt' jL=>List.mem_flatMap.2 ⟨t,tm,auR.2 ⟨t',jL,rfl⟩⟩) hkM.rows xM ⟨iV.new (Hp.br rfl),λs w hw=>by cases hw⟩ (au e0) (au e2) aa aa aa aa λf' h3 Ia hf g3 x3 alJ=>?_;have a0:=hf 0 zo;have a10:=hf 10 zo;have a11:=hf 11 zo;have a12:=hf 12 zo
    simp(maxSteps:=400000) (disch:=first|exact bh|fail) [e0,e10,e11,e12] at a0 a10 a11 a12;have g13:ah (·=p) h1 h3:=⟨at1 g2.nx (at1 gM.nx g3.nx),λi hi hm=>by have hm:¬i=p:=hm;have l2:=g2.nx;rw[g3.get i (by have:=gM.nx;omega) zo,gM.get i zo id,g2.get i hi hm]⟩
    refine aS a12 ao ?_;refine ih (j+1) Ia h3 _ K zo (λi hi=>?_) x3 (au a0) (au a10) (au a11) aa λf' h' fl g' x' nV=>hk f' h' fl (g13.trans g') x' λhn hi=>?_;have:=jh (i+1) zn;simp only[auu] at this;rw[show j+1+i=j+(i+1) by omega];exact this;have n0:=hn 0 zm;simp only[aus,aud,ed] at n0;rw[nV (λi dD=>by have:=hn (i+1) zn;simp only[auu] at this;rw[show j+1+i=j+(i+1) by omega];exact this) λt' jL=>hi t' (by simp[jL]),alJ (hi t zm),mC n0]
   rw[aP];show W T ((CC.af r16_1).seq ((CC.cond (CX.t 13) CC.skip (CC.exit 0)).seq ((CC.block 1 ((CC.af r16_2).seq (((CC.aR r16_3).seq (CC.cond (CX.t 26) (CC.aR r16_4) CC.skip)).seq (CC.seq (.af r16_5) (.seq (.af r16_6) (.block 2 (.loop l16_0))))))).seq (CC.af r16_18)))) fr h1 [] _;have acB:=hR5;unfold MF cQ at acB;rw[acB];have gH:ax h1 ((h1.push (.one 39 [.i 0,.i 0,.i 0,.i 0,S [],.bx])).set h1.nx (.one 39 [.i t.kind,.i t.ak,.i t.to,.i t.at,S t.name,kv])):=fZ;have xH:=x1.g0 gH;have u1:((h1.push (.one 39 [.i 0,.i 0,.i 0,.i 0,S [],.bx])).set h1.nx (.one 39 [.i t.kind,.i t.ak,.i t.to,.i t.at,S t.name,kv])).get h1.nx=.one 39 [.i t.kind,.i t.ak,.i t.to,.i t.at,S t.name,kv]:=Hp.bR rfl;have HZ:=hkv.nf (mY gH)
   by_cases c:t.name=aq[j]
   refine kC f0 f10 f11 f12 ao aY hb jE hkv.bQ fu kY qd (atQ (atQ jd acA) c) ?_;rw[c] at gH xH u1;exact go5 _ _ f (ah.cn gH) xH (by rw[c];exact u1) (HZ.nf (by rw[c];exact NF.refl _)) zA aa aa zA zA zA λ_=>rfl;refine kC f0 f10 f11 f12 ao aY hb jE hkv.bQ fu kY qd (atQ (atQ jd acA) c) ?_;refine ES HT (x:=⟨j,t.at,9⟩) (f:=f) xH.hp λh6 g6 yH=>?_;have x6:=xH.mono g6 (λi q=>by subst q;exact λ_ _ _ _ _ e=>by rw[xH.hp] at e;cases e) yH;refine ag ?_;exact go5 _ h6 _ ((ah.cn gH).trans g6) x6 ((g6.get _ (Hp.lt u1 rfl) zo).trans u1) (HZ.nf (λi r ff _ e=>by rw[g6.get i (Hp.lt e rfl) λq=>by rw[q,xH.hp] at e;cases e];exact e)) zA aa aa zA zA zA λe=>absurd e c
 generalize hL:CC.loop l16_1=L;simp(disch:=omega) [dj,x.hc.len];subst hL;refine key fs 0 f h _ _ zo (λi hi=>by simp[hi]) x aa aa aa aa λf' h' fl g' x' nV=>?_;refine ag ?_;exact hk h' fl g' x' λh1 h2=>nV (λi hi=>by simpa using h1 i hi) h2
end
structure Doc where
 uri:List UInt8
 text:List UInt8
 aD:Int
def Doc.row(d:Doc):List AV:=[S d.uri,S d.text,.i d.aD]
def tC(o:AO)(r:Nat)(t:N3 (List AV)):Prop:=(∃fz,o=.rows 43 3 r fz t)\/o=.cB 3 r t
def vV(h:Hp)(v:AV)(ds:List Doc):Prop:=
 ds=[]/\v=.bx\/∃b cap ex r t,v=.slice b 0 3 ds.length cap ex/\tC (h.get b) r t/\ds.length<=r/\∀j,(hj:j<ds.length)->t j=ds[j].row
def Ax(T:aM->Option CF)(h:Hp):Prop:=22<=h.nx/\∀h':Hp,h.nx<=h'.nx->(∀i,i<22->h'.get i=h.get i)->Cz T h'/\CA T h'/\KG T h'/\KP T h'/\lO (h'.get 1)
section
variable{h h':Hp}{k:aK->Prop}{v:AV}{ds:List Doc}
theorem Ax.mono{M:Nat->Prop}(x:Ax T h)(g:ah M h h')(hM:∀i,M i->22<=i):Ax T h':=by refine⟨at1 x.1 g.nx,λh2 l e=>x.2 h2 (at1 g.nx l) λi hi=>?_⟩;rw[e i hi,g.get i (by have:=x.1;omega) λm=>by have:=hM i m;omega]
theorem Ax.Ib(x:Ax T h):Cz T h/\CA T h/\KG T h/\KP T h/\lO (h.get 1):=x.2 h zl λ_ _=>rfl
theorem tC.lt{r:Nat}{t:N3 (List AV)}{b:Nat}(x:tC (h.get b) r t):b<h.nx:=by rcases x with⟨fz,e⟩|e<;>exact Hp.lt e rfl
theorem tC.ld{r:Nat}{t:N3 (List AV)}{b j:Nat}{d:Doc}(x:tC (h.get b) r t)(hj:j<r)(ht:t j=d.row):cellsOf (h.get b) (j*3) 3=some d.row:=by have BE:j+1<=r:=hj;rcases x with⟨fz,e⟩|e<;>rw[e]<;>simp[cellsOf,dY,BE,ht,Doc.row,gK,kH,cond]
theorem tC.ld0{r:Nat}{t:N3 (List AV)}{b j:Nat}{d:Doc}(x:tC (h.get b) r t)(hj:j<r)(ht:t j=d.row):cellsOf (h.get b) (j*3) 1=some [S d.uri]:=by have BE:j+1<=r:=hj;rcases x with⟨fz,e⟩|e<;>rw[e]<;>simp[cellsOf,dY,BE,ht,Doc.row,gK,kH,cond]
theorem tC.yV{r:Nat}{t:N3 (List AV)}{b j:Nat}{d:Doc}(x:tC (h.get b) r t)(hj:j<r)(ht:t j=d.row):cellsOf (h.get b) (j*3+1) 1=some [S d.text]:=by have BE:j+1<=r:=hj;have e1:(j*3+1)% 3=1:=zo;have e2:(j*3+1)/3=j:=zo;rcases x with⟨fz,e⟩|e<;>rw[e]<;>simp[cellsOf,dY,e1,e2,BE,ht,Doc.row,gK,kH,cond]
theorem vV.mono{M:Nat->Prop}(x:vV h v ds)(g:ah M h h')(hM:∀i,M i->∃el l,h.get i=.one el l):vV h' v ds:=by rcases x with x|⟨b,cap,ex,r,t,e1,e2,e3⟩;exact .inl x;refine .inr ⟨b,cap,ex,r,t,e1,?_,e3⟩;rw[g.get b e2.lt λm=>?_];exact e2;obtain⟨el,l,e⟩:=hM _ m;rw[e] at e2;rcases e2 with⟨_,e2⟩|e2<;>cases e2
theorem vV.len(x:vV h v ds){H:Hp}:tL 1 H v=.v (.i ds.length):=by rcases x with⟨rfl,rfl⟩|⟨b,cap,ex,r,t,rfl,_⟩<;>rfl
theorem acC{el rw r n fz:Nat}{f:N3 (List AV)}(dX:0<rw)(hr:n<=r):kZ (.rows el rw r fz f) 0 rw n=some (dw f n 0):=by simp only[kZ,tZ,Ef,Ee,vp,axN,axO,aue,ny,hr,auS,avl,cond]
theorem alK{b cap ex r n:Nat}{Lt:Bool}{t:N3 (List AV)}(hb:tC (h.get b) r t)(hr:n<=r):rL h 3 (.slice b 0 3 n cap Lt)=some (dw t n 0):=by rcases hb with⟨fz,hb⟩|hb<;>simp only[rL,hb,wo]<;>exact acC zd hr
theorem acD{el rw b cap ex r fz n:Nat}{Lt:Bool}{f:N3 (List AV)}(dX:0<rw)(hb:h.get b=.rows el rw r fz f)(hr:n<=r):rL h rw (.slice b 0 rw n cap Lt)=some (dw f n 0):=by simp only[rL,hb,wo];exact acC dX hr
theorem alL(HT:aA T)(hd:vV h v ds)(hl:ds.length<1073741824)(hk:∀h' v',ax h h'->vV h' v' ds->bQ v'=some [v']->k (.ret v' h')):aE T (W T) ⟨11⟩ [v] h k:=by
 rw[aJ HT.t11];rcases hd with⟨rfl,rfl⟩|⟨q,cap,ex,r,t,rfl,hq,hr,ht⟩;simp(disch:=omega) [cJ];exact hk _ _ aZ (.inl ⟨rfl,rfl⟩) rfl;have n2:=hq.lt;simp(disch:=omega) [cJ];generalize hH:(h.push _:Hp)=H;have u1:∃t,H.get h.nx=.rows 43 3 0 0 t:=⟨_,by rw[<-hH];exact Hp.br rfl⟩;have u3:H.nx=h.nx+1:=by rw[<-hH];rfl
 have gH:ax h H:=by rw[<-hH];exact aZ
 clear hH;obtain⟨t1,u1⟩:=u1;have Bt:tC (H.get q) r t:=by rw[gH.get _ n2 id];exact hq
 have nq:=alK (h:=H) (b:=q) (cap:=cap) (ex:=0) (Lt:=ex) (n:=ds.length) Bt hr
 by_cases h0:ds.length=0
 rw[h0] at nq;have ea:=NK (h:=H) (el:=43) (rw:=3) (bytes:=40) (len:=0) (b:=h.nx) (cap:=0) (ex:=true) (y:=.slice q 0 3 0 cap ex) nq rfl;rw[h0,ea];refine ag ?_;exact hk _ _ gH (.inr ⟨h.nx,0,true,0,t1,by rw[h0],.inl ⟨0,u1⟩,by omega,λj hj=>by omega⟩) rfl;obtain⟨n,hn⟩:∃n,ds.length=n+1:=⟨ds.length- 1,by omega⟩;have ea:=G2 (h:=H) (el:=43) (rw:=3) (bytes:=40) (n:=n) (i:=h.nx) (len:=0) (cnt:=0) (t:=t1) zd u1 zl nq qaM (rV zo zo);rw[ea];refine ag ?_;refine hk _ _ (gH.push _) (.inr ⟨H.nx,n+1,false,n+1,jy fG 0 ([]++dw t ds.length 0),by rw[hn],?_,by omega,λj hj=>?_⟩) rfl;rw[Hp.br rfl,jJ];exact .inl ⟨0,rfl⟩;have eY:j<(dw t ds.length 0).length:=by rw[oZ];exact hj
 rw[au5,wO eY];have:=vw t ds.length 0 j hj;rw[atT eY] at this;rw[auQ this,aue,ht j hj]
def uG(lo:Nat)(h:Hp)(v:AV)(ws:List (List UInt8)):Prop:=
 ws=[]/\v=.bx\/ws≠[]/\∃q r t,lo<=q/\v=.slice q 0 1 ws.length ws.length false/\h.get q=.rows 9 1 r 0 t/\ws.length<=r/\∀j,(hj:j<ws.length)->t j=[S ws[j]]
theorem uG.nC{lo:Nat}{M:Nat->Prop}{ws}(x:uG lo h v ws)(g:ah M h h')(hM:∀i,M i->∀r t,h.get i≠.rows 9 1 r 0 t):uG lo h' v ws:=by rcases x with x|⟨x,q,r,t,lq,e1,e2,e3⟩;exact .inl x;exact .inr ⟨x,q,r,t,lq,e1,by rw[g.get q (Hp.lt e2 rfl) λm=>hM _ m _ _ e2];exact e2,e3⟩
theorem uG.cells{lo:Nat}{ws}(x:uG lo h v ws):bQ v=some [v]:=by rcases x with⟨_,rfl⟩|⟨_,q,r,t,_,rfl,_⟩<;>rfl
theorem uG.fF{lo:Nat}{ws:List (List UInt8)}{w:List UInt8}{M:Nat->Prop}{hB:Hp}(x:uG lo h v ws)(hl:ws.length<1073741824)(g:ah M hB h)(cK:hB.nx<=lo)(Ev:lo<=h.nx){t1:N3 (List AV)}(E4:t1 0=[S w]){h1:Hp}(e1:h1=h.push (.rows 9 1 1 0 t1)):
 ∃v' H',kJ h1 9 1 16 v (.slice h.nx 0 1 1 1 true)=.vh v' H'/\uG lo H' v' (ws++[w])/\ah M hB H'/\h.nx<H'.nx/\∀i,i<h.nx->(∀r t,h.get i≠.rows 9 1 r 0 t)->H'.get i=h.get i:=by
 have u1:h1.get h.nx=.rows 9 1 1 0 t1:=by rw[e1];exact Hp.br rfl
 have xp:h1.nx=h.nx+1:=by rw[e1];rfl
 have g1:ax h h1:=by rw[e1];exact aZ
 have nq:=wN (h:=h1) (rw:=1) (cap:=1) (ex:=true) u1 zl;rw[E4] at nq;rcases x with⟨rfl,rfl⟩|⟨bg,q,r,t,lq,rfl,hq,hr,ht⟩;have ea:=A7 (h:=h1) (el:=9) (rw:=1) (bytes:=16) (n:=0) (y:=.slice h.nx 0 1 1 1 true) nq rfl zd;refine⟨_,_,ea,.inr ⟨by simp,h1.nx,1,cx fG 0 [S w],by omega,rfl,by rw[Hp.br rfl];rfl,by simp,λj hj=>?_⟩,(g.trans (ah.cn g1)).push _,by simp;omega,λi hi _=>?_⟩;obtain rfl:j=0:=by simp at hj;omega
 simp;rw[Hp.qZ zo,g1.get i hi id];have VE:=Hp.lt hq rfl;have ki:h1.get q=.rows 9 1 r 0 t:=(g1.get _ VE id).trans hq;have ea:=A8 (h:=h1) (el:=9) (rw:=1) (bytes:=16) (n:=0) (i:=q) (len:=ws.length) (cnt:=r) (t:=t) (y:=.slice h.nx 0 1 1 1 true) ki hr nq rfl (rV zo zo);refine⟨_,_,ea,.inr ⟨by simp,h1.nx,ws.length+1,cx t ws.length [S w],by omega,by simp,?_,by simp,λj hj=>?_⟩,?_,?_,λi hi hn=>?_⟩;have e:(h1.set q .eD).nx=h1.nx:=Hp.tT zo;rw[Hp.br e.symm];rfl;simp only[auk,ave] at hj
 by_cases c:j=ws.length
 subst c;simp;rw[ava zo,dZ,atS c,ht j zo];exact((g.trans (ah.cn g1)).set _ (.inl zo)).push _;rw[Hp.eE,Hp.tT zo];omega;have e:(h1.set q .eD).nx=h1.nx:=Hp.tT zo;have VF:i≠q:=by rintro rfl;exact hn _ _ hq
 rw[Hp.qZ zo,Hp.de VF,g1.get i hi id]
end
section
variable{p fb:Nat}{c0 c1 c6 c7 c8 c9 v:AV}{f:cN}{docs:List Doc}{hB:Hp}
theorem uG.Au{lo:Nat}{h:Hp}{v:AV}{ws:List (List UInt8)}(x:uG lo h v ws)(bg:ws≠[]):∃q r t,lo<=q/\v=.slice q 0 1 ws.length ws.length false/\h.get q=.rows 9 1 r 0 t:=by rcases x with⟨rfl,_⟩|⟨_,q,r,t,a,b,c,_⟩;exact absurd rfl bg;exact⟨q,r,t,a,b,c⟩
theorem alM(HT:aA T)(hd:vV hB v docs)(hl:docs.length<1073741824)(hu:∀d∈docs,d.uri.length<1073741824) (hg:Ax T hB) (hfb:hB.get fb=.one 28 [.i 0,.i 0,.i 0]) (p19:22<=p) (hfp:fb≠p) (O0:∃el l,hB.get p=.one el l):∀(n j:Nat)(ws:List (List UInt8))(c2:AV)(h1:Hp)(fr:Fr)(K:aT->Prop),j+n=docs.length->ws.length=j->
 (∀i(hi:i<j)(dD:i<docs.length),rZ docs[i].uri=some (ws.getD i []))->ah (·=p) hB h1->uG hB.nx h1 c2 ws->h1.get p=.one 52 (bS c0 c1 c2 f c6 c7 c8 c9)->J 0 fr=v->J 3 fr=.ptr fb 0->J 4 fr=.ptr p 0->J 23 fr=v->J 24 fr=.i docs.length->J 25 fr=.i j->
 (∀f' h',J 2 f'=.gJ->J 3 f'=.ptr fb 0->h'.get fb=.one 28 [.i 0,.i 0,.i 2]->ah (λi=>i=p\/i=fb) hB h'->(1<docs.length\/∃d∈docs,rZ d.uri=none)->K (.ret f' h' []))->
 (∀f' h' c2' VG,J 0 f'=v->J 3 f'=.ptr fb 0->J 4 f'=.ptr p 0->ah (·=p) hB h'->uG hB.nx h' c2' VG->VG.length=docs.length->(∀i(hi:i<docs.length),rZ docs[i].uri=some (VG.getD i []))->h'.get p=.one 52 (bS c0 c1 c2' f c6 c7 c8 c9)->K (.exit 0 f' h' []))->
 W T (.loop l6_2) fr h1 [] K:=by
 intro n
 induction n with
 |zero=>
  intro j ws c2 h1 fr K hj hw og g1 hs hp f0 f3 f4 f23 f24 f25 O1 hk;simp only[aud] at hj;subst hj;rw[aP];refine aU f23 f24 f25 ?_;exact hk _ _ c2 ws zA zA zA g1 hs hw (λi hi=>og i hi hi) hp
 |succ n ih=>
  intro j ws c2 h1 fr K hj hw og g1 hs hp f0 f3 f4 f23 f24 f25 O1 hk;have ao:j<docs.length:=zo;have aY:(j:Int)<docs.length:=zo;have wI:=g1.nx;have J7:=hg.mono g1 (λi m=>by subst m;exact p19);have lp:=Hp.lt hp rfl;have lfb:=Hp.lt hfb rfl;have alN:=(g1.get _ lfb hfp).trans hfb;have dj:=hp;simp only[bS] at dj;have iu:=hd.mono g1 (λi m=>by subst m;exact O0);obtain⟨b,cap,ex,r,t,rfl,hb,hr,ht⟩:∃b cap ex r t,v=.slice b 0 3 docs.length cap ex/\tC (h1.get b) r t/\docs.length<=r/\∀j,(hj:j<docs.length)->t j=docs[j].row:=by rcases iu with⟨rfl,_⟩|x;simp at ao;exact x
  have lb:=hb.lt;have jr:j<r:=zo;have jH:=ht j ao;have Ic:=hb.ld jr jH;rw[aP];generalize hL:CC.loop l6_2=L;generalize hD6:Qz=D6;refine nA f0 f3 f4 f23 f24 f25 ao aY Ic Doc.row.eq_1 ?_;have l1:(docs[j]).uri.length<1073741824:=hu _ (auy ao);generalize hH:(((h1.push _).set _ _):Hp)=H;have u1:H.get h1.nx=.one 43 [S docs[j].uri,S docs[j].text,.i docs[j].aD]:=by rw[<-hH];simp(maxSteps:=400000) (disch:=first|exact bh|fail)
  have gH:ax h1 H:=by rw[<-hH];exact aZ
  have nH:H.nx=h1.nx+1:=by rw[<-hH];simp(maxSteps:=400000) (disch:=first|exact bh|fail)
  clear hH;refine ajN HT l1 (J7.mono gH (λ_ m=>m.elim)).Ib.2.2.2.2 λh2 g2=>?_;have g12:=gH.trans g2;have n2:=g2.nx;have u2:=(g2.get _ zo id).trans u1;have eK:=(g12.get _ lp id).trans dj;have fX:tC (h2.get b) r t:=by rw[g12.get _ lb id];exact hb
  have mC:=(g12.get _ zo id).trans alN;have bad:∀(bJ:Fr)(h3:Hp),ah (·=p) hB h3->h3.get fb=.one 28 [.i 0,.i 0,.i 0]->J 3 bJ=.ptr fb 0->(1<docs.length\/∃d∈docs,rZ d.uri=none)->J 53 bJ=.bool true->W T (CC.cond (CX.t 53) ((CC.af r6_7).seq CC.ret) CC.skip) bJ h3 [] (bF (W T (CC.af r6_8)) (bY 1 (bF (W T (CC.af r6_9)) (bF (W T L) K)))):=by intro bJ h3 S8 u e3 Ie e53;have l3:=Hp.lt u rfl;refine aU e53 e3 u ?_;exact O1 _ _ aa (au e3) aa ((S8.mono λ_ _ q=>.inl q).set _ (.inr (.inr rfl))) Ie
  have eT:∀(d:List UInt8)(bJ:Fr),rZ docs[j].uri=some d->J 0 bJ=.slice b 0 3 docs.length cap ex->J 3 bJ=.ptr fb 0->J 4 bJ=.ptr p 0->J 7 bJ=S d->J 23 bJ=.slice b 0 3 docs.length cap ex->J 24 bJ=.i docs.length->J 25 bJ=.i j->J 53 bJ=.bool false->W T (CC.cond (CX.t 53) ((CC.af r6_7).seq CC.ret) CC.skip) bJ h2 [] (bF (W T (CC.af r6_8)) (bY 1 (bF (W T (CC.af r6_9)) (bF (W T L) K)))):=by
   intro d bJ Fb e0 e3 e4 e7 e23 e24 e25 e53;have yM:=Hp.lt eK rfl;have mX:=hs.nC g12 (λ_ m=>m.elim);have Ig:=g1.trans (ah.cn g12);refine bK e53 e4 eK e7 ?_;generalize Ae:(h2.push _:Hp)=H1;obtain⟨t1,E4,VH⟩:∃t1:N3 (List AV),t1 0=[S d]/\H1=h2.push (.rows 9 1 1 0 t1):=⟨_,by simp,Ae.symm⟩;obtain⟨v',H',ea,fW,g',lt',alO⟩:=mX.fF zo Ig zl Ig.nx E4 VH;have lB:=(alO _ yM (λ_ _ q=>by rw[eK] at q;cases q)).trans eK;have lpH:=Hp.lt lB rfl;rw[ea];refine bK lB fW.cells e25 ao ?_;subst hL;generalize oF:(H'.set p _:Hp)=H3;have u3:H3.get p=.one 52 [c0,c1,v',.i f.doc,.i f.at_,.i f.e,c6,c7,c8,c9]:=by rw[<-oF];simp(maxSteps:=400000) (disch:=first|exact bh|fail)
   have g3:ah (·=p) H' H3:=by rw[<-oF];exact ah.set (ah.refl _) _ (.inr rfl)
   clear oF;have hs3:=fW.nC g3 (λi m r t q=>by subst m;rw[lB] at q;cases q);refine ih (j+1) (ws++[d]) v' H3 _ K zo (by simp[hw]) (λi hi dD=>?_) (g'.trans g3) hs3 u3 (au e0) (au e3) (au e4) (au e23) (au e24) aa O1 hk
   by_cases c:i=j
   subst c;rw[Fb,<-hw];simp[List.getD];rw[og i zo dD];simp[List.getD,List.getElem?_append,show i<ws.length by omega]
  unfold Qz cI cQ;generalize hCb:CC.cond (CX.t 53) ((CC.af r6_7).seq CC.ret) CC.skip=Cb;rw[hCb] at bad eT;generalize ju:CC.aR r6_6=Dr;cases Fb:rZ docs[j].uri with
  |none=>
   refine aB Fb ?_;subst ju;rw[lI,mu];simp only[ku,GX,GY];simp;exact bad _ _ (g1.trans (ah.cn g12)) mC zA (.inr ⟨_,auy ao,Fb⟩) aa
  |some d=>
   refine aB Fb ?_;subst ju;rw[lI,mu];simp only[ku,GX,GY]
   by_cases j0:j=0
   subst j0;simp;exact eT d _ Fb zA zA zA aa zA zA zA aa;obtain⟨m,hm⟩:∃m,j=m+1:=⟨j- 1,by omega⟩;have j1:0<j:=zo;have ej:(j:Int)- 1=m:=zo;have nW:m<docs.length:=zo;have Hg:(m:Int)<docs.length:=zo;have yl:m<r:=zo;have htm:=ht m nW;have alP:=fX.ld0 yl htm;refine iR j1 ej f0 Hg alP u2 Doc.row.eq_1 ?_;refine ajK HT λc=>?_;refine ag ?_
   by_cases c0:0<=c
   exact bad _ _ (g1.trans (ah.cn g12)) mC zA (.inl zo) (au c0);exact eT d _ Fb zA zA zA aa zA zA zA (au c0)
end
end Yv
