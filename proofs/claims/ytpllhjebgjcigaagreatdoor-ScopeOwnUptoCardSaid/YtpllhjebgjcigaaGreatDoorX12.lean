/- A part of the proof of 'ScopeOwnUptoCardSaid'. No condition. -/
import Derived.Test.YtpllhjebgjcigaaGreatDoorX11
set_option maxHeartbeats 16000000
set_option maxRecDepth 100000
set_option linter.all false
namespace Yv
variable{T:aM->Option CF}
def uI(lo p:Nat)(h:Hp)(v:AV)(ts:List Tree):Prop:=
 ts=[]/\v=.bx\/ts≠[]/\∃q r t,lo<=q/\v=.slice q 0 6 ts.length ts.length false/\h.get q=.rows 39 6 r 0 t/\ts.length<=r/\∀j,(hj:j<ts.length)->∃hN,hN.nx<=q/\ah (·=p) hN h/\ay 0 hN ts[j] (t j)/\∀r t,hN.get p≠.rows 39 6 r 0 t
section
variable{h h':Hp}{lo p:Nat}{v:AV}{ts:List Tree}{t:Tree}
theorem uI.nC(x:uI lo p h v ts)(g:ah (·=p) h h')(hp:∀r t,h.get p≠.rows 39 6 r 0 t):uI lo p h' v ts:=by rcases x with x|⟨x,q,r,f,lq,e1,e2,e3,e4⟩;exact .inl x;refine .inr ⟨x,q,r,f,lq,e1,?_,e3,λj hj=>?_⟩;rw[g.get q (Hp.lt e2 rfl) λm=>by subst m;exact hp _ _ e2];exact e2;obtain⟨hN,a,b,c,d⟩:=e4 j hj;exact⟨hN,a,b.trans g,c,d⟩
theorem uI.cells(x:uI lo p h v ts):bQ v=some [v]:=by rcases x with⟨_,rfl⟩|⟨_,q,r,t,_,rfl,_⟩<;>rfl
theorem uI.len(x:uI lo p h v ts){H:Hp}:tL 1 H v=.v (.i ts.length):=by rcases x with⟨rfl,rfl⟩|⟨_,q,r,t,_,rfl,_⟩<;>rfl
theorem nfp(g:ah (·=p) h h')(hp:∀r t,h.get p≠.rows 39 6 r 0 t):NF 0 h h':=λi r f _ e=>by rw[g.get i (Hp.lt e rfl) λm=>by subst m;exact hp _ _ e];exact e
theorem uI.kids(x:uI lo p h v ts):lC 0 h v ts:=by rcases x with x|⟨x,q,r,f,lq,e1,e2,e3,e4⟩;exact .inl x;refine .inr ⟨x,q,_,_,r,f,e1,e2,e3,λj hj=>?_⟩;obtain⟨hN,a,b,c,d⟩:=e4 j hj;exact c.nf (nfp b d) zl
theorem uI.fF{hP:Hp}{kS:Nat}{row:List AV}(x:uI lo p hP v ts)(gP:ah (·=p) hP h)(O2:∀r t,hP.get p≠.rows 39 6 r 0 t) (l2:hP.nx<=kS) (nd:ay kS h t row) (hl:ts.length<1073741824) (Ev:lo<=h.nx) (lp:p<h.nx) (hph:∀r t,h.get p≠.rows 39 6 r 0 t) {t1:N3 (List AV)} {h1:Hp} (e1:h1=h.push (.rows 39 6 1 0 t1)):
 ∃q r f H',kJ h1 39 6 72 v (.slice h.nx 0 6 1 1 true)=.vh (.slice q 0 6 (ts.length+1) (ts.length+1) false) H'/\q=h1.nx/\H'.nx=q+1/\H'.get q=.rows 39 6 r 0 f/\ts.length<r/\f ts.length=t1 0/\(∀i,i<h.nx->(∀r t,h.get i≠.rows 39 6 r 0 t)->H'.get i=h.get i)/\
  (∀hB:Hp,hB.nx<=lo->ah (·=p) hB h->ah (·=p) hB H')/\
  ∀H3:Hp,H3.get q=.rows 39 6 r 0 (cx f ts.length row)->ah (λi=>i=p\/i=q) H' H3->uI lo p H3 (.slice q 0 6 (ts.length+1) (ts.length+1) false) (ts++[t]):=by
 have u1:h1.get h.nx=.rows 39 6 1 0 t1:=by rw[e1];exact Hp.br rfl
 have xp:h1.nx=h.nx+1:=by rw[e1];rfl
 have g1:ax h h1:=by rw[e1];exact aZ
 have nP:=gP.nx;have nq:=wN (h:=h1) (rw:=6) (cap:=1) (ex:=true) u1 zl;have x':=x.nC gP O2;rcases x with⟨rfl,rfl⟩|⟨bg,q,r,f,lq,rfl,hq,hr,ht⟩;have ea:=A7 (h:=h1) (el:=39) (rw:=6) (bytes:=72) (n:=0) (y:=.slice h.nx 0 6 1 1 true) nq rfl zd;refine⟨_,1,cx fG 0 (t1 0),_,ea,rfl,rfl,by rw[Hp.br rfl];rfl,by simp,by simp,λi hi _=>?_,λhB cK g=>(g.trans (ah.cn g1)).push _,λH3 e3 g3=>?_⟩;rw[Hp.qZ zo,g1.get i hi id];refine .inr ⟨by simp,h1.nx,1,_,by omega,rfl,e3,by simp,λj hj=>?_⟩;obtain rfl:j=0:=by simp at hj;omega
 refine⟨h1,by omega,?_,by simpa using nd.nf (mY g1|>.mono (auz _)) (auz _),λr t=>by rw[g1.get _ lp id];exact hph r t⟩;have gH:ah (·=p) h1 (h1.push (jJ 39 6 (0+1) [t1 0])):=(ah.refl _).push _;exact⟨at1 gH.nx g3.nx,λi hi hm=>by rw[g3.get i qaR zo];exact gH.get i hi hm⟩;have lqP:=Hp.lt hq rfl;have jT:h.get q=.rows 39 6 r 0 f:=(gP.get _ lqP λm=>by subst m;exact O2 _ _ hq).trans hq;have ki:h1.get q=.rows 39 6 r 0 f:=(g1.get _ zo id).trans jT;have ea:=A8 (h:=h1) (el:=39) (rw:=6) (bytes:=72) (n:=0) (i:=q) (len:=ts.length) (cnt:=r) (t:=f) (y:=.slice h.nx 0 6 1 1 true) ki hr nq rfl (rV zo zo);have e:(h1.set q .eD).nx=h1.nx:=Hp.tT zo;refine⟨_,ts.length+1,cx f ts.length (t1 0),_,ea,rfl,by simp[e],?_,by simp,by simp,λi hi hn=>?_,λhB cK g=>((g.trans (ah.cn g1)).set _ (.inl zo)).push _,λH3 e3 g3=>?_⟩;rw[Hp.br e.symm];rfl;have VF:i≠q:=by rintro rfl;exact hn _ _ jT
 rw[Hp.qZ zo,Hp.de VF,g1.get i hi id];refine .inr ⟨by simp,h1.nx,ts.length+1,_,by omega,by simp,e3,by simp,λj hj=>?_⟩;have uA:∀{hM:Hp},hM.nx<=h1.nx->ah (·=p) hM (h1.set q .eD)->ah (·=p) hM H3:=λ{hM} lM gM=>by have gH:ah (·=p) hM ((h1.set q .eD).push (.rows 39 6 (ts.length+(0+1)) 0 (jy f ts.length [t1 0]))):=gM.push _;exact⟨at1 gH.nx g3.nx,λi hi hm=>by rw[g3.get i qaR zo];exact gH.get i hi hm⟩
 simp only[auk,ave] at hj
 by_cases c:j=ts.length
 subst c;refine⟨h1.set q .eD,by omega,uA zo (ah.refl _),?_,λr t e=>by
  by_cases c:p=q
  rw[Hp.bR c] at e;cases e;rw[Hp.de c,g1.get _ lp id] at e;exact hph r t e⟩
 have nf:NF kS h (h1.set q .eD):=λi r f li ei=>by rw[Hp.de zo,g1.get i (Hp.lt ei rfl) id];exact ei
 simpa using nd.nf nf (auz _);obtain⟨hM,a,b,c',d'⟩:=ht j zo;have gM:=((b.trans gP).trans (ah.cn g1)).set (i:=q) .eD (.inl a);refine⟨hM,by omega,uA zo gM,?_,d'⟩;rw[ava zo,dZ,atS c,dZ,atS c];exact c'
end
structure O3(s:List UInt8):Prop where
 len:s.length<16777216
 lx:∀b o l n,tf b o s=.ok l n->fc (l++[fD s])/\(∀n,n<(l++[fD s]).length->(tk (l++[fD s]) n).text.length<1073741824)/\l.length<1073741824
 er:∀b o p e,tf b o s=.er p e->e≠0
 sm:∀b o l n oi t m,tf b o s=.ok l n->sj (l++[fD s]) s.length oi=.ok t m->rY t
 no:∀b o oi,Al b o oi s≠.dN
 EV:∀b o oi p e,Al b o oi s=.er p e->e≠0
def O4(s:List UInt8)(r:PR Tree):Prop:=∃b o oi,((∀c∈s,c.toNat<128)->b<0)/\r=Al b o oi s
def pB:PR Tree->Tree
 |.ok t _=>t
 |_=>zT
def acE(i:Nat)(f:cN):PR Tree->cN
 |.er p e=>Bp f ⟨i,p,e⟩
 |_=>f
def yP:List (PR Tree)->Nat->cN->cN
 |[],_,f=>f
 |r::rs,i,f=>yP rs (i+1) (acE i f r)
section
variable{p fb:Nat}{c0 c2 c6 c7 c8 c9 v:AV}{docs:List Doc}{hB:Hp}
theorem alQ(HT:aA T)(hd:vV hB v docs)(hl:docs.length<1073741824)(ok:∀d∈docs,O3 d.text) (hg:Ax T hB) (p19:22<=p) (O0:∃el l,hB.get p=.one el l):∀(ds:List Doc)(j:Nat)(ts:List Tree)(f:cN)(c1:AV)(h1:Hp)(fr:Fr)(K:aT->Prop),j+ds.length=docs.length->(∀i(hi:i<ds.length),docs[j+i]? =some ds[i])->ts.length=j->
 ah (·=p) hB h1->uI hB.nx p h1 c1 ts->h1.get p=.one 52 (bS c0 c1 c2 f c6 c7 c8 c9)->J 3 fr=.ptr fb 0->J 4 fr=.ptr p 0->J 66 fr=v->J 67 fr=.i docs.length->J 68 fr=.i j->
 (∀f' h' c1' rs,J 3 f'=.ptr fb 0->J 4 f'=.ptr p 0->ah (·=p) hB h'->rs.length=ds.length->(∀i(hi:i<rs.length)(dD:i<ds.length),O4 ds[i].text rs[i])->uI hB.nx p h' c1' (ts++rs.map pB)->h'.get p=.one 52 (bS c0 c1' c2 (yP rs j f) c6 c7 c8 c9)->K (.exit 2 f' h' []))->
 W T (.loop l6_1) fr h1 [] K:=by
 intro ds
 induction ds with
 |nil=>
  intro j ts f c1 h1 fr K hj og jh g1 hF hp f3 f4 f66 f67 f68 hk;simp only[aup,aud] at hj;subst hj;rw[aP];refine aU f66 f67 f68 ?_;exact hk _ _ c1 [] zA zA g1 rfl (λi hi=>by simp at hi) (by simpa using hF) hp
 |cons d ds ih=>
  intro j ts f c1 h1 fr K hj og jh g1 hF hp f3 f4 f66 f67 f68 hk;simp only[atX] at hj;have ao:j<docs.length:=zo;have aY:(j:Int)<docs.length:=zo;have ed:docs[j]=d:=by have:=og 0 zm;simp only[aud,atT ao,aus] at this;exact auQ this
  have dm:d∈docs:=by rw[<-ed];exact auy ao
  have tok:=ok d dm;have wI:=g1.nx;have J7:=hg.mono g1 (λi m=>by subst m;exact p19);have lp:=Hp.lt hp rfl;have dj:=hp;simp only[bS] at dj;have iu:=hd.mono g1 (λi m=>by subst m;exact O0);obtain⟨b,cap,ex,r,t,rfl,hb,hr,ht⟩:∃b cap ex r t,v=.slice b 0 3 docs.length cap ex/\tC (h1.get b) r t/\docs.length<=r/\∀j,(hj:j<docs.length)->t j=docs[j].row:=by rcases iu with⟨rfl,_⟩|x;simp at ao;exact x
  have lb:=hb.lt;have jr:j<r:=zo;have jH:=ht j ao;rw[ed] at jH;have Ic:=hb.ld jr jH;rw[aP];show W T QA fr h1 [] _;unfold QA;generalize hL:CC.loop l6_1=L;generalize ju:CC.aR r6_16=Dr;refine mz f3 f4 f66 f67 f68 ao aY Ic Doc.row.eq_1 ?_;generalize hH:(((h1.push _).set _ _):Hp)=H;have u1:H.get h1.nx=.one 43 [S d.uri,S d.text,.i d.aD]:=by rw[<-hH];simp(disch:=omega)
  have gH:ax h1 H:=by rw[<-hH];exact aZ
  have nH:H.nx=h1.nx+1:=by rw[<-hH];simp(disch:=first|exact bh|fail)
  clear hH;have Lu:=J7.mono gH (λ_ m=>m.elim);refine ajY HT (λh' g=>(Lu.mono g λ_ m=>m.elim).Ib.1) (λh' g=>(Lu.mono g λ_ m=>m.elim).Ib.2.1) (λh' g=>(Lu.mono g λ_ m=>m.elim).Ib.2.2.1) (λh' g=>(Lu.mono g λ_ m=>m.elim).Ib.2.2.2.1) tok.len Lu.Ib.2.2.2.2 tok.lx tok.er tok.sm λbb o oi VI=>?_;have pr:O4 d.text (Al bb o oi d.text):=⟨bb,o,oi,VI,rfl⟩;have jK:=tok.no bb o oi;have jC:=tok.EV bb o oi;revert pr jK jC;generalize Al bb o oi d.text=R;intro pr jK jC;have rest:∀(bJ:Fr)(h2:Hp)(nb:Nat)(tr:Tree)(row:List AV)(f2:cN),ah (·=p) H h2->h2.get p=.one 52 (bS c0 c1 c2 f2 c6 c7 c8 c9)->h2.get nb=.one 39 row->ay H.nx h2 tr row->pB R=tr->acE j f R=f2->J 3 bJ=.ptr fb 0->J 4 bJ=.ptr p 0->J 11 bJ=.ptr nb 0->J 66 bJ=.slice b 0 3 docs.length cap ex->J 67 bJ=.i docs.length->J 68 bJ=.i j->
   W T Dr bJ h2 [] (bY 3 (bF (W T (CC.af r6_17)) (bF (W T L) K))):=by
   intro bJ h2 nb tr row f2 g2 eK w1 nd hR nV e3 e4 e11 e66 e67 e68;have n2:=g2.nx;have yM:=Hp.lt eK rfl;have lnb:=Hp.lt w1 rfl;obtain⟨kv,rfl,hkv⟩:=nd.cells;have H6:=eK;simp only[bS] at H6;have Ig:ah (·=p) hB h2:=(g1.trans (ah.cn gH)).trans g2;have O2:∀r t,h1.get p≠.rows 39 6 r 0 t:=λr t q=>by rw[hp] at q;cases q
   subst ju;rw[lI,mu];simp only[ku,GX,GY];generalize Ae:h2.push (.rows 39 6 1 0 (cx (cx fG 0 [.i 0,.i 0,.i 0,.i 0,S [],.bx]) 0 [.i 0,.i 0,.i 0,.i 0,S [],.bx]))=H1;obtain⟨q,r',ff,H',ea,eq,nH',hq,qY,VJ,C5,gB',b8⟩:=hF.fF ((ah.cn gH).trans g2) O2 zo nd zo zo yM (λr t q=>by rw[eK] at q;cases q) Ae.symm;simp(disch:=omega) [e4,e11,H6,w1,hF.len,jh];have VK:ts.length<r':=qY;have eqp:q≠p:=by rw[eq,<-Ae];simp only[Hp.eE];omega
   have lB:=(C5 p yM (λr t q=>by rw[eK] at q;cases q)).trans H6;have lq:=Hp.lt hq rfl;have lpH:=Hp.lt lB rfl;have jr2:j<r':=zo;have jj:j<ts.length+1:=zo;have jj':(j:Int)<(ts.length:Int)+1:=zo;rw[jh] at VJ;simp at VJ;rw[Ae,ea];simp(disch:=first|exact bh|fail) [eqp,hq,lB,hkv.bQ,jr2,jj,jj',e68,VJ,BQ];generalize Ap:((H'.set q _).set p _:Hp)=H5;have u5:H5.get p=.one 52 (bS c0 (.slice q 0 6 (ts.length+1) (ts.length+1) false) c2 f2 c6 c7 c8 c9):=by rw[<-Ap];simp(maxSteps:=400000) (disch:=first|exact bh|fail) [bS]
   have uq:H5.get q=.rows 39 6 r' 0 (cx ff ts.length [.i tr.kind,.i tr.ak,.i tr.to,.i tr.at,S tr.name,kv]):=by rw[<-Ap,jh];simp(maxSteps:=400000) (disch:=first|exact bh|fail) [eqp]
   have g5:ah (λi=>i=p\/i=q) H' H5:=by rw[<-Ap];exact((ah.refl _).set _ (.inr (.inr rfl))).set _ (.inr (.inl rfl))
   clear Ap;have gB5:ah (·=p) hB H5:=⟨at1 (gB' hB zl Ig).nx g5.nx,λi hi hm=>by
    have Ci:i≠q:=by have:=Ig.nx;have:H1.nx=h2.nx+1:=by rw[<-Ae];rfl
                    omega
    have gx:=gB' hB zl Ig;rw[g5.get i (by have:=gx.nx;omega) (by rintro(c|c);exact hm c;exact Ci c),gx.get i hi hm]⟩
   subst hL;refine ih (j+1) (ts++[tr]) f2 _ H5 _ K zo (λi hi=>?_) (by simp[jh]) gB5 (b8 H5 uq g5) u5 (by simp(maxSteps:=400000) (disch:=first|exact bh|fail) [e3]) (by simp(maxSteps:=400000) (disch:=first|exact bh|fail) [e4]) (by simp(maxSteps:=400000) (disch:=first|exact bh|fail) [e66]) (by simp(maxSteps:=400000) (disch:=first|exact bh|fail) [e67]) qad λf' h' c1' rs a3 a4 ga gO hpr hFi hpp=>hk f' h' c1' (R::rs) a3 a4 ga (by simp[gO]) (λi hi dD=>?_) (by simpa[hR] using hFi) (by rw[yP,nV];exact hpp);have:=og (i+1) zn;simp only[auu] at this;rw[show j+1+i=j+(i+1) by omega];exact this;cases i with
   |zero=>exact pr
   |succ i=>exact hpr i qaY (by simpa using dD)
  cases R with
  |dN=>exact(jK rfl).elim
  |er q e=>
   have e0:=jC q e rfl;intro h2 g2;have n2:=g2.nx;refine aU e0 f3 f4 ?_;generalize oF:(((h2.push _).set _ _):Hp)=H3;have w1:H3.get h2.nx=.one 39 cA:=by rw[<-oF];simp(disch:=omega)
   have g3:ax h2 H3:=by rw[<-oF];exact aZ
   clear oF;have g13:=(gH.trans g2).trans g3;have kF:=(g13.get _ lp id).trans hp;refine ES HT (x:=⟨j,q,e⟩) kF λh4 g4 m7=>?_;have n3:=g3.nx;have w4:=(g4.get _ (Hp.lt w1 rfl) qaR).trans w1;have hz:ay H.nx h4 zT cA:=⟨_,rfl,rfl⟩;refine ag ?_;exact rest _ h4 h2.nx zT _ _ ((ah.cn (g2.trans g3)).trans g4) m7 w4 hz rfl rfl zA zA aa zA zA zA
  |ok tr m=>
   intro h2 row g2 nd;have n2:=g2.nx;obtain⟨kv,rfl,hkv⟩:=nd.cells;refine aU f3 f4 hkv.bQ ?_;generalize oF:(((h2.push _).set _ _):Hp)=H3;have w1:H3.get h2.nx=.one 39 [.i tr.kind,.i tr.ak,.i tr.to,.i tr.at,S tr.name,kv]:=by rw[<-oF];simp(disch:=omega)
   have g3:ax h2 H3:=by rw[<-oF];exact aZ
   clear oF;have g13:=(gH.trans g2).trans g3;have kF:=(g13.get _ lp id).trans hp;exact rest _ H3 h2.nx tr _ f (ah.cn (g2.trans g3)) kF w1 (nd.nf (mY g3|>.mono (auz _)) zl) rfl rfl zA zA aa zA zA zA
end
structure Fm(h h':Hp):Prop where
 nx:h.nx<=h'.nx
 get:∀i,i<h.nx->¬rF (h.get i)->¬uw (h.get i)->h'.get i=h.get i
theorem Fm.trans{a b c:Hp}(x:Fm a b)(y:Fm b c):Fm a c:=⟨at1 x.nx y.nx,λi hi h34 h36=>by have e:=x.get i hi h34 h36;rw[y.get i (aur hi x.nx) (by rw[e];exact h34) (by rw[e];exact h36),e]⟩
theorem Fm.of{a b:Hp}(x:ax a b):Fm a b:=⟨x.nx,λi hi _ _=>x.get i hi id⟩
def Ih(fs:List Tree)(aq:List (List UInt8)):Prop:=(∀j(hj:j<fs.length),fs[j].name=aq.getD j [])/\∀t∈fs,∀t'∈t.kids,t'.kind≠2
def Lv(fs:List Tree)(aq:List (List UInt8)):Prop:=(jG aq fs 0 l9).rE=false/\(jG aq fs 0 l9).kW=[]/\∀q,(((jG aq fs 0 l9).bu q).map (·.name)).Nodup
def BF:PR Tree->Prop
 |.ok _ _=>True
 |_=>False
structure O5(fs:List Tree)(aq:List (List UInt8)):Prop where
 w:∀t∈fs,fh false t/\rY t
 d:∀t∈fs,∀t'∈t.kids,yN t'
 nd:(jG aq fs 0 l9).nd.length<536870912
 us:∀fl,(uB fs aq (jG aq fs 0 l9).bu fs 0 ⟨fl,(jG aq fs 0 l9).nd,[]⟩).us.length<1073741824
def vW:cN:=⟨0,0,0⟩
def Lw(fs:List Tree)(aq:List (List UInt8))(f:cN):Sc:=uB fs aq (jG aq fs 0 l9).bu fs 0 ⟨f,(jG aq fs 0 l9).nd,[]⟩
def VL(rs:List (PR Tree))(aq:List (List UInt8))(f:cN):Prop:=
 f=yP rs 0 vW\/(∀r∈rs,BF r)/\∃f2,(Ih (rs.map pB) aq->f2=vW)/\(f=f2\/f2.e=0/\∃f3,(Lv (rs.map pB) aq->f3=f2)/\f=(Lw (rs.map pB) aq f3).bN)
def acF(rs:List (PR Tree))(aq:List (List UInt8))(s:Sc):Prop:=
 (∀r∈rs,BF r)/\∃f2,(Ih (rs.map pB) aq->f2=vW)/\f2.e=0/\∃f3,(Lv (rs.map pB) aq->f3=f2)/\s=Lw (rs.map pB) aq f3
structure Ay(docs:List Doc)(rs:List (PR Tree))(aq:List (List UInt8)):Prop where
 rl:rs.length=docs.length
 dl:aq.length=docs.length
 r:∀i(hi:i<rs.length)(dD:i<docs.length),O4 docs[i].text rs[i]
 d:∀i(hi:i<docs.length),rZ docs[i].uri=some (aq.getD i [])
theorem acG{f x:cN}(hx:x.e≠0):(Bp f x).e≠0:=by unfold Bp;split;exact hx;rename_i c;intro e;exact c (.inl e)
theorem acH:∀(rs:List (PR Tree))(i:Nat)(f:cN),(∀r∈rs,∀p e,r=.er p e->e≠0)->f.e≠0->(yP rs i f).e≠0
 |[],_,_,_,h=>h
 |r::rs,i,f,hr,h=>by
  unfold yP;refine acH rs (i+1) _ (λr hm=>hr r qaO) ?_;cases r with
  |er p e=>exact acG (hr _ zm p e rfl)
  |_=>exact h
theorem acI:∀(rs:List (PR Tree))(i:Nat)(f:cN),(∀r∈rs,r≠.dN)->(∀r∈rs,∀p e,r=.er p e->e≠0)->(yP rs i f).e=0->(∀r∈rs,BF r)/\yP rs i f=f
 |[],_,_,_,_,_=>⟨λ_ h=>(by cases h),rfl⟩
 |r::rs,i,f,ho,hr,h=>by
  unfold yP at h⊢;cases r with
  |dN=>exact absurd rfl (ho _ zm)
  |er p e=>exact absurd h (acH rs (i+1) _ (λr hm=>hr r qaO) (acG (hr _ zm p e rfl)))
  |ok t n=>
   obtain⟨a,b⟩:=acI rs (i+1) f (λr hm=>ho r qaO) (λr hm=>hr r qaO) h;exact⟨λr hm=>(atZ.1 hm).elim (λe=>by subst e;exact trivial) (a r),b⟩
theorem alR{u d:List UInt8}(h:rZ u=some d):d.length<=u.length:=by
 unfold rZ at h;have hr:(if eP u [102,105,108,101,58,47,47,47]=true then u.drop 8 else u).length<=u.length:=by split<;>simp
 revert h hr;generalize(if eP u [102,105,108,101,58,47,47,47]=true then u.drop 8 else u)=rest;intro h hr;simp only at h;generalize(if vu (iz rest 47).2.1 [46,103,111]=true then(iz rest 47).2.1.take ((iz rest 47).2.1.length- 3) else(iz rest 47).2.1)=b at h;split at h;have h:=auQ h;subst h;exact at1 abw.1 hr;exact absurd h zm
theorem uG.z{lo:Nat}{h:Hp}{v:AV}{ws:List (List UInt8)}(x:uG lo h v ws):yb h v ws:=λne=>by rcases x with⟨q,_⟩|⟨_,q,r,t,_,e,hq,hr,ht⟩;exact absurd q ne;exact⟨q,_,_,r,t,e,hq,hr,ht⟩
theorem alS{ts:List Tree}(h:∀t∈ts,rY t):pq ts:=by
 induction ts with
 |nil=>trivial
 |cons t ts ih=>exact⟨h t zm,ih λt ht=>h t qat⟩
theorem lX.new{h:Hp}{i aD:Nat}(e:h.get i=.map [] aD):lX h i []:=⟨[],aD,e,by simp[vO],λd v hd=>(by simp[Ak] at hd),λd hd=>(by cases hd)⟩
section
variable{h:Hp}{k:aK->Prop}{v:AV}{docs:List Doc}
theorem acJ(HT:aA T)(hd:vV h v docs)(hl:docs.length<1073741824)(hu:∀d∈docs,d.uri.length<1073741824) (ok:∀d∈docs,O3 d.text) (hg:Ax T h)
 (pr:∀rs aq,Ay docs rs aq->(∀r∈rs,BF r)->O5 (rs.map pB) aq)
 (hA:∀h',Fm h h'->(1<docs.length\/∃d∈docs,rZ d.uri=none)->k (.ret (.bA [.gJ,.agg [.i 0,.i 0,.i 2]]) h'))
 (hB:∀rs aq f h',Ay docs rs aq->VL rs aq f->f.e≠0->Fm h h'->k (.ret (.bA [.gJ,.agg f.row]) h'))
 (hC:∀rs aq s h' p aG tb c0 c1 c2 c8,Ay docs rs aq->acF rs aq s->s.bN.e=0->Fm h h'->uC p aG tb c0 c1 c2 c8 h' s->k (.ret (.bA [.ptr p 0,.agg [.i 0,.i 0,.i 0]]) h')):aE T (W T) ⟨6⟩ [v] h k:=by
 rw[aJ HT.t6];generalize pY:QE=T2;refine ag ?_;have gA:ax h (h.push (.one 28 [.i 0,.i 0,.i 0])):=aZ;have nH:=hg.1;refine alL HT (hd.mono gA (λ_ m=>m.elim)) hl λh2 v2 g2 lN ev2=>?_;have n2:=g2.nx;simp only[Hp.eE] at n2;have ufb:h2.get h.nx=.one 28 [.i 0,.i 0,.i 0]:=(g2.get _ zm id).trans (Hp.br rfl);have g02:=gA.trans g2;refine aB ev2 ?_;generalize Fc:((((h2.push _).push _).push _).push _:Hp)=HB;have VM:ax h2 HB:=by rw[<-Fc];exact aZ
 have nHB:HB.nx=h2.nx+1+1+1+1:=by rw[<-Fc];rfl
 have um1:HB.get h2.nx=.map [] 0:=by rw[<-Fc];simp(disch:=first|exact bh|fail)
 have um2:HB.get (h2.nx+1)=.map [] 0:=by rw[<-Fc];simp(disch:=first|exact bh|fail)
 have um3:HB.get (h2.nx+1+1)=.map [] 0:=by rw[<-Fc];simp(disch:=first|exact bh|fail)
 have up:HB.get (h2.nx+1+1+1)=.one 52 (bS v2 .bx .bx vW (.map h2.nx) (.map (h2.nx+1)) (.map (h2.nx+1+1)) .bx):=by rw[<-Fc];simp(disch:=first|exact bh|fail) [bS,vW]
 clear Fc;have Ii:=g02.trans VM;have hgB:=hg.mono Ii (λ_ m=>m.elim);have ufB:HB.get h.nx=.one 28 [.i 0,.i 0,.i 0]:=(VM.get _ zo id).trans ufb;have hdB:=lN.mono VM (λ_ m=>m.elim);generalize hp:h2.nx+1+1+1=p at*;generalize sk:h2.nx=aG at*;generalize K3:aG+1=tb at*;generalize OY:tb+1=pb at*;have O0:∀el rw r fz t,HB.get p≠.rows el rw r fz t:=λ_ _ _ _ _ e=>by rw[up] at e;cases e
 have O6:h.nx≠p:=zo;have b8:∀(bJ:Fr)(h':Hp)(c0 c1 c2 c6 c7 c8 c9:AV)(f:cN)(x0 x1 x2:AV),h'.get p=.one 52 (bS c0 c1 c2 f c6 c7 c8 c9)->h'.get h.nx=.one 28 [x0,x1,x2]->J 3 bJ=.ptr h.nx 0->J 4 bJ=.ptr p 0->
  (f.e≠0->∀h2,ah (·=h.nx) h' h2->k (.ret (.bA [.gJ,.agg f.row]) h2))->(f.e=0->∀h2,ah (·=h.nx) h' h2->k (.ret (.bA [.ptr p 0,.agg [.i 0,.i 0,.i 0]]) h2))->W T QB bJ h' [] (finish T (W T) [CR.tmp 2,CR.cell 3 true 3] k):=by
  intro bJ h' c0 c1 c2 c6 c7 c8 c9 f x0 x1 x2 dj BD e3 e4 k1 k2;have lp:=Hp.lt dj rfl;have lf:=Hp.lt BD rfl;simp only[bS] at dj
  by_cases e0:f.e=0
  refine cC e3 e4 dj e0 BD ?_;exact k2 e0 _ (ah.set (M:=(·=h.nx)) (ah.refl _) _ (.inr rfl));refine cC e3 e4 dj e0 BD ?_;exact k1 e0 _ (ah.set (M:=(·=h.nx)) (ah.refl _) _ (.inr rfl))
 have VN:∀{M:Nat->Prop}(h':Hp),ah M HB h'->(∀i,M i->h.nx<=i)->Fm h h':=λ{M} h' g hM=>⟨at1 Ii.nx g.nx,λi hi _ _=>by have:=Ii.nx;rw[g.get i zo λm=>by have:=hM i m;omega,Ii.get i hi id]⟩
 have qw:=hd.mono Ii (λ_ m=>m.elim);subst pY;unfold QE;generalize rq:QD=T3;simp(disch:=omega) [qw.len];refine alM HT (p:=p) (fb:=h.nx) qw hl hu hgB ufB zo O6 ⟨_,_,up⟩ docs.length 0 [] .bx HB _ _ zo rfl (λi hi=>by omega) (ah.refl _) (.inl ⟨rfl,rfl⟩) up aa aa aa aa aa aa (λf' h' e2 e3 ef gb Ie=>?_) λf3 h3 c2 aq a0 a3 a4 g3 sg mT vg kF=>?_;refine aU e2 e3 ef ?_;exact hA h' (VN _ gb λi m=>by omega) Ie;subst rq;unfold QD;generalize qE:QC=T4;simp(disch:=omega) [a0,qw.len];have alT:∀el rw r fz t,h3.get p≠.rows el rw r fz t:=λ_ _ _ _ _ e=>by rw[kF] at e;cases e
 refine alQ HT (p:=p) (fb:=h.nx) (qw.mono g3 λi m=>by subst m;exact⟨_,_,up⟩) hl ok (hgB.mono g3 λi m=>by subst m;omega) zo ⟨_,_,kF⟩ docs 0 [] vW .bx h3 _ _ zo (λi hi=>by simp[hi]) rfl (ah.refl _) (.inl ⟨rfl,rfl⟩) kF (au a3) (au a4) aa aa aa λf4 h4 c1 rs b3 b4 g34 Cl Bg hF m7=>?_;refine ag ?_;have g4:=g3.trans g34;have sz4:yb h4 c2 aq:=λne=>(sg.z ne).mono g34 λi r t e m=>by subst m;exact alT _ _ _ _ _ e
 have Lx:Ay docs rs aq:=⟨Cl,mT,Bg,vg⟩;rw[au5] at hF;have uf4:h4.get h.nx=.one 28 [.i 0,.i 0,.i 0]:=(g4.get _ zo O6).trans ufB;generalize Aw:yP rs 0 vW=Fe at m7;have lp4:=Hp.lt m7 rfl;have lf4:=Hp.lt uf4 rfl;have alU:=m7;simp only[bS] at alU;subst qE;unfold QC;generalize hL:CC.loop l6_0=L;generalize hT5:QB=T5 at b8⊢;refine aB b4 ?_;generalize Ap:(h4.push _:Hp)=H5;have g5:ax h4 H5:=by rw[<-Ap];exact aZ
 obtain⟨ft,u5,O7,O8⟩:∃ft,H5.get h4.nx=.rows 1 1 2 0 ft/\ft 0=[.func ⟨16⟩ [.ptr p 0] []]/\ft 1=[.func ⟨17⟩ [.ptr p 0] []]:=⟨_,by rw[<-Ap];exact Hp.br rfl,by simp,by simp⟩;clear Ap;have up5:=(g5.get _ lp4 id).trans m7;have uf5:=(g5.get _ lf4 id).trans uf4;have VO:=up5;simp only[bS] at VO;have lH5:=Hp.lt u5 rfl;have cM:∀(bJ:Fr)(h':Hp)(d0 d1 d2 d6 d7 d8 d9:AV)(fl:cN),h'.get p=.one 52 (bS d0 d1 d2 fl d6 d7 d8 d9)->h'.get h.nx=.one 28 [.i 0,.i 0,.i 0]->J 3 bJ=.ptr h.nx 0->J 4 bJ=.ptr p 0->J 106 bJ=.i 2->J 107 bJ=.i 2->
  (fl.e≠0->∀h2,ah (·=h.nx) h' h2->k (.ret (.bA [.gJ,.agg fl.row]) h2))->(fl.e=0->∀h2,ah (·=h.nx) h' h2->k (.ret (.bA [.ptr p 0,.agg [.i 0,.i 0,.i 0]]) h2))->W T L bJ h' [] (bY 4 (bF (W T T5) (finish T (W T) [CR.tmp 2,CR.cell 3 true 3] k))):=by
  intro bJ h' d0 d1 d2 d6 d7 d8 d9 fl dj BD e3 e4 e106 e107 k1 k2;subst hL;rw[aP];show W T Gk _ _ [] _;generalize hL:CC.loop l6_0=L;refine aS e106 e107 ?_;exact b8 _ h' d0 d1 d2 d6 d7 d8 d9 fl _ _ _ dj BD (au e3) (au e4) k1 k2
 have fm2:∀h' h2,ah (·=p) H5 h'->ah (·=h.nx) h' h2->Fm h h2:=λh' h2 g' g2=>VN (M:=λi=>i=p\/i=h.nx) _ ((((g4.trans (ah.cn g5)).trans g').mono λ_ _ q=>.inl q).trans (g2.mono λ_ _ q=>.inr q)) λi m=>zo;have nof:∀r∈rs,r≠.dN/\∀q e,r=.er q e->e≠0:=λr hr=>by obtain⟨i,hi,rfl⟩:=avC hr;have dD:i<docs.length:=zo;obtain⟨b,o,oi,_,e⟩:=Bg i hi dD;have tok:=ok _ (auy dD);rw[e];exact⟨tok.no b o oi,tok.EV b o oi⟩
 have alV:Fe.e=0->(∀r∈rs,BF r)/\Fe=vW:=λe=>by subst Aw;exact acI rs 0 vW (λr hr=>(nof r hr).1) (λr hr=>(nof r hr).2) e
 have VP:(rs.map pB).length=aq.length:=by simp[Cl,mT]
 have wX:∀(bJ:Fr)(h':Hp)(fl:cN),ah (·=p) H5 h'->oK p v2 c1 c2 (.map aG) (.map tb) (.map pb) .bx (rs.map pB) aq fl h'->J 3 bJ=.ptr h.nx 0->J 4 bJ=.ptr p 0->J 105 bJ=.slice h4.nx 0 1 2 2 true->J 106 bJ=.i 2->J 107 bJ=.i 1->(fl.e=0->Fe.e=0)->(fl.e≠0->VL rs aq fl)->(fl.e=0->Ih (rs.map pB) aq->fl=vW)->(Fe.e=0->(∀r∈rs,BF r))->W T L bJ h' [] (bY 4 (bF (W T T5) (finish T (W T) [CR.tmp 2,CR.cell 3 true 3] k))):=by
  intro bJ h' fl g' x' e3 e4 e105 e106 e107 q1 q2 q3 q4;have dj:=x'.hp;have VQ:=dj;simp only[bS] at VQ;have lp':=Hp.lt dj rfl;have yw:=g'.nx;have uf':=(g'.get _ zo O6).trans uf5;have u5':=(g'.get _ lH5 zo).trans u5
  by_cases e1:fl.e=0
  have k1:=q4 (q1 e1);have po:=pr rs aq Lx k1;subst hL;rw[aP];show W T Gk _ _ [] _;generalize hL:CC.loop l6_0=L at cM⊢;refine nA u5' O7 O8 VQ e3 e4 e105 e106 e107 e1 ?_;rw[aJ HT.t17];refine ag ?_;have O9:ah (·=p) HB h':=(g4.trans (ah.cn g5)).trans g';have m1:h'.get aG=.map [] 0:=(O9.get _ zo zo).trans um1;have m2:h'.get tb=.map [] 0:=(O9.get _ zo zo).trans um2;have m3:h'.get pb=.map [] 0:=(O9.get _ zo zo).trans um3;refine alz HT dj (lX.new m1) (iV.new m2) (iV.new m3) zo x'.hd x'.hc VP zn (λd hd=>?_) (alS λt ht=>(po.w t ht).2) po.d po.nd λh7 f3 g7 hp7 nd7 alW tl7 so=>?_;obtain⟨i,hi,rfl⟩:=avC hd;have:=vg i zo;rw[show aq.getD i []=aq[i] by simp[List.getD,hi]] at this;have:=alR this;have:=hu docs[i] (auy zo);omega;refine ag ?_;have k7:∀i o,h'.get i=o->i≠p->jN o=false->(∀m v,o≠.map m v)->¬rF o->h7.get i=o:=λi o e ne hn hm h3=>by rw[g7.get i (Hp.lt e hn) (by rintro(c|c|c|c)<;>subst c;exact ne rfl;exact hm _ _ (e.symm.trans m1);exact hm _ _ (e.symm.trans m2);exact hm _ _ (e.symm.trans m3)) (by rw[e];exact h3)];exact e
  have kf7:lC 0 h7 c1 (rs.map pB):=x'.hc.nf λi r f _ e=>k7 i _ e (by rintro rfl;rw[dj] at e;cases e) rfl (λ_ _ q=>by cases q) (λ⟨_,_,q⟩=>by cases q);have ds7:yb h7 c2 aq:=λne=>by obtain⟨b,cap,ex,r,t,e,hb,hw⟩:=x'.hd ne;exact⟨b,cap,ex,r,t,e,k7 b _ hb (by rintro rfl;rw[dj] at hb;cases hb) rfl (λ_ _ q=>by cases q) (λ⟨_,_,q⟩=>by cases q),hw⟩
  refine aki HT (s:=⟨f3,(jG aq (rs.map pB) 0 l9).nd,[]⟩) ⟨alW,tl7,kf7,ds7,VP,by simp;omega⟩ ⟨⟨_,hp7,.inl ⟨rfl,rfl⟩⟩,nd7,by omega⟩ po.w (po.us f3) λh8 g8 Ly=>?_;obtain⟨vn,Pa,_⟩:=Ly.hp;have VR:h7.get h.nx=.one 28 [.i 0,.i 0,.i 0]:=k7 _ _ uf' O6 rfl (λ_ _ q=>by cases q) (λ⟨_,_,q⟩=>by cases q);have uf8:h8.get h.nx=.one 28 [.i 0,.i 0,.i 0]:=(g8.get _ (Hp.lt VR rfl) zo (by rw[VR];rintro⟨_,_,q⟩;cases q)).trans VR;have fm8:∀h2,ah (·=h.nx) h8 h2->Fm h h2:=λh2 g2=>by have a:=VN h' O9 λi m=>zo;have n0:=a.nx;have n7:=g7.nx;have n8:=g8.nx;have n0B:=Ii.nx;refine⟨by have:=g2.nx;omega,λi hi h34 h36=>?_⟩;have x1:=a.get i hi h34 h36;have x2:=(g7.get i zo (by rintro(c|c|c|c)<;>omega) (by rw[x1];exact h34)).trans x1;have x3:=(g8.get i zo zo (by rw[x2];exact h36)).trans x2;exact(g2.get i zo zo).trans x3
  refine aB e107 ?_;refine cM _ h8 _ _ _ _ _ _ _ _ Pa uf8 (au e3) (au e4) (au e106) aa (λen h2 g2=>?_) λez h2 g2=>?_;exact hB rs aq _ h2 Lx (.inr ⟨k1,fl,q3 e1,.inr ⟨e1,f3,λc=>so c.1 c.2.1 c.2.2,rfl⟩⟩) en (fm8 h2 g2);have lp8:=Hp.lt Pa rfl;refine hC rs aq _ h2 p aG tb _ _ _ _ Lx ⟨k1,fl,q3 e1,e1,f3,λc=>so c.1 c.2.1 c.2.2,rfl⟩ ez (fm8 h2 g2) ⟨⟨vn,(g2.get _ lp8 zo).trans Pa,?_⟩,Ly.nd.mono (g2.get _ Ly.nd.lt zo),Ly.ne⟩;obtain⟨v9,VS,nm9⟩:=Ly.hp;have ev:v9=vn:=by rw[Pa] at VS;simp[bS] at VS;exact VS.symm
  subst ev;exact nm9.mono λq hq hh=>g2.get q hq (by rintro rfl;obtain⟨_,_,q⟩:=hh;rw[uf8] at q;cases q);subst hL;rw[aP];show W T Gk _ _ [] _;generalize hL:CC.loop l6_0=L at cM⊢;refine nA u5' O7 O8 VQ e3 e4 e105 e106 e107 e1 ?_;refine cM _ h' _ _ _ _ _ _ _ fl dj uf' (au e3) (au e4) (au e106) aa (λ_ h2 g2=>hB rs aq fl h2 Lx (q2 e1) e1 (fm2 h' h2 g' g2)) λe=>absurd e e1
 have imA:oK p v2 c1 c2 (.map aG) (.map tb) (.map pb) .bx (rs.map pB) aq Fe H5:=⟨up5,λne=>(sz4 ne).mono g5 λ_ _ _ _ m=>m,hF.kids.nf (mY g5)⟩
 by_cases e1:Fe.e=0
 obtain⟨k1,k2⟩:=alV e1;have po:=pr rs aq Lx k1;subst hL;rw[aP];show W T Gk _ _ [] _;generalize hL:CC.loop l6_0=L at cM wX⊢;refine iR u5 O7 O8 VO b3 b4 e1 ?_;refine alI HT VP zn (λt ht=>(Aq (po.w t ht).2).1) imA λh6 fl g6 im6 nV=>?_;refine ag ?_;refine wX _ h6 fl g6 im6 (au b3) (au b4) aa aa aa (λ_=>e1) (λ_=>.inr ⟨k1,fl,λc=>by rw[<-k2];exact nV c.1 c.2,.inl rfl⟩) (λ_ c=>by rw[<-k2];exact nV c.1 c.2) (λ_=>k1);subst hL;rw[aP];show W T Gk _ _ [] _;generalize hL:CC.loop l6_0=L at cM wX⊢;refine iR u5 O7 O8 VO b3 b4 e1 ?_;refine wX _ H5 Fe (ah.refl _) imA (au b3) (au b4) aa aa aa (λe=>absurd e e1) (λ_=>.inl Aw.symm) (λe=>absurd e e1) (λe=>absurd e e1)
end
section
variable{h:Hp}{k:aK->Prop}{v:AV}{us:List dx}{d:aC}{u:dx}
theorem alX(HT:aA T)(x:pA h v us)(hl:us.length<1073741824)(hk:∀h' v',ax h h'->pA h' v' us->k (.ret v' h')):aE T (W T) ⟨18⟩ [v] h k:=by
 rw[aJ HT.t18];rcases x with⟨rfl,rfl⟩|⟨bg,q,t,rfl,hq,ht⟩;simp(disch:=omega) [cJ];exact hk _ _ (ah.refl _) (.inl ⟨rfl,rfl⟩);have n2:=Hp.lt hq rfl;obtain⟨n,hn⟩:∃n,us.length=n+1:=⟨us.length- 1,by have:=auA.2 bg;omega⟩;simp(disch:=omega) [cJ];generalize hH:(h.push _:Hp)=H;have u1:∃t,H.get h.nx=.rows 36 9 0 0 t:=⟨_,by rw[<-hH];exact Hp.br rfl⟩;have u3:H.nx=h.nx+1:=by rw[<-hH];rfl
 have gH:ax h H:=by rw[<-hH];exact aZ
 clear hH;obtain⟨t1,u1⟩:=u1;have Bt:H.get q=_:=(gH.get _ n2 id).trans hq;have nq:=acD (h:=H) (el:=36) (rw:=9) (b:=q) (cap:=us.length) (ex:=0) (Lt:=false) (n:=us.length) zd Bt zl;have ea:=G2 (h:=H) (el:=36) (rw:=9) (bytes:=96) (n:=n) (i:=h.nx) (len:=0) (cnt:=0) (t:=t1) zd u1 zl nq qaM (rV zo zo);rw[ea];refine ag ?_;refine hk _ _ (gH.push _) (.inr ⟨bg,H.nx,jy fG 0 ([]++dw t us.length 0),by rw[hn],?_,λj hj=>?_⟩);rw[Hp.br rfl,jJ,hn];rfl;have eY:j<(dw t us.length 0).length:=by rw[oZ];exact hj
 rw[au5,wO eY];have:=vw t us.length 0 j hj;rw[atT eY] at this;rw[auQ this,aue,ht j hj]
theorem acK(HT:aA T){p aG tb:Nat}{c0 c1 c2 c8:AV}{s:Sc}(x:uC p aG tb c0 c1 c2 c8 h s)(hl:s.us.length<1073741824)(hk:∀h' v',ax h h'->pA h' v' s.us->k (.ret v' h')):aE T (W T) ⟨7⟩ [.ptr p 0] h k:=by rw[aJ HT.t7];obtain⟨vv,hp,hn⟩:=x.hp;have lp:=Hp.lt hp rfl;simp only[bS] at hp;simp(disch:=omega) [hp,cJ];refine alX HT hn hl λh' v' g x'=>?_;refine ag ?_;exact hk h' v' g x'
theorem alY(HT:aA T){p aG tb:Nat}{c0 c1 c2 c8:AV}{s:Sc}(x:uC p aG tb c0 c1 c2 c8 h s)(hd:d∈s.nd)(hk:∀h' a b c e kv,ax h h'->k (.ret (.agg [a,b,c,e,S d.name,kv]) h')):aE T (W T) ⟨8⟩ [.ptr p 0,.agg d.row] h k:=by rw[aJ HT.t8];obtain⟨vv,hp,hn⟩:=x.hp;have lp:=Hp.lt hp rfl;simp only[bS] at hp;have xH:∀h':Hp,ax h h'->lX h' aG s.nd:=λh' g=>x.nd.mono (g.get _ x.nd.lt id);generalize ju:CC.aR r8_3=Dr;simp(disch:=omega) [cJ,aC.row];subst ju;rw[lI,mu];simp only[ku,GX,GY];obtain⟨a,b,c,f,kv,e⟩:=(xH ((h.push (.one 34 [.i d.kind,S d.name,.i d.doc,.i d.at_,S d.dir])).push (.one 39 [.i 0,.i 0,.i 0,.i 0,S [],.bx])) aZ).jV (z:=.agg [.i 0,.i 0,.i 0,.i 0,S [],.bx]) hd;simp only[aC.row,dK] at e;refine aS hp e ?_;exact hk _ a b c f kv fZ
def Pb(d:aC)(u:dx):Bool:=decide (d.doc<u.doc)||decide (d.doc=u.doc)&&decide (d.at_<u.at_)
theorem alZ(HT:aA T)(hk:∀h',ax h h'->k (.ret (.bool (Pb d u)) h')):aE T (W T) ⟨9⟩ [.agg d.row,.agg u.row] h k:=by
 rw[aJ HT.t9];unfold Pb at hk
 by_cases c1:d.doc<u.doc
 simp(disch:=first|exact bh|fail) [aC.row,dx.row,c1] at hk⊢;exact hk _ aZ
 by_cases c2:d.doc=u.doc
 by_cases c3:d.at_<u.at_
 simp(disch:=first|exact bh|fail) [aC.row,dx.row,c1,c2,c3] at hk⊢;exact hk _ aZ;simp(disch:=first|exact bh|fail) [aC.row,dx.row,c1,c2,c3] at hk⊢;exact hk _ aZ;simp(disch:=first|exact bh|fail) [aC.row,dx.row,c1,c2] at hk⊢;exact hk _ aZ
def pC(ds:List Doc):Nat:=(ds.map λd=>d.text.length+d.uri.length).sum
theorem al0{ds:List Doc}{i:Nat}(hi:i<ds.length):pC (ds.drop i)=ds[i].text.length+ds[i].uri.length+pC (ds.drop (i+1)):=by rw[aut hi];simp only[pC,aul,axF]
theorem al1(HT:aA T){docs:List Doc}(hd:vV h v docs)(hl:docs.length<1073741824)(hb:pC docs<1073741824)(hk:k (.ret (.bool (decide (docs.length<=6/\pC docs<=9000))) h)):aE T (W T) ⟨4⟩ [v] h k:=by
 rw[aJ HT.t4];generalize Vj:Xn=T6;generalize hL:CC.loop l4_0=L;refine ag ?_;subst hL;have key:∀(m i:Nat)(fr:Fr),m=docs.length- i->i<=docs.length->J 0 fr=v->J 4 fr=.i i->∀z:Nat,J 3 fr=.i z->z+pC (docs.drop i)=pC docs->
  W T (.loop l4_0) fr h [] (bY 0 (bF (W T T6) (finish T (W T) [.tmp 2] k))):=by
  intro m
  induction m with
  |zero=>
   intro i fr hm hi f0 f4 z f3 hz;have ei:i=docs.length:=zo;subst ei;rw[aP];show W T Jm fr h [] _;unfold Jm;simp(disch:=omega) [f0,f3,f4,hd.len];subst Vj;simp[pC] at hz
   by_cases c1:docs.length<=6
   have c1':(docs.length:Int)<=6:=zo
   by_cases c2:z<=9000
   have c2':(z:Int)<=9000:=zo;simp(disch:=omega) [f0,f3,hd.len,c1',c2'];rw[avf ⟨c1,by unfold pC;omega⟩] at hk;exact hk;have c2':¬(z:Int)<=9000:=zo;simp(disch:=omega) [f0,f3,hd.len,c1',c2'];rw[auK (by unfold pC;omega)] at hk;exact hk;have c1':¬(docs.length:Int)<=6:=zo;simp(disch:=omega) [f0,f3,hd.len,c1'];rw[auK zo] at hk;exact hk
  |succ m ih=>
   intro i fr hm hi f0 f4 z f3 hz;have ao:i<docs.length:=zo;have aY:(i:Int)<docs.length:=zo;have O1:=al0 ao;obtain⟨b,cap,ex,r,t,rfl,oY,hr,ht⟩:∃b cap ex r t,v=.slice b 0 3 docs.length cap ex/\tC (h.get b) r t/\docs.length<=r/\∀j,(hj:j<docs.length)->t j=docs[j].row:=by rcases hd with⟨rfl,_⟩|x;simp at ao;exact x
   have lb:=oY.lt;have jr:i<r:=zo;have H8:=ht i ao;have al2:=oY.ld0 jr H8;have al3:=oY.yV jr H8;rw[aP];generalize hL:CC.loop l4_0=L;show W T Jm fr h [] _;unfold Jm;generalize ju:CC.aR r4_4=Dr;simp(disch:=omega) [f0,f3,f4,ao,aY,hd.len];subst ju;rw[lI,mu];simp only[ku,GX,GY];refine iR f0 f3 f4 ao aY al2 al3 ?_;subst hL;refine ih (i+1) _ zo zo zA aa (z+docs[i].text.length+docs[i].uri.length) aa zo
 exact key _ 0 _ rfl (auz _) aa aa 0 aa zm
def nG(body:List UInt8):Doc:=⟨[102,105,108,101,58,47,47,47,112,47,97,46,103,111],[112,97,99,107,97,103,101,32,112,10]++body,0⟩
theorem al4(HT:aA T){body:List UInt8}(hl:body.length<1073741824)(hk:∀h' v',ax h h'->vV h' v' [nG body]->k (.ret v' h')):aE T (W T) ⟨35⟩ [S body] h k:=by
 rw[aJ HT.t35];have hc:=Tc (l:=[112,97,99,107,97,103,101,32,112,10]) (m:=body) (by simp only[atX,aup];omega);refine aB hc ?_;generalize hH:(h.push _:Hp)=H;have u:∃t,H.get h.nx=.rows 43 3 1 0 t/\t 0=(nG body).row:=by rw[<-hH];refine⟨_,Hp.br rfl,?_⟩;simp[nG,Doc.row]
 have g:ax h H:=by rw[<-hH];exact aZ
 clear hH;obtain⟨t,u,ht⟩:=u;exact hk _ _ g (.inr ⟨h.nx,1,true,1,t,rfl,.inl ⟨0,u⟩,at2 _,λj hj=>by
  obtain rfl:j=0:=by simp at hj;omega
  exact ht⟩)
end
def xx(lo:Nat)(h:Hp)(v:AV)(L:List Int):Prop:=
 L=[]/\v=.bx\/L≠[]/\∃q r t,lo<=q/\v=.slice q 0 1 L.length L.length false/\h.get q=.rows 3 1 r 0 t/\L.length<=r/\∀j,(hj:j<L.length)->t j=[.i L[j]]
def tD(h:Hp)(v:AV)(L:List Int):Prop:=
 L=[]/\v=.bx\/∃q cap ex r t,v=.slice q 0 1 L.length cap ex/\h.get q=.rows 3 1 r 0 t/\L.length<=r/\∀j,(hj:j<L.length)->t j=[.i L[j]]
def vX:List dx->List Int
 |[]=>[]
 |u::us=>w64 (u.at_- 10)::(if u.is=true then w64 (u.d.at_- 10) else-1)::vX us
section
variable{h h' hB:Hp}{k:aK->Prop}{lo:Nat}{v:AV}{L:List Int}{us:List dx}
theorem xx.cells(x:xx lo h v L):bQ v=some [v]:=by rcases x with⟨_,rfl⟩|⟨_,q,r,t,_,rfl,_⟩<;>rfl
theorem xx.g0(x:xx lo h v L)(g:ax h h'):xx lo h' v L:=by rcases x with x|⟨x,q,r,t,lq,e1,e2,e3⟩;exact .inl x;exact .inr ⟨x,q,r,t,lq,e1,by rw[g.get q (Hp.lt e2 rfl) id];exact e2,e3⟩
theorem xx.iv(x:xx lo h v L):tD h v L:=by rcases x with x|⟨x,q,r,t,lq,e1,e2⟩;exact .inl x;exact .inr ⟨q,_,_,r,t,e1,e2⟩
theorem tD.g0(x:tD h v L)(g:ax h h'):tD h' v L:=by rcases x with x|⟨q,cap,ex,r,t,e1,e2,e3⟩;exact .inl x;exact .inr ⟨q,cap,ex,r,t,e1,by rw[g.get q (Hp.lt e2 rfl) id];exact e2,e3⟩
theorem tD.len(x:tD h v L){H:Hp}:tL 1 H v=.v (.i L.length):=by rcases x with⟨rfl,rfl⟩|⟨q,cap,ex,r,t,rfl,_⟩<;>rfl
theorem al5{el rw b cap ex r f}(dX:0<rw)(hb:h.get b=.rows el rw r 0 f)(hr:2<=r):rL h rw (.slice b 0 rw 2 cap ex)=some [f 0,f 1]:=acD (ex:=0) dX hb hr
theorem xx.fF(x:xx lo h v L)(hl:L.length<1073741824)(Ev:lo<=h.nx){a b:Int}{t1:N3 (List AV)}(ha:t1 0=[.i a])(hb:t1 1=[.i b]){h1:Hp}(e1:h1=h.push (.rows 3 1 2 0 t1)):
 ∃v' H',kJ h1 3 1 8 v (.slice h.nx 0 1 2 2 true)=.vh v' H'/\xx lo H' v' (L++[a,b])/\∀hB:Hp,hB.nx<=lo->ax hB h->ax hB H':=by
 have u1:h1.get h.nx=.rows 3 1 2 0 t1:=by rw[e1];exact Hp.br rfl
 have xp:h1.nx=h.nx+1:=by rw[e1];rfl
 have g1:ax h h1:=by rw[e1];exact aZ
 have nq:=al5 (h:=h1) (rw:=1) (cap:=2) (ex:=true) zd u1 zl;rw[ha,hb] at nq;rcases x with⟨rfl,rfl⟩|⟨bg,q,r,t,lq,rfl,hq,hr,ht⟩;have ea:=A7 (h:=h1) (el:=3) (rw:=1) (bytes:=8) (n:=1) (y:=.slice h.nx 0 1 2 2 true) nq rfl zd;refine⟨_,_,ea,.inr ⟨by simp,h1.nx,2,_,by omega,rfl,Hp.br rfl,by simp,λj hj=>?_⟩,λhB cK g=>(g.trans g1).push _⟩;have eY:j=0\/j=1:=by simp at hj;omega
 rcases eY with rfl|rfl<;>simp[G3];have VE:=Hp.lt hq rfl;have ki:h1.get q=.rows 3 1 r 0 t:=(g1.get _ VE id).trans hq;have ea:=A8 (h:=h1) (el:=3) (rw:=1) (bytes:=8) (n:=1) (i:=q) (len:=L.length) (cnt:=r) (t:=t) (y:=.slice h.nx 0 1 2 2 true) ki hr nq rfl (rV zo zo);have e:(h1.set q .eD).nx=h1.nx:=Hp.tT zo;refine⟨_,_,ea,.inr ⟨by simp,h1.nx,L.length+2,_,by omega,by simp,Hp.br e.symm,by simp,λj hj=>?_⟩,λhB cK g=>((g.trans g1).set _ (.inl zo)).push _⟩;simp only[auk,atX,aup] at hj;rw[G3]
 by_cases c:j<L.length
 rw[atS zn,ht j c,ava c];have eY:j=L.length\/j=L.length+1:=zo;rcases eY with rfl|rfl<;>simp
end
structure Told(body:List UInt8)(L:List Int):Prop where
 tx:O3 (nG body).text
 len:body.length<1000000
 dir:rZ (nG body).uri≠none
 pr:∀rs aq,Ay [nG body] rs aq->(∀r∈rs,BF r)->O5 (rs.map pB) aq
 f:∀rs aq f,Ay [nG body] rs aq->VL rs aq f->f.e≠0->L=[f.e,w64 (f.at_- 10)]
 p:∀rs aq s,Ay [nG body] rs aq->acF rs aq s->s.bN.e=0->s.us.length<1000000/\L=vX s.us
structure yQ(T:aM->Option CF)(h:Hp):Prop where
 g:Ax T h
 n:∀i,i<22->¬rF (h.get i)/\¬uw (h.get i)
section
variable{h h' hB:Hp}{k:aK->Prop}{lo:Nat}{v:AV}{L:List Int}{us:List dx}{body:List UInt8}
theorem yQ.fm(x:yQ T h)(g:Fm h h'):yQ T h':=by have n:=x.g.1;have e:∀i,i<22->h'.get i=h.get i:=λi hi=>g.get i zo (x.n i hi).1 (x.n i hi).2;refine⟨⟨at1 n g.nx,λh2 l e2=>x.g.2 h2 (at1 g.nx l) λi hi=>by rw[e2 i hi,e i hi]⟩,λi hi=>by rw[e i hi];exact x.n i hi⟩
theorem yQ.g0(x:yQ T h)(g:ax h h'):yQ T h':=x.fm (.of g)
theorem uC.g0{p aG tb:Nat}{c0 c1 c2 c8:AV}{s:Sc}(x:uC p aG tb c0 c1 c2 c8 h s)(g:ax h h'):uC p aG tb c0 c1 c2 c8 h' s:=by obtain⟨v,hp,hn⟩:=x.hp;exact⟨⟨v,(g.get _ (Hp.lt hp rfl) id).trans hp,hn.mono λq hq _=>g.get q hq id⟩,x.nd.mono (g.get _ x.nd.lt id),x.ne⟩
theorem pA.len(x:pA h v us){H:Hp}:tL 1 H v=.v (.i us.length):=by rcases x with⟨rfl,rfl⟩|⟨_,q,t,rfl,_⟩<;>rfl
theorem acL:∀us vs,vX (us++vs)=vX us++vX vs
 |[],_=>rfl
 |u::us,vs=>by simp only[auY,vX,acL us vs]
theorem acM:∀us,(vX us).length=2*us.length
 |[]=>rfl
 |u::us=>by simp only[vX,atX,acM us];omega
theorem al6(HT:aA T)(hn:pA hB v us)(VT:us.length<1000000){K:aT->Prop}(hK:∀f' h' bf,J 5 f'=bf->ax hB h'->xx hB.nx h' bf (vX us)->K (.exit 0 f' h' [])):∀(n j:Nat)(bf:AV)(h:Hp)(fr:Fr),j+n=us.length->ax hB h->xx hB.nx h bf (vX (us.take j))->
 J 5 fr=bf->J 6 fr=v->J 7 fr=.i j->W T (.loop l19_0) fr h [] K:=by
 intro n
 induction n with
 |zero=>
  intro j bf h fr hj g hI f5 f6 f7;simp only[aud] at hj;subst hj;rw[aP];show W T Jo fr h [] _;unfold Jo;simp(disch:=omega) [f5,f6,f7,hn.len];rw[List.take_length] at hI;exact hK _ h bf zA g hI
 |succ n ih=>
  intro j bf h fr hj g hI f5 f6 f7;have ao:j<us.length:=zo;have aY:(j:Int)<us.length:=zo;obtain⟨q,t,rfl,hq,ht⟩:∃q t,v=.slice q 0 9 us.length us.length false/\hB.get q=.rows 36 9 us.length 0 t/\∀j,(hj:j<us.length)->t j=us[j].row:=by rcases hn with⟨rfl,_⟩|⟨_,x⟩;simp at ao;exact x
  have lq:=Hp.lt hq rfl;have ng:=g.nx;have jT:=(g.get _ lq id).trans hq;have jH:=ht j ao;have etk:vX (us.take (j+1))=vX (us.take j)++[w64 (us[j].at_- 10),if us[j].is=true then w64 (us[j].d.at_- 10) else-1]:=by rw[avb ao,acL];rfl
  have tl:=acM (us.take j);rw[auN] at tl;rw[aP];generalize hL:CC.loop l19_0=L;show W T Jo fr h [] _;unfold Jo;have rest:∀(bJ:Fr)(x:Int),x=(if us[j].is=true then w64 (us[j].d.at_- 10) else-1)->J 5 bJ=bf->J 6 bJ=.slice q 0 9 us.length us.length false->J 7 bJ=.i j->J 8 bJ=.i x->W T (CC.af r19_11) bJ h [] (bY 1 (bF (W T (CC.af r19_12)) (bF (W T L) K))):=by intro bJ x hx e5 e6 e7 e8;refine mz e5 e6 e7 e8 ao aY jT jH dx.row.eq_1 ?_;generalize Ae:(h.push _:Hp)=H1;obtain⟨t1,ha,hb,VH⟩:∃t1:N3 (List AV),t1 0=[.i (w64 (us[j].at_- 10))]/\t1 1=[.i x]/\H1=h.push (.rows 3 1 2 0 t1):=⟨_,by simp,by simp,Ae.symm⟩;obtain⟨v',H',ea,OB,g'⟩:=hI.fF zo zo ha hb VH;rw[ea];refine aB e7 ?_;subst hL;rw[hx,<-etk] at OB;exact ih (j+1) v' H' _ zo (g' hB zl g) OB aa (au e6) aa
  generalize hR:CC.af r19_11=R at rest⊢
  by_cases c:us[j].is=true
  simp(disch:=omega) [f5,f6,f7,ao,aY,jT,jH,dx.row,c,avg];exact rest _ _ (by rw[atV c]) zA zA zA aa;refine mz f5 f6 f7 ao aY jT jH dx.row.eq_1 c ?_;exact rest _ _ (by rw[atS c]) zA zA zA aa
theorem al7(HT:aA T)(hg:yQ T h)(ht:Told body L)(hk:∀h' v',Fm h h'->tD h' v' L->k (.ret v' h')):aE T (W T) ⟨19⟩ [S body] h k:=by
 rw[aJ HT.t19];have RI:=ht.len;refine ag ?_;refine al4 HT zo λh1 v1 g1 d1=>?_;refine ag ?_;refine acJ HT d1 zm (λd hd=>by simp at hd;subst hd;simp[nG]) (λd hd=>by simp at hd;subst hd;exact ht.tx) (hg.g0 g1).g ht.pr (λh2 g2 Ie=>?_) (λrs aq f h2 rd hF he g2=>?_) λrs aq s h2 p aG tb c0 c1 c2 c8 rd hP he g2 ps=>?_;rcases Ie with c|⟨d,hd,c⟩;simp at c;simp at hd;subst hd;exact absurd c ht.dir;have e:=ht.f rs aq f rd hF he;refine aS cN.row.eq_1 he ?_;generalize hH:(Hp.push (Hp.set (Hp.push _ _) _ _) _:Hp)=H;have u:∃q t,H.get q=.rows 3 1 2 0 t/\t 0=[.i f.e]/\t 1=[.i (w64 (f.at_- 10))]/\q=h2.nx+1:=by rw[<-hH];exact⟨_,_,Hp.br rfl,by simp,by simp,aa⟩
 have g:ax h2 H:=by rw[<-hH];exact fZ
 clear hH;obtain⟨q,t,u,t0,t1,hq⟩:=u;refine hk _ _ (((Fm.of g1).trans g2).trans (.of g)) (.inr ⟨q,2,true,2,t,by rw[e,hq];rfl,u,by rw[e];simp,λj hj=>?_⟩);subst e;have eY:j=0\/j=1:=by simp at hj;omega
 rcases eY with rfl|rfl;exact t0;exact t1;obtain⟨VT,e⟩:=ht.p rs aq s rd hP he;subst e;generalize qE:Xq=T4;refine ag ?_;generalize hH:(Hp.set (Hp.push _ _) _ _:Hp)=H;have gH:ax h2 H:=by rw[<-hH];exact fZ
 clear hH;subst qE;refine ag ?_;refine acK HT (ps.g0 gH) zo λh3 v3 g3 n3=>?_;refine ag ?_;refine al6 HT n3 VT (λf' h' bf e5 g' hI=>?_) s.us.length 0 .bx h3 _ zo (ah.refl _) (.inl ⟨rfl,rfl⟩) aa aa aa;refine aB e5 ?_;exact hk _ _ (((Fm.of g1).trans g2).trans (.of ((gH.trans g3).trans g'))) hI.iv
end
section
variable{h h' hB:Hp}{k:aK->Prop}{lo:Nat}{v w:AV}{L M:List Int}{us:List dx}{body:List UInt8}
theorem tD.fm(x:tD h v L)(g:Fm h h'):tD h' v L:=by rcases x with x|⟨q,cap,ex,r,t,e1,e2,e3⟩;exact .inl x;exact .inr ⟨q,cap,ex,r,t,e1,by rw[g.get q (Hp.lt e2 rfl) qbq qbq];exact e2,e3⟩
theorem tD.rows(x:tD h v L){j:Nat}(hj:j<L.length):∃q cap ex r t,v=.slice q 0 1 L.length cap ex/\h.get q=.rows 3 1 r 0 t/\L.length<=r/\∀j,(hj:j<L.length)->t j=[.i L[j]]:=by rcases x with⟨rfl,_⟩|x;simp at hj;exact x
theorem acN(HT:aA T)(hg:yQ T h)(ht:Told body L)(hw:tD h w M)(hL:L.length<1073741824)(hM:M.length<1073741824)(hk:∀h',Fm h h'->k (.ret (.bool (decide (L=M))) h')):aE T (W T) ⟨10⟩ [S body,w] h k:=by
 rw[aJ HT.t10];generalize qE:QF=T4;refine ag ?_;refine al7 HT hg ht λh1 v g1 iv=>?_;have iw:=hw.fm g1
 by_cases el:L.length=M.length
 have rM:(L.length:Int)=M.length:=zo;simp(disch:=omega) [iv.len,iw.len,rM];subst qE;unfold QF;generalize VU:CC.loop l10_0=Lp;refine ag ?_;subst VU;have key:∀(n j:Nat)(fr:Fr),j+n=L.length->(∀i(hi:i<j)(dD:i<L.length)(NO:i<M.length),L[i]=M[i])->J 5 fr=v->J 1 fr=w->J 6 fr=.i j->
  W T (.loop l10_0) fr h1 [] (bY 0 (bF (W T (.seq (.af r10_9) .ret)) (finish T (W T) [.tmp 4] k))):=by
  intro n
  induction n with
  |zero=>
   intro j fr hj hq f5 f1 f6;simp only[aud] at hj;subst hj;rw[aP];show W T Jn fr h1 [] _;unfold Jn;simp(disch:=omega) [f5,f6,f1,iv.len];have:=hk h1 g1;rw[avf (List.ext_getElem el λi a b=>hq i a a b)] at this;exact this
  |succ n ih=>
   intro j fr hj hq f5 f1 f6;have ao:j<L.length:=zo;have Pc:j<M.length:=zo;have aY:(j:Int)<L.length:=zo;have acO:(j:Int)<M.length:=zo;obtain⟨q,cap,ex,r,t,rfl,hb,hr,Tv⟩:=iv.rows ao;obtain⟨q',U4,Ey,r',t',rfl,oY,qY,al8⟩:=iw.rows Pc;have h1':=Tv j ao;have h2':=al8 j Pc;have jr:j<r:=zo;have VK:j<r':=zo;rw[aP];generalize VU:CC.loop l10_0=Lp;show W T Jn fr h1 [] _;unfold Jn;generalize ju:CC.aR r10_6=Dr;simp(disch:=omega) [f5,f6,f1,iv.len,ao,aY];subst ju;rw[lI,mu];simp only[ku,GX,GY]
   by_cases c:L[j]=M[j]
   refine kC f5 f6 f1 ao aY Pc acO hb oY h1' h2' jr (atQ VK c) ?_;subst VU;refine ih (j+1) _ zo (λi hi a b=>?_) zA zA aa
   by_cases e:i=j
   subst e;exact c;exact hq i zo a b;refine kC f5 f6 f1 ao aY Pc acO hb oY h1' h2' jr (atQ VK c) ?_;have:=hk h1 g1;rw[auK (λe=>c (by subst e;rfl))] at this;exact this
 exact key L.length 0 _ zo (λi hi=>by omega) aa aa aa;have rM:¬(L.length:Int)=M.length:=zo;simp(disch:=omega) [iv.len,iw.len,rM];have:=hk h1 g1;rw[auK (λe=>el (by rw[e]))] at this;exact this
def Pe:List UInt8:=[102,117,110,99,32,102,40,97,32,105,110,116,41,32,105,110,116,32,123,32,98,32,58,61,32,97,59,32,123,32,97,32,58,61,32,98,59,32,114,101,116,117,114,110,32,97,32,125,59,32,114,101,116,117,114,110,32,97,32,125]
def Pf:List UInt8:=[102,117,110,99,32,102,40,41,32,123,32,97,32,58,61,32,49,59,32,97,32,58,61,32,50,32,125]
def Ph:List Int:=[25,7,35,20,45,30,57,7]
def Pj:List Int:=[13,19]
theorem Pk(HT:aA T)(hg:yQ T h)(hA:Told Pe Ph)(hB:Told Pf Pj)(hk:∀h',Fm h h'->k (.ret (.bool true) h')):aE T (W T) ⟨5⟩ [] h k:=by
 rw[aJ HT.t5];refine ag ?_;generalize hH:(h.push _:Hp)=H;have gH:ax h H:=by rw[<-hH];exact aZ
 have iv:tD H (.slice h.nx 0 1 8 8 true) Ph:=by
  refine .inr ⟨h.nx,8,true,8,?_,rfl,by rw[<-hH];exact Hp.br rfl,by decide,λj hj=>?_⟩;have hj:j<8:=hj
  match j,hj with
  |0,_=>rfl
  |1,_=>rfl
  |2,_=>rfl
  |3,_=>rfl
  |4,_=>rfl
  |5,_=>rfl
  |6,_=>rfl
  |7,_=>rfl
 clear hH;refine acN HT (hg.g0 gH) hA iv zd zd λh1 g1=>?_;rw[avf rfl];refine ag ?_;generalize VV:(h1.push _:Hp)=H2;have gH2:ax h1 H2:=by rw[<-VV];exact aZ
 have iv2:tD H2 (.slice h1.nx 0 1 2 2 true) Pj:=by
  refine .inr ⟨h1.nx,2,true,2,?_,rfl,by rw[<-VV];exact Hp.br rfl,by decide,λj hj=>?_⟩;have hj:j<2:=hj
  match j,hj with
  |0,_=>rfl
  |1,_=>rfl
 clear VV;refine acN HT (((hg.g0 gH).fm g1).g0 gH2) hB iv2 zd zd λh3 g3=>?_;rw[avf rfl];refine ag ?_;exact hk _ ((((Fm.of gH).trans g1).trans (.of gH2)).trans g3)
end
def nJ(lo:Int):List Tk->Int->Prop
 |[],hi=>lo<=hi
 |t::l,hi=>lo<=t.ak/\nJ (t.ak+if t.kind=7 then 0 else 1) l hi
theorem nJ.fF{l m:List Tk}{lo md hi:Int}(x:nJ lo l md)(y:nJ md m hi):nJ lo (l++m) hi:=by
 induction l generalizing lo with
 |nil=>
  cases m with
  |nil=>exact avU x y
  |cons t m=>exact⟨avU x y.1,y.2⟩
 |cons t l ih=>exact⟨x.1,ih x.2⟩
theorem nJ.le{l:List Tk}{lo hi:Int}(x:nJ lo l hi):lo<=hi:=by
 induction l generalizing lo with
 |nil=>exact x
 |cons t l ih=>have:=ih x.2;have:=x.1;split at*<;>omega
theorem nJ.up{l:List Tk}{lo hi dD:Int}(x:nJ lo l hi)(h:hi<=dD):nJ lo l dD:=by have:=x.fF (m:=[]) (hi:=dD) h;rwa[av5] at this
def C8(s:List UInt8):PR (List Tk)->Prop
 |.ok l _=>nJ 0 l s.length/\(∀t∈l,t.kind≠0/\t.text.length<=s.length)/\l.length<=s.length+1
 |.er _ e=>e≠0
 |.dN=>False
theorem acP{s p:List UInt8}(h:eP s p=true):p.length<=s.length:=by
 have:s.take p.length=p:=by simpa[eP] using h
 rw[<-this];simp;omega
theorem acQ{s:List UInt8}{n ws}(h:wR s n ws=true):n<=s.length:=by simp only[wR,awE,atW,auU] at h;obtain⟨m,_,rfl,hp⟩:=h;exact acP hp
theorem al9{s:List UInt8}:o6 s<=s.length:=by unfold o6;split;exact acQ qaH;split;exact acQ qaH;omega
theorem al'{s:List UInt8}:gu s<=s.length:=by unfold gu;split;omega;split<;>omega
theorem ama{o:Nat×Int}{s:List UInt8}(hs:s≠[])(h:(fA o s).2.2 =0):0<(fA o s).2.1 /\(fA o s).2.1 <=s.length/\(fA o s).1 ≠0:=by
 have hl:=auA.2 hs;have h1:=@al' s;have h2:=@al9 s;have h3:dU s<=s.length:=by unfold dU;omega
 unfold fA at h⊢;split at h<;>rename_i c1;rw[atV c1];split at h<;>rename_i c2;rw[atV c2];exact⟨c1,h1,by simp⟩;rw[atS c2];split at h<;>rename_i c3;simp at h;rw[atS c3];split at h<;>rename_i c4;simp at h;rw[atS c4];exact⟨c1,h1,by simp⟩;rw[atS c1];split at h<;>rename_i c2;rw[atV c2];split at h<;>rename_i c3;rw[atV c3];exact⟨by simp only;omega,by simp only;omega,by simp⟩;rw[atS c3];exact⟨c2,h3,by simp⟩;rw[atS c2];split at h<;>rename_i c3;rw[atV c3];exact⟨c3.2,by simp only;omega,by simp⟩;rw[atS c3];split at h<;>rename_i c4;rw[atV c4];exact⟨by decide,hl,by simp⟩;rw[atS c4];split at h<;>rename_i c5;rw[atV c5];exact⟨c5,h2,by simp⟩;simp at h
theorem amb{s:List UInt8}{c:UInt8}(h:eP s [47,47]=true)(hc:c≠47):0<(iz s c).1.length/\(iz s c).1.length<=s.length:=by
 have hl:=acP h;simp at hl;have e:s.take 2=[47,47]:=by simpa[eP] using h
 unfold iz;split
 match s,e with
 |a::s,e=>
  simp at e;have:a≠c:=by rw[e.1];exact Ne.symm hc
  have b:(a==c)=false:=by simpa using this
  have i:=avD (by assumption:c∈a::s);simp only[axg,b,awX,auN,atX] at i⊢;omega
 simp only;omega
structure VW(s:List UInt8)(a:Nat)(cM:Tk)(bf:List Tk):Prop where
 rR:nJ 0 bf a
 la:Hz cM=true->nJ 0 bf cM.to/\cM.to<=a
 tk:∀t∈bf,t.kind≠0/\t.text.length<=s.length
 len:bf.length<=a
theorem VW.acR{s:List UInt8}{a:Nat}{cM:Tk}{bf:List Tk}(x:VW s a cM bf){b:Nat}(hb:a<=b):nJ 0 (bf++vI cM) b/\(∀t∈bf++vI cM,t.kind≠0/\t.text.length<=s.length)/\(bf++vI cM).length<=a+1:=by unfold vI;split<;>rename_i c;have:=x.la c;refine⟨this.1.fF ⟨atY _,?_⟩,λt ht=>?_,?_⟩;show cM.to+(if(7:Int)=7 then 0 else 1)<=b;rw[atV rfl];omega;rcases auj.1 ht with h|h;exact x.tk t h;simp at h;subst h;simp;have:=x.len;simp;omega;rw[av5];exact⟨x.rR.up zo,x.tk,by have:=x.len;omega⟩
theorem acS:Hz t0=false:=by decide
theorem Lz(s:List UInt8):∀(g:Nat)(o:Nat->Nat×Int)(a:Nat)(cM:Tk)(bf:List Tk),s.length<a+g->a<=s.length->VW s a cM bf->C8 s (o9 s g o a cM bf)
 |0,_,a,_,_,h1,h2,_=>zo
 |g+1,o,a,cM,bf,h1,h2,x=>by
  unfold o9
  by_cases c:a<s.length
  rw[atV c];have dn:s.drop a≠[]:=λe=>by have:=aui List.length e;simp at this;omega
  by_cases c1:s.getD a 0∈[32,9,13]
  rw[atV c1];exact Lz s g o (a+1) cM bf zo zo ⟨x.rR.up zo,λe=>⟨(x.la e).1,by have:=(x.la e).2;omega⟩,x.tk,by have:=x.len;omega⟩;rw[atS c1]
  by_cases c2:s.getD a 0=10
  rw[atV c2];have:=x.acR (b:=a+1) zo;exact Lz s g o (a+1) t0 _ zo zo ⟨this.1,λe=>(by rw[acS] at e;cases e),this.2.1,this.2.2⟩;rw[atS c2]
  by_cases c3:eP (s.drop a) [47,47]=true
  rw[atV c3];have:=amb (c:=10) c3 zd;simp only[auf] at this;exact Lz s g o _ cM bf zo zo ⟨x.rR.up zo,λe=>⟨(x.la e).1,by have:=(x.la e).2;omega⟩,x.tk,by have:=x.len;omega⟩;rw[atS c3]
  by_cases c4:(fA (o 0) (s.drop a)).2.2 ≠0
  rw[atV c4];exact c4;rw[atS c4];have:=ama dn (by simpa using c4);generalize fA (o 0) (s.drop a)=q at this⊢;simp only[auf] at this;have rR:nJ 0 (bf++[⟨q.1,(s.drop a).take q.2.1,a,a+q.2.1⟩]) (a+q.2.1 :Nat):=x.rR.fF ⟨atY _,by show(a:Int)+(if q.1 =7 then 0 else 1)<=_;split<;>omega⟩;refine Lz s g _ _ _ _ zo zo ⟨rR,λ_=>⟨by simpa using rR,by simp⟩,λt ht=>?_,by have:=x.len;simp;omega⟩;rcases auj.1 ht with h|h;exact x.tk t h;simp at h;subst h;exact⟨this.2.2,by simp;omega⟩;rw[atS c];have:=x.acR (b:=s.length) h2;exact⟨this.1,this.2.1,by omega⟩
theorem Pn(b:Int)(o:Nat->Nat×Int)(s:List UInt8):C8 s (tf b o s):=by unfold tf;split;simp[C8];split;simp[C8];exact Lz s _ o 0 t0 [] zo zo ⟨by simp[nJ],λe=>(by rw[acS] at e;cases e),λt h=>by simp at h,by simp⟩
def Az(k:Int):Bool:=decide (k=26)||decide (k=9)
def BG(k:Int):Bool:=decide (k=16)||decide (k=11)||decide (k=12)||decide (k=7)||decide (k=25)||decide (k=8)||decide (k=17)||decide (k=18)
mutual
def gX(lo hi:Int):Tree->Prop
 |.mk kind _ _ a _ kids=>
  if Az kind=true then gZ lo a kids/\a+1<=hi
  else if BG kind=true then lo<=a/\gZ (a+1) hi kids
  else(kind=0\/a<hi)/\gZ lo hi kids
def gZ(lo hi:Int):List Tree->Prop
 |[]=>lo<=hi
 |t::ts=>∃md,gX lo md t/\gZ md hi ts
end
mutual
def m8(N:Nat):Tree->Prop
 |.mk _ _ _ _ _ ks=>ks.length<=N/\kP N ks
def kP(N:Nat):List Tree->Prop
 |[]=>True
 |t::ts=>m8 N t/\kP N ts
end
mutual
theorem gX.le:∀{t:Tree}{lo hi:Int},gX lo hi t->lo<=hi
 |.mk kind _ _ a _ kids,lo,hi,h=>by unfold gX at h;split at h;have:=gZ.le h.1;omega;split at h;have:=gZ.le h.2;omega;exact gZ.le h.2
theorem gZ.le:∀{ts:List Tree}{lo hi:Int},gZ lo hi ts->lo<=hi
 |[],_,_,h=>h
 |t::ts,_,_,h=>by obtain⟨md,h1,h2⟩:=h;exact avU (gX.le h1) (gZ.le h2)
end
mutual
theorem gX.up:∀{t:Tree}{lo hi kg dD:Int},gX lo hi t->kg<=lo->hi<=dD->gX kg dD t
 |.mk kind _ _ a _ kids,lo,hi,kg,dD,h,h1,h2=>by unfold gX at h⊢;split at h<;>rename_i c1;rw[atV c1];exact⟨gZ.up h.1 h1 (atY _),by omega⟩;rw[atS c1];split at h<;>rename_i c2;rw[atV c2];exact⟨by omega,gZ.up h.2 (atY _) h2⟩;rw[atS c2];exact⟨by omega,gZ.up h.2 h1 h2⟩
theorem gZ.up:∀{ts:List Tree}{lo hi kg dD:Int},gZ lo hi ts->kg<=lo->hi<=dD->gZ kg dD ts
 |[],lo,hi,kg,dD,h,h1,h2=>by have h:lo<=hi:=h;show kg<=dD;omega
 |t::ts,_,_,_,_,h,h1,h2=>by obtain⟨md,a,b⟩:=h;exact⟨md,gX.up a h1 (atY _),gZ.up b (atY _) h2⟩
end
theorem gZ.cons{lo md hi:Int}{t ts}(x:gX lo md t)(y:gZ md hi ts):gZ lo hi (t::ts):=⟨md,x,y⟩
theorem gZ.one{lo hi:Int}{t}(x:gX lo hi t):gZ lo hi [t]:=⟨hi,x,atY _⟩
theorem gZ.fF{lo md hi:Int}:∀{ts us:List Tree},gZ lo md ts->gZ md hi us->gZ lo hi (ts++us)
 |[],_,x,y=>gZ.up y x (atY _)
 |t::ts,_,x,y=>by obtain⟨m,a,b⟩:=x;exact⟨m,a,gZ.fF b y⟩
theorem gX.hd{lo hi k f t a:Int}{nm ks}(hk:BG k=true)(h1:lo<=a)(h2:gZ (a+1) hi ks):gX lo hi (.mk k f t a nm ks):=by
 unfold gX;have:¬Az k=true:=by simp[BG,Az] at hk⊢;omega
 rw[atS this,atV hk];exact⟨h1,h2⟩
theorem gX.VX{lo hi k f t a:Int}{nm ks}(hk:Az k=true)(h1:gZ lo a ks)(h2:a+1<=hi):gX lo hi (.mk k f t a nm ks):=by unfold gX;rw[atV hk];exact⟨h1,h2⟩
theorem gX.gen{lo hi k f t a:Int}{nm ks}(hk:Az k=false)(TM:BG k=false)(h1:a<hi)(h2:gZ lo hi ks):gX lo hi (.mk k f t a nm ks):=by unfold gX;rw[atS (by simp[hk]),atS (by simp[TM])];exact⟨.inr h1,h2⟩
theorem VY{lo hi:Int}(h:lo<=hi):gX lo hi zT:=by unfold zT gX;rw[atS zd,atS zd];exact⟨.inl rfl,h⟩
structure fE(l:List Tk):Prop where
 Ff:fc l
 Po:∀n,n+1<l.length->(tk l n).ak+(if(tk l n).kind=7 then 0 else 1)<=(tk l (n+1)).ak
section
variable{l:List Tk}{n m i j:Nat}
theorem fE.le1(g:fE l)(h:n+1<l.length):(tk l n).ak<=(tk l (n+1)).ak:=by have:=g.Po n h;split at this<;>omega
theorem fE.le(g:fE l)(h:i<=j)(hj:j<l.length):(tk l i).ak<=(tk l j).ak:=by
 induction j with
 |zero=>obtain rfl:i=0:=zo;exact atY _
 |succ j ih=>
  rcases avh i (j+1) with c|c;exact avU (ih zo zo) (g.le1 hj);obtain rfl:i=j+1:=zo;exact atY _
theorem fE.lt(g:fE l)(h:i<j)(hj:j<l.length)(hk:(tk l i).kind≠7):(tk l i).ak+1<=(tk l j).ak:=by have a:=g.Po i zo;rw[atS hk] at a;have:=g.le (i:=i+1) (j:=j) h hj;omega
theorem VZ{t:Tk}{ws}(h:bD t ws=true):t.kind≠0/\t.kind≠7/\t.kind≠1:=by simp[bD] at h;omega
def RG{α:Type}(l:List Tk)(n:Nat)(Q:α->Nat->Prop):PR α->Prop
 |.ok a m=>n<=m/\m<l.length/\Q a m
 |.er _ e=>e≠0
 |.dN=>False
variable{α β:Type}{Q:α->Nat->Prop}{Q':β->Nat->Prop}{r:PR α}
theorem RG.bind{n0:Nat}{f:α->Nat->PR β}(h:RG l n Q r)(hf:∀a m,n<=m->m<l.length->Q a m->RG l n0 Q' (f a m)):RG l n0 Q' (r.bind f):=by
 cases r with
 |ok a m=>exact hf a m h.1 h.2.1 h.2.2
 |er=>exact h
 |dN=>exact h
theorem RG.mono{R:α->Nat->Prop}(h:RG l m Q r)(hn:n<=m)(hq:∀a o,m<=o->o<l.length->Q a o->R a o):RG l n R r:=by
 cases r with
 |ok a m=>exact⟨at1 hn h.1,h.2.1,hq _ _ h.1 h.2.1 h.2.2⟩
 |er=>exact h
 |dN=>exact h
structure oM(l:List Tk)(b:Bool)(n m:Nat)(t:Tree):Prop where
 od:gX (tk l n).ak (tk l m).ak t
 ok:fh b t
 sm:m8 (l.length+4) t
 fr:t.ak<(tk l m).ak
 id:t.kind=25->t.ak=t.at
def TG(l:List Tk)(b:Bool)(n:Nat):PR Tree->Prop:=RG l n λt m=>n<m/\oM l b n m t
variable{b:Bool}
theorem xy(g:fE l){q:Int}(hq:q≠0)(hn:n<l.length):RG l n (λt m=>m=n+1/\t=tk l n/\(tk l n).kind=q) (jR l q n):=by unfold jR;split;exact⟨by omega,g.Ff n hn zo,rfl,rfl,by assumption⟩;simp[RG]
theorem AA(g:fE l){x}(hn:n<l.length):RG l n (λt m=>m=n+1/\t=tk l n/\bD (tk l n) [x]=true) (lR l x n):=by unfold lR;split<;>rename_i c;exact⟨by omega,g.Ff n hn (VZ c).1,rfl,rfl,c⟩;simp[RG]
theorem mD(g:fE l){ws}(h:bD (tk l n) ws=true)(hn:n<l.length):n+1<l.length/\∀j,n<j->j<l.length->(tk l n).ak+1<=(tk l j).ak:=
 ⟨g.Ff n hn (VZ h).1,λ_ h1 h2=>g.lt h1 h2 (VZ h).2.1⟩
end
mutual
theorem C9:∀{t:Tree},fh false t->fh true t
 |.mk kind _ _ _ _ kids,h=>by unfold fh at h⊢;split at h<;>rename_i c;rw[atV c];exact h;rw[atS c];split at h<;>rename_i c2;simp at h;rw[atS c2];exact⟨λ_=>rfl,h.2.1,acT h.2.2⟩
theorem acT:∀{ts:List Tree},gi false ts->gi true ts
 |[],_=>trivial
 |_::_,h=>⟨C9 h.1,acT h.2⟩
end
theorem acU:∀{b:Bool}(t:Tree),fh b t->Aa t≠none
 |b,.mk kind _ _ _ _ kids,h=>by
  by_cases c:kind=26
  subst c;unfold fh at h;rw[atS zd,atS zd] at h
  match kids,h with
  |[],h=>exact absurd rfl (h.2.1 (.inl rfl))
  |t::ts,h=>
   have:=acU t h.2.2.1;unfold Aa;rw[atV rfl];exact this
  unfold Aa;rw[atS c];simp
theorem oM.t{l n m t}(x:oM l false n m t):oM l true n m t:=⟨x.od,C9 x.ok,x.sm,x.fr,x.id⟩
theorem qe{b:Bool}{k f t a:Int}{nm ks}(h5:k≠5)(h10:k≠10)(h15:k≠15)(hb:(k=16\/k=11\/k=12)->b=true)(hs:(k=26\/k=9)->ks≠[])(h:gi b ks):fh b (.mk k f t a nm ks):=by unfold fh;rw[atS h5,atS zo];exact⟨hb,hs,h⟩
theorem V0{b:Bool}:fh b zT:=by simp[zT,fh,gi]
theorem V2{N}:m8 N zT:=by simp[zT,m8,kP]
section
variable{l:List Tk}{n m i j:Nat}
theorem jU{k f a:Int}{nm ks}:(aV l n k f a nm ks).ak=f:=rfl
theorem tE{k f t a:Int}{nm ks}:(Tree.mk k f t a nm ks).ak=f:=rfl
theorem atq{lo hi k f t a:Int}{nm}(hk:BG k=true)(h1:lo<=a)(h2:a+1<=hi):gX lo hi (.mk k f t a nm []):=.hd hk h1 h2
theorem fE.st(g:fE l){t:Tk}{q:Int}(hj:i<j)(kL:j<l.length)(hk:(tk l i).kind=q)(hq:q≠7):(tk l i).ak+1<=(tk l j).ak:=g.lt hj kL zo
theorem V3(g:fE l)(hn:n<l.length):TG l false n (Ct l n):=by unfold Ct;split<;>rename_i c;have⟨h1,h2⟩:=mD g c hn;have h3:=h2 (n+1) zo h1;refine⟨by omega,h1,by omega,.hd zd (atY _) h3,by simp[aV,fh,gi],by simp[aV,m8,kP],by simp only[jU,tE];omega,λe=>by simp[aV,Tree.kind] at e⟩;refine(xy g zd hn).bind λt m _ hm ⟨e1,e2,e3⟩=>?_;subst e1 e2;have h3:=g.lt (i:=n) (j:=n+1) zo hm zo;split<;>rename_i c2;have⟨h1,h2⟩:=mD g c2 hm;refine(xy g zd h1).bind λt o _ ho ⟨e4,e5,e6⟩=>?_;subst e4 e5;have h4:=h2 (n+1+1) zo h1;have h5:=g.lt (i:=n+1+1) (j:=n+1+1+1) zo ho zo;refine⟨by omega,ho,by omega,.VX zd (.one (.hd zd (atY _) ?_)) h5,by simp[aV,fh,gi],by simp[aV,m8,kP],?_,λe=>by simp[aV,Tree.kind] at e⟩;show(tk l n).ak+1<=(tk l (n+1+1)).ak;omega;simp only[jU,tE];omega;exact⟨by omega,hm,by omega,.hd zd (atY _) h3,by simp[aV,fh,gi],by simp[aV,m8,kP],by simp only[jU,tE];omega,λe=>by simp[aV,Tree.kind] at e⟩
theorem acV(g:fE l){k:Int}(hk:k=4\/k=7)(hn:n<l.length):TG l false n (En l k n):=by unfold En;refine(xy g zd hn).bind λt m _ hm ⟨e1,e2,e3⟩=>?_;subst e1 e2;have h3:=g.lt (i:=n) (j:=n+1) zo hm zo;refine(V3 g hm).bind λx o _ ho ⟨h4,x⟩=>?_;have h5:=g.le (i:=n+1) (j:=o) zo ho;refine⟨by omega,ho,by omega,?_,?_,⟨by simp,x.sm,auW⟩,by simp only[jU,tE];omega,λe=>by simp only[aV,Tree.kind] at e;omega⟩;rcases hk with rfl|rfl;exact .gen zd zd zo (.one (x.od.up zo zo));exact .hd zd (atY _) (.one (x.od.up zo zo));rcases hk with rfl|rfl<;>simp[aV,fh,gi,x.ok]
structure V4(l:List Tk)(b:Bool)(n m:Nat)(ts:List Tree):Prop where
 od:gZ (tk l n).ak (tk l m).ak ts
 ok:gi b ts
 sm:kP (l.length+4) ts
 len:ts.length<=m- n
variable{b:Bool}
theorem acW(g:fE l){right:List UInt8}{rd:Nat->PR Tree}{bt:Nat->PR Unit}{n0:Nat}(hr:∀n,n0<=n->n<l.length->TG l b n (rd n)) (hb:∀n,n0<=n->n<l.length->RG l n (λ_ _=>True) (bt n)):∀(f n:Nat),n0<=n->n<l.length->l.length<=n+f->RG l n (λts m=>V4 l b n m ts) (ug l right rd bt f n)
 |0,n,_,h1,h2=>zo
 |f+1,n,h0,h1,h2=>by unfold ug;split;exact⟨at2 _,h1,atY _,auW,auW,auz _⟩;refine(hr n h0 h1).bind λt m _ hm ⟨h3,x⟩=>?_;split;exact⟨by omega,hm,.one x.od,⟨x.ok,auW⟩,⟨x.sm,auW⟩,by simp;omega⟩;refine(hb m zo hm).bind λ_ o h4 ho _=>?_;refine(acW g hr hb f o zo ho zo).bind λts q h5 hq y=>?_;have:=g.le (i:=m) (j:=o) h4 ho;exact⟨by omega,hq,.cons x.od (y.od.up this (atY _)),⟨x.ok,y.ok⟩,⟨x.sm,y.sm⟩,by have:=y.len;simp;omega⟩
theorem LA(g:fE l){left right:List UInt8}{rd:Nat->PR Tree}{bt:Nat->PR Unit}{op:Int}{f:Nat}(hr:∀m,n<m->m<l.length->TG l b m (rd m)) (hb:∀m,n<m->m<l.length->RG l m (λ_ _=>True) (bt m)) (h1:n<l.length) (h2:l.length<=n+f):
 RG l n (λts m=>n+1<m/\(∀j,n<j->j<l.length->(tk l n).ak+1<=(tk l j).ak)/\V4 l b (n+1) m ts) (wS l left right rd bt op f n):=by
 unfold wS;split<;>rename_i c;have⟨h3,h4⟩:=mD g c h1;split;simp[RG];refine(acW g (n0:=n+1) (λm a b=>hr m zo b) (λm a b=>hb m zo b) f (n+1) zo h3 zo).bind λts m h5 hm x=>?_;split<;>rename_i c2;have⟨h6,h7⟩:=mD g c2 hm;have:=h7 (m+1) zo h6;exact⟨by omega,h6,by omega,h4,x.od.up (atY _) zo,x.ok,x.sm,by have:=x.len;omega⟩;simp[RG];simp[RG]
theorem V5(g:fE l){right:List UInt8}(h1:n<l.length):RG l n (λ_ _=>True) (Cu l right n):=by unfold Cu;refine(AA g h1).bind λ_ m _ hm ⟨e,_⟩=>?_;split;simp[RG];exact⟨by omega,hm,auW⟩
theorem Fg(g:fE l)(h1:n<l.length):RG l n (λ_ m=>n<m) (mU l n):=by unfold mU;refine(xy g zd h1).bind λ_ m _ hm ⟨e,_⟩=>?_;exact⟨by omega,hm,by omega⟩
section
variable{F:Nat}{ex:Int->Bool->Int->Nat->PR Tree}{op:Int}{hd:Bool}
def tF(l:List Tk)(ex:Int->Bool->Int->Nat->PR Tree)(n0:Nat):Prop:=∀op hd dS n,0<=dS->n0<n->n<l.length->TG l false n (ex op hd dS n)
theorem tF.up{n0 n1:Nat}(x:tF l ex n0)(h:n0<=n1):tF l ex n1:=λop hd dS n h0 h1 h2=>x op hd dS n h0 zo h2
theorem acX(g:fE l)(hx:tF l ex n)(h1:n<l.length)(hF:l.length<=n+F):
 RG l n (λts m=>n+1<m/\(∀j,n<j->j<l.length->(tk l n).ak+1<=(tk l j).ak)/\V4 l false (n+1) m ts) (Kj l F ex op n):=
 LA g (λm a b=>hx _ _ _ m zd a b) (λm _ b=>V5 g b) h1 hF
theorem amc(g:fE l)(hx:tF l ex n)(h1:n<l.length):TG l false n (Kl l ex op hd n):=by unfold Kl;refine(xy g zd h1).bind λt m _ hm ⟨e1,e2,e3⟩=>?_;subst e1 e2;refine(AA g hm).bind λ_ o _ ho ⟨e4,_⟩=>?_;refine(hx _ _ _ o zd zo ho).bind λx q _ hq ⟨h2,x⟩=>?_;have h3:=g.lt (i:=n) (j:=q) zo hq zo;have h4:=g.le (i:=n) (j:=o) zo ho;exact⟨by omega,hq,by omega,.gen zd zd zo (.one (x.od.up h4 (atY _))),by simp[aV,fh,gi,x.ok],⟨by simp,x.sm,auW⟩,by simp only[jU,tE];omega,λe=>by simp[aV,Tree.kind] at e⟩
theorem acY(g:fE l){sZ:Tree}{n0:Nat}(ht:oM l false n0 n sZ)(h0:n0<=n)(hx:tF l ex n)(h1:n<l.length)(hF:l.length<=n+F):RG l n (λt m=>n<m/\oM l false n0 m t) (Cv l F ex op sZ n):=by unfold Cv;refine(LA g (b:=false) (λm a b=>amc g (hx.up zo) b) (λm _ b=>V5 g b) h1 hF).bind λts m _ hm ⟨h2,h3,x⟩=>?_;have h4:=h3 m zo hm;have h5:=g.le (i:=n) (j:=n+1) zo zo;have h6:=x.len;have h7:=ht.fr;have h8:=g.le (i:=n) (j:=m) zo hm;exact⟨by omega,hm,by omega,.gen zd zd zo (.cons ht.od (x.od.up h5 (atY _))),qe zm zm zm zm zm ⟨ht.ok,x.ok⟩,⟨by simp;omega,ht.sm,x.sm⟩,by simp only[jU,tE];omega,λe=>by simp[aV,Tree.kind] at e⟩
theorem amd(g:fE l)(hx:tF l ex n)(h1:n<l.length):TG l false n (NX l ex op n):=by unfold NX;split<;>rename_i c;have⟨h3,h4⟩:=mD g c h1;split;simp[RG,TG];refine(hx _ _ _ (n+1) zd zo h3).bind λx m _ hm ⟨h2,x⟩=>?_;split<;>rename_i c2;have⟨h6,h7⟩:=mD g c2 hm;have h8:=h7 (m+1) zo h6;have h9:=h4 (m+1) zo h6;have h10:=h4 (n+1) zo h3;exact⟨by omega,h6,by omega,.gen zd zd zo (.one (x.od.up zo zo)),by simp[aV,fh,gi,x.ok],⟨by simp,x.sm,auW⟩,by simp only[jU,tE];omega,λe=>by simp[aV,Tree.kind] at e⟩;simp[RG];simp[RG,TG]
theorem ame{t:Tk}(h:o7 t≠0):t.kind≠0/\t.kind≠7/\(o7 t=21\/o7 t=22\/o7 t=23\/o7 t=25\/o7 t=24):=by unfold o7 at h⊢;split at h<;>rename_i c1;rw[atV c1];omega;rw[atS c1];split at h<;>rename_i c2;rw[atV c2];omega;rw[atS c2];split at h<;>rename_i c3;rw[atV c3];omega;rw[atS c3];split at h<;>rename_i c4;rw[atV c4];omega;rw[atS c4];split at h<;>rename_i c5;rw[atV c5];omega;simp at h
theorem amf(g:fE l)(hx:tF l ex n)(h1:n<l.length)(hF:l.length<=n+F):TG l false n (Km l F ex op hd n):=by unfold Km;split<;>rename_i c;have⟨k0,k7,kk⟩:=ame c;have h2:=g.Ff n h1 k0;have h3:=g.lt (i:=n) (j:=n+1) zo h2 k7;split;refine(acY g (sZ:=aV l (n+1) 8 (tk l n).ak (tk l n).ak (tk l n).text []) (n:=n+1) (n0:=n) ⟨.hd zd (atY _) h3,by simp[aV,fh,gi],by simp[aV,m8,kP],by simp only[jU,tE];omega,λe=>by simp[aV,Tree.kind] at e⟩ zo (hx.up zo) h2 zo).mono zo λt m _ _ x=>⟨by omega,x.2⟩;refine⟨by omega,h2,by omega,?_,?_,by simp[aV,m8,kP],by simp only[jU,tE];omega,λ_=>rfl⟩;rcases kk with e|e|e|e|e<;>rw[e];exact .gen zd zd zo qao;exact .gen zd zd zo qao;exact .gen zd zd zo qao;exact .hd zd (atY _) h3;exact .gen zd zd zo qao;rcases kk with e|e|e|e|e<;>rw[e]<;>simp[aV,fh,gi];split<;>rename_i c2;have⟨h3,h4⟩:=mD g c2 h1;refine(acX g (hx.up zo) h3 zo).bind λts m _ hm ⟨h5,h6,x⟩=>?_;have h7:=h4 m zo hm;have h8:=h4 (n+1+1) zo zo;have h9:=x.len;exact⟨by omega,hm,by omega,.gen zd zd zo (x.od.up zo (atY _)),qe zm zm zm zm zm x.ok,⟨by omega,x.sm⟩,by simp only[jU,tE];omega,λe=>by simp[aV,Tree.kind] at e⟩;exact amd g hx h1
theorem Pp(g:fE l){n0:Nat}:∀(f:Nat)(x:Tree)(n:Nat),n0<n->tF l ex n0->n<l.length->l.length<=n+f->l.length<=n+F->oM l false n0 n x->RG l n (λt m=>oM l false n0 m t) (ye l F ex op hd f x n)
 |0,x,n,_,_,h1,h2,_,_=>zo
 |f+1,x,n,h0,hx,h1,h2,hF,xt=>by unfold ye;split<;>rename_i c;have⟨h3,h4⟩:=mD g c h1;refine(xy g zd h3).bind λt m _ hm ⟨e1,e2,e3⟩=>?_;subst e1 e2;have h5:=h4 (n+1) zo h3;have h6:=g.lt (i:=n+1) (j:=n+1+1) zo hm zo;have h7:=xt.fr;split;refine(acY g (sZ:=aV l (n+1+1) 9 x.ak (tk l (n+1)).ak (tk l (n+1)).text [x]) (n0:=n0) ⟨.VX zd (.one (xt.od.up (atY _) zo)) h6,by simp[aV,fh,gi,xt.ok],⟨by simp,xt.sm,auW⟩,by simp only[jU,tE];omega,λe=>by simp[aV,Tree.kind] at e⟩ zo (hx.up zo) hm zo).bind λy o _ ho ⟨h8,yt⟩=>?_;exact(Pp g f y o zo hx ho zo zo yt).mono zo λ_ _ _ _ x=>x;exact(Pp g f _ (n+1+1) zo hx hm zo zo ⟨.VX zd (.one (xt.od.up (atY _) zo)) h6,by simp[aV,fh,gi,xt.ok],⟨by simp,xt.sm,auW⟩,by simp only[jU,tE];omega,λe=>by simp[aV,Tree.kind] at e⟩).mono zo λ_ _ _ _ x=>x;split;refine(acX g (hx.up zo) h1 zo).bind λts m _ hm ⟨h5,h6,y⟩=>?_;have h7:=h6 m zo hm;have h8:=h6 (n+1) zo zo;have h9:=y.len;have h10:=xt.fr;exact(Pp g f _ m zo hx hm zo zo ⟨.gen zd zd zo (.cons xt.od (y.od.up zo (atY _))),qe zm zm zm zm zm ⟨xt.ok,y.ok⟩,⟨by simp;omega,xt.sm,y.sm⟩,by simp only[jU,tE];omega,λe=>by simp[aV,Tree.kind] at e⟩).mono zo λ_ _ _ _ x=>x;exact⟨at2 _,h1,xt⟩
theorem V6(g:fE l)(hx:tF l ex n)(h1:n<l.length)(hF:l.length<=n+F):TG l false n (yf l F ex op hd n):=by unfold yf;refine(amf g hx h1 hF).bind λx m _ hm ⟨h2,x⟩=>?_;exact(Pp g F _ m h2 hx hm zo zo x).mono zo λ_ _ h _ y=>⟨by omega,y⟩
theorem acZ(g:fE l):∀(f n:Nat),tF l ex n->n<l.length->l.length<=n+f->l.length<=n+F->TG l false n (G8 l F ex op hd f n)
 |0,n,_,h1,h2,_=>zo
 |f+1,n,hx,h1,h2,hF=>by unfold G8;split<;>rename_i c;have⟨h3,h4⟩:=mD g c h1;refine(acZ g f (n+1) (hx.up zo) h3 zo zo).bind λx m _ hm ⟨h5,x⟩=>?_;have h6:=h4 m zo hm;have h7:=h4 (n+1) zo h3;exact⟨by omega,hm,by omega,.gen zd zd zo (.one (x.od.up zo (atY _))),by simp[aV,fh,gi,x.ok],⟨by simp,x.sm,auW⟩,by simp only[jU,tE];omega,λe=>by simp[aV,Tree.kind] at e⟩;exact V6 g hx h1 hF
theorem amg{t:Tk}{dS:Int}(h0:0<=dS)(h:dS<Bb t):t.kind≠0/\t.kind≠7:=by unfold Bb at h;split at h;omega;omega
theorem ac0(g:fE l){dS:Int}(hl:0<=dS){n0:Nat}(hx:tF l ex n0):∀(f:Nat)(x:Tree)(n:Nat),n0<n->n<l.length->l.length<=n+f->oM l false n0 n x->RG l n (λt m=>oM l false n0 m t) (G9 l ex op hd dS f x n)
 |0,x,n,_,h1,h2,_=>zo
 |f+1,x,n,h0,h1,h2,xt=>by unfold G9;split<;>rename_i c;have⟨k0,k7⟩:=amg hl c;have h3:=g.Ff n h1 k0;refine(hx _ _ _ (n+1) zo zo h3).bind λy m _ hm ⟨h4,y⟩=>?_;have h5:=g.lt (i:=n) (j:=m) zo hm k7;have h6:=g.le (i:=n) (j:=n+1) zo h3;have h7:=xt.fr;exact(ac0 g hl hx f _ m zo hm zo ⟨.gen zd zd zo (.cons xt.od (.one (y.od.up h6 (atY _)))),qe zm zm zm zm zm ⟨xt.ok,y.ok,auW⟩,⟨by simp,xt.sm,y.sm,auW⟩,by simp only[jU,tE];omega,λe=>by simp[aV,Tree.kind] at e⟩).mono zo λ_ _ _ _ x=>x;exact⟨at2 _,h1,xt⟩
end
theorem ac1(g:fE l){F:Nat}(hF:l.length<=F):∀(f:Nat)(op:Int)(hd:Bool)(dS:Int)(n:Nat),0<=dS->n<l.length->l.length<=n+f->TG l false n (zU l F f op hd dS n)
 |0,_,_,_,n,_,h1,h2=>zo
 |f+1,op,hd,dS,n,h0,h1,h2=>by unfold zU;have hx:tF l (zU l F f) n:=λop hd dS m a b c=>ac1 g hF f op hd dS m a c zo;refine(acZ g F n hx h1 zo zo).bind λx m _ hm ⟨h3,x⟩=>?_;exact(ac0 g h0 hx F _ m h3 hm zo x).mono zo λ_ _ h _ y=>⟨by omega,y⟩
end
section
variable{l:List Tk}{n m i j:Nat}{F:Nat}{ex:Int->Bool->Int->Nat->PR Tree}{st:Int->Nat->PR Tree}{op:Int}{hd:Bool}{b:Bool}
theorem ac2{k f t a:Int}{nm ks}(hk:k=10\/k=15)(h:gi true ks):fh true (.mk k f t a nm ks):=by unfold fh;rw[atS zo,atV hk];exact⟨rfl,h⟩
theorem ac3:∀{t:Tree}{lo hi:Int},t.kind=25->gX lo hi t->lo<=t.at/\t.at+1<=hi
 |.mk k _ _ a _ ks,lo,hi,e,h=>by have e:k=25:=e;subst e;unfold gX at h;rw[atS zd,atV zd] at h;exact⟨h.1,h.2.le⟩
theorem V7(g:fE l){n0:Nat}(hx:tF l ex n0)(h0:n0<n)(h1:n<l.length){x:Tree}{df:Bool}(xt:oM l false n0 n x):RG l n (λt m=>oM l true n0 m t) (uj l ex op hd x df n):=by have h7:=xt.fr;unfold uj;split<;>rename_i c;have⟨h2,h3⟩:=mD g c.2.2 h1;refine(hx _ _ _ (n+1) zd zo h2).bind λy m _ hm ⟨h4,y⟩=>?_;have⟨h5,h6⟩:=ac3 c.2.1 xt.od;have e:=xt.id c.2.1;have h8:=h3 (n+1) zo h2;have h9:=h3 m zo hm;exact⟨by omega,hm,.hd zd zo (.one (y.od.up zo (atY _))),qe zm zm zm zm zm ⟨C9 y.ok,auW⟩,⟨by simp,y.sm,auW⟩,by simp only[jU];omega,λe=>by simp[aV,Tree.kind] at e⟩;split;rename_i e;exact absurd e (acU x xt.ok);split<;>rename_i c2;have⟨h2,h3⟩:=mD g c2.2 h1;refine(hx _ _ _ (n+1) zd zo h2).bind λy m _ hm ⟨h4,y⟩=>?_;have h8:=h3 (n+1) zo h2;have h9:=h3 m zo hm;exact⟨by omega,hm,.gen zd zd zo (.cons xt.od (.one (y.od.up zo (atY _)))),qe zm zm zm zm zm ⟨C9 xt.ok,C9 y.ok,auW⟩,⟨by simp,xt.sm,y.sm,auW⟩,by simp only[jU];omega,λe=>by simp[aV,Tree.kind] at e⟩;split;exact⟨at2 _,h1,.gen zd zd zo (.one xt.od),qe zm zm zm zm zm ⟨C9 xt.ok,auW⟩,⟨by simp,xt.sm,auW⟩,by simp only[jU];omega,λe=>by simp[aV,Tree.kind] at e⟩;simp[RG]
def BH(l:List Tk)(ex:Int->Bool->Int->Nat->PR Tree):Prop:=∀op hd dS n,0<=dS->n<l.length->TG l false n (ex op hd dS n)
theorem BH.g(x:BH l ex)(n0:Nat):tF l ex n0:=λop hd dS n a _ c=>x op hd dS n a c
structure sx(l:List Tk)(lo hi:Int)(t:Tree):Prop where
 od:gX lo hi t
 ok:fh true t
 sm:m8 (l.length+4) t
theorem sx.z{lo hi:Int}(h:lo<=hi):sx l lo hi zT:=⟨VY h,V0,V2⟩
theorem oM.o{t:Tree}(x:oM l true n m t):sx l (tk l n).ak (tk l m).ak t:=⟨x.od,x.ok,x.sm⟩
theorem sx.up{lo hi kg dD:Int}{t:Tree}(x:sx l lo hi t)(h1:kg<=lo)(h2:hi<=dD):sx l kg dD t:=⟨x.od.up h1 h2,x.ok,x.sm⟩
def ac4(l:List Tk)(n:Nat)(p:Tree×Tree×Tree)(m:Nat):Prop:=∃a b,sx l (tk l n).ak a p.1 /\sx l a b p.2.1 /\sx l b (tk l m).ak p.2.2
theorem RG.vY{c:Prop}[Decidable c]{r s:PR Tree}{Q:Tree->Nat->Prop}(h1:c->RG l n Q r)(h2:¬c->RG l n Q s):RG l n Q (if c then r else s):=by split;exact h1 qaH;exact h2 qaH
theorem amh(g:fE l)(hx:BH l ex)(h1:n<l.length)(hF:l.length<=n+F):RG l n (ac4 l n) (Ks l F ex op n):=by unfold Ks;refine RG.bind (Q:=λ(r:Tree×Tree×Bool) m=>sx l (tk l n).ak (tk l m).ak r.1 /\sx l (tk l n).ak (tk l m).ak r.2.1) (n:=n) ?_ λr m h2 hm ⟨q1,q2⟩=>?_;split;refine(hx _ _ _ n zd h1).bind λx m _ hm ⟨h2,x⟩=>?_;split;exact⟨by omega,hm,.z (g.le zo hm),x.t.o⟩;refine(V7 g (hx.g n) h2 hm x).bind λi o h3 ho y=>?_;exact⟨by omega,ho,y.o,.z (g.le zo ho)⟩;exact⟨at2 _,h1,.z (atY _),.z (atY _)⟩;split;exact⟨by omega,hm,(tk l n).ak,(tk l m).ak,.z (atY _),q2,.z (atY _)⟩;refine(Fg g hm).bind λ_ o _ ho h3=>?_;refine RG.bind (Q:=λx q=>sx l (tk l o).ak (tk l q).ak x) (n:=o) ?_ λx q h4 hq x1=>?_;refine RG.vY (λ_=>?_) λ_=>⟨at2 _,ho,.z (atY _)⟩;exact(hx _ _ _ o zd ho).mono zl λ_ _ _ _ x=>x.2.t.o;refine(Fg g hq).bind λ_ s _ hs h5=>?_;refine RG.bind (Q:=λx q=>sx l (tk l s).ak (tk l q).ak x) (n:=s) ?_ λz v h6 hv z1=>?_;refine RG.vY (λ_=>⟨at2 _,hs,.z (atY _)⟩) λ_=>?_;refine(V6 g (hx.g s) hs zo).bind λy u _ hu ⟨h7,y⟩=>?_;exact(V7 g (hx.g s) h7 hu y).mono zo λ_ _ _ _ x=>x.o;have a1:=g.le (i:=m) (j:=o) zo ho;have a2:=g.le (i:=q) (j:=s) zo hs;exact⟨by omega,hv,(tk l m).ak,(tk l q).ak,q1,x1.up a1 (atY _),z1.up a2 (atY _)⟩
theorem ami(g:fE l)(hx:BH l ex)(h1:n<l.length):TG l true n (Kt l ex op n):=by unfold Kt;refine(AA g h1).bind λt m _ hm ⟨e1,e2,e3⟩=>?_;subst e1 e2;refine(xy g (q:=1) zd hm).bind λu o _ ho ⟨e1,e2,e4⟩=>?_;subst e1 e2;have⟨_,a1⟩:=mD g e3 h1;have a3:=a1 (n+1) zo hm;have a4:=g.lt (i:=n+1) (j:=n+1+1) zo ho zo;refine RG.bind (Q:=λx q=>sx l (tk l (n+1+1)).ak (tk l q).ak x) (n:=n+1+1) ?_ λty q h4 hq x1=>?_;refine RG.vY (λ_=>⟨at2 _,ho,.z (atY _)⟩) λ_=>?_;exact(V3 g ho).mono zl λ_ _ _ _ x=>x.2.t.o;refine RG.bind (Q:=λx r=>sx l (tk l q).ak (tk l r).ak x) (n:=q) ?_ λe r h6 hr z1=>?_;split<;>rename_i c;have⟨c1,c2⟩:=mD g c hq;have c3:=c2 (q+1) zo c1;exact(hx _ _ _ (q+1) zd c1).mono zo λ_ _ _ _ x=>x.2.t.o.up zo (atY _);exact⟨at2 _,hq,.z (atY _)⟩;have b1:=x1.od.le;have b2:=z1.od.le;exact⟨by omega,hr,by omega,.hd zd zo (.cons (x1.od.up zo (atY _)) (.one z1.od)),qe zm zm zm zm zm ⟨x1.ok,z1.ok,auW⟩,⟨by simp,x1.sm,z1.sm,auW⟩,by simp only[jU];omega,λe=>by simp[aV,Tree.kind] at e⟩
theorem ac5(g:fE l){k:Int}(hk:k=17\/k=18){ws}(c:bD (tk l n) ws=true)(h1:n<l.length):TG l true n (Ht l k n):=by
 have⟨h2,h3⟩:=mD g c h1;have a1:=h3 (n+1) zo h2;have hh:BG k=true:=by rcases hk with rfl|rfl<;>decide
 unfold Ht;split<;>rename_i c2;exact⟨by omega,h2,by omega,.hd hh (atY _) a1,qe zo zo zo zo zo trivial,by simp[aV,m8,kP],by simp only[jU];omega,λe=>by simp only[aV,Tree.kind] at e;omega⟩;have h4:=g.Ff (n+1) h2 zo;have h5:=g.lt (i:=n+1) (j:=n+1+1) zo h4 zo;exact⟨by omega,h4,by omega,.hd hh zo h5,qe zo zo zo zo zo trivial,by simp[aV,m8,kP],by simp only[jU];omega,λe=>by simp only[aV,Tree.kind] at e;omega⟩
def BI(l:List Tk)(st:Int->Nat->PR Tree)(n0:Nat):Prop:=∀op n,n0<n->n<l.length->TG l true n (st op n)
theorem BI.up{n0 n1:Nat}(x:BI l st n0)(h:n0<=n1):BI l st n1:=λop n h1 h2=>x op n zo h2
theorem ac6(g:fE l)(hs:BI l st n)(h1:n<l.length)(hF:l.length<=n+F):RG l n (λt m=>n<m/\oM l true n m t/\gi true t.kids) (vE l F st op n):=by unfold vE;refine(LA g (b:=true) (λm a b=>hs _ m a b) (λm _ b=>(Fg g b).mono zl λ_ _ _ _ _=>trivial) h1 hF).bind λts m _ hm ⟨h2,h3,x⟩=>?_;have h4:=h3 m zo hm;have h5:=h3 (n+1) zo zo;have h6:=x.len;exact⟨by omega,hm,by omega,⟨.gen zd zd zo (x.od.up zo (atY _)),ac2 (.inl rfl) x.ok,⟨by omega,x.sm⟩,by simp only[jU];omega,λe=>by simp[aV,Tree.kind] at e⟩,x.ok⟩
theorem Pq(g:fE l)(hs:BI l st n)(h1:n<l.length)(hF:l.length<=n+F):TG l true n (vE l F st op n):=(ac6 g hs h1 hF).mono zl λ_ _ _ _ x=>⟨x.1,x.2.1⟩
theorem ac7(g:fE l)(hx:BH l ex):∀(f n:Nat),BI l st n->n<l.length->l.length<=n+f->l.length<=n+F->TG l true n (Hu l F ex st op f n)
 |0,n,_,h1,h2,_=>zo
 |f+1,n,hs,h1,h2,hF=>by unfold Hu;refine(AA g h1).bind λt m _ hm ⟨e1,e2,e3⟩=>?_;subst e1 e2;have⟨_,a1⟩:=mD g e3 h1;have a3:=a1 (n+1) zo hm;refine(hx _ _ _ (n+1) zd hm).bind λc o _ ho ⟨h3,c⟩=>?_;refine(Pq g (hs.up zo) ho zo).bind λbl q _ hq ⟨h4,bl⟩=>?_;refine RG.bind (Q:=λx r=>sx l (tk l q).ak (tk l r).ak x) (n:=q) ?_ λe r h6 hr z1=>?_;split<;>rename_i c2;have⟨c3,c4⟩:=mD g c2 hq;have c5:=c4 (q+1) zo c3;split;exact(ac7 g hx f (q+1) (hs.up zo) c3 zo zo).mono zo λ_ _ _ _ x=>x.2.o.up zo (atY _);exact(Pq g (hs.up zo) c3 zo).mono zo λ_ _ _ _ x=>x.2.o.up zo (atY _);exact⟨at2 _,hq,.z (atY _)⟩;have b1:=bl.od.le;have b2:=z1.od.le;have b3:=c.od.le;exact⟨by omega,hr,by omega,.gen zd zd zo (.cons (c.od.up zo (atY _)) (.cons bl.od (.one z1.od))),qe zm zm zm zm zm ⟨C9 c.ok,bl.ok,z1.ok,auW⟩,⟨by simp,c.sm,bl.sm,z1.sm,auW⟩,by simp only[jU];omega,λe=>by simp[aV,Tree.kind] at e⟩
theorem ac8(g:fE l)(hx:BH l ex)(hs:BI l st n)(h1:n<l.length)(hF:l.length<=n+F):TG l true n (Hv l F ex st op n):=by unfold Hv;refine(AA g h1).bind λt m _ hm ⟨e1,e2,e3⟩=>?_;subst e1 e2;have⟨_,a1⟩:=mD g e3 h1;have a3:=a1 (n+1) zo hm;refine RG.bind (Q:=ac4 l (n+1)) (n:=n+1) ?_ λp o h6 ho ⟨a,b,z1,z2,z3⟩=>?_;split;exact⟨at2 _,hm,_,_,.z (atY _),.z (atY _),.z (atY _)⟩;exact amh g hx hm zo;refine(Pq g (hs.up zo) ho zo).bind λbl q _ hq ⟨h4,bl⟩=>?_;have b1:=bl.od.le;have b2:=z1.od.le;have b3:=z2.od.le;have b4:=z3.od.le;exact⟨by omega,hq,by omega,.gen zd zd zo (.cons (z1.od.up zo (atY _)) (.cons z2.od (.cons z3.od (.one bl.od)))),ac2 (.inr rfl) ⟨z1.ok,z2.ok,z3.ok,bl.ok,auW⟩,⟨by simp,z1.sm,z2.sm,z3.sm,bl.sm,auW⟩,by simp only[jU];omega,λe=>by simp[aV,Tree.kind] at e⟩
theorem amj(g:fE l)(hx:BH l ex)(hs:BI l st n)(h1:n<l.length)(hF:l.length<=n+F):TG l true n (Ku l F ex st op n):=by unfold Ku;refine RG.vY (λ_=>Pq g hs h1 hF) λ_=>?_;refine RG.vY (λ_=>ac7 g hx F n hs h1 hF hF) λ_=>?_;refine RG.vY (λ_=>ac8 g hx hs h1 hF) λ_=>?_;refine RG.vY (λ_=>ami g hx h1) λ_=>?_;refine RG.vY (λc=>ac5 g (.inl rfl) c h1) λ_=>?_;refine RG.vY (λc=>ac5 g (.inr rfl) c h1) λ_=>?_;refine RG.vY (λc=>?_) λ_=>?_;have⟨h2,h3⟩:=mD g c h1;have a1:=h3 (n+1) zo h2;refine RG.vY (λ_=>?_) λ_=>?_;exact⟨by omega,h2,by omega,.gen zd zd zo qao,qe zm zm zm zm zm trivial,by simp[aV,m8,kP],by simp only[jU];omega,λe=>by simp[aV,Tree.kind] at e⟩;refine(hx _ _ _ (n+1) zd h2).bind λx m _ hm ⟨h4,x⟩=>?_;have a2:=h3 m zo hm;exact⟨by omega,hm,by omega,.gen zd zd zo (.one (x.od.up zo (atY _))),qe zm zm zm zm zm ⟨C9 x.ok,auW⟩,⟨by simp,x.sm,auW⟩,by simp only[jU];omega,λe=>by simp[aV,Tree.kind] at e⟩;refine(V6 g (hx.g n) h1 hF).bind λx m _ hm ⟨h2,x⟩=>?_;split<;>rename_i c;have⟨h3,h4⟩:=mD g c.2 hm;have a1:=h4 (m+1) zo h3;have⟨a2,a3⟩:=ac3 c.1 x.od;refine(ac8 g hx (hs.up zo) h3 zo).bind λy o _ ho ⟨h5,y⟩=>?_;have a4:=y.od.le;exact⟨by omega,ho,by omega,.hd zd (atY _) (.one (y.od.up zo (atY _))),qe zm zm zm zm zm ⟨y.ok,auW⟩,⟨by simp,y.sm,auW⟩,by simp only[jU];omega,λe=>by simp[aV,Tree.kind] at e⟩;exact(V7 g (hx.g n) h2 hm x).mono zo λ_ _ h _ y=>⟨by omega,y⟩
theorem ac9(g:fE l)(hx:BH l ex)(hF:l.length<=F):∀(f:Nat)(op:Int)(n:Nat),n<l.length->l.length<=n+f->TG l true n (Hw l F ex f op n)
 |0,_,n,h1,h2=>zo
 |f+1,op,n,h1,h2=>by unfold Hw;exact amj g hx (λop m a c=>ac9 g hx hF f op m c zo) h1 zo
end
section
variable{l:List Tk}{n m i j:Nat}{F:Nat}{ex:Int->Bool->Int->Nat->PR Tree}{st:Int->Nat->PR Tree}{op:Int}
theorem RG.ada{α:Type}{c:Prop}[Decidable c]{r s:PR α}{Q:α->Nat->Prop}(h1:c->RG l n Q r)(h2:¬c->RG l n Q s):RG l n Q (if c then r else s):=by split;exact h1 qaH;exact h2 qaH
def LC(l:List Tk):Prop:=∀n,(tk l n).text.length<4294967296
theorem amk(g:fE l)(hT:LC l)(h1:n<l.length):RG l n (λt m=>n<m/\oM l false n m t/\t.kids≠[]/\(t.kids.headD zT).name.length<4294967296) (Kv l op n):=by unfold Kv;split<;>rename_i c;have⟨h3,h4⟩:=mD g c h1;have a1:=h4 (n+1) zo h3;split;simp[RG];refine(xy g (q:=1) zd h3).bind λt m _ hm ⟨e1,e2,e3⟩=>?_;subst e1 e2;refine(xy g (q:=1) zd hm).bind λu o _ ho ⟨e1,e2,e4⟩=>?_;subst e1 e2;have a2:=g.lt (i:=n+1) (j:=n+1+1) zo hm zo;have a3:=g.lt (i:=n+1+1) (j:=n+1+1+1) zo ho zo;split<;>rename_i c2;have⟨h6,h7⟩:=mD g c2 ho;have a4:=h7 (n+1+1+1+1) zo h6;exact⟨by omega,h6,by omega,⟨.hd zd zo (.one (.hd zd zo (by show(tk l (n+1+1)).ak+1<=(tk l (n+1+1+1+1)).ak;omega))),qe zm zm zm zm zm ⟨qe zm zm zm zm zm trivial,auW⟩,⟨by simp,⟨by simp,auW⟩,auW⟩,by simp only[jU];omega,λe=>by simp[aV,Tree.kind] at e⟩,by simp[aV,Tree.kids],hT _⟩;simp[RG];simp[RG]
theorem aml{b:Bool}{f t a:Int}{nm}{k0 k2:Tree}{ps bs:List Tree}{x1 x2 x3 x4 y1 y2 y3 y4 nm1 nm2}(h0:fh false k0)(h1:gi false ps)(h2:fh false k2)(h3:gi true bs):fh b (.mk 5 f t a nm [k0,.mk x1 x2 x3 x4 nm1 ps,k2,.mk y1 y2 y3 y4 nm2 bs]):=by unfold fh;rw[atV rfl];exact⟨h0,h1,h2,h3⟩
theorem Tree.eta(t:Tree):t=.mk t.kind t.ak t.to t.at t.name t.kids:=by cases t;rfl
theorem amm(g:fE l)(hT:LC l)(hs:BI l st n)(h1:n<l.length)(hF:l.length<=n+F):RG l n (λt m=>n<m/\oM l false n m t/\yN t) (Kw l F st op n):=by unfold Kw;refine(AA g h1).bind λt m _ hm ⟨e1,e2,e3⟩=>?_;subst e1 e2;have⟨_,b1⟩:=mD g e3 h1;have a1:=b1 (n+1) zo hm;refine RG.bind (Q:=λx o=>gX (tk l (n+1)).ak (tk l o).ak x/\fh false x/\m8 (l.length+4) x/\(x.kind≠0->x.kids≠[]/\(x.kids.headD zT).name.length<4294967296)) (n:=n+1) ?_ λr o h2 ho ⟨r1,r2,r3,r4⟩=>?_;split;exact(amk g hT hm).mono zl λ_ _ _ _ x=>⟨x.2.1.od,x.2.1.ok,x.2.1.sm,λ_=>x.2.2⟩;exact⟨at2 _,hm,VY (atY _),V0,V2,λh=>absurd rfl h⟩;refine(xy g (q:=1) zd ho).bind λu q _ hq ⟨e1,e2,e4⟩=>?_;subst e1 e2;have a2:=g.lt (i:=o) (j:=o+1) zo hq zo;refine(LA g (b:=false) (λm _ b=>acV g (.inr rfl) b) (λm _ b=>V5 g b) hq zo).bind λps s _ fW ⟨h3,h4,x⟩=>?_;have a3:=h4 s zo fW;have a4:=h4 (o+1+1) zo zo;have xl:=x.len;refine RG.bind (Q:=λx v=>gX (tk l s).ak (tk l v).ak x/\fh false x/\m8 (l.length+4) x) (n:=s) ?_ λty v h5 hv ⟨t1,t2,t3⟩=>?_;refine RG.vY (λ_=>⟨at2 _,fW,VY (atY _),V0,V2⟩) λ_=>?_;exact(V3 g fW).mono zl λ_ _ _ _ x=>⟨x.2.od,x.2.ok,x.2.sm⟩;refine(ac6 g (hs.up zo) hv zo).bind λbT w _ hw ⟨h6,bl,bk⟩=>?_;have b1:=bl.od.le;have b2:=t1.le;have b3:=r1.le;have b4:=x.od.le;refine⟨by omega,hw,by omega,⟨.gen zd zd zo (.cons (r1.up zo (atY _)) (.cons (md:=(tk l s).ak) (.gen zd zd zo (x.od.up zo (atY _))) (.cons t1 (.one bl.od)))),?_,⟨by simp,r3,⟨by omega,x.sm⟩,t3,bl.sm,auW⟩,by simp only[jU];omega,λe=>by simp[aV,Tree.kind] at e⟩,.inr (.inr ⟨by simp[aV,Tree.kind],by simp[aV,Tree.kids],r4⟩)⟩;rw[Tree.eta bT];exact aml r2 x.ok t2 bk
theorem amn(g:fE l)(hT:LC l)(h1:n<l.length)(hF:l.length<=n+F):RG l n (λt m=>n<m/\oM l false n m t/\yN t) (Ky l F op n):=by unfold Ky;refine(AA g h1).bind λt m _ hm ⟨e1,e2,e3⟩=>?_;subst e1 e2;refine(xy g (q:=1) zd hm).bind λu o _ ho ⟨e1,e2,e4⟩=>?_;subst e1 e2;refine(AA g ho).bind λ_ q _ hq ⟨e1,_,e5⟩=>?_;subst e1;have⟨_,b1⟩:=mD g e3 h1;have a1:=b1 (n+1) zo hm;have a2:=g.lt (i:=n+1) (j:=n+1+1) zo ho zo;refine(LA g (b:=false) (λm _ b=>acV g (.inl rfl) b) (λm _ b=>(Fg g b).mono zl λ_ _ _ _ _=>trivial) hq zo).bind λps s _ fW ⟨h3,h4,x⟩=>?_;have a3:=h4 s zo fW;have a4:=h4 (n+1+1+1+1) zo zo;have a5:=g.le (i:=n+1+1) (j:=n+1+1+1) zo hq;have xl:=x.len;exact⟨by omega,fW,by omega,⟨.gen zd zd zo (x.od.up zo (atY _)),qe zm zm zm zm zm x.ok,⟨by omega,x.sm⟩,by simp only[jU];omega,λe=>by simp[aV,Tree.kind] at e⟩,.inr (.inl ⟨rfl,hT _⟩)⟩
theorem amo(g:fE l){o}(h1:n<l.length):RG l n (λt m=>n<m/\oM l false n m t/\yN t) (Ac l o n):=by unfold Ac;refine(AA g h1).bind λt m _ hm ⟨e1,e2,e3⟩=>?_;subst e1 e2;have⟨_,b1⟩:=mD g e3 h1;have a1:=b1 (n+1) zo hm;split<;>rename_i c;simp[RG];split;simp[RG];have h2:=g.Ff (n+1) hm zo;have a2:=g.lt (i:=n+1) (j:=n+1+1) zo h2 zo;exact⟨by omega,h2,by omega,⟨.gen zd zd zo qao,qe zm zm zm zm zm trivial,by simp[aV,m8,kP],by simp only[jU];omega,λe=>by simp[aV,Tree.kind] at e⟩,.inl rfl⟩
structure Fh(l:List Tk)(n0 n:Nat)(ts:List Tree):Prop where
 od:gZ (tk l n0).ak (tk l n).ak ts
 ok:gi false ts
 sm:kP (l.length+4) ts
 len:ts.length<=n
 d:∀t∈ts,yN t
theorem adb{b:Bool}:∀{ts us:List Tree},gi b ts->gi b us->gi b (ts++us)
 |[],_,_,h=>h
 |_::_,_,h,h2=>⟨h.1,adb h.2 h2⟩
theorem ade{N:Nat}:∀{ts us:List Tree},kP N ts->kP N us->kP N (ts++us)
 |[],_,_,h=>h
 |_::_,_,h,h2=>⟨h.1,ade h.2 h2⟩
theorem Fh.add{n0:Nat}{ts:List Tree}{t:Tree}(g:fE l)(x:Fh l n0 n ts)(y:oM l false n m t)(h:yN t)(h1:n<m)(h2:m<=i)(hi:i<l.length):Fh l n0 i (ts++[t]):=
 ⟨x.od.fF (.one (y.od.up (atY _) (g.le h2 hi))),adb x.ok ⟨y.ok,auW⟩,ade x.sm ⟨y.sm,auW⟩,by have:=x.len;simp;omega,λu hu=>by rcases auj.1 hu with c|c;exact x.d u c;simp at c;subst c;exact h⟩
theorem adf(g:fE l){n0:Nat}:∀(f:Nat)(o:Nat->List UInt8×Bool)(n:Nat)(bf:List Tree),n<l.length->l.length<=n+f->Fh l n0 n bf->RG l n (λts m=>Fh l n0 m ts) (vH l f o n bf)
 |0,_,n,_,h1,h2,_=>zo
 |f+1,o,n,bf,h1,h2,x=>by unfold vH;refine RG.ada (λ_=>?_) λ_=>⟨at2 _,h1,x⟩;refine(amo g h1).bind λt m _ hm ⟨h3,y,hd⟩=>?_;refine(Fg g hm).bind λ_ q _ hq h4=>?_;exact(adf g f _ q _ hq zo (x.add g y hd h3 zo hq)).mono zo λ_ _ _ _ x=>x
theorem adg(g:fE l)(hT:LC l)(hs:∀op n,n<l.length->TG l true n (st op n)) (hF:l.length<=F) {n0:Nat}:∀(f:Nat)(n:Nat)(bf:List Tree),n<l.length->l.length<=n+f->Fh l n0 n bf->RG l n (λts m=>Fh l n0 m ts) (yp l F st f n bf)
 |0,n,_,h1,h2,_=>zo
 |f+1,n,bf,h1,h2,x=>by unfold yp;refine RG.ada (λ_=>?_) λ_=>⟨at2 _,h1,x⟩;refine RG.bind (Q:=λt m=>n<m/\oM l false n m t/\yN t) (n:=n) ?_ λt m _ hm ⟨h3,y,hd⟩=>?_;exact RG.vY (λ_=>amn g hT h1 zo) λ_=>amm g hT (λop m _ c=>hs op m c) h1 zo;refine(Fg g hm).bind λ_ q _ hq h4=>?_;exact(adg g hT hs hF f q _ hq zo (x.add g y hd h3 zo hq)).mono zo λ_ _ _ _ x=>x
structure rG(N:Nat)(lo hi:Int)(t:Tree):Prop where
 kd:t.kind=1
 fa:t.at<hi
 od:gZ lo hi t.kids
 ok:gi false t.kids
 sm:kP N t.kids
 len:t.kids.length<=N
 d:∀t'∈t.kids,yN t'
theorem amq(g:fE l)(hT:LC l)(hs:∀op n,n<l.length->TG l true n (st op n)) (hF:l.length<=F) {to:Int} {o} (h1:0<l.length):RG l 0 (λt m=>rG (l.length+4) (tk l 0).ak (tk l m).ak t) (Ad l F st to o 0):=by unfold Ad;refine(AA g h1).bind λt m _ hm ⟨e1,e2,e3⟩=>?_;refine(xy g (q:=1) zd hm).bind λu q _ hq ⟨e1,e2,e4⟩=>?_;refine(Fg g hq).bind λ_ r _ hr h3=>?_;refine(adf g (n0:=r) F o r [] hr zo ⟨atY _,auW,auW,auz _,λ_ h=>by cases h⟩).bind λis s _ fW x=>?_;refine(adg g hT hs hF F s is fW zo x).bind λds v _ hv y=>?_;have:=g.le (i:=0) (j:=r) zo hr;have c1:=y.od.le;have c2:=g.le (i:=q) (j:=r) zo hr;have c3:=g.lt (i:=m) (j:=q) zo hq zo;exact⟨by omega,hv,rfl,by rw[e2];show(tk l m).ak<_;omega,y.od.up this (atY _),y.ok,y.sm,by have:=y.len;show ds.length<=_;omega,y.d⟩
end
theorem nJ.head{e:Tk}:∀{l:List Tk}{lo:Int},nJ lo l e.ak->lo<=(tk (l++[e]) 0).ak
 |[],_,h=>h
 |_::_,_,h=>h.1
theorem nJ.get{e:Tk}:∀{l:List Tk}{lo:Int},nJ lo l e.ak->∀n,n+1<(l++[e]).length->(tk (l++[e]) n).ak+(if(tk (l++[e]) n).kind=7 then 0 else 1)<=(tk (l++[e]) (n+1)).ak
 |[],_,_,n,hn=>by simp at hn
 |t::l,_,h,0,_=>h.2.head
 |t::l,_,h,n+1,hn=>h.2.get n (by simpa using hn)
theorem adh{l:List Tk}{n:Nat}(h:n<l.length):tk l n∈l:=by unfold tk;rw[aub,atT h];exact auy h
theorem adi{l:List Tk}{n:Nat}(h:l.length<=n):tk l n=⟨0,[],0,0⟩:=by unfold tk;rw[aub,auI h];rfl
section
variable{s:List UInt8}{l:List Tk}{n:Nat}
theorem adj(h:C8 s (.ok l n)):fc (l++[fD s]):=by
 intro n hn hk;rcases avh n l.length with c|c;simp;omega;obtain rfl:n=l.length:=by simp at hn;omega
 exact absurd (by simp[tk,fD]) hk
theorem amr(h:C8 s (.ok l n)):fE (l++[fD s]):=⟨adj h,λn hn=>(show nJ 0 l (fD s).ak from h.1).get n hn⟩
theorem adk(h:C8 s (.ok l n))(m:Nat):(tk (l++[fD s]) m).text.length<=s.length:=by rcases avh m (l++[fD s]).length with c|c;rcases auj.1 (adh c) with q|q;exact(h.2.1 _ q).2;simp at q;rw[q];simp[fD];rw[adi c];simp
mutual
theorem m8.up{N M:Nat}(h:N<=M):∀{t:Tree},m8 N t->m8 M t
 |.mk _ _ _ _ _ ks,x=>⟨at1 x.1 h,kP.up h x.2⟩
theorem kP.up{N M:Nat}(h:N<=M):∀{ts:List Tree},kP N ts->kP M ts
 |[],_=>trivial
 |_::_,x=>⟨m8.up h x.1,kP.up h x.2⟩
end
theorem adl(h:C8 s (.ok l n))(hs:s.length<16777216)(oi:Nat->List UInt8×Bool):RG (l++[fD s]) 0 (λt _=>rG (s.length+6) 0 s.length t) (sj (l++[fD s]) s.length oi):=by
 have g:=amr h;have hl:=h.2.2;have Gt:(l++[fD s]).length=l.length+1:=by simp
 have p0:=(show nJ 0 l (fD s).ak from h.1).head;have pe:(tk (l++[fD s]) l.length).ak=s.length:=by simp[tk,fD]
 generalize hL:l++[fD s]=L at*;unfold sj;have hx:BH L (zU L (lY L) (lY L)):=λop hd dS n a b=>ac1 g qaJ _ op hd dS n a b qaJ;have hS:=λop n b=>ac9 (F:=lY L) g hx qaJ (lY L) op n b qaJ;refine(amq g (λm=>?_) hS qaJ zo).mono zl λt m _ hm x=>?_;have:=adk h m;rw[hL] at this;omega;have:=g.le (i:=m) (j:=l.length) zo zo;exact⟨x.kd,by have:=x.fa;omega,x.od.up p0 zo,x.ok,x.sm.up zo,by have:=x.len;omega,x.d⟩
end
def Pr(s:List UInt8):PR Tree->Prop
 |.ok t _=>rG (s.length+6) 0 s.length t
 |.er _ e=>e≠0
 |.dN=>False
theorem V8(s:List UInt8)(hs:s.length<16777216)(b:Int)(o oi):Pr s (Al b o oi s):=by
 have h:=Pn b o s;unfold Al;revert h;generalize tf b o s=r;intro h;cases r with
 |er=>exact h
 |dN=>exact h
 |ok l n=>
  have t:=adl h hs oi;show Pr s ((sj (l++[fD s]) s.length oi).bind _);revert t;generalize sj (l++[fD s]) s.length oi=r;intro t;cases r with
  |er=>exact t
  |dN=>exact t
  |ok t m=>
   show Pr s (if _ then _ else _);split;simp[Pr];exact t.2.2
mutual
theorem m8.t{N:Nat}(h:N<4294967296):∀{t:Tree},m8 N t->rY t
 |.mk _ _ _ _ _ ks,x=>⟨auD x.1 h,kP.t h x.2⟩
theorem kP.t{N:Nat}(h:N<4294967296):∀{ts:List Tree},kP N ts->pq ts
 |[],_=>trivial
 |_::_,x=>⟨m8.t h x.1,kP.t h x.2⟩
end
theorem rG.adm{N:Nat}{lo hi:Int}{t:Tree}(x:rG N lo hi t)(h:N<4294967296):rY t:=by rw[Tree.eta t];exact⟨auD x.len h,x.sm.t h⟩
theorem rG.fh{N:Nat}{lo hi:Int}{t:Tree}(x:rG N lo hi t):Yv.fh false t:=by rw[Tree.eta t,x.kd];exact qe zm zm zm zm zm x.ok
theorem adn(s:List UInt8)(hs:s.length<16777216):O3 s where
 len:=hs
 lx b o l n e:=by have h:=Pn b o s;rw[e] at h;exact⟨adj h,λm _=>by have:=adk h m;omega,by have:=h.2.2;omega⟩
 er b o p e h:=by have:=Pn b o s;rw[h] at this;exact this
 sm b o l n oi t m e h:=by have g:=Pn b o s;rw[e] at g;have:=adl g hs oi;rw[h] at this;exact this.2.2.adm zo
 no b o oi h:=by have:=V8 s hs b o oi;rw[h] at this;exact this
 EV b o oi p e h:=by have:=V8 s hs b o oi;rw[h] at this;exact this
structure C'(u:dx)(nd:List aC):Prop where
 no:u.is=false->u.d=qG
 nm:u.is=true->u.d.name=u.name
 nd:u.is=true->u.d∈nd
 lc:u.is=true->u.d.kind=7\/u.d.kind=6\/u.d.kind=8->u.d.doc=u.doc/\u.d.at_<u.at_
 im:u.is=true->u.d.kind=1->u.d.doc=u.doc
 kd:u.is=true->u.d.kind≠5/\u.d.kind≠4
section
variable{E:fM}{nd cG jt:List aC}{c c' lo md hi:Int}{m ar:KM}{ms:List KM}{aN:Bool}{s s' s2:WS}{nm:List UInt8}{o:Option aC}
def qJ(E:fM)(nd:List aC)(c:Int)(m:KM):Prop:=∀s d,m s=some d->d.name=s/\(d.kind=6\/d.kind=7\/d.kind=8)/\d.doc=E.j/\d.at_<c/\d∈nd
theorem qJ.up(x:qJ E nd c m)(h:c<=c')(hn:∀d∈nd,d∈cG):qJ E cG c' m:=λs d e=>by obtain⟨a,b,f,g,i⟩:=x s d e;exact⟨a,b,f,by omega,hn d i⟩
theorem qJ.z:qJ E nd c aX:=λs d e=>by cases e
def tG(E:fM)(nd:List aC)(lo:Int):List dx->Int->Prop
 |[],hi=>lo<=hi
 |u::us,hi=>lo<=u.at_/\u.doc=E.j/\C' u nd/\tG E nd (u.at_+1) us hi
theorem C'.up{u:dx}(x:C' u nd)(hn:∀d∈nd,d∈cG):C' u cG:=⟨x.no,x.nm,λe=>hn _ (x.nd e),x.lc,x.im,x.kd⟩
theorem tG.fF:∀{us vs:List dx}{lo:Int},tG E nd lo us md->tG E nd md vs hi->tG E nd lo (us++vs) hi
 |[],[],_,a,b=>avU a b
 |[],_::_,_,a,b=>⟨avU a b.1,b.2⟩
 |_::_,_,_,a,b=>⟨a.1,a.2.1,a.2.2.1,a.2.2.2.fF b⟩
theorem tG.up(hn:∀d∈nd,d∈cG):∀{us:List dx}{lo:Int},tG E nd lo us hi->tG E cG lo us hi
 |[],_,a=>a
 |_::_,_,a=>⟨a.1,a.2.1,a.2.2.1.up hn,a.2.2.2.up hn⟩
theorem tG.len:∀{us:List dx}{lo:Int},tG E nd lo us hi->lo+us.length<=hi
 |[],_,a=>by have a:_<=hi:=a;simp;omega
 |_::_,_,a=>by have:=a.2.2.2.len;have:=a.1;simp only[atX];omega
structure WG(E:fM)(lo hi:Int)(s s':WS):Prop where
 le:lo<=hi
 nd:∀d∈s.sc.nd,d∈s'.sc.nd
 m:qJ E s'.sc.nd hi s'.m
 cW:qJ E s'.sc.nd hi s'.cW
 us:∃new,s'.sc.us=s.sc.us++new/\tG E s'.sc.nd lo new hi
structure xz(E:fM)(jt:List aC)(ms:List KM)(ar:KM)(lo:Int)(s:WS):Prop where
 base:∀d∈jt,d∈s.sc.nd
 ms:∀m∈ms,qJ E s.sc.nd lo m
 ar:qJ E s.sc.nd lo ar
 m:qJ E s.sc.nd lo s.m
 cW:qJ E s.sc.nd lo s.cW
theorem xz.next(x:xz E jt ms ar lo s)(w:WG E lo hi s s'):xz E jt ms ar hi s':=
 ⟨λd h=>w.nd d (x.base d h),λm h=>(x.ms m h).up w.le w.nd,x.ar.up w.le w.nd,w.m,w.cW⟩
theorem WG.trans(a:WG E lo md s s')(b:WG E md hi s' s2):WG E lo hi s s2:=by obtain⟨n1,e1,u1⟩:=a.us;obtain⟨n2,e2,u2⟩:=b.us;exact⟨avU a.le b.le,λd h=>b.nd d (a.nd d h),b.m,b.cW,n1++n2,by rw[e2,e1,av7],(u1.up b.nd).fF u2⟩
theorem xz.self(x:xz E jt ms ar lo s)(h:lo<=hi):WG E lo hi s s:=⟨h,λ_ h=>h,x.m.up h λ_ h=>h,x.cW.up h λ_ h=>h,[],by simp,h⟩
structure Pt(E:fM)(jt:List aC):Prop where
 bu:∀q,∀d∈E.bu q,(d.kind=2\/d.kind=3)/\d∈jt
 kW:∀x∈(E.fs.getD E.j zT).kids,x.kind=2->⟨1,x.name,E.j,x.at,x.name⟩∈jt
def Ij(E:fM)(nd:List aC)(c:Int)(nm:List UInt8)(o:Option aC):Prop:=∀d,o=some d->d.name=nm/\d∈nd/\(d.kind=7\/d.kind=6\/d.kind=8->d.doc=E.j/\d.at_<c)/\(d.kind=1->d.doc=E.j)/\d.kind≠5/\d.kind≠4
theorem qJ.jk(x:qJ E nd c m):Ij E nd c nm (m nm):=λd e=>by obtain⟨a,b,f,g,i⟩:=x nm d e;exact⟨a,i,λ_=>⟨f,g⟩,λ_=>f,by omega,by omega⟩
theorem ado:∀{ms:List KM},(∀m∈ms,qJ E nd c m)->Ij E nd c nm (xk ms nm)
 |[],_=>λd e=>by simp[xk] at e
 |m::ms,h=>by unfold xk;have a:=(h m zm).jk (nm:=nm);split<;>rename_i e;rw[e] at a;exact a;exact ado λm hm=>h m qaO
theorem adp(t:Pt E jt)(hb:∀d∈jt,d∈nd) {q:List UInt8}:Ij E nd c nm (uy (E.bu q) nm):=λd e=>by unfold uy at e;have h1:=avP e;have h2:=axf e;obtain⟨a,b⟩:=t.bu q d h1;exact⟨by simpa using h2,hb d b,λ_=>by omega,λ_=>by omega,by omega,by omega⟩
theorem ams(t:Pt E jt)(hb:∀d∈jt,d∈nd) (hm:∀m∈ms,qJ E nd c m):Ij E nd c nm (qH E ms nm):=by unfold qH EU;have a:=ado (nm:=nm) hm;split<;>rename_i e;rw[e] at a;exact a;split<;>rename_i e2;have h1:=avP e2;have h2:=axf e2;simp at h2;have:=hb _ (t.kW _ h1 h2.1);rw[h2.2] at this;intro d e;cases e;exact⟨rfl,this,λ_=>by simp only at*;omega,λ_=>rfl,by simp,by simp⟩;exact adp t hb
theorem V9(x:xz E jt ms ar lo s){a:Int}(h1:lo<=a)(h2:a+1<=hi)(r:Ij E s.sc.nd a nm o):WG E lo hi s ⟨s.m,s.cW,lD E a nm o s.sc⟩:=by
 have hx:lo<=hi:=zo;refine⟨hx,λ_ h=>h,x.m.up hx λ_ h=>h,x.cW.up hx λ_ h=>h,_,rfl,h1,rfl,?_,h2⟩;cases o with
 |none=>exact⟨λ_=>rfl,nofun,nofun,nofun,nofun,nofun⟩
 |some d=>
  obtain⟨a,b,c,e,f⟩:=r d rfl;exact⟨nofun,λ_=>a,λ_=>b,λ_=>c,λ_=>e,λ_=>f⟩
theorem Wa(x:qJ E nd c m){d:aC}(h1:d.kind=6\/d.kind=7\/d.kind=8)(h2:d.doc=E.j)(h3:d.at_<c):qJ E (d::nd) c (rA m d.name d):=λs e h=>by unfold rA at h;split at h<;>rename_i q;cases h;exact⟨q.symm,h1,h2,h3,by simp⟩;obtain⟨a,b,f,g,i⟩:=x s e h;exact⟨a,b,f,g,by simp[i]⟩
theorem adq(x:xz E jt ms ar lo s){d:aC}(hh:lo<=hi)(h1:d.kind=6\/d.kind=7\/d.kind=8)(h2:d.doc=E.j)(h3:d.at_<hi):WG E lo hi s (HK d s):=
 ⟨hh,λ_ h=>.tail _ h,Wa (x.m.up hh λ_ h=>h) h1 h2 h3,x.cW.up hh λ_ h=>.tail _ h,[],by simp[HK,HJ,K4],hh⟩
theorem amt(x:xz E jt ms ar lo s){d:aC}(hh:lo<=hi)(h1:d.kind=6\/d.kind=7\/d.kind=8)(h2:d.doc=E.j)(h3:d.at_<hi):WG E lo hi s (EW d s):=
 ⟨hh,λ_ h=>.tail _ h,x.m.up hh λ_ h=>.tail _ h,Wa (x.cW.up hh λ_ h=>h) h1 h2 h3,[],by simp[EW,HJ,K4],hh⟩
def Pu(E:fM)(jt:List aC)(t:Tree):Prop:=∀lo hi aN ms ar s,gX lo hi t->xz E jt ms ar lo s->WG E lo hi s (fU E ms aN ar t s)
theorem Fi:∀{ts:List Tree}{lo:Int}{s:WS},(∀t∈ts,Pu E jt t)->gZ lo hi ts->xz E jt ms ar lo s->WG E lo hi s (jF E ms aN ar ts s)
 |[],_,_,_,o,x=>by unfold jF;exact x.self o
 |t::ts,_,_,h,⟨md,o1,o2⟩,x=>by unfold jF;have a:=h t zm _ _ aN ms ar _ o1 x;exact a.trans (Fi (λt ht=>h t qat) o2 (x.next a))
theorem amu:∀{t:Tree}{lo hi:Int},t.kind≠0->gX lo hi t->t.at<hi
 |.mk k _ _ a _ ks,lo,hi,e,h=>by have e:k≠0:=e;unfold gX at h;show a<hi;split at h;omega;split at h;have:=h.2.le;omega;omega
theorem adr:∀{ts:List Tree}{lo:Int}{s:WS},(∀t∈ts,Pu E jt t)->gZ lo hi ts->xz E jt [] aX lo s->WG E lo hi s (oD E ts s)
 |[],_,_,_,o,x=>by unfold oD;exact x.self o
 |t::ts,lo,s,h,⟨md,o1,o2⟩,x=>by
  unfold oD;have a:=h t zm _ _ false [] aX ⟨aX,aX,s.sc⟩ o1 ⟨x.base,x.ms,x.ar,.z,.z⟩;have b:WG E lo md s ⟨s.m,s.cW,(fU E [] false aX t ⟨aX,aX,s.sc⟩).sc⟩:=⟨a.le,a.nd,x.m.up a.le a.nd,x.cW.up a.le a.nd,a.us⟩;have y:=x.next b;have c:WG E lo md s (tj E t ⟨s.m,s.cW,(fU E [] false aX t ⟨aX,aX,s.sc⟩).sc⟩):=by unfold tj;split<;>rename_i q;exact b;exact b.trans (adq y (atY _) (.inl rfl) rfl (amu q o1))
  exact c.trans (adr (λt ht=>h t qat) o2 (x.next c))
theorem ads:∀{t:Tree}{lo hi:Int},gX lo hi t->gZ lo hi t.kids
 |.mk k _ _ a _ ks,lo,hi,h=>by unfold gX at h;show gZ lo hi ks;split at h;exact h.1.up (atY _) zo;split at h;exact h.2.up zo (atY _);exact h.2
theorem adt(t:Pt E jt):∀(n:Nat)(x:Tree),sizeOf x<n->Pu E jt x
 |0,x,h=>zo
 |n+1,x,hn=>by
  intro lo hi aN ms ar s o p;have ih:=adt t n;have ik:∀t'∈x.kids,Pu E jt t':=λt' h=>ih t' (by have:=HN h;omega);have o':=o;rw[Tree.eta x] at o';unfold gX at o'
  by_cases n5:x.kind=5
  rw[n5,atS zd,atS zd] at o';have ol:=o'.2
  by_cases q:∃k0 k1 k2 k3,x.kids=[k0,k1,k2,k3]
  obtain⟨k0,k1,k2,k3,q⟩:=q;rw[ab3 n5 q];rw[q] at ol;obtain⟨m1,o1,m2,o2,m3,o3,m4,o4,o5⟩:=ol;have h1:k1∈x.kids:=by rw[q];simp
  have h3:k3∈x.kids:=by rw[q];simp
  have a:=adr (ts:=k0::k1.kids) (s:=⟨aX,aX,s.sc⟩) (λt' h=>by rcases atZ.1 h with e|e;rw[e];exact ik k0 (by rw[q];simp);exact ih t' (by have:=OJ h1 e;omega)) (.cons o1 (ads o2)) ⟨p.base,λ_ h=>(by cases h),.z,.z,.z⟩
  generalize oD E (k0::k1.kids) ⟨aX,aX,s.sc⟩=P at a⊢;have b:=ik k2 (by rw[q];simp) _ _ false [] aX ⟨aX,aX,P.sc⟩ o3 ⟨λd h=>a.nd d (p.base d h),λ_ h=>(by cases h),.z,.z,.z⟩;generalize fU E [] false aX k2 ⟨aX,aX,P.sc⟩=Q at b⊢;have c:=Fi (ms:=[aX]) (ar:=aX) (aN:=true) (s:=⟨P.m,P.cW,Q.sc⟩) (ts:=k3.kids) (λt' e=>ih t' (by have:=OJ h3 e;omega)) (ads o4) ⟨λd h=>b.nd d (a.nd d (p.base d h)),λm h=>(by simp at h;subst h;exact .z),.z,a.m.up b.le b.nd,a.cW.up b.le b.nd⟩;generalize jF E [aX] true aX k3.kids ⟨P.m,P.cW,Q.sc⟩=R at c⊢;have le:lo<=hi:=by have:=a.le;have:=b.le;have:=c.le;have o5:m4<=hi:=o5;omega
  have nd:∀d∈s.sc.nd,d∈R.sc.nd:=λd h=>c.nd d (b.nd d (a.nd d h));obtain⟨u1,e1,v1⟩:=a.us;obtain⟨u2,e2,v2⟩:=b.us;obtain⟨u3,e3,v3⟩:=c.us;refine⟨le,nd,p.m.up le nd,p.cW.up le nd,u1++(u2++(u3++[])),?_,(v1.up λd h=>c.nd d (b.nd d h)).fF ((v2.up c.nd).fF (v3.fF (md:=m4) (vs:=[]) o5))⟩;rw[e3,e2,e1];simp;have e:fU E ms aN ar x s=s:=by rw[Tree.eta x];unfold fU;rw[atV n5];split;rename_i k0 _ _ _ _ _ ps k2 _ _ _ _ _ bs e;exact absurd ⟨_,_,_,_,e⟩ q;rfl
  rw[e];exact p.self o.le
  by_cases n1:x.kind=10\/x.kind=15
  rw[abZ n1];have k1:Az x.kind=false:=by rcases n1 with e|e<;>rw[e]<;>decide
  have k2:BG x.kind=false:=by rcases n1 with e|e<;>rw[e]<;>decide
  rw[atS (by simp[k1]),atS (by simp[k2])] at o';have a:=Fi (aN:=true) (ms:=s.m::ms) (ar:=ar) (s:=⟨aX,s.cW,s.sc⟩) ik o'.2 ⟨p.base,λm h=>by rcases atZ.1 h with e|e;rw[e];exact p.m;exact p.ms m e,p.ar,.z,p.cW⟩
  exact⟨a.le,a.nd,p.m.up a.le a.nd,a.cW,a.us⟩
  by_cases n2:x.kind=16
  rw[ab0 n2];rw[n2,atS zd,atV zd] at o';have a:=amt (hi:=x.at+1) (d:=kj E 8 x.name x.at) p zo (.inr (.inr rfl)) rfl (by simp only[kj];omega);have y:=p.next a;have u:qJ E (EW (kj E 8 x.name x.at) s).sc.nd (x.at+1) (rA ar x.name (kj E 8 x.name x.at)):=Wa (d:=kj E 8 x.name x.at) (p.ar.up zo λ_ h=>h) (.inr (.inr rfl)) rfl (by simp only[kj];omega);exact a.trans (Fi ik o'.2 ⟨y.base,y.ms,u,y.m,y.cW⟩);rw[abV n5 n1 n2];have pl:∀{c:Int}{s:WS},xz E jt ms ar c s->∀nm,Ij E s.sc.nd c nm (qH E (rC aN ms s.m) nm):=λy nm=>by refine ams t y.base λm h=>?_;unfold rC at h;split at h;rcases atZ.1 h with e|e;rw[e];exact y.m;exact y.ms m e;cases h
  split at o'<;>rename_i c1;have e1:oH E ms aN ar x.kind x.at x.name s=s:=by simp[Az] at c1;unfold oH;rw[atS zo,atS zo]
  rw[e1];have a:=Fi (aN:=aN) ik o'.1 p;have y:=p.next a;refine a.trans ?_;generalize jF E ms aN ar x.kids s=s2 at y⊢;have dA:x.at<=hi:=zo;unfold qI;rw[atS (by simp[Az] at c1;omega)];split;split;split;split;split;exact V9 y (atY _) o'.2 (adp t y.base);exact y.self dA;exact y.self dA;exact y.self dA;exact y.self dA;exact y.self dA;split at o'<;>rename_i c2;have a:WG E lo (x.at+1) s (oH E ms aN ar x.kind x.at x.name s):=by
   unfold oH;split;exact V9 p o'.1 (atY _) (p.ar.up o'.1 λ_ h=>h).jk;split;exact V9 p o'.1 (atY _) λd e=>by obtain⟨a,b,c,f⟩:=pl p _ d e;exact⟨a,b,λh=>⟨(c h).1,by have:=(c h).2;omega⟩,f⟩
   exact p.self zo
  have y:=p.next a;have b:=Fi (aN:=aN) ik o'.2 y;have z:=y.next b;refine a.trans (b.trans ?_);generalize jF E ms aN ar x.kids (oH E ms aN ar x.kind x.at x.name s)=s2 at z⊢;unfold qI;split;exact adq z (atY _) (.inr (.inl rfl)) rfl (by simp only[kj];have:=o'.2.le;omega);rw[atS (by simp[Az] at c1;omega)];exact z.self (atY _);have e1:oH E ms aN ar x.kind x.at x.name s=s:=by simp[BG] at c2;unfold oH;rw[atS zo,atS zo]
  rw[e1];have a:=Fi (aN:=aN) ik o'.2 p;have e2:∀s2,qI E ms aN x.kind x.at x.name x.kids s2=s2:=λs2=>by simp[BG] at c2;simp[Az] at c1;unfold qI;rw[atS zo,atS zo]
  rw[e2];exact a
end
end Yv
