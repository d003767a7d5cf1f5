/- A part of the proof of 'ScopeOwnUptoCardSaid'. No condition. -/
import Derived.Test.YtpllhjebgjcigaaGreatDoorX05
set_option maxHeartbeats 16000000
set_option maxRecDepth 100000
set_option linter.all false
namespace Yv
variable{T:aM->Option CF}
@[simp ↓] theorem asp{b:Bool}{x y:Prop}:rU undef b x y=y:=(rfl)
section
variable{h hh:Hp}{c tb n:Nat}{l:List Tk}{op:Int}{hd:Bool}{k:aK->Prop}
variable{ex:Int->Bool->Int->Nat->PR Tree}
theorem cU.Oa{lo kS:Nat}{gT:Int}{bC:Bool}{h1:Hp}{k1:aK->Prop}{r:PR Tree}{f:Tree->Nat->PR Tree}(hk:cU lo c tb l op hd h k (r.bind f))(g:Pg c h h1)(hp:∀v h2,k (.bn v h2)->k1 (.bn v h2))
 (ho:∀t m,cU lo c tb l op hd h k (f t m)->∀h2 row,Pg c h1 h2->bp h2 c tb l m gT bC->ay kS h2 t row->m<l.length->0<m->k1 (.ret (.agg row) h2)):cU kS c tb l gT bC h1 k1 r:=by
 cases r with
 |dN=>exact hk
 |er p e=>exact λh2 g2=>hp _ _ (hk h2 (g.trans g2))
 |ok t m=>exact ho t m hk
theorem Kr(HT:aA T)(hs:fc l)(E:pW T c tb l ex)(o0:0<=op)(o1:op<=128){F:Nat}(hF:F<8589934592){xb rb:Nat}(wV:c<hh.nx)(Hl:hh.nx<=xb)(Ho:hh.nx<=rb)(Hq:xb≠rb):∀(g n:Nat)(h:Hp)(x:Tree)(row:List AV)(f:Fr),
 Pg c hh h->bp h c tb l n op hd->n<l.length->0<n->h.get xb=.one 39 row->ay hh.nx h x row->h.get rb=.one 39 [.i 0,.i 0,.i 0,.i 0,S [],.bx]->
 J 0 f=.ptr c 0->J 2 f=.ptr rb 0->J 3 f=.ptr xb 0->cU hh.nx c tb l op hd hh k (ye l F ex op hd g x n)->
 W T (.loop l148_0) f h [] (bY 0 (finish T (W T) [.cell 6 true 2] k))
 |0,_,_,_,_,_,_,_,_,_,_,_,_,_,_,_,hk=>hk.elim
 |g+1,n,h,x,row,f,gg,hc,hn,hz,hx,nd,hr,f0,f2,f3,hk=>by
  obtain⟨kv,rfl,hkv,nk⟩:=nd.shape;have hcx:=hc.lt;have hcy:=hc.dW;have zt:xb≠tb:=by rintro rfl;obtain⟨_,⟨r,t,ht,_⟩,_⟩:=hc;rw[hx] at ht;cases ht
  have zr:rb≠tb:=by rintro rfl;obtain⟨_,⟨r,t,ht,_⟩,_⟩:=hc;rw[hr] at ht;cases ht
  have y1:=Hp.lt hx rfl;have y2:=Hp.lt hr rfl;rw[aP];show W T (.block 1 (.block 2 (.seq (.af r148_2) (.cond (.t 11) (.seq (.af r148_3) (.seq (.af r148_4) (.seq (.af r148_5) (.seq (.seq (.af r148_6) (.cond (.t 33) (.af r148_7) .skip)) (.seq (.af r148_8) (.seq (.af r148_9) (.cond (.t 46) (.af r148_10) .skip))))))) (.seq (.af r148_11) (.cond (.t 50) (.seq (.af r148_12) (.seq (.af r148_13) (.aR r148_14))) (.seq (.af r148_15) .ret))))))) f h [] _;generalize Hh:CC.seq (.af r148_8) (.seq (.af r148_9) (.cond (.t 46) (.af r148_10) .skip))=TC;have tail:∀(H:Hp)(f:Fr)(t4:Nat)(q:Int),Pg c h H->bp H c tb l (n+1+1) op hd->n+1+1<l.length->h.nx<=t4->H.get t4=.one 74 (tk l (n+1)).row->J 0 f=.ptr c 0->J 2 f=.ptr rb 0->J 3 f=.ptr xb 0->J 4 f=.ptr t4 0->J 5 f=.i q->
   (q=26/\cU hh.nx c tb l op hd hh k (ye l F ex op hd g (aV l (n+1+1) 26 x.ak (tk l (n+1)).ak (tk l (n+1)).text [x]) (n+1+1))\/
    q=9/\cU hh.nx c tb l op hd hh k ((Cv l F ex op (aV l (n+1+1) 9 x.ak (tk l (n+1)).ak (tk l (n+1)).text [x]) (n+1+1)).bind λy o=>ye l F ex op hd g y o))->
   W T TC f H [] (bY 2 (bY 1 (bF (W T (.loop l148_0)) (bY 0 (finish T (W T) [.cell 6 true 2] k))))):=by
   intro H f t4 q gH cH hm ht Hr f0 f2 f3 f4 f5 hk;have eH:=gp gH;have nH:=gH.nx;have wH:=cH.lt;have wH2:=cH.dW;have u4:=Hp.lt Hr rfl;subst Hh;rcases hk with⟨rfl,hk⟩|⟨rfl,hk⟩;refine mz f0 f2 f3 f4 f5 eH hx Hr Tk.row.eq_1 ?_;refine gS HT (cH.push _) zo rfl λh1 g1=>?_;obtain⟨n1,e1⟩:=bH g1;have mV:h1.get xb=.one 39 [.i x.kind,.i x.ak,.i x.to,.i x.at,S x.name,kv]:=cX e1 eH hx;refine nA f0 f2 f3 f4 f5 e1 eH hx Hr Tk.row.eq_1 ?_;refine Kr HT hs E o0 o1 hF wV Hl Ho Hq g (n+1+1) _ (aV l (n+1+1) 26 x.ak (tk l (n+1)).ak (tk l (n+1)).text [x]) _ _ (fH e1 eH (gp gg)) (((cH.push _).mono g1).set _ zo zo) hm zo (Hp.bR rfl) (ay.of (t:=aV l (n+1+1) 26 x.ak (tk l (n+1)).ak (tk l (n+1)).text [x]) ?_)
    (cX e1 eH hr) zA zA zA hk
   exact vD ((Hp.de zo).trans ((e1 _ zq).trans (Hp.br aa))) zl zo
    qay
   refine mz f0 f2 f3 f4 f5 eH hx Hr Tk.row.eq_1 ?_;refine gS HT (cH.push _) zo rfl λh1 g1=>?_;obtain⟨n1,e1⟩:=bH g1;have mV:h1.get xb=.one 39 [.i x.kind,.i x.ak,.i x.to,.i x.at,S x.name,kv]:=cX e1 eH hx;refine nA f0 f2 f3 f4 f5 e1 eH hx Hr Tk.row.eq_1 ?_;have key:ay hh.nx (h1.set xb (.one 39 [.i 9,.i x.ak,.i (tk l (n+1)).to,.i (tk l (n+1)).ak,S (tk l (n+1)).text,.slice H.nx 0 6 1 1 true])) (aV l (n+1+1) 9 x.ak (tk l (n+1)).ak (tk l (n+1)).text [x]) [.i 9,.i x.ak,.i (tk l (n+1)).to,.i (tk l (n+1)).ak,S (tk l (n+1)).text,.slice H.nx 0 6 1 1 true]:=by
    refine ay.of (t:=aV l (n+1+1) 9 x.ak (tk l (n+1)).ak (tk l (n+1)).text [x]) ?_;exact vD ((Hp.de zo).trans ((e1 _ zq).trans (Hp.br aa))) zl zo
     qay
   refine aaD HT hs E (((cH.push _).mono g1).set _ zo zo) hm o0 o1 hF key wV (by simp only[Hp.tT,Hp.eE,Hp.iy];have:=gg.nx;omega) (hk.Oa (fH e1 eH (gp gg)) (λv h2 hv=>by refine ag ?_;exact hv) λt m hk h2 row g2 c2 cZ Hg Bd=>?_);obtain⟨n2,e2⟩:=bw g2;have kT:h2.get xb=.one 39 [.i 9,.i x.ak,.i (tk l (n+1)).to,.i (tk l (n+1)).ak,S (tk l (n+1)).text,.slice H.nx 0 6 1 1 true]:=au e2;obtain⟨zX,rfl,wW,Ob⟩:=cZ.shape;refine cq f0 f2 f3 e2 e1 eH ?_;exact Kr HT hs E o0 o1 hF wV Hl Ho Hq g m _ t _ _ (qB e2 e1 eH (gp gg)) (c2.set _ zo zo) Hg Bd (Hp.bR rfl) (ay.nf ((NF.refl h2).set _ kT) zo _ _ cZ)
    (mw e2 e1 eH hr) zA zA zA hk
  unfold ye at hk;refine cC f0 f2 f3 hx hr ?_;refine ke HT (hc.push _) hn (cY.one (x:=[46]) (Hp.br zm) zl zm) zm λh1 g1=>?_;obtain⟨n1,e1⟩:=bH g1;have c1:=(hc.push _).mono g1;cases e:bD (tk l n) [[46]] with
  |true=>
   rw[atV e] at hk;have cV:=lT hs hn e;refine bK e f0 f2 f3 ?_;refine vB HT c1 hn λh2 g2 c2=>?_;obtain⟨n2,e2⟩:=bw g2;refine aU f0 f2 f3 ?_;refine Eo HT c2 cV (λek h3 g3 c3=>?_) λek h3 g3=>?_;simp only[jR,atV ek,Ty] at hk;have jB:=wT hs cV ek zd;obtain⟨n3,e3⟩:=bw g3
   by_cases e25:x.kind=25
   cases hd with
   |true=>
    rw[atS zm] at hk;obtain⟨⟨cap,Ey,q4⟩,_⟩:=id c3;refine nA f0 f2 f3 e3 e2 e1 hx e25 q4 Tk.row.eq_1 ?_;exact tail _ _ h3.nx 26 (fH e3 e2 e1) ((c3.push _).set _ zo zo) jB zo (Hp.bR rfl) zA zA zA aa aa (.inl ⟨rfl,hk⟩)
   |false=>
    obtain⟨⟨cap,Ey,q4⟩,_⟩:=id c3;refine nA f0 f2 f3 e3 e2 e1 hx e25 q4 Tk.row.eq_1 ?_;refine ke HT (((c3.push _).set _ zo zo).push _) jB (cY.one (x:=[123]) (Hp.br zm) zl zm) zm λh4 g4=>?_;obtain⟨n4,e4⟩:=bH g4;have c4:=(((c3.push _).set _ zo zo).push _).mono g4;cases eb:bD (tk l (n+1+1)) [[123]] with
    |true=>
     rw[atV ⟨e25,rfl,eb⟩] at hk;refine aB eb ?_;exact tail _ _ h3.nx 9 (qB e4 e3 e2 e1) c4 jB zo (by refine aB e4 ?_;rfl) zA zA zA aa aa (.inr ⟨rfl,hk⟩)
    |false=>
     rw[atS qaV] at hk;refine aB eb ?_;exact tail _ _ h3.nx 26 (qB e4 e3 e2 e1) c4 jB zo (by refine aB e4 ?_;rfl) zA zA zA aa aa (.inl ⟨rfl,hk⟩)
   rw[atS (by simp[e25])] at hk;refine mz f0 f2 f3 e3 e2 e1 hx e25 Tk.row.eq_1 ?_;exact tail _ _ h3.nx 26 (fH e3 e2 e1) ((c3.push _).set _ zo zo) jB zo (Hp.bR rfl) zA zA zA aa aa (.inl ⟨rfl,hk⟩);simp only[jR,atS ek,ahT] at hk;obtain⟨n3,e3⟩:=bw g3;refine ag ?_;exact hk.er (qB e3 e2 e1 (gp gg))
  |false=>
   rw[atS qaW] at hk;refine bK e f0 f2 f3 ?_;refine ke HT (c1.push _) hn (cY.one (x:=[40]) (Hp.br zm) zl zm) zm λh2 g2=>?_;obtain⟨n2,e2⟩:=bH g2;have c2:=(c1.push _).mono g2;have lU:h2.get rb=.one 39 [.i 0,.i 0,.i 0,.i 0,S [],.bx]:=cX e2 e1 hr;have kT:h2.get xb=.one 39 [.i x.kind,.i x.ak,.i x.to,.i x.at,S x.name,kv]:=cX e2 e1 hx;have gv:Pg c hh h2:=(fH e2 e1 (gp gg));have cZ:ay hh.nx h2 x [.i x.kind,.i x.ak,.i x.to,.i x.at,S x.name,kv]:=ay.nf (((((NF.refl h).push _).g0 g1).push _).g0 g2) zo _ _ nd;have b8:∀f:Fr,J 2 f=.ptr rb 0->J 3 f=.ptr xb 0->cU hh.nx c tb l op hd hh k (.ok x n)->W T (.seq (.af r148_15) .ret) f h2 [] (bY 2 (bY 1 (bF (W T (.loop l148_0)) (bY 0 (finish T (W T) [.cell 6 true 2] k))))):=by intro f f2 f3 hk;refine bK f2 f3 kT lU ?_;exact hk _ _ (iQ (gp gv)) (c2.set _ zo zo) (ay.nf ((NF.refl h2).set _ lU) zo _ _ cZ) hn hz
   generalize hFC:CC.seq (.af r148_15) .ret=FC at b8;cases ep:bD (tk l n) [[40]] with
   |false=>
    rw[atS (by simp[ep])] at hk;refine cC ep f0 f2 f3 kT ?_;exact b8 _ zA zA hk
   |true=>
    have call:∀f:Fr,J 0 f=.ptr c 0->J 2 f=.ptr rb 0->J 3 f=.ptr xb 0->cU hh.nx c tb l op hd hh k ((Kj l F ex op n).bind λts m=>ye l F ex op hd g (aV l m 27 x.ak (tk l n).ak [] (x::ts)) m)->
     W T (.seq (.af r148_12) (.seq (.af r148_13) (.aR r148_14))) f h2 [] (bY 2 (bY 1 (bF (W T (.loop l148_0)) (bY 0 (finish T (W T) [.cell 6 true 2] k))))):=by
     intro f f0 f2 f3 hk;refine bK f0 f2 f3 kT ?_;refine qC HT c2 hn λh3 g3=>?_;obtain⟨n3,e3⟩:=bH g3;have c3:=c2.mono g3;refine cq f0 f2 f3 e3 kT Tk.row.eq_1 ?_;refine aaA HT hs E c3 hn o0 o1 hF (hk.Eu (eF e3 (gp gv)) (λv h2 hv=>by refine ag ?_;exact hv) λts m jh hk h4 Ez g4 c4 hm hz zY zZ=>?_);have bz:=aat jh;obtain⟨n4,e4⟩:=bw g4;obtain⟨m,rfl⟩:∃q,m=q+1:=⟨m- 1,by omega⟩;have Ep:h4.get xb=.one 39 [.i x.kind,.i x.ak,.i x.to,.i x.at,S x.name,kv]:=cX e4 e3 kT;have CE:h4.get rb=.one 39 [.i 0,.i 0,.i 0,.i 0,S [],.bx]:=cX e4 e3 lU;have uh:Pg c hh h4:=(fH e4 e3 (gp gv));have rW:ay hh.nx h4 x [.i x.kind,.i x.ak,.i x.to,.i x.at,S x.name,kv]:=ay.nf (((NF.refl h2).g0 g3).gp g4 wV) zl _ _ cZ
     by_cases jh:ts=[]
     subst jh;simp only[dO] at zZ;subst zZ;refine cC f0 f2 f3 Ep hkv ?_;rw[NK (rs:=[]) rfl rfl];refine cC f0 f2 f3 Ep hkv ?_;refine gS HT (c4.push _) zo rfl λh5 g5=>?_;obtain⟨n5,e5⟩:=bH g5;have Be:h5.get xb=.one 39 [.i x.kind,.i x.ak,.i x.to,.i x.at,S x.name,kv]:=bV e5 Ep;refine bK f0 f2 f3 Be ?_;refine Kr HT hs E o0 o1 hF wV Hl Ho Hq g (m+1) _ (aV l (m+1) 27 x.ak (tk l n).ak [] [x]) _ _ (eF e5 (gp uh)) (((c4.push _).mono g5).set _ zo zo) hm zo (Hp.bR rfl) (ay.of (t:=aV l (m+1) 27 x.ak (tk l n).ak [] [x]) ?_)
      (bV e5 CE) zA zA zA hk
     exact vD ((Hp.de zo).trans ((e5 _ zq).trans (Hp.br aa))) zl zo
      (by simp only[dZ,auo];exact ay.nf ((((NF.refl h4).push _).g0 g5).set _ Be) zo _ _ rW)
     obtain⟨b,cap,Hf,r,fr,rfl,hb,Bg,wF,nr⟩:=zZ.rows jh;obtain⟨q,hq⟩:∃q,ts.length=q+1:=⟨ts.length- 1,by have:=auA.2 jh;omega⟩;refine cC f0 f2 f3 Ep hkv ?_;have xb':=Hp.lt hb rfl;rw[G2 (n:=q) zo (Hp.br rfl) (at2 1) (Ke zo (by rw[Hp.qZ xb'];exact hb) Bg) (by rw[hq];rfl) (rV zo zo)];refine cC f0 f2 f3 Ep hkv ?_;rw[show 1+(q+1)=ts.length+1 from by omega];refine gS HT ((c4.push _).push _) zo rfl λh5 g5=>?_;obtain⟨n5,e5⟩:=bH g5;have Be:h5.get xb=.one 39 [.i x.kind,.i x.ak,.i x.to,.i x.at,S x.name,kv]:=bV e5 Ep;refine bK f0 f2 f3 Be ?_;refine Kr HT hs E o0 o1 hF wV Hl Ho Hq g (m+1) _ (aV l (m+1) 27 x.ak (tk l n).ak [] (x::ts)) _ _ (eF e5 (gp uh)) ((((c4.push _).push _).mono g5).set _ zo zo) hm zo (Hp.bR rfl) (ay.of (t:=aV l (m+1) 27 x.ak (tk l n).ak [] (x::ts)) ?_)
      (bV e5 CE) zA zA zA hk
     refine aaC ((Hp.de zo).trans ((e5 _ zq).trans (Hp.br aa))) zl zo ?_ ?_;rw[wO (by simp[dw])];simp only[dw,dY,dZ,auo,auY,aus];exact ay.nf (((((NF.refl h4).push _).push _).g0 g5).set _ Be) zo _ _ rW;refine Kp (f:=fr) (λj hj=>?_) (eR.nf (((((NF.refl h4).push _).push _).g0 g5).set _ Be) zo _ _ nr);have pO:j<(dw fr ts.length 0).length:=by rw[oZ];exact hj
     rw[wO (by simp[dw,oZ];omega)];simp only[dw,dY,dZ,auo,auY,au5,auu];have:=vw fr ts.length 0 j hj;rw[atT pO] at this;simpa using this
    generalize hPC:CC.seq (.af r148_12) (.seq (.af r148_13) (.aR r148_14))=PC at call
    by_cases e25:x.kind=25
    rw[atV ⟨ep,.inl e25⟩] at hk;refine cq ep f0 f2 f3 kT e25 ?_;exact call _ zA zA zA hk
    by_cases e26:x.kind=26
    rw[atV ⟨ep,.inr e26⟩] at hk;refine cq ep f0 f2 f3 kT e26 ?_;exact call _ zA zA zA hk;rw[atS (by simp[e25,e26])] at hk;refine iR ep f0 f2 f3 kT e25 e26 ?_;exact b8 _ zA zA hk
end
section
variable{h hh:Hp}{c tb n:Nat}{l:List Tk}{op:Int}{hd:Bool}{k:aK->Prop}
variable{ex:Int->Bool->Int->Nat->PR Tree}
theorem cY.wX{b r cap ex t}{x y:List UInt8}(hb:h.get b=.rows 9 1 r 0 t)(hr:2<=r)(h0:t 0=[S x])(h1:t 1=[S y]):cY h (.slice b 0 1 2 cap ex) [x,y]:=
 ⟨b,cap,ex,r,t,rfl,hb,hr,λj hj=>by
  have:j=0\/j=1:=by simp at hj;omega
  rcases this with rfl|rfl<;>assumption⟩
theorem TD(HT:aA T)(hs:fc l)(E:pW T c tb l ex)(hc:bp h c tb l n op hd)(hn:n<l.length)(o0:0<=op)(o1:op<=128){F:Nat}(hF:F<8589934592)
 (hk:lS c tb l op hd h k (yf l F ex op hd n)):aE T (W T) ⟨148⟩ [.ptr c 0] h k:=by
 rw[aJ HT.t148];have hx:=hc.lt;have hy:=hc.dW;unfold yf at hk;refine ag ?_;refine ahY HT hs E (hc.push _) hn o0 o1 hF (hk.sub aZ (λv h2 hv=>by refine ag ?_;exact hv) λt m hk h2 row g2 c2 nd hm hz=>?_);obtain⟨n2,e2⟩:=bw g2;obtain⟨kv,rfl,hkv,nk⟩:=nd.shape;refine aB e2 ?_;exact Kr HT hs E o0 o1 hF (hh:=h) (xb:=h2.nx) (rb:=h.nx) hx zo zl zo F m _ t _ _ (iQ e2) ((c2.push _).set _ zo zo) hm hz (Hp.bR rfl)
  (ay.nf (((NF.refl h2).push _).new _ zo) zq _ _ nd) (au e2) aa aa aa hk
theorem aaE(HT:aA T)(hs:fc l)(E:pW T c tb l ex)(o0:0<=op)(o1:op<=128){F:Nat}(hF:F<8589934592):∀(g n:Nat)(h:Hp)(k:aK->Prop),bp h c tb l n op hd->n<l.length->
 lS c tb l op hd h k (G8 l F ex op hd g n)->aE T (W T) ⟨172⟩ [.ptr c 0] h k
 |0,_,_,_,_,_,hk=>hk.elim
 |g+1,n,h,k,hc,hn,hk=>by
  rw[aJ HT.t172];have hx:=hc.lt;have hy:=hc.dW;unfold G8 at hk;refine ag ?_;refine ke HT ((hc.push _).push _) hn (cY.wX (x:=[45]) (y:=[33]) (Hp.br zm) zl zm zm) zm λh1 g1=>?_;obtain⟨n1,e1⟩:=bH g1;have c1:=((hc.push _).push _).mono g1;cases e:bD (tk l n) [[45],[33]] with
  |true=>
   rw[atV e] at hk;have cV:=lT hs hn e;refine aB e ?_;refine vB HT c1 hn λh2 g2 c2=>?_;obtain⟨n2,e2⟩:=bw g2;refine aB Tk.row.eq_1 ?_;refine aaE HT hs E o0 o1 hF g (n+1) _ _ ((c2.push _).set _ zo zo) cV (hk.sub (eF e2 e1) (λv h2 hv=>by refine ag ?_;exact hv) λt m hk h3 row g3 c3 nd hm hz=>?_);obtain⟨n3,e3⟩:=bw g3;obtain⟨m,rfl⟩:∃q,m=q+1:=⟨m- 1,by omega⟩;obtain⟨kv,rfl,hkv,nk⟩:=nd.shape;refine bK e3 e2 e1 Tk.row.eq_1 ?_;refine gS HT (((c3.push _).set _ zo zo).push _) zo rfl λh4 g4=>?_;obtain⟨n4,e4⟩:=bH g4;refine bK e4 e3 e2 e1 ?_;refine hk _ _ (qB e4 e3 e2 e1) (((((c3.push _).set _ zo zo).push _).mono g4).set _ zo zo) ?_ hm hz;refine ay.of (t:=aV l (m+1) 30 (tk l n).ak (tk l n).ak (tk l n).text [t]) ?_;exact vD ((Hp.de zo).trans ((e4 _ zq).trans (Hp.br aa))) zl zo
    (by simp only[dZ,auo];exact ay.nf (((((NF.refl h3).push _).new _ zo).push _).g0 g4|>.vC _ zq) zq _ _ nd)
  |false=>
   rw[atS qaf] at hk;refine aB e ?_;rw[<-Hi (yf l F ex op hd n)] at hk;refine TD HT hs E c1 hn o0 o1 hF (hk.sub (iQ e1) (λv h2 hv=>by refine ag ?_;exact hv) λt m hk h2 row g2 c2 nd hm hz=>?_);obtain⟨n2,e2⟩:=bw g2;obtain⟨kv,rfl,hkv,nk⟩:=nd.shape;refine aS e2 e1 ?_;exact hk _ _ (eF e2 e1) (c2.set _ zo zo) (ay.nf ((NF.refl h2).vC _ zo) zo _ _ nd) hm hz
theorem ahZ(hs:fc l)(hn:n<l.length)(hp:0<Bb (tk l n)):n+1<l.length:=by refine hs n hn λh0=>?_;simp[Bb,h0] at hp
theorem aaF(HT:aA T)(hs:fc l)(E:pW T c tb l ex)(o0:0<=op)(o1:op<=128){dS:Int}(ls:0<=dS){xb rb:Nat}(wV:c<hh.nx)(Hl:hh.nx<=xb)(Ho:hh.nx<=rb)(Hq:xb≠rb):∀(g n:Nat)(h:Hp)(x:Tree)(row:List AV)(f:Fr),
 Pg c hh h->bp h c tb l n op hd->n<l.length->0<n->h.get xb=.one 39 row->ay hh.nx h x row->h.get rb=.one 39 [.i 0,.i 0,.i 0,.i 0,S [],.bx]->
 J 0 f=.ptr c 0->J 1 f=.i dS->J 4 f=.ptr rb 0->J 5 f=.ptr xb 0->cU hh.nx c tb l op hd hh k (G9 l ex op hd dS g x n)->
 W T (.loop l147_0) f h [] (bY 0 (bF (W T (.seq (.af r147_6) .ret)) (finish T (W T) [.cell 6 true 4] k)))
 |0,_,_,_,_,_,_,_,_,_,_,_,_,_,_,_,_,hk=>hk.elim
 |g+1,n,h,x,row,f,gg,hc,hn,hz,hx,nd,hr,f0,f1,f4,f5,hk=>by
  obtain⟨kv,rfl,hkv,nk⟩:=nd.shape;have hcx:=hc.lt;have hcy:=hc.dW;have zt:xb≠tb:=by rintro rfl;obtain⟨_,⟨r,t,ht,_⟩,_⟩:=hc;rw[hx] at ht;cases ht
  have zr:rb≠tb:=by rintro rfl;obtain⟨_,⟨r,t,ht,_⟩,_⟩:=hc;rw[hr] at ht;cases ht
  have y1:=Hp.lt hx rfl;have y2:=Hp.lt hr rfl;rw[aP];show W T (.seq (.seq (.af r147_2) (.cond (.t 14) .skip (.exit 0))) (.block 1 (.seq (.af r147_3) (.seq (.af r147_4) (.af r147_5))))) f h [] _;unfold G9 at hk;refine cq f0 f1 f4 f5 hx hr ?_;refine qC HT hc hn λh1 g1=>?_;obtain⟨n1,e1⟩:=bH g1;have c1:=hc.mono g1;refine ag ?_;refine aay HT (t:=tk l n) λh2 g2=>?_;obtain⟨n2,e2⟩:=bH g2;have c2:=c1.mono g2;have lU:h2.get rb=.one 39 [.i 0,.i 0,.i 0,.i 0,S [],.bx]:=cX e2 e1 hr;have kT:h2.get xb=.one 39 [.i x.kind,.i x.ak,.i x.to,.i x.at,S x.name,kv]:=cX e2 e1 hx;have gv:Pg c hh h2:=(fH e2 e1 (gp gg));have cZ:ay hh.nx h2 x [.i x.kind,.i x.ak,.i x.to,.i x.at,S x.name,kv]:=ay.nf (((NF.refl h).g0 g1).g0 g2) zo _ _ nd
  by_cases el:dS<Bb (tk l n)
  rw[atV el] at hk;have cV:=ahZ hs hn zo;refine cC f0 f1 f4 f5 el ?_;refine vB HT c2 hn λh3 g3 c3=>?_;obtain⟨n3,e3⟩:=bw g3;refine cC f0 f1 f4 f5 Tk.row.eq_1 ?_;refine aay HT (t:=tk l n) λh4 g4=>?_;obtain⟨n4,e4⟩:=bH g4;have c4:=((c3.push _).set _ zo zo).mono g4;refine cC f0 f1 f4 f5 Tk.row.eq_1 ?_;refine E _ (n+1) op hd _ _ o0 o1 zo c4 cV (hk.sub (fH e4 e3 (gp gv)) (λv h2 hv=>by refine ag ?_;exact hv) λt m hk h5 row g5 c5 nd5 hm hz5=>?_);obtain⟨n5,e5⟩:=bw g5;obtain⟨m,rfl⟩:∃q,m=q+1:=⟨m- 1,by omega⟩;obtain⟨kv5,rfl,asq,nk5⟩:=nd5.shape;have Be:h5.get xb=.one 39 [.i x.kind,.i x.ak,.i x.to,.i x.at,S x.name,kv]:=mw e5 e4 e3 kT;have q5:h5.get h3.nx=.one 74 [.i (tk l n).kind,S (tk l n).text,.i (tk l n).ak,.i (tk l n).to]:=bV e5 e4;have hr5:h5.get rb=.one 39 [.i 0,.i 0,.i 0,.i 0,S [],.bx]:=mw e5 e4 e3 lU;have qF:Pg c hh h5:=(qB e5 e4 e3 (gp gv));have ndx:ay hh.nx h5 x [.i x.kind,.i x.ak,.i x.to,.i x.at,S x.name,kv]:=ay.nf ((((((NF.refl h2).gp g3 wV).push _).new _ zo).g0 g4).gp g5 wV) zl _ _ cZ;refine cq f0 f1 f4 f5 Be q5 ?_;refine gS HT (((c5.push _).set _ zo zo).push _) zo rfl λh6 g6=>?_;obtain⟨n6,e6⟩:=bH g6;have TE:h6.get xb=.one 39 [.i x.kind,.i x.ak,.i x.to,.i x.at,S x.name,kv]:=bV e6 Be;refine cC f0 f1 f4 f5 TE ?_;refine aaF HT hs E o0 o1 ls wV Hl Ho Hq g (m+1) _ (aV l (m+1) 31 x.ak (tk l n).ak (tk l n).text [x,t]) _ _ (eF e6 (gp qF)) (((((c5.push _).set _ zo zo).push _).mono g6).set _ zo zo) hm zo (Hp.bR rfl) (ay.of (t:=aV l (m+1) 31 x.ak (tk l n).ak (tk l n).text [x,t]) ?_)
   (bV e6 hr5) zA zA zA zA hk
  refine Tz ((Hp.de zo).trans ((e6 _ zq).trans (Hp.br aa))) zl zo ?_ ?_;simp only[dZ,auo];exact ay.nf ((((((NF.refl h5).push _).new _ zo).push _).g0 g6).set _ TE) zo _ _ ndx;simp only[dZ,auo];exact ay.nf ((((((NF.refl h5).push _).new _ zo).push _).g0 g6).set _ TE) zo _ _ nd5;rw[atS el] at hk;refine iR f0 f1 f4 f5 el kT lU ?_;exact hk _ _ (iQ (gp gv)) (c2.set _ zo zo) (ay.nf ((NF.refl h2).set _ lU) zo _ _ cZ) hn hz
theorem aaG(HT:aA T)(hs:fc l){F:Nat}(hF:F<8589934592):∀g:Nat,pW T c tb l (zU l F g)
 |0=>λ_ _ _ _ _ _ _ _ _ _ _ hk=>hk.elim
 |g+1=>λh n op hd dS k o0 o1 ls hc hn hk=>by
  have E:=aaG HT hs hF g;rw[aJ HT.t147];have hx:=hc.lt;have hy:=hc.dW;unfold zU at hk;refine ag ?_;refine aaE HT hs E o0 o1 hF F n _ _ (hc.push _) hn (hk.sub aZ (λv h2 hv=>by refine ag ?_;exact hv) λt m hk h2 row g2 c2 nd hm hz=>?_);obtain⟨n2,e2⟩:=bw g2;obtain⟨kv,rfl,hkv,nk⟩:=nd.shape;refine aB e2 ?_;exact aaF HT hs E o0 o1 ls (hh:=h) (xb:=h2.nx) (rb:=h.nx) hx zo zl zo F m _ t _ _ (iQ e2) ((c2.push _).set _ zo zo) hm hz (Hp.bR rfl)
   (ay.nf (((NF.refl h2).push _).new _ zo) zq _ _ nd) (au e2) aa aa aa aa hk
end
def zT:Tree:=.mk 0 0 0 0 [] []
def Aa:Tree->Option Bool
 |.mk q _ _ _ _ ks=>if q=26 then(match ks with|[]=>none|t::_=>Aa t) else some (decide (q=25))
def Hs(x:Tree):Bool:=decide (x.kind=27)||decide (x.kind=32)&&(decide (x.name=[112,114,105,110,116])||decide (x.name=[112,97,110,105,99]))
section
variable(l:List Tk)(F:Nat)
section
variable(ex:Int->Bool->Int->Nat->PR Tree)
def uj(op:Int)(hd:Bool)(x:Tree)(df:Bool)(n:Nat):PR Tree:=
 if df=true/\x.kind=25/\bD (tk l n) [[58,61]]=true then(ex op hd 0 (n+1)).bind λy m=>.ok (aV l m 12 x.ak x.ak x.name [y]) m
 else match Aa x with
  |none=>.dN
  |some p=>if p=true/\bD (tk l n) [[61]]=true then(ex op hd 0 (n+1)).bind λy m=>.ok (aV l m 13 x.ak (tk l n).ak [] [x,y]) m
   else if Hs x=true then .ok (aV l n 20 x.ak x.ak [] [x]) n else .er (tk l n).ak 4
def Ks(op:Int)(n:Nat):PR (Tree×Tree×Tree):=
 (if(tk l n).kind≠7 then(ex op true 0 n).bind λx m=>if bD (tk l m) [[123]]=true then .ok (zT,x,true) m else(uj l ex op true x true m).bind λi o=>.ok (i,zT,false) o
  else PR.ok (zT,zT,false) n).bind λr m=>
 if r.2.2 =true then .ok (zT,r.2.1,zT) m else
  (mU l m).bind λ_ o=>(if(tk l o).kind≠7 then ex op true 0 o else .ok zT o).bind λx q=>
   (mU l q).bind λ_ s=>(if bD (tk l s) [[123]]=true then .ok zT s else(yf l F ex op true s).bind λy u=>uj l ex op true y false u).bind λz v=>.ok (r.1,x,z) v
def Kt(op:Int)(n:Nat):PR Tree:=
 (lR l [118,97,114] n).bind λt m=>(jR l 1 m).bind λu o=>(if bD (tk l o) [[61]]=true then .ok zT o else Ct l o).bind λty q=>
  (if bD (tk l q) [[61]]=true then ex op false 0 (q+1) else .ok zT q).bind λe r=>.ok (aV l r 11 t.ak u.ak u.text [ty,e]) r
def Ht(kind:Int)(n:Nat):PR Tree:=
 if(tk l (n+1)).kind≠1 then .ok (aV l (n+1) kind (tk l n).ak (tk l n).ak [] []) (n+1) else .ok (aV l (n+1+1) kind (tk l n).ak (tk l (n+1)).ak (tk l (n+1)).text []) (n+1+1)
section
variable(st:Int->Nat->PR Tree)
def vE(op:Int)(n:Nat):PR Tree:=(wS l [123] [125] (st (op+1)) (mU l) op F n).bind λts m=>.ok (aV l m 10 (tk l n).ak (tk l n).ak [] ts) m
def Hu(op:Int):Nat->Nat->PR Tree
 |0,_=>.dN
 |g+1,n=>(lR l [105,102] n).bind λt m=>(ex op true 0 m).bind λc o=>(vE l F st op o).bind λb q=>
  (if bD (tk l q) [[101,108,115,101]]=true then if bD (tk l (q+1)) [[105,102]]=true then Hu op g (q+1) else vE l F st op (q+1) else .ok zT q).bind λe r=>.ok (aV l r 14 t.ak t.ak [] [c,b,e]) r
def Hv(op:Int)(n:Nat):PR Tree:=
 (lR l [102,111,114] n).bind λt m=>(if bD (tk l m) [[123]]=true then .ok (zT,zT,zT) m else Ks l F ex op m).bind λp o=>
  (vE l F st op o).bind λb q=>.ok (aV l q 15 t.ak t.ak [] [p.1,p.2.1,p.2.2,b]) q
def Ku(op:Int)(n:Nat):PR Tree:=
 if bD (tk l n) [[123]]=true then vE l F st op n
 else if bD (tk l n) [[105,102]]=true then Hu l F ex st op F n
 else if bD (tk l n) [[102,111,114]]=true then Hv l F ex st op n
 else if bD (tk l n) [[118,97,114]]=true then Kt l ex op n
 else if bD (tk l n) [[98,114,101,97,107]]=true then Ht l 17 n
 else if bD (tk l n) [[99,111,110,116,105,110,117,101]]=true then Ht l 18 n
 else if bD (tk l n) [[114,101,116,117,114,110]]=true then
  if(tk l (n+1)).kind=7\/bD (tk l (n+1)) [[125]]=true then .ok (aV l (n+1) 19 (tk l n).ak (tk l n).ak [] []) (n+1)
  else(ex op false 0 (n+1)).bind λx m=>.ok (aV l m 19 (tk l n).ak (tk l n).ak [] [x]) m
 else(yf l F ex op false n).bind λx m=>
  if x.kind=25/\bD (tk l m) [[58]]=true then(Hv l F ex st op (m+1)).bind λy o=>.ok (aV l o 16 (tk l n).ak (tk l n).ak x.name [y]) o
  else uj l ex op false x true m
end
def Hw:Nat->Int->Nat->PR Tree
 |0,_,_=>.dN
 |f+1,op,n=>Ku l F ex (Hw f) op n
end
def Kv(op:Int)(n:Nat):PR Tree:=
 if bD (tk l n) [[40]]=true then if op=128 then .er (tk l n).ak 3 else
  (jR l 1 (n+1)).bind λt m=>(jR l 1 m).bind λu o=>
   if bD (tk l o) [[41]]=true then .ok (aV l o 7 t.ak t.ak t.text [aV l o 8 u.ak u.ak u.text []]) (o+1) else .er (tk l o).ak 4
 else .er (tk l n).ak 4
def Kw(st:Int->Nat->PR Tree)(op:Int)(n:Nat):PR Tree:=
 (lR l [102,117,110,99] n).bind λt m=>(if bD (tk l m) [[40]]=true then Kv l op m else .ok zT m).bind λr o=>(jR l 1 o).bind λu q=>
  (wS l [40] [41] (En l 7) (Cu l [41]) op F q).bind λps s=>(if bD (tk l s) [[123]]=true then .ok zT s else Ct l s).bind λty v=>
   (vE l F st op v).bind λb w=>.ok (aV l w 5 t.ak u.ak u.text [r,aV l s 6 (tk l q).ak (tk l q).ak [] ps,ty,b]) w
def Ky(op:Int)(n:Nat):PR Tree:=
 (lR l [116,121,112,101] n).bind λt m=>(jR l 1 m).bind λu o=>(lR l [115,116,114,117,99,116] o).bind λ_ q=>
  (wS l [123] [125] (En l 4) (mU l) op F q).bind λts r=>.ok (aV l r 3 t.ak u.ak u.text ts) r
end
section
variable{h hh h1:Hp}{c tb n:Nat}{l:List Tk}{op gT:Int}{hd bC:Bool}{k k1:aK->Prop}
variable{ex:Int->Bool->Int->Nat->PR Tree}
abbrev rX(c:Nat)(h:Hp)(k:aK->Prop){β:Type}(H:PR β->Prop):Prop:=(∀p e,H (.er p e)->∀h',Pg c h h'->k (.bn (qD p e) h'))/\¬H .dN
theorem cU.pX{lo:Nat}:rX c h k (cU lo c tb l op hd h k):=⟨λ_ _ hk=>hk,id⟩
theorem Hx(HT:aA T)(hs:fc l){β:Type}{H:PR β->Prop}(jC:rX c h k H){x:List UInt8}{f:Tk->Nat->PR β}(hk:H ((lR l x n).bind f))(hc:bp h1 c tb l n gT bC)(hn:n<l.length)(g:Pg c h h1)
 (hp:∀v h2,k (.bn v h2)->k1 (.bn v h2)) (ho:bD (tk l n) [x]=true->n+1<l.length->H (f (tk l n) (n+1))->∀h2,Pg c h1 h2->bp h2 c tb l (n+1) gT bC->k1 (.ret (.agg (tk l n).row) h2)):aE T (W T) ⟨48⟩ [.ptr c 0,S x] h1 k1:=by
 unfold lR at hk;refine Cx HT hc hn (λe h2 g2 c2=>?_) λe h2 g2=>?_;rw[atV e] at hk;exact ho e (lT hs hn e) hk h2 g2 c2;rw[atS qaW] at hk;exact hp _ _ (jC.1 _ _ hk h2 (g.trans g2))
theorem Hy(HT:aA T)(hs:fc l){β:Type}{H:PR β->Prop}(jC:rX c h k H){q:Int}(hq:q≠0){f:Tk->Nat->PR β}(hk:H ((jR l q n).bind f))(hc:bp h1 c tb l n gT bC)(hn:n<l.length)(g:Pg c h h1)
 (hp:∀v h2,k (.bn v h2)->k1 (.bn v h2)) (ho:(tk l n).kind=q->n+1<l.length->H (f (tk l n) (n+1))->∀h2,Pg c h1 h2->bp h2 c tb l (n+1) gT bC->k1 (.ret (.agg (tk l n).row) h2)):aE T (W T) ⟨49⟩ [.ptr c 0,.i q] h1 k1:=by
 unfold jR at hk;refine Eo HT hc hn (λe h2 g2 c2=>?_) λe h2 g2=>?_;rw[atV e] at hk;exact ho e (wT hs hn e hq) hk h2 g2 c2;rw[atS e] at hk;exact hp _ _ (jC.1 _ _ hk h2 (g.trans g2))
theorem TF(HT:aA T)(hs:fc l){β:Type}{H:PR β->Prop}(jC:rX c h k H){f:Unit->Nat->PR β}(hk:H ((mU l n).bind f))(hc:bp h1 c tb l n gT bC)(hn:n<l.length)(g:Pg c h h1)
 (hp:∀v h2,k (.bn v h2)->k1 (.bn v h2)) (ho:n+1<l.length->H (f () (n+1))->∀h2,Pg c h1 h2->bp h2 c tb l (n+1) gT bC->k1 (.ret (.bA []) h2)):aE T (W T) ⟨50⟩ [.ptr c 0] h1 k1:=by
 unfold mU jR at hk;refine NZ HT hc hn (λe h2 g2 c2=>?_) λe h2 g2=>?_;rw[atV e] at hk;exact ho (wT hs hn e zd) hk h2 g2 c2;rw[atS e] at hk;exact hp _ _ (jC.1 _ _ hk h2 (g.trans g2))
theorem rX.sub{β:Type}{H:PR β->Prop}(jC:rX c h k H){kS:Nat}{r:PR Tree}{f:Tree->Nat->PR β}(hk:H (r.bind f))(g:Pg c h h1)(hp:∀v h2,k (.bn v h2)->k1 (.bn v h2))
 (ho:∀t m,H (f t m)->∀h2 row,Pg c h1 h2->bp h2 c tb l m gT bC->ay kS h2 t row->m<l.length->0<m->k1 (.ret (.agg row) h2)):cU kS c tb l gT bC h1 k1 r:=by
 cases r with
 |dN=>exact jC.2 hk
 |er p e=>exact λh2 g2=>hp _ _ (jC.1 _ _ hk h2 (g.trans g2))
 |ok t m=>exact ho t m hk
theorem rX.Eu{β:Type}{H:PR β->Prop}(jC:rX c h k H){r:PR (List Tree)}{f:List Tree->Nat->PR β}(hk:H (r.bind f))(g:Pg c h h1)(hp:∀v h2,k (.bn v h2)->k1 (.bn v h2))
 (ho:∀t m,r=.ok t m->H (f t m)->∀h2 kv,Pg c h1 h2->bp h2 c tb l m gT bC->m<l.length->0<m->bQ kv=some [kv]->dO h1.nx h2 t kv->k1 (.ret kv h2)):Et c tb l gT bC h1 k1 r:=by
 cases r with
 |dN=>exact jC.2 hk
 |er p e=>exact λh2 g2=>hp _ _ (jC.1 _ _ hk h2 (g.trans g2))
 |ok t m=>exact ho t m rfl hk
theorem aaH(HT:aA T){lo b:Nat}{p:Bool}(wF:hh.nx<=b):∀(x:Tree)(h:Hp)(row:List AV)(f:Fr),h.get b=.one 39 row->ay lo h x row->ax hh h->Aa x=some p->
 J 1 f=.ptr b 0->(∀h',ax hh h'->k (.ret (.bool p) h'))->
 W T (.loop l177_0) f h [] (bY 0 (bF (W T (.seq (.af r177_3) .ret)) (finish T (W T) [.tmp 2] k)))
 |.mk q fr to at_ nm ks,h,row,f,hb,nd,g,hp,f1,hk=>by
  obtain⟨kv,rfl,hkv,nk⟩:=nd.shape;simp only[Tree.kind,Tree.ak,Tree.to,Tree.at,Tree.name,Tree.kids] at hb nk nd;have y1:=Hp.lt hb rfl;rw[aP];show W T (.seq (.seq (.af r177_1) (.cond (.t 5) .skip (.exit 0))) (.block 1 (.af r177_2))) f h [] _;unfold Aa at hp
  by_cases e:q=26
  rw[atV e] at hp;cases ks with
  |nil=>cases hp
  |cons y ys=>
   simp only[dO] at nk;obtain⟨b2,cap,Hf,r,uk,rfl,fX,hr,Gt,cZ,nr2⟩:=nk;have bg:b≠b2:=by rintro rfl;rw[hb] at fX;cases fX
   simp only at hp;have aaI:=cZ;obtain⟨zX,e2,wW,Ob⟩:=cZ.shape;rw[e2] at aaI;refine cC f1 hb e fX e2 ?_;refine aaH HT wF y _ _ _ (Hp.bR rfl) (ay.nf ((NF.refl h).set _ hb) zl _ _ aaI) (g.set _ (.inl wF)) hp zA hk
  rw[atS e] at hp;refine aU f1 hb e ?_;cases hp;exact hk _ g
termination_by x=>sizeOf x
theorem ah0(HT:aA T){lo:Nat}{x:Tree}{row:List AV}{p:Bool}(nd:ay lo h x row)(hp:Aa x=some p)(hk:∀h',ax h h'->k (.ret (.bool p) h')):aE T (W T) ⟨177⟩ [.agg row] h k:=by rw[aJ HT.t177];obtain⟨kv,rfl,hkv,nk⟩:=nd.shape;refine aB hkv ?_;exact aaH HT (hh:=h) (b:=h.nx) (lo:=lo) zl x _ _ _ (Hp.br rfl) (ay.nf ((NF.refl h).push _) zl _ _ nd) aZ hp aa hk
theorem ah1(HT:aA T){lo:Nat}{x:Tree}{row:List AV}(nd:ay lo h x row)(hk:∀h',ax h h'->k (.ret (.bool (Hs x)) h')):aE T (W T) ⟨178⟩ [.agg row] h k:=by
 rw[aJ HT.t178];obtain⟨kv,rfl,hkv,nk⟩:=nd.shape;have fL:=hk _ ((ah.refl h).push (.one 39 [.i x.kind,.i x.ak,.i x.to,.i x.at,S x.name,kv]));unfold Hs at fL
 by_cases e27:x.kind=27
 refine aB e27 ?_;simp(disch:=omega) [e27] at fL;exact fL
 by_cases e32:x.kind=32
 by_cases ep:x.name=[112,114,105,110,116]
 refine aS e32 ep ?_;simp(disch:=omega) [e32,ep] at fL;exact fL;refine aU e27 e32 ep ?_;simp(disch:=omega) [e27,e32,ep] at fL;exact fL;refine aS e27 e32 ?_;simp(disch:=omega) [e27,e32] at fL;exact fL
theorem TH(HT:aA T)(hs:fc l)(E:pW T c tb l ex)(o0:0<=op)(o1:op<=128){x:Tree}{df:Bool}{row:List AV}{lo:Nat}(hc:bp h c tb l (n+1) op hd)(hn:n+1<l.length)(nd:ay lo h x row)(cK:c<lo)(Ev:lo<=h.nx)
 (hk:cU lo c tb l op hd h k (uj l ex op hd x df (n+1))):aE T (W T) ⟨149⟩ [.ptr c 0,.agg row,.bool df] h k:=by
 rw[aJ HT.t149];have hx:=hc.lt;have hy:=hc.dW;unfold uj at hk;obtain⟨kv,rfl,hkv,nk⟩:=nd.shape;refine aB hkv ?_;refine qC HT ((hc.push _).push _) hn λh1 g1=>?_;obtain⟨n1,e1⟩:=bH g1;have c1:=((hc.push _).push _).mono g1;refine aB Tk.row.eq_1 ?_;generalize Hh:CC.seq (.af r149_5) (.cond (.t 35) (.seq (.af r149_6) (.seq (.af r149_7) .ret)) (.seq (.af r149_8) (.cond (.t 53) (.af r149_9) .skip)))=TC;have CG:∀(H:Hp)(f:Fr),Pg c h H->bp H c tb l (n+1) op hd->H.get h.nx=.one 39 [.i x.kind,.i x.ak,.i x.to,.i x.at,S x.name,kv]->H.get (h.nx+1)=.one 39 [.i 0,.i 0,.i 0,.i 0,S [],.bx]->H.get h1.nx=.one 74 (tk l (n+1)).row->
  ay lo H x [.i x.kind,.i x.ak,.i x.to,.i x.at,S x.name,kv]->J 0 f=.ptr c 0->J 4 f=.ptr h.nx 0->J 6 f=.ptr (h.nx+1) 0->J 7 f=.ptr h1.nx 0->
  cU lo c tb l op hd h k (match Aa x with
   |none=>.dN
   |some p=>if p=true/\bD (tk l (n+1)) [[61]]=true then(ex op hd 0 (n+1+1)).bind λy m=>.ok (aV l m 13 x.ak (tk l (n+1)).ak [] [x,y]) m
    else if Hs x=true then .ok (aV l (n+1) 20 x.ak x.ak [] [x]) (n+1) else .er (tk l (n+1)).ak 4)->
  W T TC f H [] (bY 0 (bF (W T (.seq (.af r149_10) .ret)) (finish T (W T) [.cell 6 true 6] k))):=by
  intro H f gH cH q1 q2 q3 nH f0 f4 f6 f7 hk;subst Hh;have eH:=gp gH;have uH:=gH.nx;have u1:=cH.lt;have u2:=cH.dW;have u3:=Hp.lt q1 rfl;have u4:=Hp.lt q2 rfl;have u5:=Hp.lt q3 rfl;cases TJ:Aa x with
  |none=>rw[TJ] at hk;exact hk.elim
  |some p=>
   rw[TJ] at hk;dsimp only at hk;refine iR f0 f4 f6 f7 q1 q2 q3 ?_;refine ah0 HT nH TJ λh2 g2=>?_;obtain⟨n2,e2⟩:=bH g2;have c2:=cH.mono g2;have n2:ay lo h2 x [.i x.kind,.i x.ak,.i x.to,.i x.at,S x.name,kv]:=ay.nf ((NF.refl H).g0 g2) zl _ _ nH;generalize hUC:CC.seq (.af r149_8) (.cond (.t 53) (.af r149_9) .skip)=UC;have CG:∀(H3:Hp)(f:Fr),Pg c H H3->bp H3 c tb l (n+1) op hd->J 0 f=.ptr c 0->J 4 f=.ptr h.nx 0->J 6 f=.ptr (h.nx+1) 0->J 7 f=.ptr h1.nx 0->
    cU lo c tb l op hd h k (if Hs x=true then .ok (aV l (n+1) 20 x.ak x.ak [] [x]) (n+1) else .er (tk l (n+1)).ak 4)->
    W T UC f H3 [] (bY 0 (bF (W T (.seq (.af r149_10) .ret)) (finish T (W T) [.cell 6 true 6] k))):=by
    intro H3 f g3 c3 f0 f4 f6 f7 hk;subst hUC;have e3:=gp g3;have n3:=g3.nx;refine cq f0 f4 f6 f7 e3 q1 ?_;refine ah1 HT (ay.nf ((NF.refl H).gp g3 cK) zl _ _ nH) λh4 g4=>?_;obtain⟨n4,e4⟩:=bH g4;have c4:=c3.mono g4;cases ec:Hs x with
    |true=>
     rw[atV ec] at hk;refine iR f0 f4 f6 f7 e4 e3 q1 ?_;refine gS HT (c4.push _) zo rfl λh5 g5=>?_;obtain⟨n5,e5⟩:=bH g5;refine fY f0 f4 f6 f7 e5 e4 e3 q2 ?_;refine hk _ _ (qB e5 e4 e3 eH) (((c4.push _).mono g5).set _ zo zo) (ay.of (t:=aV l (n+1) 20 x.ak x.ak [] [x]) ?_) hn zo;exact vD ((Hp.de zo).trans ((e5 _ zq).trans (Hp.br aa))) zl zo
      (by simp only[dZ,auo];exact ay.nf ((((((NF.refl H).gp g3 cK).g0 g4).push _).g0 g5).set _ (by refine aU e5 e4 e3 ?_;exact q2)) zl _ _ nH)
    |false=>
     rw[atS (by simp[ec])] at hk;refine aB f0 ?_;refine Cw HT c4 hn λh5 g5=>?_;obtain⟨n5,e5⟩:=bH g5;refine ag ?_;exact hk.er (qB e5 e4 e3 eH)
   cases p with
   |false=>
    rw[atS zm] at hk;refine aB f0 ?_;exact CG _ _ g2.cn c2 zA zA zA zA hk
   |true=>
    refine aB f0 ?_;refine He HT c2 hn (λe h3 g3 c3=>?_) λe h3 g3 c3=>?_;rw[atV ⟨rfl,e⟩] at hk;obtain⟨n3,e3⟩:=bw g3;refine bK f0 f4 f6 f7 ?_;refine E _ (n+1+1) op hd 0 _ o0 o1 (atY 0) c3 (lT hs hn e) (hk.sub (fH e3 e2 eH) (λv h2 hv=>by refine ag ?_;exact hv) λt m hk h4 TK g4 c4 rW hm hz=>?_);obtain⟨n4,e4⟩:=bw g4;obtain⟨m,rfl⟩:∃q,m=q+1:=⟨m- 1,by omega⟩;obtain⟨Ez,rfl,zY,zZ⟩:=rW.shape;refine nA f0 f4 f6 f7 e4 e3 e2 q1 q3 Tk.row.eq_1 ?_;refine gS HT (((c4.push _).set _ zo zo).push _) zo rfl λh5 g5=>?_;obtain⟨n5,e5⟩:=bH g5;refine mz f0 f4 f6 f7 e5 e4 e3 e2 q2 ?_;refine hk _ _ (Ei e5 e4 e3 e2 eH) (((((c4.push _).set _ zo zo).push _).mono g5).set _ zo zo) (ay.of (t:=aV l (m+1) 13 x.ak (tk l (n+1)).ak [] [x,t]) ?_) hm hz;have q2':h5.get (h.nx+1)=.one 39 [.i 0,.i 0,.i 0,.i 0,S [],.bx]:=by refine bK e5 e4 e3 e2 ?_;exact q2
    refine Tz ((Hp.de zo).trans ((e5 _ zq).trans (Hp.br aa))) zl zo ?_ ?_;simp only[dZ,auo];exact ay.nf ((((((((NF.refl h2).gp g3 cK).gp g4 cK).push _).new _ zo).push _).g0 g5).set _ q2') zl _ _ n2;simp only[dZ,auo];exact ay.nf ((((((NF.refl h4).push _).new _ zo).push _).g0 g5).set _ q2') zo _ _ rW;rw[atS qaf] at hk;obtain⟨n3,e3⟩:=bw g3;refine aB f0 ?_;exact CG _ _ (eF e3 e2) c3 zA zA zA zA hk
 by_cases d:df=true/\x.kind=25
 obtain⟨rfl,e25⟩:=d;refine aS e1 e25 ?_;refine He HT ((c1.push _).set _ zo zo) hn (λe h2 g2 c2=>?_) λe h2 g2 c2=>?_;rw[atV ⟨rfl,e25,e⟩] at hk;obtain⟨n2,e2⟩:=bw g2;refine aS e2 e1 ?_;refine E _ (n+1+1) op hd 0 _ o0 o1 (atY 0) c2 (lT hs hn e) (hk.sub (eF e2 e1) (λv h2 hv=>by refine ag ?_;exact hv) λt m hk h4 TK g4 c4 rW hm hz=>?_);obtain⟨n4,e4⟩:=bw g4;obtain⟨m,rfl⟩:∃q,m=q+1:=⟨m- 1,by omega⟩;obtain⟨Ez,rfl,zY,zZ⟩:=rW.shape;refine aU e4 e2 e1 ?_;refine gS HT (((c4.push _).set _ zo zo).push _) zo rfl λh5 g5=>?_;obtain⟨n5,e5⟩:=bH g5;refine bK e5 e4 e2 e1 ?_;refine hk _ _ (qB e5 e4 e2 e1) (((((c4.push _).set _ zo zo).push _).mono g5).set _ zo zo) (ay.of (t:=aV l (m+1) 12 x.ak x.ak x.name [t]) ?_) hm hz;have q2':h5.get (h.nx+1)=.one 39 [.i 0,.i 0,.i 0,.i 0,S [],.bx]:=mw e5 e4 e2 e1;refine vD ((Hp.de zo).trans ((e5 _ zq).trans (Hp.br aa))) zl zo ?_;simp only[dZ,auo];exact ay.nf ((((((NF.refl h4).push _).new _ zo).push _).g0 g5).set _ q2') zo _ _ rW;rw[atS qaf] at hk;obtain⟨n2,e2⟩:=bw g2;refine ag ?_;exact CG _ _ (eF e2 e1) c2 (bV e2 e1) (bV e2 e1) (bV e2 Tk.row.eq_1) (ay.nf (((((((NF.refl h).push _).push _).g0 g1).push _).new _ zo).gp g2 cK) zl _ _ nd) aa aa aa aa hk;rw[atS (by rintro⟨d1,d2,d3⟩;exact d ⟨d1,d2⟩)] at hk;have b8:=λf=>CG ((h1.push (.one 74 [.i 0,S [],.i 0,.i 0])).set h1.nx (.one 74 [.i (tk l (n+1)).kind,S (tk l (n+1)).text,.i (tk l (n+1)).ak,.i (tk l (n+1)).to])) f (iQ e1) ((c1.push _).set _ zo zo) (au e1) (au e1) (au Tk.row.eq_1)
  (ay.nf ((((((NF.refl h).push _).push _).g0 g1).push _).new _ zo) zl _ _ nd)
 cases df with
 |false=>
  refine aB e1 ?_;exact b8 _ aa aa aa aa hk
 |true=>
  have e25:¬x.kind=25:=λe=>d ⟨rfl,e⟩;refine aS e1 e25 ?_;exact b8 _ aa aa aa aa hk
theorem Kz(HT:aA T){lo:Nat}{g:aM}{fs cs:List AV}{r:PR Tree}(hc:bp h c tb l n op hd)(cK:c<lo)(Ev:lo<=h.nx)
 (hr:∀h1 k1,Pg c h h1->bp h1 c tb l n op true->cU lo c tb l op true h1 k1 r->aE T (W T) g (fF fs (fF [] cs)) h1 k1)
 (hk:cU lo c tb l op hd h k r):aE T (W T) ⟨169⟩ [.ptr c 0,.func g fs cs] h k:=by
 rw[aJ HT.t169];have hx:=hc.lt;have hy:=hc.dW;obtain⟨⟨cap,Ey,q4⟩,_⟩:=id hc;refine aB q4 ?_;refine hr _ _ aZ (hc.push _).mA ?_;cases r with
 |dN=>exact hk
 |er p e=>
  intro h2 g2;obtain⟨n2,e2⟩:=bw g2;refine ag ?_;exact hk _ (iQ e2)
 |ok t m=>
  intro h2 row g2 c2 nd hm hz;obtain⟨n2,e2⟩:=bw g2;obtain⟨kv,rfl,hkv,nk⟩:=nd.shape;obtain⟨⟨aaw,Hf,q5⟩,_⟩:=id c2;have kT:=c2.lt;have hy2:=c2.dW;refine aS e2 q5 ?_;have q6:h2.get h.nx=.one 39 [.i 0,.i 0,.i 0,.i 0,S [],.bx]:=au e2;exact hk _ _ (iQ e2) ((((c2.push _).set _ zo zo).mA).set _ zo zo)
   (ay.nf (((((NF.refl h2).push _).new _ zo).vC _ cK).set _ (el:=39) (l:=[.i 0,.i 0,.i 0,.i 0,S [],.bx]) (au e2)) zl _ _ nd) hm hz
theorem ah2(HT:aA T)(hs:fc l)(E:pW T c tb l ex)(o0:0<=op)(o1:op<=128){lo b1 b5:Nat}{x:Tree}{row:List AV}(hc:bp h c tb l (n+1) op hd)(hn:n+1<l.length)(q1:h.get b1=.one 72 [.ptr c 0])(q5:h.get b5=.one 39 row)(nd:ay lo h x row)(cK:c<lo)(Ev:lo<=h.nx)
 (hk:cU lo c tb l op hd h k (uj l ex op hd x true (n+1))):aE T (W T) ⟨192⟩ [.ptr b1 0,.ptr b5 0] h k:=by
 rw[aJ HT.t192];have hx:=hc.lt;have hy:=hc.dW;obtain⟨kv,rfl,hkv,nk⟩:=nd.shape;have y1:=Hp.lt q1 rfl;have y5:=Hp.lt q5 rfl;refine aS q1 q5 ?_;rw[<-Hi (uj l ex op hd x true (n+1))] at hk;refine TH HT hs E o0 o1 (hc.push _) hn (ay.nf ((NF.refl h).push _) zl _ _ nd) cK qaX (hk.Oa aZ (λv h2 hv=>by refine ag ?_;exact hv) λt m hk h2 row g2 c2 cZ hm hz=>?_);obtain⟨n2,e2⟩:=bw g2;obtain⟨zX,rfl,wW,Ob⟩:=cZ.shape;refine aB e2 ?_;exact hk _ _ (iQ e2) (c2.set _ zo zo) (ay.nf ((NF.refl h2).set _ (el:=39) (l:=[.i 0,.i 0,.i 0,.i 0,S [],.bx]) (au e2)) zl _ _ cZ) hm hz
theorem ah3(HT:aA T)(hs:fc l)(E:pW T c tb l ex)(o0:0<=op)(o1:op<=128){F:Nat}(hF:F<8589934592){b1:Nat}(hc:bp h c tb l n op hd)(hn:n<l.length)(q1:h.get b1=.one 72 [.ptr c 0]){lo:Nat}(cK:c<lo)(Ev:lo<=h.nx)
 (hk:cU lo c tb l op hd h k ((yf l F ex op hd n).bind λy u=>uj l ex op hd y false u)):aE T (W T) ⟨193⟩ [.ptr b1 0] h k:=by
 rw[aJ HT.t193];have hx:=hc.lt;have hy:=hc.dW;have y1:=Hp.lt q1 rfl;have z1:=hc.wU q1;refine aB q1 ?_;refine TD HT hs E (hc.push _) hn o0 o1 hF (hk.sub aZ (λv h2 hv=>by refine ag ?_;exact hv) λt m hk h2 row g2 c2 nd hm hz=>?_);obtain⟨n2,e2⟩:=bw g2;obtain⟨kv,rfl,hkv,nk⟩:=nd.shape;obtain⟨m,rfl⟩:∃q,m=q+1:=⟨m- 1,by omega⟩;refine aS e2 q1 ?_;rw[<-Hi (uj l ex op hd t false (m+1))] at hk;refine TH HT hs E o0 o1 c2 hm (ay.nf (NF.refl h2) (kg:=lo) qaX _ _ nd) cK zo (hk.Oa (iQ e2) (λv h2 hv=>by refine ag ?_;exact hv) λt m hk h3 row g3 c3 o8 hm hz=>?_);obtain⟨n3,e3⟩:=bw g3;obtain⟨zW,rfl,Hj,Ew⟩:=o8.shape;refine aS e3 e2 ?_;exact hk _ _ (eF e3 e2) (c3.set _ zo zo) (ay.nf ((NF.refl h3).set _ (el:=39) (l:=[.i 0,.i 0,.i 0,.i 0,S [],.bx]) (bV e3 e2)) zl _ _ o8) hm hz
def CH(lo c tb:Nat)(l:List Tk)(op:Int)(hd:Bool)(h:Hp)(k:aK->Prop)(r:PR (Tree×Tree×Tree)):Prop:=
 match r with
 |.ok p n=>∀h' r1 r2 r3,Pg c h h'->bp h' c tb l n op hd->ay lo h' p.1 r1->ay lo h' p.2.1 r2->ay lo h' p.2.2 r3->n<l.length->0<n->k (.ret (.bA [.agg r1,.agg r2,.agg r3]) h')
 |.er p e=>∀h',Pg c h h'->k (.bn (qD p e) h')
 |.dN=>False
theorem CH.pX{lo:Nat}:rX c h k (CH lo c tb l op hd h k):=⟨λ_ _ hk=>hk,id⟩
theorem vF{lo:Nat}:ay lo h zT [.i 0,.i 0,.i 0,.i 0,S [],.bx]:=by
 have:dO lo h [] .bx:=by simp only[dO]
 exact ay.of (t:=zT) this
theorem cU.lo{lo kg:Nat}{r:PR Tree}(hk:cU lo c tb l op hd h k r)(le:lo<=kg):cU kg c tb l op hd h k r:=by
 cases r with
 |dN=>exact hk
 |er p e=>exact hk
 |ok t m=>exact λh2 row g2 c2 nd=>hk h2 row g2 c2 (ay.nf (NF.refl _) le _ _ nd)
theorem PR.bind_assoc{α β γ:Type}{r:PR α}{f:α->Nat->PR β}{g:β->Nat->PR γ}:(r.bind f).bind g=r.bind λa n=>(f a n).bind g:=by cases r<;>rfl
theorem EA{lo x y z:Nat}{u v w r1 r2 r3}{o1 o2 o3:AO}(q1:h.get x=.one u r1)(q2:h.get y=.one v r2)(q3:h.get z=.one w r3):NF lo h (((h.set x o1).set y o2).set z o3):=λi r f _ he=>by rw[Hp.de (by rintro rfl;rw[q3] at he;cases he),Hp.de (by rintro rfl;rw[q2] at he;cases he),Hp.de (by rintro rfl;rw[q1] at he;cases he)];exact he
theorem ah4(HT:aA T)(hs:fc l)(E:pW T c tb l ex)(o0:0<=op)(o1:op<=128){F:Nat}(hF:F<8589934592)(hc:bp h c tb l n op false)(hn:n<l.length)(hz:0<n)
 (hk:CH h.nx c tb l op false h k (Ks l F ex op n)):aE T (W T) ⟨171⟩ [.ptr c 0] h k:=by
 rw[aJ HT.t171];have hx:=hc.lt;have hy:=hc.dW;unfold Ks at hk;have HE:=CH.pX (lo:=h.nx) (c:=c) (tb:=tb) (l:=l) (op:=op) (hd:=false) (h:=h) (k:=k);have Z0:bQ .bx=some [.bx]:=rfl;generalize qE:CC.seq (.aR r171_12) .ret=T4;have CJ:∀(H:Hp)(f:Fr)(i x z:Tree)(r1 r2 r3:List AV)(m:Nat),Pg c h H->bp H c tb l m op false->H.get (h.nx+1)=.one 39 r1->H.get (h.nx+1+1)=.one 39 r2->H.get (h.nx+1+1+1)=.one 39 r3->
  ay h.nx H i r1->ay h.nx H x r2->ay h.nx H z r3->m<l.length->0<m->J 2 f=.ptr (h.nx+1) 0->J 3 f=.ptr (h.nx+1+1) 0->J 4 f=.ptr (h.nx+1+1+1) 0->
  CH h.nx c tb l op false h k (.ok (i,x,z) m)->W T T4 f H [] (finish T (W T) [.cell 6 true 2,.cell 6 true 3,.cell 6 true 4] k):=by
  intro H f i x z r1 r2 r3 m gH cH q2 q3 q4 d1 d2 d3 hm hz f2 f3 f4 hk;subst qE;have eH:=gp gH;have uH:=gH.nx;have u1:=cH.lt;have u2:=cH.dW;obtain⟨v1,rfl,w1,_⟩:=d1.shape;obtain⟨v2,rfl,w2,_⟩:=d2.shape;obtain⟨v3,rfl,w3,_⟩:=d3.shape;have u3:=Hp.lt q2 rfl;have u4:=Hp.lt q3 rfl;have u5:=Hp.lt q4 rfl;refine cq f2 f3 f4 q2 q3 q4 ?_;exact hk _ _ _ _ (iQ eH) (((cH.set _ zo zo).set _ zo zo).set _ zo zo) (ay.nf (EA q2 q3 q4) zl _ _ d1) (ay.nf (EA q2 q3 q4) zl _ _ d2) (ay.nf (EA q2 q3 q4) zl _ _ d3) hm hz
 generalize rq:CC.seq (.af r171_9) (.seq (.seq (.af r171_10) (.cond (.t 38) (.af r171_11) .skip)) T4)=T3;have vG:∀(H:Hp)(f:Fr)(i x:Tree)(r1 r2:List AV)(m:Nat),Pg c h H->bp H c tb l m op false->H.get h.nx=.one 72 [.ptr c 0]->H.get (h.nx+1)=.one 39 r1->H.get (h.nx+1+1)=.one 39 r2->H.get (h.nx+1+1+1)=.one 39 [.i 0,.i 0,.i 0,.i 0,S [],.bx]->
  ay h.nx H i r1->ay h.nx H x r2->m<l.length->0<m->J 1 f=.ptr h.nx 0->J 2 f=.ptr (h.nx+1) 0->J 3 f=.ptr (h.nx+1+1) 0->J 4 f=.ptr (h.nx+1+1+1) 0->
  CH h.nx c tb l op false h k ((mU l m).bind λ_ s=>(if bD (tk l s) [[123]]=true then .ok zT s else(yf l F ex op true s).bind λy u=>uj l ex op true y false u).bind λz v=>.ok (i,x,z) v)->
  W T T3 f H [] (finish T (W T) [.cell 6 true 2,.cell 6 true 3,.cell 6 true 4] k):=by
  intro H f i x r1 r2 m gH cH q1 q2 q3 q4 d1 d2 hm hz f1 f2 f3 f4 hk;subst rq;have eH:=gp gH;have uH:=gH.nx;have u1:=cH.lt;have u2:=cH.dW;have v1:=Hp.lt q1 rfl;have v2:=Hp.lt q2 rfl;have v3:=Hp.lt q3 rfl;have v4:=Hp.lt q4 rfl;refine cC f1 f2 f3 f4 q1 ?_;refine TF HT hs HE hk cH hm gH (λv h2 hv=>by refine ag ?_;exact hv) λnW hk h2 g2 c2=>?_;obtain⟨n2,e2⟩:=bw g2;refine cq f1 f2 f3 f4 e2 q1 ?_;refine ke HT (c2.push _) nW (cY.one (x:=[123]) (Hp.br zm) zl zm) zm λh3 g3=>?_;obtain⟨n3,e3⟩:=bH g3;have c3:=(c2.push _).mono g3;have dL:Pg c H h3:=(eF e3 e2);cases eb:bD (tk l (m+1)) [[123]] with
  |true=>
   rw[atV eb] at hk;refine bK f1 f2 f3 f4 ?_;exact CJ _ _ i x zT _ _ _ (m+1) (gH.trans dL) c3 (cX e3 e2 q2) (cX e3 e2 q3) (cX e3 e2 q4) (ay.nf ((NF.refl H).gp dL hx) zl _ _ d1) (ay.nf ((NF.refl H).gp dL hx) zl _ _ d2) vF nW zo zA zA zA hk
  |false=>
   rw[atS qaV] at hk;refine iR f1 f2 f3 f4 e3 e2 q1 ?_;refine Kz HT c3 (lo:=h3.nx) zo zl (λh1 k1 g1 c1 oh=>ah3 HT hs E o0 o1 hF c1 nW (by rw[g1.get _ zo zo];exact cX e3 e2 q1) zo g1.nx oh) (HE.sub hk (gH.trans dL) (λv h2 hv=>by refine ag ?_;exact hv) λz v hk h4 row g4 c4 nd tc yj=>?_);obtain⟨n4,e4⟩:=bw g4;obtain⟨Ez,rfl,zY,zZ⟩:=nd.shape;refine fY f1 f2 f3 f4 e4 e3 e2 q4 ?_;have q4':h4.get (h.nx+1+1+1)=.one 39 [.i 0,.i 0,.i 0,.i 0,S [],.bx]:=mw e4 e3 e2 q4;exact CJ _ _ i x z _ _ _ v (fH e4 (gp dL) eH) (c4.set _ zo zo) (mw e4 e3 e2 q2) (mw e4 e3 e2 q3) (Hp.bR rfl) (ay.nf ((((NF.refl H).gp dL hx).gp g4 hx).set _ q4') zl _ _ d1) (ay.nf ((((NF.refl H).gp dL hx).gp g4 hx).set _ q4') zl _ _ d2)
    (ay.nf ((NF.refl h4).set _ q4') zo _ _ nd) tc yj zA zA zA hk
 generalize pY:CC.seq (.af r171_6) (.seq (.seq (.af r171_7) (.cond (.t 28) (.af r171_8) .skip)) T3)=T2;have k9:∀(H:Hp)(f:Fr)(i:Tree)(r1:List AV)(m:Nat),Pg c h H->bp H c tb l m op false->H.get h.nx=.one 72 [.ptr c 0]->H.get (h.nx+1)=.one 39 r1->H.get (h.nx+1+1)=.one 39 [.i 0,.i 0,.i 0,.i 0,S [],.bx]->H.get (h.nx+1+1+1)=.one 39 [.i 0,.i 0,.i 0,.i 0,S [],.bx]->
  ay h.nx H i r1->m<l.length->0<m->J 1 f=.ptr h.nx 0->J 2 f=.ptr (h.nx+1) 0->J 3 f=.ptr (h.nx+1+1) 0->J 4 f=.ptr (h.nx+1+1+1) 0->J 0 f=.ptr c 0->
  CH h.nx c tb l op false h k ((mU l m).bind λ_ o=>(if(tk l o).kind≠7 then ex op true 0 o else .ok zT o).bind λx q=>
   (mU l q).bind λ_ s=>(if bD (tk l s) [[123]]=true then .ok zT s else(yf l F ex op true s).bind λy u=>uj l ex op true y false u).bind λz v=>.ok (i,x,z) v)->
  W T T2 f H [] (finish T (W T) [.cell 6 true 2,.cell 6 true 3,.cell 6 true 4] k):=by
  intro H f i r1 m gH cH q1 q2 q3 q4 d1 hm hz f1 f2 f3 f4 f0 hk;subst pY;have eH:=gp gH;have uH:=gH.nx;have u1:=cH.lt;have u2:=cH.dW;have v1:=Hp.lt q1 rfl;have v2:=Hp.lt q2 rfl;have v3:=Hp.lt q3 rfl;have v4:=Hp.lt q4 rfl;refine cC f1 f2 f3 f4 q1 ?_;refine TF HT hs HE hk cH hm gH (λv h2 hv=>by refine ag ?_;exact hv) λnW hk h2 g2 c2=>?_;obtain⟨n2,e2⟩:=bw g2;refine cq f1 f2 f3 f4 e2 q1 ?_;refine qC HT c2 nW λh3 g3=>?_;obtain⟨n3,e3⟩:=bH g3;have c3:=c2.mono g3;have dL:Pg c H h3:=(eF e3 e2)
  by_cases e7:(tk l (m+1)).kind=7
  rw[atS (by simp[e7])] at hk;refine cq f1 f2 f3 f4 Tk.row.eq_1 e7 ?_;exact vG _ _ i zT _ _ (m+1) (gH.trans dL) c3 (cX e3 e2 q1) (cX e3 e2 q2) (cX e3 e2 q3) (cX e3 e2 q4) (ay.nf ((NF.refl H).gp dL hx) zl _ _ d1) vF nW zo zA zA zA zA hk;rw[atV e7] at hk;refine mz f1 f2 f3 f4 Tk.row.eq_1 e7 e3 e2 q1 ?_;refine Kz HT c3 (lo:=h3.nx) zo zl (λh1 k1 g1 c1 oh=>N9 HT E o0 o1 h1 (m+1) k1 (ah.refl _) c1 nW (cU.lo oh g1.nx)) (HE.sub hk (gH.trans dL) (λv h2 hv=>by refine ag ?_;exact hv) λx v hk h4 row g4 c4 nd tc yj=>?_);obtain⟨n4,e4⟩:=bw g4;obtain⟨Ez,rfl,zY,zZ⟩:=nd.shape;refine fY f1 f2 f3 f4 e4 e3 e2 q3 ?_;have q3':h4.get (h.nx+1+1)=.one 39 [.i 0,.i 0,.i 0,.i 0,S [],.bx]:=mw e4 e3 e2 q3;exact vG _ _ i x _ _ v (fH e4 (gp dL) eH) (c4.set _ zo zo) (mw e4 e3 e2 q1) (mw e4 e3 e2 q2) (Hp.bR rfl) (mw e4 e3 e2 q4) (ay.nf ((((NF.refl H).gp dL hx).gp g4 hx).set _ q3') zl _ _ d1)
   (ay.nf ((NF.refl h4).set _ q3') zo _ _ nd) tc yj zA zA zA zA hk
 refine ag ?_;refine qC HT ((((hc.push _).push _).push _).push _) hn λh1 g1=>?_;obtain⟨n1,e1⟩:=bH g1;have c1:=((((hc.push _).push _).push _).push _).mono g1
 by_cases e7:(tk l n).kind=7
 rw[atS (by simp[e7])] at hk;refine aS Tk.row.eq_1 e7 ?_;exact k9 _ _ zT _ n (iQ e1) c1 (au e1) (au e1) (au e1) (au e1) vF hn hz aa aa aa aa aa hk;rw[atV e7] at hk;refine aU Tk.row.eq_1 e7 e1 ?_;rw[PR.bind_assoc] at hk;refine Kz HT c1 (lo:=h1.nx) zo zl (λh2 k1 g2 c2 oh=>N9 HT E o0 o1 h2 n k1 (ah.refl _) c2 hn (cU.lo oh g2.nx)) (HE.sub hk (iQ e1) (λv h2 hv=>by refine ag ?_;exact hv) λx m hk h2 row g2 c2 nd hm Bd=>?_);obtain⟨n2,e2⟩:=bw g2;obtain⟨zX,rfl,wW,Ob⟩:=nd.shape;refine aS e2 e1 ?_;refine ke HT (((c2.push _).set _ zo zo).push _) hm (cY.one (x:=[123]) (Hp.br zm) zl zm) zm λh3 g3=>?_;obtain⟨n3,e3⟩:=bH g3;have c3:=(((c2.push _).set _ zo zo).push _).mono g3;have p1:h3.get h.nx=.one 72 [.ptr c 0]:=cX e3 e2 e1;have p2:h3.get (h.nx+1)=.one 39 [.i 0,.i 0,.i 0,.i 0,S [],.bx]:=cX e3 e2 e1;have p3:h3.get (h.nx+1+1)=.one 39 [.i 0,.i 0,.i 0,.i 0,S [],.bx]:=cX e3 e2 e1;have p4:h3.get (h.nx+1+1+1)=.one 39 [.i 0,.i 0,.i 0,.i 0,S [],.bx]:=cX e3 e2 e1;have p5:h3.get h2.nx=.one 39 [.i x.kind,.i x.ak,.i x.to,.i x.at,S x.name,zX]:=au e3;have o8:ay h1.nx h3 x [.i x.kind,.i x.ak,.i x.to,.i x.at,S x.name,zX]:=ay.nf (((((NF.refl h2).push _).new _ zo).push _).g0 g3) zl _ _ nd;have dL:Pg c h h3:=(fH e3 e2 e1);cases eb:bD (tk l m) [[123]] with
 |true=>
  rw[atV eb] at hk;refine cC p1 p2 p3 p4 p5 ?_;exact hk _ _ _ _ (iQ (gp dL)) (((c3.set _ zo zo).set _ zo zo).set _ zo zo) vF (ay.nf (EA p2 p3 p4) zo _ _ o8) vF hm Bd
 |false=>
  rw[atS qaV] at hk;obtain⟨m,rfl⟩:∃q,m=q+1:=⟨m- 1,by omega⟩;rw[PR.bind_assoc] at hk;refine aB p1 ?_;refine Kz HT c3 (lo:=h1.nx) zo zo (λh4 k1 g4 c4 oh=>ah2 HT hs E o0 o1 c4 hm (by rw[g4.get _ zo zo];exact p1) (by rw[g4.get _ zo zo];exact p5) (ay.nf ((NF.refl h3).gp g4 zo) zl _ _ o8) zo (by have:=g4.nx;omega) oh)
   (HE.sub hk dL (λv h2 hv=>by refine ag ?_;exact hv) λi v hk h4 row g4 c4 nd tc yj=>?_)
  obtain⟨n4,e4⟩:=bw g4;obtain⟨Ez,rfl,zY,zZ⟩:=nd.shape;have p2':h4.get (h.nx+1)=.one 39 [.i 0,.i 0,.i 0,.i 0,S [],.bx]:=bV e4 p2;refine aB p2' ?_;exact k9 _ _ i _ v (eF e4 (gp dL)) (c4.set _ zo zo) (bV e4 p1) (Hp.bR rfl) (bV e4 p3) (bV e4 p4) (ay.nf ((NF.refl h4).set _ p2') zo _ _ nd) tc yj aa aa aa aa aa hk
end
section
variable{h hh h1:Hp}{c tb n:Nat}{l:List Tk}{op gT:Int}{hd bC:Bool}{k k1:aK->Prop}
variable{ex:Int->Bool->Int->Nat->PR Tree}{st:Int->Nat->PR Tree}
def CK(T:aM->Option CF)(c tb:Nat)(l:List Tk)(st:Int->Nat->PR Tree):Prop:=
 ∀(h:Hp)(n:Nat)(op:Int)(k:aK->Prop),0<=op->op<=128->bp h c tb l n op false->n<l.length->lS c tb l op false h k (st op n)->aE T (W T) ⟨124⟩ [.ptr c 0] h k
theorem cU.EB{lo kS:Nat}{h1:Hp}{k1:aK->Prop}{r:PR Tree}(hk:cU lo c tb l op hd h k r)(g:Pg c h h1)(hp:∀v h2,k (.bn v h2)->k1 (.bn v h2))
 (ho:∀t m,cU lo c tb l op hd h k (.ok t m)->∀h2 row,Pg c h1 h2->bp h2 c tb l m gT bC->ay kS h2 t row->m<l.length->0<m->k1 (.ret (.agg row) h2)):cU kS c tb l gT bC h1 k1 r:=by
 rw[<-Hi r] at hk;exact hk.Oa g hp ho
theorem KA(HT:aA T)(hs:fc l)(S1:CK T c tb l st)(o0:0<=op)(o1:op<=128){F:Nat}(hF:F<8589934592)(hc:bp h c tb l n op false)(hn:n<l.length)
 (hk:lS c tb l op false h k (vE l F st op n)):aE T (W T) ⟨93⟩ [.ptr c 0] h k:=by
 rw[aJ HT.t93];have hx:=hc.lt;have hy:=hc.dW;unfold vE at hk;refine ag ?_;refine qC HT (hc.push _) hn λh1 g1=>?_;obtain⟨n1,e1⟩:=bH g1;have c1:=(hc.push _).mono g1;refine aB Tk.row.eq_1 ?_;refine Kq HT hs c1 hn o0 o1 hF (λeo h2 m k2 g2 c2 hm TM=>S1 h2 m _ k2 zo zo c2 hm TM) (λeo=>aaz HT hs) (hk.Eu (iQ e1) (λv h2 hv=>by refine ag ?_;exact hv) λts m jh hk h2 kv g2 c2 hm hz hkv nk=>?_);obtain⟨n2,e2⟩:=bw g2;obtain⟨m,rfl⟩:∃q,m=q+1:=⟨m- 1,by omega⟩;refine ag ?_;refine gS HT c2 zo hkv λh3 g3=>?_;obtain⟨n3,e3⟩:=bH g3;refine bK e3 e2 e1 hkv ?_;exact hk _ _ (fH e3 e2 e1) ((c2.mono g3).set _ zo zo) (ay.of (t:=aV l (m+1) 10 (tk l n).ak (tk l n).ak [] ts) (dO.nf (((NF.refl h2).g0 g3).set _ (el:=39) (l:=[.i 0,.i 0,.i 0,.i 0,S [],.bx]) (cX e3 e2 e1)) zo _ _ nk)) hm hz
theorem aaJ(HT:aA T)(hs:fc l){q:Int}(hc:bp h c tb l n op hd)(hn:n+1<l.length)
 (hk:lS c tb l op hd h k (Ht l q n)):aE T (W T) ⟨145⟩ [.ptr c 0,.i q] h k:=by
 rw[aJ HT.t145];have hx:=hc.lt;have hy:=hc.dW;unfold Ht at hk;refine ag ?_;refine vB HT (hc.push _) zo λh1 g1 c1=>?_;obtain⟨n1,e1⟩:=bw g1;refine aB Tk.row.eq_1 ?_;refine qC HT ((c1.push _).set _ zo zo) hn λh2 g2=>?_;obtain⟨n2,e2⟩:=bH g2;have c2:=((c1.push _).set _ zo zo).mono g2
 by_cases e:(tk l (n+1)).kind=1
 rw[atS qaf] at hk;refine aS Tk.row.eq_1 e ?_;refine vB HT c2 hn λh3 g3 c3=>?_;obtain⟨n3,e3⟩:=bw g3;have jB:=wT hs hn e zd;refine aU Tk.row.eq_1 e3 e2 ?_;refine gS HT ((c3.push _).set _ zo zo) zo rfl λh4 g4=>?_;obtain⟨n4,e4⟩:=bH g4;refine bK e4 e3 e2 e1 ?_;exact hk _ _ (qB e4 e3 e2 e1) ((((c3.push _).set _ zo zo).mono g4).set _ zo zo) (ay.of (t:=aV l (n+1+1) q (tk l n).ak (tk l (n+1)).ak (tk l (n+1)).text []) rfl) jB zo;rw[atV e] at hk;refine aU Tk.row.eq_1 e e2 ?_;refine gS HT c2 zo rfl λh4 g4=>?_;obtain⟨n4,e4⟩:=bH g4;refine aU e4 e2 e1 ?_;exact hk _ _ (fH e4 e2 e1) ((c2.mono g4).set _ zo zo) (ay.of (t:=aV l (n+1) q (tk l n).ak (tk l n).ak [] []) rfl) hn zo
abbrev cA:List AV:=[.i 0,.i 0,.i 0,.i 0,S [],.bx]
theorem ah5(HT:aA T)(hs:fc l)(E:pW T c tb l ex)(o0:0<=op)(o1:op<=128)(hc:bp h c tb l n op false)(hn:n<l.length)
 (hk:lS c tb l op false h k (Kt l ex op n)):aE T (W T) ⟨144⟩ [.ptr c 0] h k:=by
 rw[aJ HT.t144];have hx:=hc.lt;have hy:=hc.dW;unfold Kt at hk;refine ag ?_;refine Hx HT hs cU.pX hk (hc.push _) hn aZ (λv h2 hv=>by refine ag ?_;exact hv) λee cV hk h1 g1 c1=>?_;obtain⟨n1,e1⟩:=bw g1;refine aB Tk.row.eq_1 ?_;refine Hy HT hs cU.pX zd hk c1 cV (iQ e1) (λv h2 hv=>by refine ag ?_;exact hv) λek jB hk h2 g2 c2=>?_;obtain⟨n2,e2⟩:=bw g2;generalize rq:CC.seq (.af r144_8) .ret=T3;have vG:∀(H:Hp)(f:Fr)(ty e:Tree)(r5 r6:List AV)(m:Nat),Pg c h H->bp H c tb l m op false->H.get h.nx=.one 39 cA->H.get h2.nx=.one 74 (tk l (n+1)).row->H.get (h2.nx+1)=.one 39 r5->H.get (h2.nx+1+1)=.one 39 r6->
  ay h.nx H ty r5->ay h.nx H e r6->m<l.length->0<m->J 0 f=.ptr c 0->J 2 f=.ptr h.nx 0->J 3 f=.i (tk l n).ak->J 4 f=.ptr h2.nx 0->J 5 f=.ptr (h2.nx+1) 0->J 6 f=.ptr (h2.nx+1+1) 0->
  cU h.nx c tb l op false h k (.ok (aV l m 11 (tk l n).ak (tk l (n+1)).ak (tk l (n+1)).text [ty,e]) m)->W T T3 f H [] (finish T (W T) [.cell 6 true 2] k):=by
  intro H f ty e r5 r6 m gH cH q1 q4 q5 q6 d5 d6 hm hz f0 f2 f3 f4 f5 f6 hk;subst rq;have eH:=gp gH;have uH:=gH.nx;have u1:=cH.lt;have u2:=cH.dW;obtain⟨v5,rfl,w5,_⟩:=d5.shape;obtain⟨v6,rfl,w6,_⟩:=d6.shape;have u3:=Hp.lt q1 rfl;have u4:=Hp.lt q4 rfl;have u5:=Hp.lt q5 rfl;have u6:=Hp.lt q6 rfl;obtain⟨m,rfl⟩:∃q,m=q+1:=⟨m- 1,by omega⟩;refine wM f0 f2 f3 f4 f5 f6 q1 q4 q5 q6 Tk.row.eq_1 ?_;refine gS HT (cH.push _) zo rfl λh7 g7=>?_;obtain⟨n7,e7⟩:=bH g7;have q1':h7.get h.nx=.one 39 cA:=bV e7 q1;refine aS f2 q1' ?_;refine hk _ _ (eF e7 eH) (((cH.push _).mono g7).set _ zo zo) (ay.of (t:=aV l (m+1) 11 (tk l n).ak (tk l (n+1)).ak (tk l (n+1)).text [ty,e]) ?_) hm hz;refine Tz ((Hp.de zo).trans ((e7 _ zq).trans (Hp.br aa))) zl zo ?_ ?_;simp only[dZ,auo];exact ay.nf ((((NF.refl H).push _).g0 g7).set _ q1') zl _ _ d5;simp only[dZ,auo];exact ay.nf ((((NF.refl H).push _).g0 g7).set _ q1') zl _ _ d6
 generalize pY:CC.seq (.seq (.af r144_6) (.cond (.t 19) (.af r144_7) .skip)) T3=T2;have k9:∀(H:Hp)(f:Fr)(ty:Tree)(r5:List AV)(m:Nat),Pg c h H->bp H c tb l m op false->H.get h.nx=.one 39 cA->H.get h2.nx=.one 74 (tk l (n+1)).row->H.get (h2.nx+1)=.one 39 r5->H.get (h2.nx+1+1)=.one 39 cA->
  ay h.nx H ty r5->m<l.length->0<m->J 0 f=.ptr c 0->J 2 f=.ptr h.nx 0->J 3 f=.i (tk l n).ak->J 4 f=.ptr h2.nx 0->J 5 f=.ptr (h2.nx+1) 0->J 6 f=.ptr (h2.nx+1+1) 0->
  cU h.nx c tb l op false h k ((if bD (tk l m) [[61]]=true then ex op false 0 (m+1) else .ok zT m).bind λe r=>.ok (aV l r 11 (tk l n).ak (tk l (n+1)).ak (tk l (n+1)).text [ty,e]) r)->W T T2 f H [] (finish T (W T) [.cell 6 true 2] k):=by
  intro H f ty r5 m gH cH q1 q4 q5 q6 d5 hm hz f0 f2 f3 f4 f5 f6 hk;subst pY;have eH:=gp gH;have uH:=gH.nx;have u1:=cH.lt;have u2:=cH.dW;obtain⟨v5,rfl,w5,_⟩:=d5.shape;have u3:=Hp.lt q1 rfl;have u4:=Hp.lt q4 rfl;have u5:=Hp.lt q5 rfl;have u6:=Hp.lt q6 rfl;refine aB f0 ?_;refine He HT cH hm (λe h3 g3 c3=>?_) λe h3 g3 c3=>?_;rw[atV e] at hk;obtain⟨n3,e3⟩:=bw g3;refine aB f0 ?_;refine E _ (m+1) op false 0 _ o0 o1 (atY 0) c3 (lT hs hm e) (hk.sub (gH.trans g3) (λv h2 hv=>by refine ag ?_;exact hv) λt m2 hk h4 TK g4 c4 rW tc yj=>?_);obtain⟨n4,e4⟩:=bw g4;obtain⟨Ez,rfl,zY,zZ⟩:=rW.shape;have q6':h4.get (h2.nx+1+1)=.one 39 cA:=cX e4 e3 q6;refine aS f6 q6' ?_;exact vG _ _ ty t _ _ m2 (fH e4 e3 eH) (c4.set _ zo zo) (cX e4 e3 q1) (cX e4 e3 q4) (cX e4 e3 q5) (Hp.bR rfl) (ay.nf ((((NF.refl H).gp g3 hx).gp g4 hx).set _ q6') zl _ _ d5) (ay.nf ((NF.refl h4).set _ q6') zo _ _ rW) tc yj zA zA zA zA zA zA hk;rw[atS qaf] at hk;obtain⟨n3,e3⟩:=bw g3;refine aB f0 ?_;exact vG _ _ ty zT _ _ m (gH.trans g3) c3 (bV e3 q1) (bV e3 q4) (bV e3 q5) (bV e3 q6) (ay.nf ((NF.refl H).gp g3 hx) zl _ _ d5) vF hm hz zA zA zA zA zA zA hk
 refine aB Tk.row.eq_1 ?_;refine ke HT (((((c2.push _).set _ zo zo).push _).push _).push _) jB (cY.one (x:=[61]) (Hp.br zm) zl zm) zm λh3 g3=>?_;obtain⟨n3,e3⟩:=bH g3;have c3:=(((((c2.push _).set _ zo zo).push _).push _).push _).mono g3;have p1:h3.get h.nx=.one 39 cA:=cX e3 e2 e1;have p4:h3.get h2.nx=.one 74 (tk l (n+1)).row:=bV e3 Tk.row.eq_1;have p5:h3.get (h2.nx+1)=.one 39 cA:=au e3;have p6:h3.get (h2.nx+1+1)=.one 39 cA:=au e3;have dL:Pg c h h3:=(fH e3 e2 e1);cases e:bD (tk l (n+1+1)) [[61]] with
 |true=>
  rw[atV e] at hk;refine ag ?_;exact k9 _ _ zT _ _ dL c3 p1 p4 p5 p6 vF jB zo aa aa aa aa aa aa hk
 |false=>
  rw[atS qaf] at hk;refine ag ?_;refine Tp HT hs c3 jB (hk.sub dL (λv h2 hv=>by refine ag ?_;exact hv) λt m hk h4 TK g4 c4 rW tc yj=>?_);obtain⟨n4,e4⟩:=bw g4;obtain⟨Ez,rfl,zY,zZ⟩:=rW.shape;have p5':h4.get (h2.nx+1)=.one 39 cA:=bV e4 p5;refine aB p5' ?_;exact k9 _ _ t _ m (eF e4 (gp dL)) (c4.set _ zo zo) (bV e4 p1) (bV e4 p4) (Hp.bR rfl) (bV e4 p6) (ay.nf ((NF.refl h4).set _ p5') zo _ _ rW) tc yj aa aa aa aa aa aa hk
theorem ah6{lo b cap r f}{ex:Bool}{t u v:Tree}(hb:h.get b=.rows 39 6 r 0 f)(hr:3<=r)(hl:lo<=b)(n0:ay lo h t (f 0))(n1:ay lo h u (f 1))(n2:ay lo h v (f 2)):dO lo h [t,u,v] (.slice b 0 6 3 cap ex):=by simp only[dO,eR,axS];exact⟨b,cap,ex,r,f,rfl,hb,hr,hl,n0,n1,n2⟩
theorem aaK{lo b cap r f}{ex:Bool}{t u v w:Tree}(hb:h.get b=.rows 39 6 r 0 f)(hr:4<=r)(hl:lo<=b)(n0:ay lo h t (f 0))(n1:ay lo h u (f 1))(n2:ay lo h v (f 2))(n3:ay lo h w (f 3)):dO lo h [t,u,v,w] (.slice b 0 6 4 cap ex):=by simp only[dO,eR,axS];exact⟨b,cap,ex,r,f,rfl,hb,hr,hl,n0,n1,n2,n3⟩
theorem aaL(HT:aA T)(hs:fc l)(E:pW T c tb l ex)(S1:CK T c tb l st)(o0:0<=op)(o1:op<=128){F:Nat}(hF:F<8589934592):∀(g n:Nat)(h:Hp)(k:aK->Prop),bp h c tb l n op false->n<l.length->
 lS c tb l op false h k (Hu l F ex st op g n)->aE T (W T) ⟨142⟩ [.ptr c 0] h k
 |0,_,_,_,_,_,hk=>hk.elim
 |g+1,n,h,k,hc,hn,hk=>by
  rw[aJ HT.t142];have hx:=hc.lt;have hy:=hc.dW;unfold Hu at hk;refine ag ?_;refine Hx HT hs cU.pX hk (hc.push _) hn aZ (λv h2 hv=>by refine ag ?_;exact hv) λee cV hk h1 g1 c1=>?_;obtain⟨n1,e1⟩:=bw g1;refine aB Tk.row.eq_1 ?_;refine Kz HT c1 (lo:=h1.nx) zo zl (λh2 k1 g2 c2 oh=>N9 HT E o0 o1 h2 (n+1) k1 (ah.refl _) c2 cV (cU.lo oh g2.nx)) (cU.pX.sub hk (iQ e1) (λv h2 hv=>by refine ag ?_;exact hv) λx m hk h2 row g2 c2 cZ hm hz=>?_);obtain⟨n2,e2⟩:=bw g2;obtain⟨zX,rfl,wW,Ob⟩:=cZ.shape;refine ag ?_;refine KA HT hs S1 o0 o1 hF ((c2.push _).set _ zo zo) hm (cU.pX.sub hk (eF e2 e1) (λv h2 hv=>by refine ag ?_;exact hv) λb m3 hk h3 row g3 c3 o8 yl Oc=>?_);obtain⟨n3,e3⟩:=bw g3;obtain⟨zW,rfl,Hj,Ew⟩:=o8.shape;generalize TN:CC.seq (.af r142_9) .ret=T9;have dL:Pg c h h3:=(fH e3 e2 e1);have Bh:∀(H:Hp)(f:Fr)(e:Tree)(r6:List AV)(m:Nat),Pg c h3 H->bp H c tb l m op false->H.get h3.nx=.one 39 [.i b.kind,.i b.ak,.i b.to,.i b.at,S b.name,zW]->H.get (h3.nx+1)=.one 39 r6->
   ay h.nx H e r6->m<l.length->0<m->J 0 f=.ptr c 0->J 2 f=.ptr h.nx 0->J 3 f=.i (tk l n).ak->J 4 f=.ptr h2.nx 0->J 5 f=.ptr h3.nx 0->J 6 f=.ptr (h3.nx+1) 0->
   cU h.nx c tb l op false h k (.ok (aV l m 14 (tk l n).ak (tk l n).ak [] [x,b,e]) m)->W T T9 f H [] (finish T (W T) [.cell 6 true 2] k):=by
   intro H f e r6 m gH cH q5 q6 d6 hm hz f0 f2 f3 f4 f5 f6 hk;subst TN;have eH:=gp gH;have uH:=gH.nx;have u1:=cH.lt;have u2:=cH.dW;obtain⟨v6,rfl,w6,_⟩:=d6.shape;have u5:=Hp.lt q5 rfl;have u6:=Hp.lt q6 rfl;obtain⟨m,rfl⟩:∃q,m=q+1:=⟨m- 1,by omega⟩;have q1:H.get h.nx=.one 39 cA:=mw eH e3 e2 e1;have q4:H.get h2.nx=.one 39 [.i x.kind,.i x.ak,.i x.to,.i x.at,S x.name,zX]:=bV eH e3;refine nA f0 f2 f3 f4 f5 f6 q1 q4 q5 q6 ?_;refine gS HT (cH.push _) zo rfl λh7 g7=>?_;obtain⟨n7,e7⟩:=bH g7;have q1':h7.get h.nx=.one 39 cA:=bV e7 q1;refine aS f2 q1' ?_;refine hk _ _ (fH e7 eH (gp dL)) (((cH.push _).mono g7).set _ zo zo) (ay.of (t:=aV l (m+1) 14 (tk l n).ak (tk l n).ak [] [x,b,e]) ?_) hm hz;refine ah6 ((Hp.de zo).trans ((e7 _ zq).trans (Hp.br aa))) zl zo ?_ ?_ ?_;simp only[dZ,auo];exact ay.nf (((((((((NF.refl h2).push _).new _ zo).gp g3 zo).gp gH zo).push _).g0 g7).set _ q1')) zo _ _ cZ;simp only[dZ,auo];exact ay.nf ((((((NF.refl h3).gp gH zq).push _).g0 g7).set _ q1')) zq _ _ o8;simp only[dZ,auo];exact ay.nf ((((NF.refl H).push _).g0 g7).set _ q1') zl _ _ d6
  refine ag ?_;refine He HT (((c3.push _).set _ zo zo).push _) yl (λe h4 g4 c4=>?_) λe h4 g4 c4=>?_;rw[atV e] at hk;obtain⟨n4,e4⟩:=bw g4;have tc:=lT hs yl e;refine ag ?_;refine ke HT (c4.push _) tc (cY.one (x:=[105,102]) (Hp.br zm) zl zm) zm λh5 g5=>?_;obtain⟨n5,e5⟩:=bH g5;have c5:=(c4.push _).mono g5;have qF:Pg c h3 h5:=(eF e5 e4);have p5:h5.get h3.nx=.one 39 [.i b.kind,.i b.ak,.i b.to,.i b.at,S b.name,zW]:=bV e5 e4;have p6:h5.get (h3.nx+1)=.one 39 cA:=bV e5 e4;cases ei:bD (tk l (m3+1)) [[105,102]] with
  |true=>
   rw[atV ei] at hk;refine ag ?_;refine aaL HT hs E S1 o0 o1 hF g (m3+1) h5 _ c5 tc (hk.sub (dL.trans qF) (λv h2 hv=>by refine ag ?_;exact hv) λt m hk h6 ah7 g6 c6 KB TO KC=>?_);obtain⟨n6,e6⟩:=bw g6;obtain⟨kv6,rfl,ah8,nk6⟩:=KB.shape;have p6':h6.get (h3.nx+1)=.one 39 cA:=bV e6 p6;refine aB p6' ?_;exact Bh _ _ t _ m (eF e6 (gp qF)) (c6.set _ zo zo) (bV e6 p5) (Hp.bR rfl) (ay.nf ((NF.refl h6).set _ p6') zo _ _ KB) TO KC aa aa aa aa aa aa hk
  |false=>
   rw[atS (by simp[ei])] at hk;refine ag ?_;refine KA HT hs S1 o0 o1 hF c5 tc (hk.sub (dL.trans qF) (λv h2 hv=>by refine ag ?_;exact hv) λt m hk h6 ah7 g6 c6 KB TO KC=>?_);obtain⟨n6,e6⟩:=bw g6;obtain⟨kv6,rfl,ah8,nk6⟩:=KB.shape;have p6':h6.get (h3.nx+1)=.one 39 cA:=bV e6 p6;refine aB p6' ?_;exact Bh _ _ t _ m (eF e6 (gp qF)) (c6.set _ zo zo) (bV e6 p5) (Hp.bR rfl) (ay.nf ((NF.refl h6).set _ p6') zo _ _ KB) TO KC aa aa aa aa aa aa hk
  rw[atS qaf] at hk;obtain⟨n4,e4⟩:=bw g4;refine ag ?_;exact Bh _ _ zT _ m3 (iQ e4) c4 (au e4) (au e4) vF yl Oc aa aa aa aa aa aa hk
theorem rX.ah9{β:Type}{H:PR β->Prop}(jC:rX c h k H){kS:Nat}{r:PR (Tree×Tree×Tree)}{f:Tree×Tree×Tree->Nat->PR β}(hk:H (r.bind f))(g:Pg c h h1)(hp:∀v h2,k (.bn v h2)->k1 (.bn v h2))
 (ho:∀p m,H (f p m)->∀h2 r1 r2 r3,Pg c h1 h2->bp h2 c tb l m gT bC->ay kS h2 p.1 r1->ay kS h2 p.2.1 r2->ay kS h2 p.2.2 r3->m<l.length->0<m->k1 (.ret (.bA [.agg r1,.agg r2,.agg r3]) h2)):CH kS c tb l gT bC h1 k1 r:=by
 cases r with
 |dN=>exact jC.2 hk
 |er p e=>exact λh2 g2=>hp _ _ (jC.1 _ _ hk h2 (g.trans g2))
 |ok t m=>exact ho t m hk
theorem aaM(HT:aA T)(hs:fc l)(E:pW T c tb l ex)(S1:CK T c tb l st)(o0:0<=op)(o1:op<=128){F:Nat}(hF:F<8589934592)(hc:bp h c tb l n op false)(hn:n<l.length)
 (hk:lS c tb l op false h k (Hv l F ex st op n)):aE T (W T) ⟨143⟩ [.ptr c 0] h k:=by
 rw[aJ HT.t143];have hx:=hc.lt;have hy:=hc.dW;unfold Hv at hk;refine ag ?_;refine Hx HT hs cU.pX hk (hc.push _) hn aZ (λv h2 hv=>by refine ag ?_;exact hv) λee cV hk h1 g1 c1=>?_;obtain⟨n1,e1⟩:=bw g1;generalize TN:CC.seq (.af r143_5) (.seq (.af r143_6) .ret)=T9;have Bh:∀(H:Hp)(f:Fr)(p:Tree×Tree×Tree)(r4 r5 r6:List AV)(m:Nat),Pg c h H->bp H c tb l m op false->h1.nx+2<H.nx->H.get h.nx=.one 39 cA->H.get h1.nx=.one 39 r4->H.get (h1.nx+1)=.one 39 r5->H.get (h1.nx+1+1)=.one 39 r6->
  ay h.nx H p.1 r4->ay h.nx H p.2.1 r5->ay h.nx H p.2.2 r6->m<l.length->0<m->J 0 f=.ptr c 0->J 2 f=.ptr h.nx 0->J 3 f=.i (tk l n).ak->J 4 f=.ptr h1.nx 0->J 5 f=.ptr (h1.nx+1) 0->J 6 f=.ptr (h1.nx+1+1) 0->
  cU h.nx c tb l op false h k ((vE l F st op m).bind λb q=>.ok (aV l q 15 (tk l n).ak (tk l n).ak [] [p.1,p.2.1,p.2.2,b]) q)->W T T9 f H [] (finish T (W T) [.cell 6 true 2] k):=by
  intro H f p r4 r5 r6 m gH cH hH q1 q4 q5 q6 d4 d5 d6 hm hz f0 f2 f3 f4 f5 f6 hk;subst TN;have eH:=gp gH;have uH:=gH.nx;have u1:=cH.lt;have u2:=cH.dW;obtain⟨v4,rfl,w4,_⟩:=d4.shape;obtain⟨v5,rfl,w5,_⟩:=d5.shape;obtain⟨v6,rfl,w6,_⟩:=d6.shape;refine cq f0 f2 f3 f4 f5 f6 ?_;refine KA HT hs S1 o0 o1 hF cH hm (hk.sub gH (λv h2 hv=>by refine ag ?_;exact hv) λb m hk h3 ah' g3 c3 o8 hm hz=>?_);obtain⟨n3,e3⟩:=bw g3;obtain⟨zW,rfl,Hj,Ew⟩:=o8.shape;obtain⟨m,rfl⟩:∃q,m=q+1:=⟨m- 1,by omega⟩;refine wM f0 f2 f3 f4 f5 f6 q1 q4 q5 q6 e3 ?_;refine gS HT (((c3.push _).set _ zo zo).push _) zo rfl λh7 g7=>?_;obtain⟨n7,e7⟩:=bH g7;have q1':h7.get h.nx=.one 39 cA:=cX e7 e3 q1;refine aS f2 q1' ?_;refine hk _ _ (fH e7 e3 eH) (((((c3.push _).set _ zo zo).push _).mono g7).set _ zo zo) (ay.of (t:=aV l (m+1) 15 (tk l n).ak (tk l n).ak [] [p.1,p.2.1,p.2.2,b]) ?_) hm hz;refine aaK ((Hp.de zo).trans ((e7 _ zq).trans (Hp.br aa))) zl zo ?_ ?_ ?_ ?_;simp only[dZ,auo];exact ay.nf (((((((NF.refl H).gp g3 hx).push _).new _ zo).push _).g0 g7).set _ q1') zl _ _ d4;simp only[dZ,auo];exact ay.nf (((((((NF.refl H).gp g3 hx).push _).new _ zo).push _).g0 g7).set _ q1') zl _ _ d5;simp only[dZ,auo];exact ay.nf (((((((NF.refl H).gp g3 hx).push _).new _ zo).push _).g0 g7).set _ q1') zl _ _ d6;simp only[dZ,auo];exact ay.nf ((((((NF.refl h3).push _).new _ zo).push _).g0 g7).set _ q1') zo _ _ o8
 refine aB Tk.row.eq_1 ?_;refine ke HT ((((c1.push _).push _).push _).push _) cV (cY.one (x:=[123]) (Hp.br zm) zl zm) zm λh2 g2=>?_;obtain⟨n2,e2⟩:=bH g2;have c2:=((((c1.push _).push _).push _).push _).mono g2;have p1:h2.get h.nx=.one 39 cA:=bV e2 e1;have p4:h2.get h1.nx=.one 39 cA:=au e2;have p5:h2.get (h1.nx+1)=.one 39 cA:=au e2;have p6:h2.get (h1.nx+1+1)=.one 39 cA:=au e2;have gv:Pg c h h2:=(eF e2 e1);cases eb:bD (tk l (n+1)) [[123]] with
 |true=>
  rw[atV eb] at hk;refine ag ?_;exact Bh _ _ (zT,zT,zT) _ _ _ _ gv c2 zo p1 p4 p5 p6 vF vF vF cV zo aa aa aa aa aa aa hk
 |false=>
  rw[atS qaV] at hk;refine ag ?_;refine ah4 HT hs E o0 o1 hF c2 cV zo (cU.pX.ah9 hk gv (λv h2 hv=>by refine ag ?_;exact hv) λp m hk h3 r1 r2 r3 g3 c3 d1 d2 d3 hm hz=>?_);obtain⟨n3,e3⟩:=bw g3;obtain⟨v4,rfl,w4,_⟩:=d1.shape;obtain⟨v5,rfl,w5,_⟩:=d2.shape;obtain⟨v6,rfl,w6,_⟩:=d3.shape;have p4':h3.get h1.nx=.one 39 cA:=bV e3 p4;have p5':h3.get (h1.nx+1)=.one 39 cA:=bV e3 p5;have p6':h3.get (h1.nx+1+1)=.one 39 cA:=bV e3 p6;refine aU p4' p5' p6' ?_;exact Bh _ _ p _ _ _ m (eF e3 (gp gv)) (((c3.set _ zo zo).set _ zo zo).set _ zo zo) zq (bV e3 p1) aa aa aa (ay.nf (EA p4' p5' p6') zo _ _ d1) (ay.nf (EA p4' p5' p6') zo _ _ d2) (ay.nf (EA p4' p5' p6') zo _ _ d3) hm hz aa aa aa aa aa aa hk
theorem aia(HT:aA T)(hs:fc l)(E:pW T c tb l ex)(S1:CK T c tb l st)(o0:0<=op)(o1:op<=128){F:Nat}(hF:F<8589934592)(hc:bp h c tb l n op false)(hn:n<l.length)
 (hk:lS c tb l op false h k (Ku l F ex st op n)):aE T (W T) ⟨124⟩ [.ptr c 0] h k:=by
 rw[aJ HT.t124];have hx:=hc.lt;have hy:=hc.dW;unfold Ku at hk;refine ag ?_;refine qC HT (hc.push _) hn λh1 g1=>?_;obtain⟨n1,e1⟩:=bH g1;have c1:=(hc.push _).mono g1;have b8:∀(H h4:Hp)(f:Fr)(t:Tree)(row:List AV)(m:Nat),Pg c h H->Pg c H h4->bp h4 c tb l m op false->H.get h.nx=.one 39 cA->ay H.nx h4 t row->m<l.length->0<m->J 2 f=.ptr h.nx 0->cU h.nx c tb l op false h k (.ok t m)->
  ∃kv,row=[.i t.kind,.i t.ak,.i t.to,.i t.at,S t.name,kv]/\h4.get h.nx=.one 39 cA/\k (.ret (.agg row) (h4.set h.nx (.one 39 row))):=by
  intro H h4 f t row m g1 g2 c4 q nd hm hz f2 hk;obtain⟨kv,rfl,hkv,nk⟩:=nd.shape;have e1:=gp g1;have n1:=g1.nx;have e2:=gp g2;have n2:=g2.nx;have ao:=Hp.lt q rfl;have q':h4.get h.nx=.one 39 cA:=bV e2 q;exact⟨kv,rfl,q',hk _ _ (eF e2 e1) (c4.set _ zo zo) (ay.nf ((NF.refl h4).set _ q') zo _ _ nd) hm hz⟩
 have htk:∀{H:Hp}{f:Fr},True:=λ{_ _}=>trivial;refine aB Tk.row.eq_1 ?_;refine ke HT (((c1.push _).set _ zo zo).push _) hn (cY.one (x:=[123]) (Hp.br zm) zl zm) zm λh2 g2=>?_;obtain⟨n2,e2⟩:=bH g2;have c2:=(((c1.push _).set _ zo zo).push _).mono g2;have p22:h2.get h.nx=.one 39 cA:=bV e2 e1;have p32:h2.get h1.nx=.one 74 (tk l n).row:=cX e2 e1 Tk.row.eq_1;have gv:Pg c h h2:=(eF e2 e1);cases e:bD (tk l n) [[123]] with
 |true=>
  rw[atV e] at hk;refine ag ?_;refine KA HT hs S1 o0 o1 hF c2 hn (hk.EB gv (λv h2 hv=>by refine ag ?_;exact hv) λt m hk h9 wY g9 c9 um ym yo=>?_);obtain⟨CL,rfl,q9,hk⟩:=b8 _ _ (fO 2 (.ptr h.nx 0) (nQ [])) t wY m gv g9 c9 p22 um ym yo aa hk;have y9:=Hp.lt q9 rfl;refine aB q9 ?_;exact hk
 |false=>
 rw[atS qaf] at hk;clear e;refine ag ?_;refine ke HT ((c2).push _) hn (cY.one (x:=[105,102]) (Hp.br zm) zl zm) zm λh3 g3=>?_;obtain⟨n3,e3⟩:=bH g3;have c3:=((c2).push _).mono g3;have p23:h3.get h.nx=.one 39 cA:=cX e3 p22 p32;have p33:h3.get h1.nx=.one 74 (tk l n).row:=mw e3 p22 p32 Tk.row.eq_1;have dL:Pg c h h3:=(eF e3 (gp gv));cases e:bD (tk l n) [[105,102]] with
 |true=>
  rw[atV e] at hk;refine ag ?_;refine aaL HT hs E S1 o0 o1 hF F n _ _ c3 hn (hk.EB dL (λv h2 hv=>by refine ag ?_;exact hv) λt m hk h9 wY g9 c9 um ym yo=>?_);obtain⟨CL,rfl,q9,hk⟩:=b8 _ _ (fO 2 (.ptr h.nx 0) (nQ [])) t wY m dL g9 c9 p23 um ym yo aa hk;have y9:=Hp.lt q9 rfl;refine aB q9 ?_;exact hk
 |false=>
 rw[atS qaf] at hk;clear e;refine ag ?_;clear p22 p32 e3;refine ke HT ((c3).push _) hn (cY.one (x:=[102,111,114]) (Hp.br zm) zl zm) zm λh4 g4=>?_;obtain⟨n4,e4⟩:=bH g4;have c4:=((c3).push _).mono g4;have p24:h4.get h.nx=.one 39 cA:=cX e4 p23 p33;have p34:h4.get h1.nx=.one 74 (tk l n).row:=mw e4 p23 p33 Tk.row.eq_1;have uh:Pg c h h4:=(eF e4 (gp dL));cases e:bD (tk l n) [[102,111,114]] with
 |true=>
  rw[atV e] at hk;refine ag ?_;refine aaM HT hs E S1 o0 o1 hF c4 hn (hk.EB uh (λv h2 hv=>by refine ag ?_;exact hv) λt m hk h9 wY g9 c9 um ym yo=>?_);obtain⟨CL,rfl,q9,hk⟩:=b8 _ _ (fO 2 (.ptr h.nx 0) (nQ [])) t wY m uh g9 c9 p24 um ym yo aa hk;have y9:=Hp.lt q9 rfl;refine aB q9 ?_;exact hk
 |false=>
 rw[atS qaf] at hk;clear e;refine ag ?_;clear p23 p33 e4;refine ke HT ((c4).push _) hn (cY.one (x:=[118,97,114]) (Hp.br zm) zl zm) zm λh5 g5=>?_;obtain⟨n5,e5⟩:=bH g5;have c5:=((c4).push _).mono g5;have p25:h5.get h.nx=.one 39 cA:=cX e5 p24 p34;have p35:h5.get h1.nx=.one 74 (tk l n).row:=mw e5 p24 p34 Tk.row.eq_1;have qF:Pg c h h5:=(eF e5 (gp uh));cases e:bD (tk l n) [[118,97,114]] with
 |true=>
  rw[atV e] at hk;refine ag ?_;refine ah5 HT hs E o0 o1 c5 hn (hk.EB qF (λv h2 hv=>by refine ag ?_;exact hv) λt m hk h9 wY g9 c9 um ym yo=>?_);obtain⟨CL,rfl,q9,hk⟩:=b8 _ _ (fO 2 (.ptr h.nx 0) (nQ [])) t wY m qF g9 c9 p25 um ym yo aa hk;have y9:=Hp.lt q9 rfl;refine aB q9 ?_;exact hk
 |false=>
 rw[atS qaf] at hk;clear e;refine ag ?_;clear p24 p34 e5;refine ke HT ((c5).push _) hn (cY.one (x:=[98,114,101,97,107]) (Hp.br zm) zl zm) zm λh6 g6=>?_;obtain⟨n6,e6⟩:=bH g6;have c6:=((c5).push _).mono g6;have p26:h6.get h.nx=.one 39 cA:=cX e6 p25 p35;have p36:h6.get h1.nx=.one 74 (tk l n).row:=mw e6 p25 p35 Tk.row.eq_1;have uo:Pg c h h6:=(eF e6 (gp qF));cases e:bD (tk l n) [[98,114,101,97,107]] with
 |true=>
  rw[atV e] at hk;refine ag ?_;refine aaJ HT hs c6 (lT hs hn e) (hk.EB uo (λv h2 hv=>by refine ag ?_;exact hv) λt m hk h9 wY g9 c9 um ym yo=>?_);obtain⟨CL,rfl,q9,hk⟩:=b8 _ _ (fO 2 (.ptr h.nx 0) (nQ [])) t wY m uo g9 c9 p26 um ym yo aa hk;have y9:=Hp.lt q9 rfl;refine aB q9 ?_;exact hk
 |false=>
 rw[atS qaf] at hk;clear e;refine ag ?_;clear p25 p35 e6;refine ke HT ((c6).push _) hn (cY.one (x:=[99,111,110,116,105,110,117,101]) (Hp.br zm) zl zm) zm λh7 g7=>?_;obtain⟨n7,e7⟩:=bH g7;have c7:=((c6).push _).mono g7;have p27:h7.get h.nx=.one 39 cA:=cX e7 p26 p36;have p37:h7.get h1.nx=.one 74 (tk l n).row:=mw e7 p26 p36 Tk.row.eq_1;have Ab:Pg c h h7:=(eF e7 (gp uo));cases e:bD (tk l n) [[99,111,110,116,105,110,117,101]] with
 |true=>
  rw[atV e] at hk;refine ag ?_;refine aaJ HT hs c7 (lT hs hn e) (hk.EB Ab (λv h2 hv=>by refine ag ?_;exact hv) λt m hk h9 wY g9 c9 um ym yo=>?_);obtain⟨CL,rfl,q9,hk⟩:=b8 _ _ (fO 2 (.ptr h.nx 0) (nQ [])) t wY m Ab g9 c9 p27 um ym yo aa hk;have y9:=Hp.lt q9 rfl;refine aB q9 ?_;exact hk
 |false=>
 rw[atS qaf] at hk;clear e;refine ag ?_;clear p26 p36 e7;have r0:∀(q:Int),True:=λ_=>trivial;refine He HT c7 hn (λe h8 g8 c8=>?_) λe h8 g8 c8=>?_;rw[atV e] at hk;have cV:=lT hs hn e;obtain⟨n8,e8⟩:=bw g8;refine ag ?_;refine qC HT c8 cV λh9 g9=>?_;obtain⟨n9,e9⟩:=bH g9;have c9:=c8.mono g9;have p2:h9.get h.nx=.one 39 cA:=cX e9 e8 p27;have p3:h9.get h1.nx=.one 74 (tk l n).row:=cX e9 e8 p37;have gg9:Pg c h h9:=(fH e9 e8 (gp Ab))
 by_cases k7:(tk l (n+1)).kind=7
 rw[atV (.inl k7)] at hk;refine aU Tk.row.eq_1 k7 p3 ?_;refine gS HT c9 zo rfl λh10 g10=>?_;obtain⟨n10,e10⟩:=bH g10;refine aS e10 p2 ?_;exact hk _ _ (eF e10 (gp gg9)) ((c9.mono g10).set _ zo zo) (ay.of (t:=aV l (n+1) 19 (tk l n).ak (tk l n).ak [] []) rfl) cV zo;refine aS Tk.row.eq_1 k7 ?_;refine ke HT (c9.push _) cV (cY.one (x:=[125]) (Hp.br zm) zl zm) zm λh10 g10=>?_;obtain⟨n10,e10⟩:=bH g10;have c10:=(c9.push _).mono g10;have p2':h10.get h.nx=.one 39 cA:=bV e10 p2;have p3':h10.get h1.nx=.one 74 (tk l n).row:=bV e10 p3;have TP:Pg c h h10:=(eF e10 (gp gg9));cases eb:bD (tk l (n+1)) [[125]] with
 |true=>
  rw[atV (.inr eb)] at hk;refine aS Tk.row.eq_1 p3' ?_;refine gS HT c10 zo rfl λh11 g11=>?_;obtain⟨n11,e11⟩:=bH g11;refine aS e11 p2' ?_;exact hk _ _ (eF e11 (gp TP)) ((c10.mono g11).set _ zo zo) (ay.of (t:=aV l (n+1) 19 (tk l n).ak (tk l n).ak [] []) rfl) cV zo
 |false=>
  rw[atS (by simp[k7,eb])] at hk;refine ag ?_;refine E _ (n+1) op false 0 _ o0 o1 (atY 0) c10 cV (hk.sub TP (λv h2 hv=>by refine ag ?_;exact hv) λt m hk h11 aib g11 c11 KD hm hz=>?_);obtain⟨n11,e11⟩:=bw g11;obtain⟨aic,rfl,aid,aie⟩:=KD.shape;obtain⟨m,rfl⟩:∃q,m=q+1:=⟨m- 1,by omega⟩;refine aU e11 p3' Tk.row.eq_1 ?_;refine gS HT (((c11.push _).set _ zo zo).push _) zo rfl λh12 g12=>?_;obtain⟨n12,e12⟩:=bH g12;have q12:h12.get h.nx=.one 39 cA:=cX e12 e11 p2';refine aB q12 ?_;refine hk _ _ (fH e12 e11 (gp TP)) (((((c11.push _).set _ zo zo).push _).mono g12).set _ zo zo) (ay.of (t:=aV l (m+1) 19 (tk l n).ak (tk l n).ak [] [t]) ?_) hm hz;exact vD ((Hp.de zo).trans ((e12 _ zq).trans (Hp.br aa))) zl zo
   qaw
 rw[atS qaf] at hk;obtain⟨n8,e8⟩:=bw g8;have p2:h8.get h.nx=.one 39 cA:=bV e8 p27;have p3:h8.get h1.nx=.one 74 (tk l n).row:=bV e8 p37;have wZ:Pg c h h8:=(eF e8 (gp Ab));refine ag ?_;refine TD HT hs E c8 hn o0 o1 hF (hk.sub wZ (λv h2 hv=>by refine ag ?_;exact hv) λx m hk h9 wY g9 c9 um hm hz=>?_);obtain⟨n9,e9⟩:=bw g9;obtain⟨CL,rfl,asr,nk9⟩:=um.shape;obtain⟨m,rfl⟩:∃q,m=q+1:=⟨m- 1,by omega⟩;generalize Hh:CC.seq (.af r124_23) .ret=TC;have Bh:∀(H:Hp)(f:Fr),Pg c h9 H->bp H c tb l (m+1) op false->H.get h9.nx=.one 39 [.i x.kind,.i x.ak,.i x.to,.i x.at,S x.name,CL]->J 0 f=.ptr c 0->J 2 f=.ptr h.nx 0->J 5 f=.ptr h9.nx 0->
  cU h.nx c tb l op false h k (uj l ex op false x true (m+1))->W T TC f H [] (finish T (W T) [.cell 6 true 2] k):=by
  intro H f gH cH q9 f0 f2 f5 hk;subst Hh;have eH:=gp gH;have nH:=gH.nx;have u9:=Hp.lt q9 rfl;have nd:ay h8.nx H x _:=ay.nf ((NF.refl h9).gp gH zo) zl _ _ um;refine bK f0 f2 f5 q9 ?_;refine TH HT hs E o0 o1 cH hm nd zo zo (hk.EB (fH eH e9 (gp wZ)) (λv h2 hv=>by refine ag ?_;exact hv) λt m2 hk h10 aif g10 c10 KE TQ TR=>?_);obtain⟨n10,e10⟩:=bw g10;obtain⟨aih,rfl,aii,aij⟩:=KE.shape;have q10:h10.get h.nx=.one 39 cA:=mw e10 eH e9 p2;refine aS f2 q10 ?_;exact hk _ _ (qB e10 eH e9 (gp wZ)) (c10.set _ zo zo) (ay.nf ((NF.refl h10).set _ q10) zo _ _ KE) TQ TR
 by_cases e25:x.kind=25
 refine aB e25 ?_;refine He HT ((c9.push _).set _ zo zo) hm (λe h10 g10 c10=>?_) λe h10 g10 c10=>?_;rw[atV ⟨e25,e⟩] at hk;obtain⟨n10,e10⟩:=bw g10;refine aB e10 ?_;refine aaM HT hs E S1 o0 o1 hF c10 (lT hs hm e) (hk.sub (fH e10 e9 (gp wZ)) (λv h2 hv=>by refine ag ?_;exact hv) λt m2 hk h11 aib g11 c11 KD aik ail=>?_);obtain⟨n11,e11⟩:=bw g11;obtain⟨aic,rfl,aid,aie⟩:=KD.shape;obtain⟨m2,rfl⟩:∃q,m2=q+1:=⟨m2- 1,by omega⟩;have u11:=c11.lt;have ass:=c11.dW;have u10:=c10.lt;have q3:h11.get h1.nx=.one 74 (tk l n).row:=mw e11 e10 e9 p3;have u1:=Hp.lt q3 rfl;have q9:h11.get h9.nx=.one 39 [.i 25,.i x.ak,.i x.to,.i x.at,S x.name,CL]:=bV e11 e10;have u9:=Hp.lt q9 rfl;refine aU q9 q3 Tk.row.eq_1 ?_;refine gS HT (((c11.push _).set _ zo zo).push _) zo rfl λh12 g12=>?_;obtain⟨n12,e12⟩:=bH g12;have q12:h12.get h.nx=.one 39 cA:=zg5 e12 e11 e10 e9 p2;refine aB q12 ?_;refine hk _ _ (Ei e12 e11 e10 e9 (gp wZ)) (((((c11.push _).set _ zo zo).push _).mono g12).set _ zo zo) (ay.of (t:=aV l (m2+1) 16 (tk l n).ak (tk l n).ak x.name [t]) ?_) aik ail;exact vD ((Hp.de zo).trans ((e12 _ zq).trans (Hp.br aa))) zl zo
  qaw
 rw[atS qaf] at hk;obtain⟨n10,e10⟩:=bw g10;refine ag ?_;exact Bh _ _ (iQ e10) c10 (bV e10 e25) aa aa aa hk;rw[atS (by simp[e25])] at hk;refine aB e25 ?_;exact Bh _ _ ((ah.push (ah.refl _) _).set _ (.inl zl)) ((c9.push _).set _ zo zo) (Hp.bR rfl) aa aa aa hk
theorem aaN(HT:aA T)(hs:fc l)(E:pW T c tb l ex){F:Nat}(hF:F<8589934592):∀f:Nat,CK T c tb l (Hw l F ex f)
 |0=>λ_ _ _ _ _ _ _ _ hk=>hk.elim
 |f+1=>λh n op k o0 o1 hc hn hk=>aia HT hs E (aaN HT hs E hF f) o0 o1 hF hc hn hk
theorem aaO(HT:aA T){q:Int}(hx:c<h.nx)
 (hk:∀h' b1 b2,ax h h'->h'.get b1=.one 72 [.ptr c 0]->h'.get b2=.one 3 [.i q]->h.nx<=b1->h.nx<=b2->k (.ret (.func ⟨121⟩ [] [.ptr b1 0,.ptr b2 0]) h')):aE T (W T) ⟨89⟩ [.ptr c 0,.i q] h k:=by
 rw[aJ HT.t89];refine ag ?_;exact hk _ h.nx (h.nx+1) aZ aa aa zl zo
theorem aaP(HT:aA T)(hs:fc l){q:Int}{b1 b2:Nat}(q1:hh.get b1=.one 72 [.ptr c 0])(q2:hh.get b2=.one 3 [.i q])(n1:b1≠c)(n2:b2≠c):Kn T hh c tb l op hd ⟨121⟩ [.ptr b1 0,.ptr b2 0] (En l q):=by
 intro h n k g hc hn hk;have x1:=Hp.lt q1 rfl;have x2:=Hp.lt q2 rfl;have hx:=hc.lt;have hy:=hc.dW;have r1:h.get b1=.one 72 [.ptr c 0]:=by rw[g.get _ x1 n1];exact q1
 have r2:h.get b2=.one 3 [.i q]:=by rw[g.get _ x2 n2];exact q2
 have y1:=Hp.lt r1 rfl;have y2:=Hp.lt r2 rfl;rw[aJ HT.t121];unfold En at hk;refine aB r1 ?_;refine Hy HT hs cU.pX zd hk (hc.push _) hn aZ (λv h2 hv=>by refine ag ?_;exact hv) λek cV hk h1 g1 c1=>?_;obtain⟨n1,e1⟩:=bw g1;refine aU e1 r1 Tk.row.eq_1 ?_;refine Tp HT hs ((c1.push _).set _ zo zo) cV (hk.sub (iQ e1) (λv h2 hv=>by refine ag ?_;exact hv) λt m hk h2 row g2 c2 nd hm hz=>?_);obtain⟨n2,e2⟩:=bw g2;obtain⟨kv,rfl,hkv,nk⟩:=nd.shape;obtain⟨m,rfl⟩:∃q,m=q+1:=⟨m- 1,by omega⟩;have p3:h2.get h1.nx=.one 74 (tk l n).row:=bV e2 Tk.row.eq_1;have p4:=Hp.lt p3 rfl;refine cq e2 e1 r1 r2 p3 Tk.row.eq_1 ?_;refine gS HT (((c2.push _).set _ zo zo).push _) zo rfl λh3 g3=>?_;obtain⟨n3,e3⟩:=bH g3;have q3:h3.get h.nx=.one 39 cA:=cX e3 e2 e1;refine aB q3 ?_;refine hk _ _ (fH e3 e2 e1) (((((c2.push _).set _ zo zo).push _).mono g3).set _ zo zo) (ay.of (t:=aV l (m+1) q (tk l n).ak (tk l n).ak (tk l n).text [t]) ?_) hm hz;exact vD ((Hp.de zo).trans ((e3 _ zq).trans (Hp.br aa))) zl zo
  (by simp only[dZ,auo];exact ay.nf ((((((NF.refl h2).push _).new _ zo).push _).g0 g3).set _ q3) zq _ _ nd)
theorem aim(HT:aA T)(hs:fc l)(o0:0<=op)(o1:op<=128)(hc:bp h c tb l n op hd)(hn:n<l.length)
 (hk:lS c tb l op hd h k (Kv l op n)):aE T (W T) ⟨90⟩ [.ptr c 0] h k:=by
 rw[aJ HT.t90];have hx:=hc.lt;have hy:=hc.dW;unfold Kv at hk;refine ag ?_;refine Ts HT hs (((hc.push _).push _).push _) hn o0 o1 (left:=[40]) (right:=[41]) (λe eo h' g'=>?_) (λe h' g'=>?_) (λe eo h4 g4 c4=>?_)
 ·rw[atV e,atV eo] at hk;have n':=g'.nx;have e':=gp g';try simp only[Hp.eE,Hp.iy] at n'
  refine ag ?_;exact hk.er (iQ e')
 ·rw[atS qaW] at hk;have n':=g'.nx;have e':=gp g';try simp only[Hp.eE,Hp.iy] at n'
  refine ag ?_;exact hk.er (iQ e')
 rw[atV e,atS eo] at hk;obtain⟨n4,e4⟩:=bw g4;have cV:=lT hs hn e;rw[aJ HT.t122];have p1:h4.get h.nx=.one 72 [.ptr c 0]:=au e4;have p2:h4.get (h.nx+1+1)=.one 39 cA:=au e4;have p3:h4.get (h.nx+1)=.one 39 cA:=au e4;have uh:Pg c h h4:=(iQ e4);clear e4;refine aB p1 ?_;refine Hy HT hs cU.pX zd hk c4 cV uh (λv h2 hv=>by simp(disch:=omega) [WK];exact hv) λek jB hk h5 g5 c5=>?_;obtain⟨n5,e5⟩:=bw g5;refine aU e5 p1 Tk.row.eq_1 ?_;refine Hy HT hs cU.pX zd hk ((c5.push _).set _ zo zo) jB (eF e5 (gp uh)) (λv h2 hv=>by simp(disch:=omega) [WK];exact hv) λek Cy hk h6 g6 c6=>?_;obtain⟨n6,e6⟩:=bw g6;have p5:h6.get h5.nx=.one 74 (tk l (n+1)).row:=bV e6 Tk.row.eq_1;have p6:=Hp.lt p5 rfl;have uo:Pg c h4 h6:=(eF e6 e5);refine bK e6 e5 p1 Tk.row.eq_1 ?_;refine gS (n:=n+1+1) HT ((c6.push _).set _ zo zo) zo rfl λh7 g7=>?_;obtain⟨n7,e7⟩:=bH g7;have c7:=((c6.push _).set _ zo zo).mono g7;have Ab:Pg c h4 h7:=(eF e7 (gp uo));have p7:h7.get h5.nx=.one 74 (tk l (n+1)).row:=bV e7 p5;have p8:=Hp.lt p7 rfl;have p9:h7.get h.nx=.one 72 [.ptr c 0]:=cX e7 (gp uo) p1;refine aU p7 p9 Tk.row.eq_1 ?_;refine gS (n:=n+1+1) HT (((c7.push _).set _ zo zo).push _) zo rfl λh8 g8=>?_;obtain⟨n8,e8⟩:=bH g8;have c8:=((((c7.push _).set _ zo zo).push _).mono g8);have p10:h8.get (h.nx+1+1)=.one 39 cA:=mw e8 e7 (gp uo) p2;have p11:h8.get (h.nx+1)=.one 39 cA:=mw e8 e7 (gp uo) p3;have wZ:Pg c h4 h8:=(eF e8 (gp Ab));have u10:=Hp.lt p10 rfl;simp(disch:=omega) [p10,WK];refine⟨n+1+1+1,Cy,c8.set _ zo zo,λey h9 g9 c9=>?_,λen h9 g9=>?_⟩;rw[atV ey] at hk;obtain⟨n9,e9⟩:=bw g9;have p12:h9.get (h.nx+1)=.one 39 cA:=bV e9 p11;have u12:=Hp.lt p12 rfl;refine aS e9 p11 ?_;refine hk _ _ (fH e9 (gp wZ) (gp uh)) (c9.set _ zo zo) (ay.of (t:=aV l (n+1+1+1) 7 (tk l (n+1)).ak (tk l (n+1)).ak (tk l (n+1)).text [aV l (n+1+1+1) 8 (tk l (n+1+1)).ak (tk l (n+1+1)).ak (tk l (n+1+1)).text []]) ?_) (lT hs Cy ey) zo;have:dO h.nx h8 [aV l (n+1+1+1) 8 (tk l (n+1+1)).ak (tk l (n+1+1)).ak (tk l (n+1+1)).text []] (.slice (h7.nx+1) 0 6 1 1 true):=by refine vD ((e8 _ zq).trans (Hp.br aa)) zl zo ?_;simp only[dZ,auo];exact ay.of (t:=aV l (n+1+1+1) 8 (tk l (n+1+1)).ak (tk l (n+1+1)).ak (tk l (n+1+1)).text []) rfl
 exact dO.nf ((((NF.refl h8).set _ p10).gp g9 hx).set _ p12) zl _ _ this;rw[atS (by rw[en];simp)] at hk;obtain⟨n9,e9⟩:=bw g9;exact hk.er (fH e9 (gp wZ) (gp uh))
theorem bp.ast{x:Nat}{v:AV}{el:Nat}(hc:bp h c tb l n op hd)(q:h.get x=.one el [v]):x≠c:=hc.wU q
theorem ain(HT:aA T)(hs:fc l)(o0:0<=op)(o1:op<=128){F:Nat}(hF:F<8589934592)(hc:bp h c tb l n op hd)(hn:n<l.length)
 (hk:lS c tb l op hd h k (Ky l F op n)):aE T (W T) ⟨53⟩ [.ptr c 0] h k:=by
 rw[aJ HT.t53];have hx:=hc.lt;have hy:=hc.dW;unfold Ky at hk;refine ag ?_;refine Hx HT hs cU.pX hk (hc.push _) hn aZ (λv h2 hv=>by refine ag ?_;exact hv) λee cV hk h1 g1 c1=>?_;obtain⟨n1,e1⟩:=bw g1;refine aB Tk.row.eq_1 ?_;refine Hy HT hs cU.pX zd hk c1 cV (iQ e1) (λv h2 hv=>by refine ag ?_;exact hv) λek jB hk h2 g2 c2=>?_;obtain⟨n2,e2⟩:=bw g2;refine aB Tk.row.eq_1 ?_;refine Hx HT hs cU.pX hk ((c2.push _).set _ zo zo) jB (eF e2 e1) (λv h2 hv=>by refine ag ?_;exact hv) λee Cy hk h3 g3 c3=>?_;obtain⟨n3,e3⟩:=bw g3;have p1:h3.get h.nx=.one 39 cA:=cX e3 e2 e1;have p4:h3.get h2.nx=.one 74 (tk l (n+1)).row:=bV e3 Tk.row.eq_1;have u4:=Hp.lt p4 rfl;have dL:Pg c h h3:=(fH e3 e2 e1);refine aB Tk.row.eq_1 ?_;refine aaO HT zo λh4 b1 b2 g4 q1 q2 w1 w2=>?_;obtain⟨n4,e4⟩:=bH g4;have c4:=c3.mono g4;refine ag ?_;refine Kq HT hs c4 Cy o0 o1 hF (λeo=>aaP HT hs q1 q2 (c4.wU q1) (c4.wU q2)) (λeo=>aaz HT hs) (hk.Eu (eF e4 (gp dL)) (λv h2 hv=>by refine ag ?_;exact hv) λts m jh hk h5 kv g5 c5 hm hz hkv nk=>?_);obtain⟨n5,e5⟩:=bw g5;obtain⟨m,rfl⟩:∃q,m=q+1:=⟨m- 1,by omega⟩;have p5:h5.get h2.nx=.one 74 (tk l (n+1)).row:=cX e5 e4 p4;have u5:=Hp.lt p5 rfl;refine aS p5 Tk.row.eq_1 ?_;refine gS HT c5 zo hkv λh6 g6=>?_;obtain⟨n6,e6⟩:=bH g6;have p6:h6.get h.nx=.one 39 cA:=mw e6 e5 e4 p1;refine aS p6 hkv ?_;exact hk _ _ (qB e6 e5 e4 (gp dL)) ((c5.mono g6).set _ zo zo) (ay.of (t:=aV l (m+1) 3 (tk l n).ak (tk l (n+1)).ak (tk l (n+1)).text ts) (dO.nf (((NF.refl h5).g0 g6).set _ p6) zo _ _ nk)) hm hz
theorem aio(HT:aA T)(hs:fc l)(S1:CK T c tb l st)(o0:0<=op)(o1:op<=128){F:Nat}(hF:F<8589934592)(hc:bp h c tb l n op false)(hn:n<l.length)
 (hk:lS c tb l op false h k (Kw l F st op n)):aE T (W T) ⟨54⟩ [.ptr c 0] h k:=by
 rw[aJ HT.t54];have hx:=hc.lt;have hy:=hc.dW;unfold Kw at hk;refine ag ?_;refine Hx HT hs cU.pX hk (hc.push _) hn aZ (λv h2 hv=>by refine ag ?_;exact hv) λee cV hk h1 g1 c1=>?_;obtain⟨n1,e1⟩:=bw g1;generalize pY:CC.seq (.af r54_5) (.seq (.af r54_6) (.seq (.af r54_7) (.seq (.af r54_8) (.seq (.seq (.af r54_9) (.cond (.t 38) (.af r54_10) .skip)) (.seq (.af r54_11) (.seq (.af r54_12) .ret))))))=T2;have k9:∀(H:Hp)(f:Fr)(r:Tree)(r4:List AV)(o:Nat),Pg c h H->bp H c tb l o op false->H.get h.nx=.one 39 cA->H.get h1.nx=.one 39 r4->H.get (h1.nx+1)=.one 39 cA->ay h.nx H r r4->o<l.length->0<o->
  J 0 f=.ptr c 0->J 2 f=.ptr h.nx 0->J 3 f=.i (tk l n).ak->J 4 f=.ptr h1.nx 0->J 5 f=.ptr (h1.nx+1) 0->
  cU h.nx c tb l op false h k ((jR l 1 o).bind λu q=>
   (wS l [40] [41] (En l 7) (Cu l [41]) op F q).bind λps s=>(if bD (tk l s) [[123]]=true then .ok zT s else Ct l s).bind λty v=>
    (vE l F st op v).bind λb w=>.ok (aV l w 5 (tk l n).ak u.ak u.text [r,aV l s 6 (tk l q).ak (tk l q).ak [] ps,ty,b]) w)->
  W T T2 f H [] (finish T (W T) [.cell 6 true 2] k):=by
  intro H f r r4 o gH cH q1 q4 q5 d4 ho hz f0 f2 f3 f4 f5 hk;have eH:=gp gH;have uH:=gH.nx;have u1:=cH.lt;have u2:=cH.dW;have u4:=Hp.lt q4 rfl;have u5:=Hp.lt q5 rfl;obtain⟨v4,rfl,w4,_⟩:=d4.shape;rw[<-pY];generalize rq:CC.seq (.af r54_11) (.seq (.af r54_12) .ret)=T3;refine aB f0 ?_;refine Hy HT hs cU.pX zd hk cH ho gH (λv h2 hv=>by refine ag ?_;exact hv) λek qy hk h2 g2 c2=>?_;obtain⟨n2,e2⟩:=bw g2;refine aS f0 Tk.row.eq_1 ?_;refine qC HT ((c2.push _).set _ zo zo) qy λh3 g3=>?_;obtain⟨n3,e3⟩:=bH g3;have c3:=((c2.push _).set _ zo zo).mono g3;have p6:h3.get h2.nx=.one 74 (tk l o).row:=bV e3 Tk.row.eq_1;have u6:=Hp.lt p6 rfl;have dL:Pg c H h3:=(eF e3 e2);refine aS f0 Tk.row.eq_1 ?_;refine Tw HT zo λh4 b1 b2 g4 x1 x2 w1 w2=>?_;obtain⟨n4,e4⟩:=bH g4;refine aB f0 ?_;refine aaO HT zo λh5 b3 b4 g5 x3 x4 w3 w4=>?_;obtain⟨n5,e5⟩:=bH g5;have c5:=(c3.mono g4).mono g5;have y1:h5.get b1=.one 72 [.ptr c 0]:=by rw[e5 _ (Hp.lt x1 rfl)];exact x1
  have y2:h5.get b2=.one 9 [S [41]]:=by rw[e5 _ (Hp.lt x2 rfl)];exact x2
  have qF:Pg c H h5:=(fH e5 e4 (gp dL));refine aB f0 ?_;refine Kq HT hs c5 qy o0 o1 hF (λeo=>aaP HT hs x3 x4 (c5.wU x3) (c5.wU x4)) (λeo=>Tx HT hs y1 y2 (c5.wU y1) (c5.wU y2)) (hk.Eu (gH.trans qF) (λv h2 hv=>by refine ag ?_;exact hv) λps s jh hk h6 kv g6 c6 hm KC hkv nk=>?_);obtain⟨n6,e6⟩:=bw g6;obtain⟨s,rfl⟩:∃q,s=q+1:=⟨s- 1,by omega⟩;have p7:h6.get h2.nx=.one 74 (tk l o).row:=mw e6 e5 e4 p6;have uo:Pg c H h6:=(eF e6 (gp qF));refine aB f0 ?_;refine gS HT c6 zo hkv λh7 g7=>?_;obtain⟨n7,e7⟩:=bH g7;have c7:=c6.mono g7;have q1':h7.get h.nx=.one 39 cA:=cX e7 (gp uo) q1;have q4':h7.get h1.nx=.one 39 [.i r.kind,.i r.ak,.i r.to,.i r.at,S r.name,v4]:=cX e7 (gp uo) q4;have q5':h7.get (h1.nx+1)=.one 39 cA:=cX e7 (gp uo) q5;have p7':h7.get h2.nx=.one 74 (tk l o).row:=bV e7 p7;have u7:=Hp.lt p7' rfl;have Ab:Pg c h h7:=(fH e7 (gp uo) eH);have dr:ay h.nx h7 r [.i r.kind,.i r.ak,.i r.to,.i r.at,S r.name,v4]:=ay.nf (((NF.refl H).gp uo hx).g0 g7) zl _ _ d4;have dp:ay h.nx h7 (aV l (s+1) 6 (tk l (o+1)).ak (tk l (o+1)).ak [] ps) [.i 6,.i (tk l (o+1)).ak,.i (tk l s).to,.i (tk l (o+1)).ak,S [],kv]:=ay.of (t:=aV l (s+1) 6 (tk l (o+1)).ak (tk l (o+1)).ak [] ps) (dO.nf ((NF.refl h6).g0 g7) zo _ _ nk);have vG:∀(H3:Hp)(f:Fr)(ty:Tree)(r5:List AV)(v:Nat),bp H3 c tb l v op false->H3.get h7.nx=.one 39 [.i 6,.i (tk l (o+1)).ak,.i (tk l s).to,.i (tk l (o+1)).ak,S [],kv]->H3.get (h1.nx+1)=.one 39 r5->NF h.nx h7 H3->ay h.nx H3 ty r5->v<l.length->0<v->H3.get h.nx=.one 39 cA->H3.get h1.nx=.one 39 [.i r.kind,.i r.ak,.i r.to,.i r.at,S r.name,v4]->H3.get h2.nx=.one 74 (tk l o).row->Pg c h H3->
   J 0 f=.ptr c 0->J 2 f=.ptr h.nx 0->J 3 f=.i (tk l n).ak->J 4 f=.ptr h1.nx 0->J 5 f=.ptr (h1.nx+1) 0->J 6 f=.ptr h2.nx 0->J 9 f=.ptr h7.nx 0->
   cU h.nx c tb l op false h k ((vE l F st op v).bind λb w=>.ok (aV l w 5 (tk l n).ak (tk l o).ak (tk l o).text [r,aV l (s+1) 6 (tk l (o+1)).ak (tk l (o+1)).ak [] ps,ty,b]) w)->
   W T T3 f H3 [] (finish T (W T) [.cell 6 true 2] k):=by
   intro H3 f ty r5 v c3 x9 x5 KF d5 hv Oc x1 x4 x6 gh3 f0 f2 f3 f4 f5 f6 f9 hk;subst rq;obtain⟨v5,rfl,w5,_⟩:=d5.shape;have t9:=Hp.lt x9 rfl;have t5:=Hp.lt x5 rfl;have t1:=Hp.lt x1 rfl;have t4:=Hp.lt x4 rfl;have t6:=Hp.lt x6 rfl;refine aB f0 ?_;refine KA HT hs S1 o0 o1 hF c3 hv (hk.sub gh3 (λv h2 hv=>by refine ag ?_;exact hv) λb w hk h8 asu g8 c8 nd8 hm8 hz8=>?_);obtain⟨n8,e8⟩:=bw g8;obtain⟨kv8,rfl,asv,nk8⟩:=nd8.shape;obtain⟨w,rfl⟩:∃q,w=q+1:=⟨w- 1,by omega⟩;refine kC f0 f2 f3 f4 f5 f6 f9 e8 x1 x4 x5 x6 (atQ x9 Tk.row.eq_1) ?_;refine gS HT (((c8.push _).set _ zo zo).push _) zo rfl λh9 g9=>?_;obtain⟨n9,e9⟩:=bH g9;have y1':h9.get h.nx=.one 39 cA:=cX e9 e8 x1;refine aS f2 y1' ?_;refine hk _ _ (fH e9 e8 (gp gh3)) (((((c8.push _).set _ zo zo).push _).mono g9).set _ zo zo) (ay.of (t:=aV l (w+1) 5 (tk l n).ak (tk l o).ak (tk l o).text [r,aV l (s+1) 6 (tk l (o+1)).ak (tk l (o+1)).ak [] ps,ty,b]) ?_) hm8 hz8;have TS:NF h.nx H3 (h9.set h.nx _):=((((((NF.refl H3).gp g8 hx).push _).new _ zo).push _).g0 g9).set (.one 39 [.i 5,.i (tk l n).ak,.i (tk l w).to,.i (tk l o).ak,S (tk l o).text,.slice (h8.nx+1) 0 6 4 4 true]) y1';refine aaK ((Hp.de zo).trans ((e9 _ zq).trans (Hp.br aa))) zl zo ?_ ?_ ?_ ?_;simp only[dZ,auo];exact ay.nf (KF.trans TS) zl _ _ dr;simp only[dZ,auo];exact ay.nf (KF.trans TS) zl _ _ dp;simp only[dZ,auo];exact ay.nf TS zl _ _ d5;simp only[dZ,auo];exact ay.nf ((((((NF.refl h8).push _).new _ zo).push _).g0 g9).set _ y1') zo _ _ nd8
  refine aS f0 hkv ?_;refine ke HT (((c7.push _).set _ zo zo).push _) hm (cY.one (x:=[123]) (Hp.br zm) zl zm) zm λh8 g8=>?_;obtain⟨n8,e8⟩:=bH g8;have c8:=(((c7.push _).set _ zo zo).push _).mono g8;have wZ:Pg c h7 h8:=(iQ e8);have z9:h8.get h7.nx=.one 39 [.i 6,.i (tk l (o+1)).ak,.i (tk l s).to,.i (tk l (o+1)).ak,S [],kv]:=au e8;have u9:=Hp.lt z9 rfl;have z5:h8.get (h1.nx+1)=.one 39 cA:=bV e8 q5';have nf8:NF h.nx h7 h8:=((((NF.refl h7).push _).new _ zo).push _).g0 g8;cases eb:bD (tk l (s+1)) [[123]] with
  |true=>
   rw[atV eb] at hk;refine aB f0 ?_;exact vG _ _ zT _ (s+1) c8 z9 z5 nf8 vF hm KC (bV e8 q1') (bV e8 q4') (bV e8 p7') (Ab.trans wZ) zA zA zA zA zA aa aa hk
  |false=>
   rw[atS qaV] at hk;refine aB f0 ?_;refine Tp HT hs c8 hm (hk.sub (Ab.trans wZ) (λv h2 hv=>by refine ag ?_;exact hv) λt v hk h10 aif g10 c10 KE TQ TR=>?_);obtain⟨n10,e10⟩:=bw g10;obtain⟨aih,rfl,aii,aij⟩:=KE.shape;have z5':h10.get (h1.nx+1)=.one 39 cA:=bV e10 z5;refine aS f5 z5' ?_;exact vG _ _ t _ v (c10.set _ zo zo) (bV e10 z9) (Hp.bR rfl) ((nf8.gp g10 hx).set _ z5') (ay.nf ((NF.refl h10).set _ z5') zo _ _ KE) TQ TR (cX e10 e8 q1') (cX e10 e8 q4') (cX e10 e8 p7') (fH e10 (gp wZ) (gp Ab))
    zA zA zA zA zA aa aa hk
 refine aB Tk.row.eq_1 ?_;refine ke HT (((c1.push _).push _).push _) cV (cY.one (x:=[40]) (Hp.br zm) zl zm) zm λh2 g2=>?_;obtain⟨n2,e2⟩:=bH g2;have c2:=(((c1.push _).push _).push _).mono g2;have p1:h2.get h.nx=.one 39 cA:=bV e2 e1;have p4:h2.get h1.nx=.one 39 cA:=au e2;have p5:h2.get (h1.nx+1)=.one 39 cA:=au e2;have gv:Pg c h h2:=(eF e2 e1);cases eb:bD (tk l (n+1)) [[40]] with
 |true=>
  rw[atV eb] at hk;refine ag ?_;refine aim HT hs o0 o1 c2 cV (hk.sub gv (λv h2 hv=>by refine ag ?_;exact hv) λt v hk h3 ah' g3 c3 o8 yl Oc=>?_);obtain⟨n3,e3⟩:=bw g3;obtain⟨zW,rfl,Hj,Ew⟩:=o8.shape;have p4':h3.get h1.nx=.one 39 cA:=bV e3 p4;refine aB p4' ?_;exact k9 _ _ t _ v (eF e3 (gp gv)) (c3.set _ zo zo) (bV e3 p1) (Hp.bR rfl) (bV e3 p5) (ay.nf ((NF.refl h3).set _ p4') zo _ _ o8) yl Oc aa aa aa aa aa hk
 |false=>
  rw[atS qaV] at hk;refine ag ?_;exact k9 _ _ zT _ (n+1) gv c2 p1 p4 p5 vF cV zo aa aa aa aa aa hk
end
section
variable(l:List Tk)(F:Nat)
def Ac(o:List UInt8×Bool)(n:Nat):PR Tree:=
 (lR l [105,109,112,111,114,116] n).bind λt m=>if(tk l m).kind≠5 then .er (tk l m).ak 4 else if o.2 =false then .er (tk l m).ak 9
  else .ok (aV l (m+1) 2 t.ak (tk l m).ak o.1 []) (m+1)
def vH:Nat->(Nat->List UInt8×Bool)->Nat->List Tree->PR (List Tree)
 |0,_,_,_=>.dN
 |g+1,o,n,bf=>if bD (tk l n) [[105,109,112,111,114,116]]=true then(Ac l (o 0) n).bind λt m=>(mU l m).bind λ_ q=>vH g (λi=>o (i+1)) q (bf++[t]) else .ok bf n
variable(st:Int->Nat->PR Tree)
def yp:Nat->Nat->List Tree->PR (List Tree)
 |0,_,_=>.dN
 |g+1,n,bf=>if n+1<l.length then(if bD (tk l n) [[116,121,112,101]]=true then Ky l F 0 n else Kw l F st 0 n).bind λt m=>(mU l m).bind λ_ q=>yp g q (bf++[t]) else .ok bf n
def Ad(to:Int)(o:Nat->List UInt8×Bool)(n:Nat):PR Tree:=
 (lR l [112,97,99,107,97,103,101] n).bind λ_ m=>(jR l 1 m).bind λu q=>(mU l q).bind λ_ r=>(vH l F o r []).bind λis s=>(yp l F st F s is).bind λds v=>.ok (.mk 1 0 to u.ak u.text ds) v
end
section
variable{h hh h1:Hp}{c tb n:Nat}{l:List Tk}{op gT:Int}{hd bC:Bool}{k k1:aK->Prop}
def pZ(lo:Nat)(h:Hp)(v:AV)(ts:List Tree):Prop:=
 ts=[]/\v=.bx\/∃b r f,lo<=b/\v=.slice b 0 6 ts.length ts.length false/\ts≠[]/\h.get b=.rows 39 6 r 0 f/\ts.length<=r/\eR lo (h.set b .eD) ts f
theorem pZ.pg{lo:Nat}{h h':Hp}{v ts}(x:pZ lo h v ts)(g:Pg c h h')(hc:c<lo):pZ lo h' v ts:=by
 have e:∀i o,lo<=i->h.get i=o->jN o=false->h'.get i=o:=λi o hi ho hn=>by rw[g.get i (Hp.lt ho hn) zo];exact ho
 rcases x with x|⟨b,r,f,h1,h2,h3,h4,h5,h6⟩;exact .inl x;refine .inr ⟨b,r,f,h1,h2,h3,e b _ h1 h4 rfl,h5,eR.nf (lo:=lo) (λi r f hi he=>?_) zl _ _ h6⟩
 by_cases hb:i=b
 subst hb;rw[Hp.bR rfl] at he;cases he;rw[Hp.de hb] at he⊢;exact e i _ hi he rfl
theorem pZ.kids{lo:Nat}{h:Hp}{v ts}(x:pZ lo h v ts):bQ v=some [v]/\dO lo h ts v:=by
 rcases x with⟨rfl,rfl⟩|⟨b,r,f,h1,rfl,h3,h4,h5,h6⟩;exact⟨rfl,by simp only[dO]⟩;refine⟨rfl,?_⟩;cases ts with
 |nil=>exact absurd rfl h3
 |cons t ts=>
  have h6':=eR.nf (lo:=lo) (h':=h) (λi r f _ he=>by
   by_cases hb:i=b
   subst hb;rw[Hp.bR rfl] at he;cases he;rwa[Hp.de hb] at he) zl _ _ h6
  simp only[eR] at h6';simp only[dO];exact⟨b,_,false,r,f,rfl,h4,by simpa using h5,h1,h6'.1,h6'.2⟩
theorem aip{lo:Nat}{v:AV}{ts:List Tree}{t:Tree}{row:List AV}{fB:Nat->List AV}(x:pZ lo h v ts)(hl:ts.length<8589934592)(nd:ay lo h t row)(hB:lo<=h.nx)(hf:fB 0=row)
 (nb:∀b,v=.slice b 0 6 ts.length ts.length false->ts≠[]->ay lo (h.set b .eD) t row):
 ∃v' H',kJ (h.push (.rows 39 6 1 0 fB)) 39 6 72 v (.slice h.nx 0 6 1 1 true)=.vh v' H'/\pZ lo H' v' (ts++[t])/\h.nx<=H'.nx/\(∀i,i<lo->H'.get i=h.get i)/\∀i el r,h.get i=.one el r->H'.get i=.one el r:=by
 rcases x with⟨rfl,rfl⟩|⟨b,r,f,h1,rfl,h3,h4,h5,h6⟩;refine⟨_,_,A7 (n:=0) (wN (Hp.br rfl) zl) rfl zd,?_,by simp;omega,λi hi=>aa,λi el r hi=>by have:=Hp.lt hi rfl;exact au hi⟩;refine .inr ⟨h.nx+1,1,_,by omega,rfl,by simp,by refine ag ?_;rfl,by simp,?_⟩;refine Ko (by simp only[eR]) ?_;simp only[aup,dZ,auo,hf];exact ay.nf ((((NF.refl h).push _).push _).new _ zo) zl _ _ nd;have xb:=Hp.lt h4 rfl;refine⟨_,_,A8 (n:=0) (cnt:=r) (t:=f) (au h4) h5 (wN (Hp.br rfl) zl) rfl (rV zo zo),?_,by simp only[Hp.eE,Hp.iy];omega,λi hi=>aa,λi el r2 hi=>by
  have:=Hp.lt hi rfl;have:i≠b:=by rintro rfl;rw[hi] at h4;cases h4
  exact au hi⟩
 refine .inr ⟨(h.push (.rows 39 6 1 0 fB)).nx,ts.length+1,_,?_,by rw[auk];rfl,by simp,Hp.br zq,by simp,?_⟩;simp only[Hp.eE,Hp.iy];omega;have cG:=nb b rfl h3;refine Ko (eR.nf (lo:=lo) (h:=h.set b .eD) (λi r f hi he=>?_) zl _ _ (Kp (λj hj=>?_) h6)) ?_;have ue:i≠b:=by rintro rfl;rw[Hp.bR rfl] at he;cases he
 rw[Hp.de ue] at he;have:=Hp.lt he rfl;exact au he;simp only[Ti,dZ];rw[atS zo];simp only[Ti,dZ,auo,hf];refine ay.nf (lo:=lo) (h:=h.set b .eD) (λi r f hi he=>?_) zl _ _ cG;have ue:i≠b:=by rintro rfl;rw[Hp.bR rfl] at he;cases he
 rw[Hp.de ue] at he;have:=Hp.lt he rfl;exact au he
end
def TU:List (List UInt8):=[[116,114,117,101],[102,97,108,115,101],[114,101,116,117,114,110],[98,114,101,97,107],[99,111,110,116,105,110,117,101],[105,110,116],[98,111,111,108],[115,116,114,105,110,103],[102,108,111,97,116,54,52]]
def Hz(t:Tk):Bool:=
 if t.kind=1\/t.kind=3\/t.kind=4\/t.kind=5 then true else if t.kind=2 then decide (t.text∈TU) else decide (t.text=[41])||decide (t.text=[125])
def t0:Tk:=⟨0,[],0,0⟩
def vI(t:Tk):List Tk:=if Hz t=true then[⟨7,[],t.to,t.to⟩] else[]
def o9(s:List UInt8):Nat->(Nat->Nat×Int)->Nat->Tk->List Tk->PR (List Tk)
 |0,_,_,_,_=>.dN
 |g+1,o,a,cM,bf=>
  if a<s.length then
   if s.getD a 0∈[32,9,13] then o9 s g o (a+1) cM bf
   else if s.getD a 0=10 then o9 s g o (a+1) t0 (bf++vI cM)
   else if eP (s.drop a) [47,47]=true then o9 s g o (a+(iz (s.drop a) 10).1.length) cM bf
   else if(fA (o 0) (s.drop a)).2.2 ≠0 then .er a (fA (o 0) (s.drop a)).2.2
   else o9 s g (λi=>o (i+1)) (a+(fA (o 0) (s.drop a)).2.1) ⟨(fA (o 0) (s.drop a)).1,(s.drop a).take (fA (o 0) (s.drop a)).2.1,a,a+(fA (o 0) (s.drop a)).2.1⟩
    (bf++[⟨(fA (o 0) (s.drop a)).1,(s.drop a).take (fA (o 0) (s.drop a)).2.1,a,a+(fA (o 0) (s.drop a)).2.1⟩])
  else .ok (bf++vI cM) 0
section
variable{h hh:Hp}{k:aK->Prop}{s p:List UInt8}{c:UInt8}
theorem aiq(HT:aA T){t:Tk}(hk:∀h',ax h h'->k (.ret (.bool (Hz t)) h')):aE T (W T) ⟨44⟩ [.agg t.row] h k:=by
 rw[aJ HT.t44];unfold Hz at hk
 by_cases e1:t.kind=1
 refine aS Tk.row.eq_1 e1 ?_;simpa[e1] using hk _ aZ
 by_cases e3:t.kind=3
 refine aS Tk.row.eq_1 e3 ?_;simpa[e3] using hk _ aZ
 by_cases e4:t.kind=4
 refine aS Tk.row.eq_1 e4 ?_;simpa[e4] using hk _ aZ
 by_cases e5:t.kind=5
 refine aS Tk.row.eq_1 e5 ?_;simpa[e5] using hk _ aZ;rw[atS (by simp[e1,e3,e4,e5])] at hk
 by_cases e2:t.kind=2
 rw[atV e2] at hk;refine aS Tk.row.eq_1 e2 ?_;refine Ek HT (ws:=TU) ⟨_,_,_,9,_,rfl,Hp.br aa,by decide,λj hj=>?_⟩ zd ?_;exact match j,hj with
 |0,_=>rfl
 |1,_=>rfl
 |2,_=>rfl
 |3,_=>rfl
 |4,_=>rfl
 |5,_=>rfl
 |6,_=>rfl
 |7,_=>rfl
 |8,_=>rfl
 |n+9,hj=>absurd hj (by simp[TU])
 refine ag ?_;exact hk _ aZ;rw[atS e2] at hk
 by_cases e6:t.text=[41]
 refine iR Tk.row.eq_1 e1 e2 e3 e4 e5 e6 ?_;simpa[e6] using hk _ aZ;refine iR Tk.row.eq_1 e1 e2 e3 e4 e5 e6 ?_;simpa[e6] using hk _ aZ
end
def ur(lo:Nat)(h:Hp)(v:AV)(l:List Tk):Prop:=
 l=[]/\v=.bx\/∃b r t,lo<=b/\v=.slice b 0 4 l.length l.length false/\l≠[]/\h.get b=.rows 74 4 r 0 t/\l.length<=r/\∀j,(hj:j<l.length)->t j=l[j].row
section
variable{h hh:Hp}{k:aK->Prop}{s p:List UInt8}{c:UInt8}
theorem ur.nC{M:Nat->Prop}{lo:Nat}{h h':Hp}{v:AV}{l:List Tk}(x:ur lo h v l)(g:ah M h h')(hm:∀i,lo<=i->¬M i):ur lo h' v l:=by rcases x with x|⟨b,r,t,h1,h2,h3,h4,h5⟩;exact .inl x;exact .inr ⟨b,r,t,h1,h2,h3,by rw[g.get b (Hp.lt h4 rfl) (hm b h1)];exact h4,h5⟩
theorem ur.cell{lo:Nat}{v:AV}{l:List Tk}(x:ur lo h v l):bQ v=some [v]:=by rcases x with⟨_,rfl⟩|⟨b,r,t,h1,rfl,_⟩<;>rfl
theorem TV{lo:Nat}{v:AV}{l:List Tk}{t:Tk}{fB:Nat->List AV}(x:ur lo h v l)(hl:l.length<1073741824)(hB:lo<=h.nx)(hf:fB 0=t.row):
 ∃v' H',kJ (h.push (.rows 74 4 1 0 fB)) 74 4 40 v (.slice h.nx 0 4 1 1 true)=.vh v' H'/\ur lo H' v' (l++[t])/\ah (λi=>lo<=i) h H'/\∀i el r,h.get i=.one el r->H'.get i=.one el r:=by
 rcases x with⟨rfl,rfl⟩|⟨b,r,f,h1,rfl,h3,h4,h5,h6⟩;refine⟨_,_,A7 (n:=0) (wN (Hp.br rfl) zl) rfl zd,?_,fZ,λi el r hi=>by have:=Hp.lt hi rfl;exact au hi⟩;refine .inr ⟨h.nx+1,1,_,by omega,rfl,by simp,by refine ag ?_;rfl,by simp,λj hj=>?_⟩;obtain rfl:j=0:=by simp at hj;omega
 simp[hf];have xb:=Hp.lt h4 rfl;refine⟨_,_,A8 (n:=0) (cnt:=r) (t:=f) (au h4) h5 (wN (Hp.br rfl) zl) rfl (rV zo zo),?_,fZ,λi el r2 hi=>by
  have:=Hp.lt hi rfl;have:i≠b:=by rintro rfl;rw[hi] at h4;cases h4
  exact au hi⟩
 refine .inr ⟨(h.push (.rows 74 4 1 0 fB)).nx,l.length+1,_,?_,by rw[auk];rfl,by simp,Hp.br zq,by simp,λj hj=>?_⟩;simp only[Hp.eE,Hp.iy];omega;rw[auk,ave] at hj;simp only[Ti,dZ]
 by_cases e:j=l.length
 subst e;simp[hf];rw[atS e,h6 j zo,ava zo]
theorem aaQ(HT:aA T){lo bT bL:Nat}{cM:Tk}{bf:List Tk}{v:AV}(hT:h.get bT=.one 74 cM.row)(hL:h.get bL=.one 67 [v])(hv:ur lo h v bf)(hl:bf.length<1073741824)(l1:bT<lo)(l2:bL<lo)(l3:lo<=h.nx)(bg:bT≠bL)
 (hk:∀h' v',ah (λi=>i=bT\/i=bL\/lo<=i) h h'->h'.get bT=.one 74 t0.row->h'.get bL=.one 67 [v']->ur lo h' v' (bf++vI cM)->k (.ret (.bA []) h')):aE T (W T) ⟨43⟩ [.ptr bT 0,.ptr bL 0] h k:=by
 rw[aJ HT.t43];have u1:=Hp.lt hT rfl;have u2:=Hp.lt hL rfl;refine aS hT Tk.row.eq_1 ?_;refine aiq HT (t:=cM) λh1 g1=>?_;have e1:=g0 g1;have n1:=g1.nx;have pV:h1.get bT=.one 74 cM.row:=by rw[e1 _ u1];exact hT
 have jg:h1.get bL=.one 67 [v]:=by rw[e1 _ u2];exact hL
 have Ba:=hv.nC g1 λi _=>id;unfold vI at hk;cases e:Hz cM with
 |false=>
  rw[atS qaf] at hk;refine aS pV Tk.row.eq_1 ?_;refine hk _ v (ah.set (g1.cn) _ (.inr (.inl rfl))) (Hp.bR rfl) (au jg) ?_;rw[av5];exact Ba.nC (M:=(·=bT)) (ah.set (ah.refl _) _ (.inr rfl)) λi hi=>zo
 |true=>
  rw[atV e] at hk;refine aU pV jg Tk.row.eq_1 ?_;obtain⟨w,H2,ha,hw,q1,q2⟩:=TV (t:=⟨7,[],cM.to,cM.to⟩) (fB:=cx (cx fG 0 [.i 0,S [],.i 0,.i 0]) 0 [.i 7,S [],.i cM.to,.i cM.to]) Ba hl zo (by simp[Tk.row]);rw[ha];have pY:=q2 _ _ _ pV;have wQ:=q2 _ _ _ jg;have x1:=Hp.lt pY rfl;have x2:=Hp.lt wQ rfl;have q1n:=q1.nx;refine bK pY wQ hw.cell Tk.row.eq_1 ?_;refine hk _ w ?_ (Hp.bR rfl) aa (hw.nC (M:=λi=>i=bT\/i=bL) ?_ λi hi=>by omega);refine ah.set (ah.set ?_ _ (.inr (.inr (.inl rfl)))) _ (.inr (.inl rfl));exact(g1.cn).trans (q1.mono λi _ hi=>.inr (.inr hi));exact ah.set (ah.set (ah.refl _) _ (.inr (.inr rfl))) _ (.inr (.inl rfl))
end
end Yv
