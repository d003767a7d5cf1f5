/- A part of the proof of 'ScopeAlphaUptoCardSaid'. No condition. -/
import Derived.Test.YtjjppojiafpfcaaGreatDoorX03
set_option maxHeartbeats 64000000
set_option maxRecDepth 100000
set_option linter.all false
namespace Yv
variable {O:Orc}{c i m tb:Nat}{f:Bool}{h hh:Hp}{j op:Int}{p s:List UInt8}{v:AV}
variable {T:aM->Option CF}
section
variable {n:Nat}{l:List Tk}{hd:Bool}{k:aK->Prop}
variable {ex:Int->Bool->Int->Nat->PR Tree}
theorem cY.wX{b r cap ex t}{x y:List UInt8}(a:h.ab b=.b 9 1 r 0 t)(hr:2<=r)(h0:t 0=[S x])(d:t 1=[S y]):cY h (.c b 0 1 2 cap ex) [x,y]:=
 ⟨b,cap,ex,r,t,rfl,a,hr,λj hj=>by grind⟩
def TD(a:aA T)(i:fc l)(E:pW T c tb l ex)(e:bp h c tb l n op hd)(r:n<l.length)(j:0<=op)(o:op<=128){F:Nat}(g:F<8589934592)
 (f:lS c tb l op hd h k (aEZ l F ex op hd n)):aE T (W T) ⟨152⟩ [.a c 0] h k:=by
 rw[aJ a.t152];have s:=e.lt;have x:=e.qn;refine ag ?_;refine ahY a i E (e.am _) r j o g (f.rc aZ (λv d w=>by simp_all) λt m f d row g2 c2 nd q u=>?_);obtain⟨y,b⟩:=bw g2;obtain⟨kv,rfl,p,z⟩:=nd.gc;refine aB b ?_;exact Kr a i E j o g (hh:=h) (xb:=d.a) (rb:=h.a) s zo zl zo F m _ t _ _ (iQ b) ((c2.am _).dT _ zo zo) q u (Hp.fp rfl)
  (ay.nf (((NF.cg d).am _).ow _ zo) zm _ _ nd) (au b) aa aa aa f
theorem aaE(f:aA T)(z:fc l)(E:pW T c tb l ex)(C:0<=op)(D:op<=128){F:Nat}(B:F<8589934592):∀(g n:Nat)(h:Hp)(k:aK->Prop),bp h c tb l n op hd->n<l.length->
 lS c tb l op hd h k (G8 l F ex op hd g n)->aE T (W T) ⟨176⟩ [.a c 0] h k
 |0,_,_,_,_,_,a=>a.elim
 |g+1,n,h,k,j,o,a=>by
  rw[aJ f.t176];have O:=j.lt;have P:=j.qn;unfold G8 at a;refine ag ?_;refine ke f ((j.am _).am _) o (cY.wX (x:=[45]) (y:=[33]) (Hp.bv zm) zl zm zm) zm λM g1=>?_;obtain⟨Q,b⟩:=bH g1;have c1:=((j.am _).am _).bc g1;cases e:bD (tk l n) [[45],[33]] with
  |true=>
   rw[if_pos e] at a;have G:=lT z o e;refine aB e ?_;refine vB f c1 o λi g2 c2=>?_;obtain⟨K,d⟩:=bw g2;refine aB Tk.fj.eq_1 ?_;refine aaE f z E C D B g (n+1) _ _ ((c2.am _).dT _ zo zo) G (a.rc (eF d b) (λv i J=>by simp_all) λt m a I row H c3 nd w A=>?_);obtain⟨R,p⟩:=bw H;obtain⟨m,rfl⟩:∃q,m=q+1:=⟨m- 1,by omega⟩;obtain⟨kv,rfl,u,L⟩:=nd.gc;refine bK p d b Tk.fj.eq_1 ?_;refine gS f (((c3.am _).dT _ zo zo).am _) zo rfl λN s=>?_;obtain⟨S,r⟩:=bH s;refine bK r p d b ?_;refine a _ _ (qB r p d b) (((((c3.am _).dT _ zo zo).am _).bc s).dT _ zo zo) ?_ w A;refine ay.of (t:=aV l (m+1) 30 (tk l n).a (tk l n).a (tk l n).b [t]) ?_;exact vD ((Hp.fv zo).trans ((r _ zm).trans (Hp.bv aa))) zl zo
    (by exact ay.nf (((((NF.cg I).am _).ow _ zo).am _).g0 s|>.py _ qal) qal _ _ nd)
  |false=>
   rw[if_neg qaa] at a;refine aB e ?_;rw[<-Hi (aEZ l F ex op hd n)] at a;refine TD f z E c1 o C D B (a.rc (iQ b) (λv i J=>by simp_all) λt m a i row g2 c2 nd w A=>?_);obtain⟨K,d⟩:=bw g2;obtain⟨kv,rfl,u,L⟩:=nd.gc;refine aS d b ?_;exact a _ _ (eF d b) (c2.dT _ zo zo) (ay.nf ((NF.cg i).py _ zo) zo _ _ nd) w A
def ahZ(d:fc l)(a:n<l.length)(b:0<Bb (tk l n)):n+1<l.length:=by refine d n a λh0=>?_;simp[Bb,h0] at b
theorem aaF(e:aA T)(R:fc l)(E:pW T c tb l ex)(V:0<=op)(X:op<=128){s:Int}(ls:0<=s){xb rb:Nat}(L:c<hh.a)(Y:hh.a<=xb)(Z:hh.a<=rb)(Hq:xb≠rb):∀(g n:Nat)(h:Hp)(x:Tree)(row:List AV)(f:Fr),
 Pg c hh h->bp h c tb l n op hd->n<l.length->0<n->h.ab xb=.a 61 row->ay hh.a h x row->h.ab rb=.a 61 [.i 0,.i 0,.i 0,.i 0,S [],.h]->
 an 0 f=.a c 0->an 1 f=.i s->an 4 f=.a rb 0->an 5 f=.a xb 0->cU hh.a c tb l op hd hh k (G9 l ex op hd s g x n)->
 W T (.d l151_0) f h [] (bY 0 (bF (W T (.f (.g (z q151 6)) .k)) (finish T (W T) [.b 6 true 4] k)))
 |0,_,_,_,_,_,_,_,_,_,_,_,_,_,_,_,_,a=>a.elim
 |g+1,n,h,x,row,f,gg,o,A,hz,I,nd,hr,f0,b,f4,f5,a=>by
  obtain⟨kv,rfl,hkv,nk⟩:=nd.gc;have hcy:=o.qn;have zt:xb≠tb:=by rintro rfl;obtain⟨_,⟨r,t,ht,_⟩,_⟩:=o;grind
  have zr:rb≠tb:=by rintro rfl;obtain⟨_,⟨r,t,ht,_⟩,_⟩:=o;grind
  have y1:=Hp.lt I rfl;have y2:=Hp.lt hr rfl;rw[aP];unfold G9 at a;refine cq f0 b f4 f5 I hr ?_;refine qC e o A λh1 g1=>?_;obtain⟨n1,C⟩:=bH g1;have c1:=o.bc g1;refine ag ?_;refine aay e (t:=tk l n) λd g2=>?_;obtain⟨n2,D⟩:=bH g2;have c2:=c1.bc g2;have J:d.ab rb=.a 61 [.i 0,.i 0,.i 0,.i 0,S [],.h]:=cX D C hr;have U:d.ab xb=.a 61 [.i x.bi,.i x.ib,.i x.toz,.i x.at,S x.bj,kv]:=cX D C I;have G:Pg c hh d:=(fH D C (gp gg));have O:ay hh.a d x [.i x.bi,.i x.ib,.i x.toz,.i x.at,S x.bj,kv]:=ay.nf (((NF.cg h).g0 g1).g0 g2) zo _ _ nd;by_cases el:s<Bb (tk l n);rw[if_pos el] at a;have cV:=ahZ R A zo;refine cC f0 b f4 f5 el ?_;refine vB e c2 A λh3 P c3=>?_;obtain⟨n3,u⟩:=bw P;refine cC f0 b f4 f5 Tk.fj.eq_1 ?_;refine aay e (t:=tk l n) λh4 F=>?_;obtain⟨n4,j⟩:=bH F;have c4:=((c3.am _).dT _ zo zo).bc F;refine cC f0 b f4 f5 Tk.fj.eq_1 ?_;refine E _ (n+1) op hd _ _ V X zo c4 cV (a.rc (fH j u (gp G)) (λv d hv=>by simp_all) λt m a i row Q N p hm hz5=>?_);obtain⟨n5,w⟩:=bw Q;obtain⟨m,rfl⟩:∃q,m=q+1:=⟨m- 1,by omega⟩;obtain⟨kv5,rfl,asq,nk5⟩:=p.gc;have M:i.ab xb=.a 61 [.i x.bi,.i x.ib,.i x.toz,.i x.at,S x.bj,kv]:=mw w j u U;have q5:i.ab h3.a=.a 80 [.i (tk l n).c,S (tk l n).b,.i (tk l n).a,.i (tk l n).d]:=bV w j;have H:i.ab rb=.a 61 [.i 0,.i 0,.i 0,.i 0,S [],.h]:=mw w j u J;have qF:Pg c hh i:=(qB w j u (gp G));have K:=ay.nf ((((((NF.cg d).gp P L).am _).ow _ zo).g0 F).gp Q L) zl _ _ O;refine cq f0 b f4 f5 M q5 ?_;refine gS e (((N.am _).dT _ zo zo).am _) zo rfl λh6 g6=>?_;obtain⟨n6,y⟩:=bH g6;have B:h6.ab xb=.a 61 [.i x.bi,.i x.ib,.i x.toz,.i x.at,S x.bj,kv]:=bV y M;refine cC f0 b f4 f5 B ?_;refine aaF e R E V X ls L Y Z Hq g (m+1) _ (aV l (m+1) 31 x.ib (tk l n).a (tk l n).b [x,t]) _ _ (eF y (gp qF)) (((((N.am _).dT _ zo zo).am _).bc g6).dT _ zo zo) hm zo (Hp.fp rfl) (ay.of (t:=aV l (m+1) 31 x.ib (tk l n).a (tk l n).b [x,t]) ?_)
   (bV y H) zA zA zA zA a
  exact Tz ((Hp.fv zo).trans ((y _ zm).trans (Hp.bv aa))) zl zo (ay.nf ((((((NF.cg i).am _).ow _ zo).am _).g0 g6).dT _ B) zo _ _ K) (ay.nf ((((((NF.cg i).am _).ow _ zo).am _).g0 g6).dT _ B) zo _ _ p);rw[if_neg el] at a;exact iR f0 b f4 f5 el U J (a _ _ (iQ (gp G)) (c2.dT _ zo zo) (ay.nf ((NF.cg d).dT _ J) zo _ _ O) A hz)
def aaG(b:aA T)(i:fc l){F:Nat}(j:F<8589934592):∀g:Nat,pW T c tb l (zU l F g)
 |0=>λ_ _ _ _ _ _ _ _ _ _ _ a=>a.elim
 |g+1=>λh n op hd y k o p x f s a=>by
  have E:=aaG b i j g;rw[aJ b.t151];have u:=f.lt;have A:=f.qn;refine ag ?_;refine aaE b i E o p j F n _ _ (f.am _) s (a.rc aZ (λv e z=>by simp_all) λt m a e row g2 c2 nd r w=>?_);obtain⟨B,d⟩:=bw g2;obtain⟨kv,rfl,q,C⟩:=nd.gc;refine aB d ?_;exact aaF b i E o p x (hh:=h) (xb:=e.a) (rb:=h.a) u zo zl zo F m _ t _ _ (iQ d) ((c2.am _).dT _ zo zo) r w (Hp.fp rfl)
   (ay.nf (((NF.cg e).am _).ow _ zo) zm _ _ nd) (au d) aa aa aa aa a
end
def zT:Tree:=.mk 0 0 0 0 [] []
def Aa:Tree->Option Bool
 |.mk q _ _ _ _ ks=>if q=26 then(match ks with|[]=>none|t::_=>Aa t) else some (decide (q=25))
def Hs(x:Tree):Bool:=decide (x.bi=27)||decide (x.bi=32)&&(decide (x.bj=[112,114,105,110,116])||decide (x.bj=[112,97,110,105,99]))
section
variable (l:List Tk)(F:Nat)
section
variable (ex:Int->Bool->Int->Nat->PR Tree)
def uj(op:Int)(hd:Bool)(x:Tree)(a:Bool)(n:Nat):PR Tree:=
 if a=true/\x.bi=25/\bD (tk l n) [[58,61]]=true then(ex op hd 0 (n+1)).dC λy m=>.b (aV l m 12 x.ib x.ib x.bj [y]) m
 else match Aa x with
  |none=>.c
  |some p=>if p=true/\bD (tk l n) [[61]]=true then(ex op hd 0 (n+1)).dC λy m=>.b (aV l m 13 x.ib (tk l n).a [] [x,y]) m
   else if Hs x=true then .b (aV l n 20 x.ib x.ib [] [x]) n else .d (tk l n).a 4
def Ks(op:Int)(n:Nat):PR (Tree×Tree×Tree):=
 (if(tk l n).c≠7 then(ex op true 0 n).dC λx m=>if bD (tk l m) [[123]]=true then .b (zT,x,true) m else(uj l ex op true x true m).dC λi o=>.b (i,zT,false) o
  else PR.b (zT,zT,false) n).dC λr m=>
 if r.2.2 =true then .b (zT,r.2.1,zT) m else
  (mU l m).dC λ_ o=>(if(tk l o).c≠7 then ex op true 0 o else .b zT o).dC λx q=>
   (mU l q).dC λ_ s=>(if bD (tk l s) [[123]]=true then .b zT s else(aEZ l F ex op true s).dC λy u=>uj l ex op true y false u).dC λz v=>.b (r.1,x,z) v
def Kt(op:Int)(n:Nat):PR Tree:=
 (lR l [118,97,114] n).dC λt m=>(jR l 1 m).dC λu o=>(if bD (tk l o) [[61]]=true then .b zT o else Ct l o).dC λty q=>
  (if bD (tk l q) [[61]]=true then ex op false 0 (q+1) else .b zT q).dC λe r=>.b (aV l r 11 t.a u.a u.b [ty,e]) r
def Ht(kind:Int)(n:Nat):PR Tree:=
 if(tk l (n+1)).c≠1 then .b (aV l (n+1) kind (tk l n).a (tk l n).a [] []) (n+1) else .b (aV l (n+1+1) kind (tk l n).a (tk l (n+1)).a (tk l (n+1)).b []) (n+1+1)
section
variable (st:Int->Nat->PR Tree)
def vE(op:Int)(n:Nat):PR Tree:=(wS l [123] [125] (st (op+1)) (mU l) op F n).dC λts m=>.b (aV l m 10 (tk l n).a (tk l n).a [] ts) m
def Hu(op:Int):Nat->Nat->PR Tree
 |0,_=>.c
 |g+1,n=>(lR l [105,102] n).dC λt m=>(ex op true 0 m).dC λc o=>(vE l F st op o).dC λb q=>
  (if bD (tk l q) [[101,108,115,101]]=true then if bD (tk l (q+1)) [[105,102]]=true then Hu op g (q+1) else vE l F st op (q+1) else .b zT q).dC λe r=>.b (aV l r 14 t.a t.a [] [c,b,e]) r
def Hv(op:Int)(n:Nat):PR Tree:=
 (lR l [102,111,114] n).dC λt m=>(if bD (tk l m) [[123]]=true then .b (zT,zT,zT) m else Ks l F ex op m).dC λp o=>
  (vE l F st op o).dC λb q=>.b (aV l q 15 t.a t.a [] [p.1,p.2.1,p.2.2,b]) q
def Ku(op:Int)(n:Nat):PR Tree:=
 if bD (tk l n) [[123]]=true then vE l F st op n
 else if bD (tk l n) [[105,102]]=true then Hu l F ex st op F n
 else if bD (tk l n) [[102,111,114]]=true then Hv l F ex st op n
 else if bD (tk l n) [[118,97,114]]=true then Kt l ex op n
 else if bD (tk l n) [[98,114,101,97,107]]=true then Ht l 17 n
 else if bD (tk l n) [[99,111,110,116,105,110,117,101]]=true then Ht l 18 n
 else if bD (tk l n) [[114,101,116,117,114,110]]=true then
  if(tk l (n+1)).c=7\/bD (tk l (n+1)) [[125]]=true then .b (aV l (n+1) 19 (tk l n).a (tk l n).a [] []) (n+1)
  else(ex op false 0 (n+1)).dC λx m=>.b (aV l m 19 (tk l n).a (tk l n).a [] [x]) m
 else(aEZ l F ex op false n).dC λx m=>
  if x.bi=25/\bD (tk l m) [[58]]=true then(Hv l F ex st op (m+1)).dC λy o=>.b (aV l o 16 (tk l n).a (tk l n).a x.bj [y]) o
  else uj l ex op false x true m
end
def Hw:Nat->Int->Nat->PR Tree
 |0,_,_=>.c
 |f+1,op,n=>Ku l F ex (Hw f) op n
end
def Kv(op:Int)(n:Nat):PR Tree:=
 if bD (tk l n) [[40]]=true then if op=128 then .d (tk l n).a 3 else
  (jR l 1 (n+1)).dC λt m=>(jR l 1 m).dC λu o=>
   if bD (tk l o) [[41]]=true then .b (aV l o 7 t.a t.a t.b [aV l o 8 u.a u.a u.b []]) (o+1) else .d (tk l o).a 4
 else .d (tk l n).a 4
def Kw(st:Int->Nat->PR Tree)(op:Int)(n:Nat):PR Tree:=
 (lR l [102,117,110,99] n).dC λt m=>(if bD (tk l m) [[40]]=true then Kv l op m else .b zT m).dC λr o=>(jR l 1 o).dC λu q=>
  (wS l [40] [41] (En l 7) (Cu l [41]) op F q).dC λps s=>(if bD (tk l s) [[123]]=true then .b zT s else Ct l s).dC λty v=>
   (vE l F st op v).dC λb w=>.b (aV l w 5 t.a u.a u.b [r,aV l s 6 (tk l q).a (tk l q).a [] ps,ty,b]) w
def Ky(op:Int)(n:Nat):PR Tree:=
 (lR l [116,121,112,101] n).dC λt m=>(jR l 1 m).dC λu o=>(lR l [115,116,114,117,99,116] o).dC λ_ q=>
  (wS l [123] [125] (En l 4) (mU l) op F q).dC λts r=>.b (aV l r 3 t.a u.a u.b ts) r
end
section
variable {a:Hp}{n:Nat}{l:List Tk}{hd o:Bool}{k i:aK->Prop}
variable {ex:Int->Bool->Int->Nat->PR Tree}
abbrev rX(c:Nat)(h:Hp)(k:aK->Prop){b:Type}(H:PR b->Prop):Prop:=(∀p e,H (.d p e)->∀h',Pg c h h'->k (.b (qD p e) h'))/\¬H .c
def cU.qi{lo:Nat}:rX c h k (cU lo c tb l op hd h k):=⟨λ_ _ b=>b,id⟩
theorem Hx(q:aA T)(u:fc l){p:Type}{H:PR p->Prop}(w:rX c h k H){x:List UInt8}{f:Tk->Nat->PR p}(d:H ((lR l x n).dC f))(r:bp a c tb l n j o)(m:n<l.length)(g:Pg c h a)
 (t:∀v b,k (.b v b)->i (.b v b)) (s:bD (tk l n) [x]=true->n+1<l.length->H (f (tk l n) (n+1))->∀b,Pg c a b->bp b c tb l (n+1) j o->i (.a (.p (tk l n).fj) b)):aE T (W T) ⟨52⟩ [.a c 0,S x] a i:=by
 unfold lR at d;refine Cx q r m (λe b g2 c2=>?_) λe b g2=>?_;rw[if_pos e] at d;exact s e (lT u m e) d b g2 c2;rw[if_neg qaa] at d;exact t _ _ (w.1 _ _ d b (g.ba g2))
def Hy(p:aA T)(y:fc l){m:Type}{H:PR m->Prop}(u:rX c h k H){q:Int}(x:q≠0){f:Tk->Nat->PR m}(d:H ((jR l q n).dC f))(r:bp a c tb l n j o)(s:n<l.length)(g:Pg c h a)
 (t:∀v b,k (.b v b)->i (.b v b)) (w:(tk l n).c=q->n+1<l.length->H (f (tk l n) (n+1))->∀b,Pg c a b->bp b c tb l (n+1) j o->i (.a (.p (tk l n).fj) b)):aE T (W T) ⟨53⟩ [.a c 0,.i q] a i:=by
 unfold jR at d;refine Eo p r s (λe b g2 c2=>?_) λe b g2=>?_;simp_all[wT];rw[if_neg e] at d;exact t _ _ (u.1 _ _ d b (g.ba g2))
def TF(p:aA T)(w:fc l){m:Type}{H:PR m->Prop}(t:rX c h k H){f:Unit->Nat->PR m}(d:H ((mU l n).dC f))(q:bp a c tb l n j o)(r:n<l.length)(g:Pg c h a)
 (s:∀v b,k (.b v b)->i (.b v b)) (u:n+1<l.length->H (f () (n+1))->∀b,Pg c a b->bp b c tb l (n+1) j o->i (.a (.o []) b)):aE T (W T) ⟨54⟩ [.a c 0] a i:=by
 unfold mU jR at d;refine NZ p q r (λe b g2 c2=>?_) λe b g2=>?_;simp_all[wT];rw[if_neg e] at d;exact s _ _ (t.1 _ _ d b (g.ba g2))
def rX.rc{x:Type}{H:PR x->Prop}(u:rX c h k H){w:Nat}{r:PR Tree}{f:Tree->Nat->PR x}(s:H (r.dC f))(g:Pg c h a)(z:∀v q,k (.b v q)->i (.b v q))
 (y:∀t m,H (f t m)->∀q row,Pg c a q->bp q c tb l m j o->ay w q t row->m<l.length->0<m->i (.a (.p row) q)):cU w c tb l j o a i r:=by
 cases r with
 |c=>exact u.2 s
 |d p e=>exact λq g2=>z _ _ (u.1 _ _ s q (g.ba g2))
 |b t m=>exact y t m s
def rX.Hk{w:Type}{H:PR w->Prop}(u:rX c h k H){r:PR (List Tree)}{f:List Tree->Nat->PR w}(s:H (r.dC f))(g:Pg c h a)(y:∀v q,k (.b v q)->i (.b v q))
 (x:∀t m,r=.b t m->H (f t m)->∀q kv,Pg c a q->bp q c tb l m j o->m<l.length->0<m->bQ kv=some [kv]->dO a.a q t kv->i (.a kv q)):Et c tb l j o a i r:=by
 cases r with
 |c=>exact u.2 s
 |d p e=>exact λq g2=>y _ _ (u.1 _ _ s q (g.ba g2))
 |b t m=>exact x t m rfl s
theorem aaH(B:aA T){lo b:Nat}{p:Bool}(A:hh.a<=b):∀(x:Tree)(h:Hp)(row:List AV)(f:Fr),h.ab b=.a 61 row->ay lo h x row->ax hh h->Aa x=some p->
 an 1 f=.a b 0->(∀h',ax hh h'->k (.a (.g p) h'))->
 W T (.d l181_0) f h [] (bY 0 (bF (W T (.f (.g (z q181 3)) .k)) (finish T (W T) [.a 2] k)))
 |.mk q M H C nm ks,h,row,f,m,nd,g,s,v,E=>by
  obtain⟨kv,rfl,F,w⟩:=nd.gc;simp[Tree.bi,Tree.ib,Tree.toz,Tree.at,Tree.bj,Tree.fg] at m w nd;rw[aP];unfold Aa at s;by_cases e:q=26;rw[if_pos e] at s;cases ks with
  |nil=>cases s
  |cons y P=>
   obtain⟨L,cap,J,r,N,rfl,D,hr,I,t,G⟩:=w;have d:=t;obtain⟨Q,u,O,K⟩:=t.gc;rw[u] at d;refine cC v m e D u ?_;refine aaH B A y _ _ _ (Hp.fp rfl) (ay.nf ((NF.cg h).dT _ m) zl _ _ d) (g.dT _ (.inl A)) s zA E
  refine aU v m e ?_;grind
termination_by x=>sizeOf x
def ah0(e:aA T){lo:Nat}{x:Tree}{row:List AV}{p:Bool}(nd:ay lo h x row)(g:Aa x=some p)(f:∀h',ax h h'->k (.a (.g p) h')):aE T (W T) ⟨181⟩ [.p row] h k:=by rw[aJ e.t181];obtain⟨kv,rfl,d,m⟩:=nd.gc;refine aB d ?_;exact aaH e (hh:=h) (b:=h.a) (lo:=lo) zl x _ _ _ (Hp.bv rfl) (ay.nf ((NF.cg h).am _) zl _ _ nd) aZ g aa f
def ah1(b:aA T){lo:Nat}{x:Tree}{row:List AV}(nd:ay lo h x row)(g:∀h',ax h h'->k (.a (.g (Hs x)) h')):aE T (W T) ⟨182⟩ [.p row] h k:=by rw[aJ b.t182];obtain⟨kv,rfl,m,q⟩:=nd.gc;have f:=g _ ((ah.cg h).am (.a 61 [.i x.bi,.i x.ib,.i x.toz,.i x.at,S x.bj,kv]));unfold Hs at f;by_cases d:x.bi=27;simp_all;by_cases e:x.bi=32;by_cases p:x.bj=[112,114,105,110,116];simp_all;simp_all;simp_all
theorem TH(B:aA T)(hs:fc l)(E:pW T c tb l ex)(o0:0<=op)(o1:op<=128){x:Tree}{Q:Bool}{row:List AV}{lo:Nat}(hc:bp h c tb l (n+1) op hd)(J:n+1<l.length)(nd:ay lo h x row)(L:c<lo)(Ev:lo<=h.a)
 (b:cU lo c tb l op hd h k (uj l ex op hd x Q (n+1))):aE T (W T) ⟨153⟩ [.a c 0,.p row,.g Q] h k:=by
 rw[aJ B.t153];have hy:=hc.qn;unfold uj at b;obtain⟨kv,rfl,hkv,nk⟩:=nd.gc;refine aB hkv ?_;refine qC B ((hc.am _).am _) J λa g1=>?_;obtain⟨n1,s⟩:=bH g1;have c1:=((hc.am _).am _).bc g1;refine aB Tk.fj.eq_1 ?_;generalize Hh:CC.f (.g (z q153 5)) (.i (.t 35) (.f (.g (z q153 6)) (.f (.g (z q153 7)) .k)) (.f (.g (z q153 8)) (.i (.t 53) (.g (z q153 9)) .j)))=TC;have K:∀(H:Hp)(f:Fr),Pg c h H->bp H c tb l (n+1) op hd->H.ab h.a=.a 61 [.i x.bi,.i x.ib,.i x.toz,.i x.at,S x.bj,kv]->H.ab (h.a+1)=.a 61 [.i 0,.i 0,.i 0,.i 0,S [],.h]->H.ab a.a=.a 80 (tk l (n+1)).fj->
  ay lo H x [.i x.bi,.i x.ib,.i x.toz,.i x.at,S x.bj,kv]->an 0 f=.a c 0->an 4 f=.a h.a 0->an 6 f=.a (h.a+1) 0->an 7 f=.a a.a 0->
  cU lo c tb l op hd h k (match Aa x with
   |none=>.c
   |some p=>if p=true/\bD (tk l (n+1)) [[61]]=true then(ex op hd 0 (n+1+1)).dC λy m=>.b (aV l m 13 x.ib (tk l (n+1)).a [] [x,y]) m
    else if Hs x=true then .b (aV l (n+1) 20 x.ib x.ib [] [x]) (n+1) else .d (tk l (n+1)).a 4)->
  W T TC f H [] (bY 0 (bF (W T (.f (.g (z q153 10)) .k)) (finish T (W T) [.b 6 true 6] k))):=by
  intro H f gH cH q1 q2 q3 X f0 f4 f6 f7 b;subst Hh;have R:=gp gH;have u5:=Hp.lt q3 rfl;cases Y:Aa x with
  |none=>rw[Y] at b;exact b.elim
  |some p=>
   rw[Y] at b;dsimp only at b;refine iR f0 f4 f6 f7 q1 q2 q3 ?_;refine ah0 B X Y λM g2=>?_;obtain⟨V,g⟩:=bH g2;have c2:=cH.bc g2;have V:=ay.nf ((NF.cg H).g0 g2) zl _ _ X;generalize Z:CC.f (.g (z q153 8)) (.i (.t 53) (.g (z q153 9)) .j)=UC;have K:∀(P:Hp)(f:Fr),Pg c H P->bp P c tb l (n+1) op hd->an 0 f=.a c 0->an 4 f=.a h.a 0->an 6 f=.a (h.a+1) 0->an 7 f=.a a.a 0->
    cU lo c tb l op hd h k (if Hs x=true then .b (aV l (n+1) 20 x.ib x.ib [] [x]) (n+1) else .d (tk l (n+1)).a 4)->
    W T UC f P [] (bY 0 (bF (W T (.f (.g (z q153 10)) .k)) (finish T (W T) [.b 6 true 6] k))):=by
    intro P f F c3 f0 f4 f6 f7 b;subst Z;have w:=gp F;have n3:=F.g;refine cq f0 f4 f6 f7 w q1 ?_;refine ah1 B (ay.nf ((NF.cg H).gp F L) zl _ _ X) λU I=>?_;obtain⟨n4,u⟩:=bH I;have C:=c3.bc I;cases ec:Hs x with
    |true=>
     rw[if_pos ec] at b;refine iR f0 f4 f6 f7 u w q1 ?_;refine gS B (C.am _) zo rfl λN A=>?_;obtain⟨n5,r⟩:=bH A;refine fY f0 f4 f6 f7 r u w q2 ?_;refine b _ _ (qB r u w R) (((C.am _).bc A).dT _ zo zo) (ay.of (t:=aV l (n+1) 20 x.ib x.ib [] [x]) ?_) J zo;exact vD ((Hp.fv zo).trans ((r _ zm).trans (Hp.bv aa))) zl zo
      (by exact ay.nf ((((((NF.cg H).gp F L).g0 I).am _).g0 A).dT _ (by refine aU r u w ?_;omega)) zl _ _ X)
    |false=>
     rw[if_neg qaa] at b;refine aB f0 ?_;refine Cw B C J λN A=>?_;obtain⟨n5,r⟩:=bH A;refine ag ?_;exact b.er (qB r u w R)
   cases p with
   |false=>
    refine aB f0 ?_;exact K _ _ g2.mr c2 zA zA zA zA b
   |true=>
    refine aB f0 ?_;refine He B c2 J (λe h3 F c3=>?_) λe h3 F c3=>?_;rw[if_pos ⟨rfl,e⟩] at b;obtain⟨n3,w⟩:=bw F;refine bK f0 f4 f6 f7 ?_;refine E _ (n+1+1) op hd 0 _ o0 o1 (atY 0) c3 (lT hs J e) (b.rc (fH w g R) (λv M hv=>by simp_all) λt m b U TK I C O hm hz=>?_);obtain⟨n4,u⟩:=bw I;obtain⟨m,rfl⟩:∃q,m=q+1:=⟨m- 1,by omega⟩;obtain⟨Ez,rfl,zY,zZ⟩:=O.gc;refine nA f0 f4 f6 f7 u w g q1 q3 Tk.fj.eq_1 ?_;refine gS B (((C.am _).dT _ zo zo).am _) zo rfl λN A=>?_;obtain⟨n5,r⟩:=bH A;refine mz f0 f4 f6 f7 r u w g q2 ?_;refine b _ _ (Ei r u w g R) (((((C.am _).dT _ zo zo).am _).bc A).dT _ zo zo) (ay.of (t:=aV l (m+1) 13 x.ib (tk l (n+1)).a [] [x,t]) ?_) hm hz;have G:N.ab (h.a+1)=.a 61 [.i 0,.i 0,.i 0,.i 0,S [],.h]:=by refine bK r u w g ?_;omega
    exact Tz ((Hp.fv zo).trans ((r _ zm).trans (Hp.bv aa))) zl zo (ay.nf ((((((((NF.cg M).gp F L).gp I L).am _).ow _ zo).am _).g0 A).dT _ G) zl _ _ V) (ay.nf ((((((NF.cg U).am _).ow _ zo).am _).g0 A).dT _ G) zo _ _ O);rw[if_neg qaa] at b;obtain⟨n3,w⟩:=bw F;refine aB f0 ?_;exact K _ _ (eF w g) c3 zA zA zA zA b
 by_cases d:Q=true/\x.bi=25;obtain⟨rfl,D⟩:=d;refine aS s D ?_;refine He B ((c1.am _).dT _ zo zo) J (λe M g2 c2=>?_) λe M g2 c2=>?_;rw[if_pos ⟨rfl,D,e⟩] at b;obtain⟨V,g⟩:=bw g2;refine aS g s ?_;refine E _ (n+1+1) op hd 0 _ o0 o1 (atY 0) c2 (lT hs J e) (b.rc (eF g s) (λv M hv=>by simp_all) λt m b U TK I C O hm hz=>?_);obtain⟨n4,u⟩:=bw I;obtain⟨m,rfl⟩:∃q,m=q+1:=⟨m- 1,by omega⟩;obtain⟨Ez,rfl,zY,zZ⟩:=O.gc;refine aU u g s ?_;refine gS B (((C.am _).dT _ zo zo).am _) zo rfl λN A=>?_;obtain⟨n5,r⟩:=bH A;refine bK r u g s ?_;refine b _ _ (qB r u g s) (((((C.am _).dT _ zo zo).am _).bc A).dT _ zo zo) (ay.of (t:=aV l (m+1) 12 x.ib x.ib x.bj [t]) ?_) hm hz;have G:N.ab (h.a+1)=.a 61 [.i 0,.i 0,.i 0,.i 0,S [],.h]:=mw r u g s;exact vD ((Hp.fv zo).trans ((r _ zm).trans (Hp.bv aa))) zl zo (ay.nf ((((((NF.cg U).am _).ow _ zo).am _).g0 A).dT _ G) zo _ _ O);rw[if_neg qaa] at b;obtain⟨V,g⟩:=bw g2;refine ag ?_;exact K _ _ (eF g s) c2 (bV g s) (bV g s) (bV g Tk.fj.eq_1) (ay.nf (((((((NF.cg h).am _).am _).g0 g1).am _).ow _ zo).gp g2 L) zl _ _ nd) aa aa aa aa b;rw[if_neg qaa] at b;have b8:=λf=>K ((a.am (.a 80 [.i 0,S [],.i 0,.i 0])).dT a.a (.a 80 [.i (tk l (n+1)).c,S (tk l (n+1)).b,.i (tk l (n+1)).a,.i (tk l (n+1)).d])) f (iQ s) ((c1.am _).dT _ zo zo) (au s) (au s) (au Tk.fj.eq_1)
  (ay.nf ((((((NF.cg h).am _).am _).g0 g1).am _).ow _ zo) zl _ _ nd)
 cases Q with
 |false=>
  refine aB s ?_;exact b8 _ aa aa aa aa b
 |true=>
  have D:¬x.bi=25:=λe=>d ⟨rfl,e⟩;refine aS s D ?_;exact b8 _ aa aa aa aa b
end
section
variable {j:Hp}{n:Nat}{l:List Tk}{B:Int}{hd C:Bool}{k A:aK->Prop}
variable {ex:Int->Bool->Int->Nat->PR Tree}
def Kz(q:aA T){lo:Nat}{g:aM}{fs cs:List AV}{r:PR Tree}(f:bp h c tb l n op hd)(u:c<lo)(z:lo<=h.a)
 (hr:∀j A,Pg c h j->bp j c tb l n op true->cU lo c tb l op true j A r->aE T (W T) g (fF fs (fF [] cs)) j A)
 (i:cU lo c tb l op hd h k r):aE T (W T) ⟨173⟩ [.a c 0,.r g fs cs] h k:=by
 rw[aJ q.t173];have F:=f.qn;obtain⟨⟨cap,D,q4⟩,_⟩:=id f;refine aB q4 ?_;refine hr _ _ aZ (f.am _).Hm ?_;cases r with
 |c=>exact i
 |d p e=>
  intro o g2;obtain⟨y,a⟩:=bw g2;refine ag ?_;exact i _ (iQ a)
 |b t m=>
  intro o row g2 c2 nd w x;obtain⟨y,a⟩:=bw g2;obtain⟨kv,rfl,v,G⟩:=nd.gc;obtain⟨⟨s,E,q5⟩,_⟩:=id c2;refine aS a q5 ?_;exact i _ _ (iQ a) ((((c2.am _).dT _ zo zo).Hm).dT _ zo zo)
   (ay.nf (((((NF.cg o).am _).ow _ zo).py _ u).dT _ (el:=61) (l:=[.i 0,.i 0,.i 0,.i 0,S [],.h]) (au a)) zl _ _ nd) w x
theorem ah2(d:aA T)(u:fc l)(E:pW T c tb l ex)(y:0<=op)(z:op<=128){lo e f:Nat}{x:Tree}{row:List AV}(o:bp h c tb l (n+1) op hd)(s:n+1<l.length)(q1:h.ab e=.a 78 [.a c 0])(q5:h.ab f=.a 61 row)(nd:ay lo h x row)(p:c<lo)(D:lo<=h.a)
 (a:cU lo c tb l op hd h k (uj l ex op hd x true (n+1))):aE T (W T) ⟨196⟩ [.a e 0,.a f 0] h k:=by
 rw[aJ d.t196];have H:=o.qn;obtain⟨kv,rfl,q,J⟩:=nd.gc;have y1:=Hp.lt q1 rfl;have y5:=Hp.lt q5 rfl;refine aS q1 q5 ?_;rw[<-Hi (uj l ex op hd x true (n+1))] at a;refine TH d u E y z (o.am _) s (ay.nf ((NF.cg h).am _) zl _ _ nd) p (by grind[Hp.ii]) (a.Oa aZ (λv i G=>by simp_all) λt m a i row g2 c2 g r w=>?_);obtain⟨I,b⟩:=bw g2;obtain⟨L,rfl,K,F⟩:=g.gc;refine aB b ?_;exact a _ _ (iQ b) (c2.dT _ zo zo) (ay.nf ((NF.cg i).dT _ (el:=61) (l:=[.i 0,.i 0,.i 0,.i 0,S [],.h]) (au b)) zl _ _ g) r w
theorem ah3(d:aA T)(p:fc l)(E:pW T c tb l ex)(s:0<=op)(w:op<=128){F:Nat}(H:F<8589934592){o:Nat}(g:bp h c tb l n op hd)(J:n<l.length)(q1:h.ab o=.a 78 [.a c 0]){lo:Nat}(z:c<lo)(L:lo<=h.a)
 (a:cU lo c tb l op hd h k ((aEZ l F ex op hd n).dC λy u=>uj l ex op hd y false u)):aE T (W T) ⟨197⟩ [.a o 0] h k:=by
 rw[aJ d.t197];have O:=g.qn;have y1:=Hp.lt q1 rfl;have U:=g.ww q1;refine aB q1 ?_;refine TD d p E (g.am _) J s w H (a.rc aZ (λv f K=>by simp_all) λt m a f row g2 c2 nd i r=>?_);obtain⟨P,b⟩:=bw g2;obtain⟨kv,rfl,I,R⟩:=nd.gc;obtain⟨m,rfl⟩:∃q,m=q+1:=⟨m- 1,by omega⟩;refine aS b q1 ?_;rw[<-Hi (uj l ex op hd t false (m+1))] at a;refine TH d p E s w c2 i (ay.nf (NF.cg f) (kg:=lo) (by grind[Hp.ii]) _ _ nd) z zo (a.Oa (iQ b) (λv f K=>by simp_all) λt m a G row D c3 x i r=>?_);obtain⟨Q,e⟩:=bw D;obtain⟨V,rfl,N,M⟩:=x.gc;refine aS e b ?_;exact a _ _ (eF e b) (c3.dT _ zo zo) (ay.nf ((NF.cg G).dT _ (el:=61) (l:=[.i 0,.i 0,.i 0,.i 0,S [],.h]) (bV e b)) zl _ _ x) i r
def CH(lo c tb:Nat)(l:List Tk)(op:Int)(hd:Bool)(h:Hp)(k:aK->Prop)(r:PR (Tree×Tree×Tree)):Prop:=
 match r with
 |.b p n=>∀h' a r2 b,Pg c h h'->bp h' c tb l n op hd->ay lo h' p.1 a->ay lo h' p.2.1 r2->ay lo h' p.2.2 b->n<l.length->0<n->k (.a (.o [.p a,.p r2,.p b]) h')
 |.d p e=>∀h',Pg c h h'->k (.b (qD p e) h')
 |.c=>False
def CH.qi{lo:Nat}:rX c h k (CH lo c tb l op hd h k):=⟨λ_ _ a=>a,id⟩
def vF{lo:Nat}:ay lo h zT [.i 0,.i 0,.i 0,.i 0,S [],.h]:=by
 have:dO lo h [] .h:=by rfl
 exact ay.of (t:=zT) this
def cU.lo{lo kg:Nat}{r:PR Tree}(a:cU lo c tb l op hd h k r)(le:lo<=kg):cU kg c tb l op hd h k r:=by
 cases r with
 |c=>exact a
 |d p e=>exact a
 |b t m=>exact λf row g2 c2 nd=>a f row g2 c2 (ay.nf (NF.cg _) le _ _ nd)
def PR.vd{e i m:Type}{r:PR e}{f:e->Nat->PR i}{g:i->Nat->PR m}:(r.dC f).dC g=r.dC λa n=>(f a n).dC g:=by cases r<;>rfl
theorem EA{lo x y z:Nat}{u v w e r2 g}{a b d:AO}(q1:h.ab x=.a u e)(q2:h.ab y=.a v r2)(q3:h.ab z=.a w g):NF lo h (((h.dT x a).dT y b).dT z d):=λi r f _ m=>by grind[Hp.fv]
theorem ah4(p:aA T)(hs:fc l)(E:pW T c tb l ex)(o0:0<=op)(o1:op<=128){F:Nat}(hF:F<8589934592)(hc:bp h c tb l n op false)(hn:n<l.length)(hz:0<n)
 (a:CH h.a c tb l op false h k (Ks l F ex op n)):aE T (W T) ⟨175⟩ [.a c 0] h k:=by
 rw[aJ p.t175];have O:=hc.lt;have hy:=hc.qn;unfold Ks at a;have Y:=CH.qi (lo:=h.a) (c:=c) (tb:=tb) (l:=l) (op:=op) (hd:=false) (h:=h) (k:=k);have Z0:bQ .h=some [.h]:=rfl;generalize qE:CC.f (.h r175_12) .k=T4;have CJ:∀(H:Hp)(f:Fr)(i x z:Tree)(K r2 r3:List AV)(m:Nat),Pg c h H->bp H c tb l m op false->H.ab (h.a+1)=.a 61 K->H.ab (h.a+1+1)=.a 61 r2->H.ab (h.a+1+1+1)=.a 61 r3->
  ay h.a H i K->ay h.a H x r2->ay h.a H z r3->m<l.length->0<m->an 2 f=.a (h.a+1) 0->an 3 f=.a (h.a+1+1) 0->an 4 f=.a (h.a+1+1+1) 0->
  CH h.a c tb l op false h k (.b (i,x,z) m)->W T T4 f H [] (finish T (W T) [.b 6 true 2,.b 6 true 3,.b 6 true 4] k):=by
  intro H f i x z K r2 r3 m J Z q2 q3 q4 P d2 d3 N hz w f3 f4 a;subst qE;have eH:=gp J;obtain⟨v1,rfl,w1,_⟩:=P.gc;obtain⟨v2,rfl,w2,_⟩:=d2.gc;obtain⟨v3,rfl,w3,_⟩:=d3.gc;exact cq w f3 f4 q2 q3 q4 (a _ _ _ _ (iQ eH) (((Z.dT _ zo zo).dT _ zo zo).dT _ zo zo) (ay.nf (EA q2 q3 q4) zl _ _ P) (ay.nf (EA q2 q3 q4) zl _ _ d2) (ay.nf (EA q2 q3 q4) zl _ _ d3) N hz)
 generalize rq:CC.f (.g (z q175 9)) (.f (.f (.g (z q175 10)) (.i (.t 38) (.g (z q175 11)) .j)) T4)=T3;have vG:∀(H:Hp)(f:Fr)(i x:Tree)(K r2:List AV)(m:Nat),Pg c h H->bp H c tb l m op false->H.ab h.a=.a 78 [.a c 0]->H.ab (h.a+1)=.a 61 K->H.ab (h.a+1+1)=.a 61 r2->H.ab (h.a+1+1+1)=.a 61 [.i 0,.i 0,.i 0,.i 0,S [],.h]->
  ay h.a H i K->ay h.a H x r2->m<l.length->0<m->an 1 f=.a h.a 0->an 2 f=.a (h.a+1) 0->an 3 f=.a (h.a+1+1) 0->an 4 f=.a (h.a+1+1+1) 0->
  CH h.a c tb l op false h k ((mU l m).dC λ_ s=>(if bD (tk l s) [[123]]=true then .b zT s else(aEZ l F ex op true s).dC λy u=>uj l ex op true y false u).dC λz v=>.b (i,x,z) v)->
  W T T3 f H [] (finish T (W T) [.b 6 true 2,.b 6 true 3,.b 6 true 4] k):=by
  intro H f i x K r2 m J Z q1 q2 q3 q4 P d2 N hz I w f3 f4 a;subst rq;have eH:=gp J;have v4:=Hp.lt q4 rfl;refine cC I w f3 f4 q1 ?_;refine TF p hs Y a Z N J (λv G hv=>by simp_all) λU a G g2 c2=>?_;obtain⟨n2,b⟩:=bw g2;refine cq I w f3 f4 b q1 ?_;refine ke p (c2.am _) U (cY.kw (x:=[123]) (Hp.bv zm) zl zm) zm λr L=>?_;obtain⟨n3,d⟩:=bH L;have c3:=(c2.am _).bc L;have g:Pg c H r:=(eF d b);cases eb:bD (tk l (m+1)) [[123]] with
  |true=>
   rw[if_pos eb] at a;refine bK I w f3 f4 ?_;exact CJ _ _ i x zT _ _ _ (m+1) (J.ba g) c3 (cX d b q2) (cX d b q3) (cX d b q4) (ay.nf ((NF.cg H).gp g O) zl _ _ P) (ay.nf ((NF.cg H).gp g O) zl _ _ d2) vF U zo zA zA zA a
  |false=>
   rw[if_neg qaa] at a;refine iR I w f3 f4 d b q1 ?_;refine Kz p c3 (lo:=r.a) zo zl (λj A g1 c1 V=>ah3 p hs E o0 o1 hF c1 U (by rw[g1.f _ zo zo];exact cX d b q1) zo g1.g V) (Y.rc a (J.ba g) (λv G hv=>by simp_all) λz v a M row D Q nd tc yj=>?_);obtain⟨n4,e⟩:=bw D;obtain⟨Ez,rfl,zY,zZ⟩:=nd.gc;refine fY I w f3 f4 e d b q4 ?_;have X:M.ab (h.a+1+1+1)=.a 61 [.i 0,.i 0,.i 0,.i 0,S [],.h]:=mw e d b q4;exact CJ _ _ i x z _ _ _ v (fH e (gp g) eH) (Q.dT _ zo zo) (mw e d b q2) (mw e d b q3) (Hp.fp rfl) (ay.nf ((((NF.cg H).gp g O).gp D O).dT _ X) zl _ _ P) (ay.nf ((((NF.cg H).gp g O).gp D O).dT _ X) zl _ _ d2)
    (ay.nf ((NF.cg M).dT _ X) zo _ _ nd) tc yj zA zA zA a
 generalize pY:CC.f (.g (z q175 6)) (.f (.f (.g (z q175 7)) (.i (.t 28) (.g (z q175 8)) .j)) T3)=T2;have k9:∀(H:Hp)(f:Fr)(i:Tree)(K:List AV)(m:Nat),Pg c h H->bp H c tb l m op false->H.ab h.a=.a 78 [.a c 0]->H.ab (h.a+1)=.a 61 K->H.ab (h.a+1+1)=.a 61 [.i 0,.i 0,.i 0,.i 0,S [],.h]->H.ab (h.a+1+1+1)=.a 61 [.i 0,.i 0,.i 0,.i 0,S [],.h]->
  ay h.a H i K->m<l.length->0<m->an 1 f=.a h.a 0->an 2 f=.a (h.a+1) 0->an 3 f=.a (h.a+1+1) 0->an 4 f=.a (h.a+1+1+1) 0->an 0 f=.a c 0->
  CH h.a c tb l op false h k ((mU l m).dC λ_ o=>(if(tk l o).c≠7 then ex op true 0 o else .b zT o).dC λx q=>
   (mU l q).dC λ_ s=>(if bD (tk l s) [[123]]=true then .b zT s else(aEZ l F ex op true s).dC λy u=>uj l ex op true y false u).dC λz v=>.b (i,x,z) v)->
  W T T2 f H [] (finish T (W T) [.b 6 true 2,.b 6 true 3,.b 6 true 4] k):=by
  intro H f i K m J Z q1 q2 q3 q4 P N hz I w f3 f4 f0 a;subst pY;have eH:=gp J;have v4:=Hp.lt q4 rfl;refine cC I w f3 f4 q1 ?_;refine TF p hs Y a Z N J (λv G hv=>by simp_all) λU a G g2 c2=>?_;obtain⟨n2,b⟩:=bw g2;refine cq I w f3 f4 b q1 ?_;refine qC p c2 U λr L=>?_;obtain⟨n3,d⟩:=bH L;have c3:=c2.bc L;have g:Pg c H r:=(eF d b);by_cases R:(tk l (m+1)).c=7;rw[if_neg zo] at a;refine cq I w f3 f4 Tk.fj.eq_1 R ?_;exact vG _ _ i zT _ _ (m+1) (J.ba g) c3 (cX d b q1) (cX d b q2) (cX d b q3) (cX d b q4) (ay.nf ((NF.cg H).gp g O) zl _ _ P) vF U zo zA zA zA zA a;rw[if_pos R] at a;refine mz I w f3 f4 Tk.fj.eq_1 R d b q1 ?_;refine Kz p c3 (lo:=r.a) zo zl (λj A g1 c1 V=>N9 p E o0 o1 j (m+1) A (ah.cg _) c1 U (cU.lo V g1.g)) (Y.rc a (J.ba g) (λv G hv=>by simp_all) λx v a M row D Q nd tc yj=>?_);obtain⟨n4,e⟩:=bw D;obtain⟨Ez,rfl,zY,zZ⟩:=nd.gc;refine fY I w f3 f4 e d b q3 ?_;have q3':M.ab (h.a+1+1)=.a 61 [.i 0,.i 0,.i 0,.i 0,S [],.h]:=mw e d b q3;exact vG _ _ i x _ _ v (fH e (gp g) eH) (Q.dT _ zo zo) (mw e d b q1) (mw e d b q2) (Hp.fp rfl) (mw e d b q4) (ay.nf ((((NF.cg H).gp g O).gp D O).dT _ q3') zl _ _ P)
   (ay.nf ((NF.cg M).dT _ q3') zo _ _ nd) tc yj zA zA zA zA a
 refine ag ?_;refine qC p ((((hc.am _).am _).am _).am _) hn λj g1=>?_;obtain⟨n1,t⟩:=bH g1;have c1:=((((hc.am _).am _).am _).am _).bc g1;by_cases R:(tk l n).c=7;rw[if_neg zo] at a;refine aS Tk.fj.eq_1 R ?_;exact k9 _ _ zT _ n (iQ t) c1 (au t) (au t) (au t) (au t) vF hn hz aa aa aa aa aa a;rw[if_pos R] at a;refine aU Tk.fj.eq_1 R t ?_;rw[PR.vd] at a;refine Kz p c1 (lo:=j.a) zo zl (λG A g2 c2 V=>N9 p E o0 o1 G n A (ah.cg _) c2 hn (cU.lo V g2.g)) (Y.rc a (iQ t) (λv G hv=>by simp_all) λx m a G row g2 c2 nd N Bd=>?_);obtain⟨n2,b⟩:=bw g2;obtain⟨zX,rfl,wW,Ob⟩:=nd.gc;refine aS b t ?_;refine ke p (((c2.am _).dT _ zo zo).am _) N (cY.kw (x:=[123]) (Hp.bv zm) zl zm) zm λr L=>?_;obtain⟨n3,d⟩:=bH L;have c3:=(((c2.am _).dT _ zo zo).am _).bc L;have p1:r.ab h.a=.a 78 [.a c 0]:=cX d b t;have p2:r.ab (h.a+1)=.a 61 [.i 0,.i 0,.i 0,.i 0,S [],.h]:=cX d b t;have p3:r.ab (h.a+1+1)=.a 61 [.i 0,.i 0,.i 0,.i 0,S [],.h]:=cX d b t;have p4:r.ab (h.a+1+1+1)=.a 61 [.i 0,.i 0,.i 0,.i 0,S [],.h]:=cX d b t;have p5:r.ab G.a=.a 61 [.i x.bi,.i x.ib,.i x.toz,.i x.at,S x.bj,zX]:=au d;have o8:ay j.a r x [.i x.bi,.i x.ib,.i x.toz,.i x.at,S x.bj,zX]:=ay.nf (((((NF.cg G).am _).ow _ zo).am _).g0 L) zl _ _ nd;have g:Pg c h r:=(fH d b t);cases eb:bD (tk l m) [[123]] with
 |true=>
  rw[if_pos eb] at a;exact cC p1 p2 p3 p4 p5 (a _ _ _ _ (iQ (gp g)) (((c3.dT _ zo zo).dT _ zo zo).dT _ zo zo) vF (ay.nf (EA p2 p3 p4) zo _ _ o8) vF N Bd)
 |false=>
  rw[if_neg qaa] at a;obtain⟨m,rfl⟩:∃q,m=q+1:=⟨m- 1,by omega⟩;rw[PR.vd] at a;refine aB p1 ?_;refine Kz p c3 (lo:=j.a) zo zo (λM A D Q V=>ah2 p hs E o0 o1 Q N (by rw[D.f _ zo zo];omega) (by rw[D.f _ zo zo];omega) (ay.nf ((NF.cg r).gp D zo) zl _ _ o8) zo (by have:=D.g;omega) V)
   (Y.rc a g (λv G hv=>by simp_all) λi v a M row D Q nd tc yj=>?_)
  obtain⟨n4,e⟩:=bw D;obtain⟨Ez,rfl,zY,zZ⟩:=nd.gc;have p2':M.ab (h.a+1)=.a 61 [.i 0,.i 0,.i 0,.i 0,S [],.h]:=bV e p2;refine aB p2' ?_;exact k9 _ _ i _ v (eF e (gp g)) (Q.dT _ zo zo) (bV e p1) (Hp.fp rfl) (bV e p3) (bV e p4) (ay.nf ((NF.cg M).dT _ p2') zo _ _ nd) tc yj aa aa aa aa aa a
end
section
variable {a:Hp}{n:Nat}{l:List Tk}{d:Int}{hd:Bool}{k b:aK->Prop}
variable {ex:Int->Bool->Int->Nat->PR Tree}{st:Int->Nat->PR Tree}
def CK(T:aM->Option CF)(c tb:Nat)(l:List Tk)(st:Int->Nat->PR Tree):Prop:=
 ∀(h:Hp)(n:Nat)(op:Int)(k:aK->Prop),0<=op->op<=128->bp h c tb l n op false->n<l.length->lS c tb l op false h k (st op n)->aE T (W T) ⟨128⟩ [.a c 0] h k
def cU.Hc{lo j:Nat}{a:Hp}{b:aK->Prop}{r:PR Tree}(i:cU lo c tb l op hd h k r)(g:Pg c h a)(p:∀v e,k (.b v e)->b (.b v e))
 (o:∀t m,cU lo c tb l op hd h k (.b t m)->∀e row,Pg c a e->bp e c tb l m d f->ay j e t row->m<l.length->0<m->b (.a (.p row) e)):cU j c tb l d f a b r:=by
 rw[<-Hi r] at i;exact i.Oa g p o
def KA(e:aA T)(z:fc l)(A:CK T c tb l st)(H:0<=op)(I:op<=128){F:Nat}(C:F<8589934592)(o:bp h c tb l n op false)(y:n<l.length)
 (u:lS c tb l op false h k (vE l F st op n)):aE T (W T) ⟨97⟩ [.a c 0] h k:=by
 rw[aJ e.t97];have L:=o.lt;have M:=o.qn;refine ag ?_;refine qC e (o.am _) y λa g1=>?_;obtain⟨O,i⟩:=bH g1;have c1:=(o.am _).bc g1;refine aB Tk.fj.eq_1 ?_;refine Kq e z c1 y H I C (λB j m E g2 c2 x w=>A j m _ E zo zo c2 x w) (λB=>aaz e z) (u.Hk (iQ i) (λv j K=>by simp_all) λts m N u j kv g2 c2 x D g G=>?_);obtain⟨P,p⟩:=bw g2;obtain⟨m,rfl⟩:∃q,m=q+1:=⟨m- 1,by omega⟩;refine ag ?_;refine gS e c2 zo g λJ s=>?_;obtain⟨Q,r⟩:=bH s;refine bK r p i g ?_;exact u _ _ (fH r p i) ((c2.bc s).dT _ zo zo) (ay.of (t:=aV l (m+1) 10 (tk l n).a (tk l n).a [] ts) (dO.nf (((NF.cg j).g0 s).dT _ (el:=61) (l:=[.i 0,.i 0,.i 0,.i 0,S [],.h]) (cX r p i)) zo _ _ G)) x D
def aaJ(g:aA T)(x:fc l){q:Int}(u:bp h c tb l n op hd)(r:n+1<l.length)
 (o:lS c tb l op hd h k (Ht l q n)):aE T (W T) ⟨149⟩ [.a c 0,.i q] h k:=by
 rw[aJ g.t149];have C:=u.lt;have D:=u.qn;unfold Ht at o;refine ag ?_;refine vB g (u.am _) zo λa g1 c1=>?_;obtain⟨E,p⟩:=bw g1;refine aB Tk.fj.eq_1 ?_;refine qC g ((c1.am _).dT _ zo zo) r λA g2=>?_;obtain⟨F,i⟩:=bH g2;have c2:=((c1.am _).dT _ zo zo).bc g2;by_cases e:(tk l (n+1)).c=1;rw[if_neg zo] at o;refine aS Tk.fj.eq_1 e ?_;refine vB g c2 r λB v c3=>?_;obtain⟨G,s⟩:=bw v;have y:=wT x r e zm;refine aU Tk.fj.eq_1 s i ?_;refine gS g ((c3.am _).dT _ zo zo) zo rfl λw m=>?_;obtain⟨z,j⟩:=bH m;refine bK j s i p ?_;exact o _ _ (qB j s i p) ((((c3.am _).dT _ zo zo).bc m).dT _ zo zo) (ay.of (t:=aV l (n+1+1) q (tk l n).a (tk l (n+1)).a (tk l (n+1)).b []) rfl) y zo;rw[if_pos e] at o;refine aU Tk.fj.eq_1 e i ?_;refine gS g c2 zo rfl λw m=>?_;obtain⟨z,j⟩:=bH m;refine aU j i p ?_;exact o _ _ (fH j i p) ((c2.bc m).dT _ zo zo) (ay.of (t:=aV l (n+1) q (tk l n).a (tk l n).a [] []) rfl) r zo
end
section
variable {a:Hp}{n:Nat}{l:List Tk}{d:Int}{hd g:Bool}{k b:aK->Prop}
variable {ex:Int->Bool->Int->Nat->PR Tree}{st:Int->Nat->PR Tree}
abbrev vh:List AV:=[.i 0,.i 0,.i 0,.i 0,S [],.h]
theorem ah5(u:aA T)(N:fc l)(E:pW T c tb l ex)(o0:0<=op)(o1:op<=128)(V:bp h c tb l n op false)(hn:n<l.length)
 (j:lS c tb l op false h k (Kt l ex op n)):aE T (W T) ⟨148⟩ [.a c 0] h k:=by
 rw[aJ u.t148];have Y:=V.lt;have hy:=V.qn;refine ag ?_;refine Hx u N cU.qi j (V.am _) hn aZ (λv i X=>by simp_all) λee cV j a g1 c1=>?_;obtain⟨n1,Q⟩:=bw g1;refine aB Tk.fj.eq_1 ?_;refine Hy u N cU.qi zm j c1 cV (iQ Q) (λv i X=>by simp_all) λek jB j i g2 c2=>?_;obtain⟨n2,e2⟩:=bw g2;generalize rq:CC.f (.g (z q148 8)) .k=T3;have vG:∀(H:Hp)(f:Fr)(ty e:Tree)(B r6:List AV)(m:Nat),Pg c h H->bp H c tb l m op false->H.ab h.a=.a 61 vh->H.ab i.a=.a 80 (tk l (n+1)).fj->H.ab (i.a+1)=.a 61 B->H.ab (i.a+1+1)=.a 61 r6->
  ay h.a H ty B->ay h.a H e r6->m<l.length->0<m->an 0 f=.a c 0->an 2 f=.a h.a 0->an 3 f=.i (tk l n).a->an 4 f=.a i.a 0->an 5 f=.a (i.a+1) 0->an 6 f=.a (i.a+1+1) 0->
  cU h.a c tb l op false h k (.b (aV l m 11 (tk l n).a (tk l (n+1)).a (tk l (n+1)).b [ty,e]) m)->W T T3 f H [] (finish T (W T) [.b 6 true 2] k):=by
  intro H f ty e B r6 m D K q1 q4 q5 q6 C d6 G Z f0 U f3 f4 f5 f6 j;subst rq;have S:=gp D;obtain⟨v5,rfl,w5,_⟩:=C.gc;obtain⟨v6,rfl,w6,_⟩:=d6.gc;have u3:=Hp.lt q1 rfl;obtain⟨m,rfl⟩:∃q,m=q+1:=⟨m- 1,by omega⟩;refine wM f0 U f3 f4 f5 f6 q1 q4 q5 q6 Tk.fj.eq_1 ?_;refine gS u (K.am _) zo rfl λh7 M=>?_;obtain⟨n7,R⟩:=bH M;have y:h7.ab h.a=.a 61 vh:=bV R q1;refine aS U y ?_;exact j _ _ (eF R S) (((K.am _).bc M).dT _ zo zo) (ay.of (t:=aV l (m+1) 11 (tk l n).a (tk l (n+1)).a (tk l (n+1)).b [ty,e]) (Tz ((Hp.fv zo).trans ((R _ zm).trans (Hp.bv aa))) zl zo (ay.nf ((((NF.cg H).am _).g0 M).dT _ y) zl _ _ C) (ay.nf ((((NF.cg H).am _).g0 M).dT _ y) zl _ _ d6))) G Z
 generalize pY:CC.f (.f (.g (z q148 6)) (.i (.t 19) (.g (z q148 7)) .j)) T3=T2;have k9:∀(H:Hp)(f:Fr)(ty:Tree)(B:List AV)(m:Nat),Pg c h H->bp H c tb l m op false->H.ab h.a=.a 61 vh->H.ab i.a=.a 80 (tk l (n+1)).fj->H.ab (i.a+1)=.a 61 B->H.ab (i.a+1+1)=.a 61 vh->
  ay h.a H ty B->m<l.length->0<m->an 0 f=.a c 0->an 2 f=.a h.a 0->an 3 f=.i (tk l n).a->an 4 f=.a i.a 0->an 5 f=.a (i.a+1) 0->an 6 f=.a (i.a+1+1) 0->
  cU h.a c tb l op false h k ((if bD (tk l m) [[61]]=true then ex op false 0 (m+1) else .b zT m).dC λe r=>.b (aV l r 11 (tk l n).a (tk l (n+1)).a (tk l (n+1)).b [ty,e]) r)->W T T2 f H [] (finish T (W T) [.b 6 true 2] k):=by
  intro H f ty B m D K q1 q4 q5 q6 C G Z f0 U f3 f4 f5 f6 j;subst pY;have S:=gp D;obtain⟨v5,rfl,w5,_⟩:=C.gc;have u6:=Hp.lt q6 rfl;refine aB f0 ?_;refine He u K G (λe w s c3=>?_) λe w s c3=>?_;rw[if_pos e] at j;obtain⟨n3,o⟩:=bw s;refine aB f0 ?_;refine E _ (m+1) op false 0 _ o0 o1 (atY 0) c3 (lT N G e) (j.rc (D.ba s) (λv i X=>by simp_all) λt m2 j F TK L O J tc yj=>?_);obtain⟨n4,p⟩:=bw L;obtain⟨Ez,rfl,zY,zZ⟩:=J.gc;have A:F.ab (i.a+1+1)=.a 61 vh:=cX p o q6;refine aS f6 A ?_;exact vG _ _ ty t _ _ m2 (fH p o S) (O.dT _ zo zo) (cX p o q1) (cX p o q4) (cX p o q5) (Hp.fp rfl) (ay.nf ((((NF.cg H).gp s Y).gp L Y).dT _ A) zl _ _ C) (ay.nf ((NF.cg F).dT _ A) zo _ _ J) tc yj zA zA zA zA zA zA j;rw[if_neg qaa] at j;obtain⟨n3,o⟩:=bw s;refine aB f0 ?_;exact vG _ _ ty zT _ _ m (D.ba s) c3 (bV o q1) (bV o q4) (bV o q5) (bV o q6) (ay.nf ((NF.cg H).gp s Y) zl _ _ C) vF G Z zA zA zA zA zA zA j
 refine aB Tk.fj.eq_1 ?_;refine ke u (((((c2.am _).dT _ zo zo).am _).am _).am _) jB (cY.kw (x:=[61]) (Hp.bv zm) zl zm) zm λw s=>?_;obtain⟨n3,o⟩:=bH s;have c3:=(((((c2.am _).dT _ zo zo).am _).am _).am _).bc s;have p1:w.ab h.a=.a 61 vh:=cX o e2 Q;have p4:w.ab i.a=.a 80 (tk l (n+1)).fj:=bV o Tk.fj.eq_1;have p5:w.ab (i.a+1)=.a 61 vh:=au o;have p6:w.ab (i.a+1+1)=.a 61 vh:=au o;have P:Pg c h w:=(fH o e2 Q);cases e:bD (tk l (n+1+1)) [[61]] with
 |true=>
  rw[if_pos e] at j;refine ag ?_;exact k9 _ _ zT _ _ P c3 p1 p4 p5 p6 vF jB zo aa aa aa aa aa aa j
 |false=>
  rw[if_neg qaa] at j;refine ag ?_;refine aIM u N c3 jB (j.rc P (λv i X=>by simp_all) λt m j F TK L O J tc yj=>?_);obtain⟨n4,p⟩:=bw L;obtain⟨Ez,rfl,zY,zZ⟩:=J.gc;have I:F.ab (i.a+1)=.a 61 vh:=bV p p5;refine aB I ?_;exact k9 _ _ t _ m (eF p (gp P)) (O.dT _ zo zo) (bV p p1) (bV p p4) (Hp.fp rfl) (bV p p6) (ay.nf ((NF.cg F).dT _ I) zo _ _ J) tc yj aa aa aa aa aa aa j
end
section
variable {d:Hp}{n:Nat}{l:List Tk}{i:Int}{hd j:Bool}{k a:aK->Prop}
variable {ex:Int->Bool->Int->Nat->PR Tree}{st:Int->Nat->PR Tree}
def ah6{lo b cap r f}{ex:Bool}{t u v:Tree}(e:h.ab b=.b 61 6 r 0 f)(hr:3<=r)(g:lo<=b)(n0:ay lo h t (f 0))(m:ay lo h u (f 1))(o:ay lo h v (f 2)):dO lo h [t,u,v] (.c b 0 6 3 cap ex):=by simp only[dO,aEs,axS];exact⟨b,cap,ex,r,f,rfl,e,hr,g,n0,m,o⟩
def aaK{lo b cap r f}{ex:Bool}{t u v w:Tree}(e:h.ab b=.b 61 6 r 0 f)(hr:4<=r)(g:lo<=b)(n0:ay lo h t (f 0))(m:ay lo h u (f 1))(o:ay lo h v (f 2))(p:ay lo h w (f 3)):dO lo h [t,u,v,w] (.c b 0 6 4 cap ex):=by simp only[dO,aEs,axS];exact⟨b,cap,ex,r,f,rfl,e,hr,g,n0,m,o,p⟩
theorem aaL(s:aA T)(G:fc l)(E:pW T c tb l ex)(U:CK T c tb l st)(N:0<=op)(O:op<=128){F:Nat}(hF:F<8589934592):∀(g n:Nat)(h:Hp)(k:aK->Prop),bp h c tb l n op false->n<l.length->
 lS c tb l op false h k (Hu l F ex st op g n)->aE T (W T) ⟨146⟩ [.a c 0] h k
 |0,_,_,_,_,_,o=>o.elim
 |g+1,n,h,k,hc,hn,o=>by
  rw[aJ s.t146];have hx:=hc.lt;have hy:=hc.qn;refine ag ?_;refine Hx s G cU.qi o (hc.am _) hn aZ (λv u M=>by simp_all) λee cV o d g1 c1=>?_;obtain⟨n1,J⟩:=bw g1;refine aB Tk.fj.eq_1 ?_;refine Kz s c1 (lo:=d.a) zo zl (λu a g2 c2 oh=>N9 s E N O u (n+1) a (ah.cg _) c2 cV (cU.lo oh g2.g)) (cU.qi.rc o (iQ J) (λv u M=>by simp_all) λx m o u row g2 c2 cZ hm hz=>?_);obtain⟨n2,e2⟩:=bw g2;obtain⟨zX,rfl,wW,Ob⟩:=cZ.gc;refine ag ?_;refine KA s G U N O hF ((c2.am _).dT _ zo zo) hm (cU.qi.rc o (eF e2 J) (λv u M=>by simp_all) λb m3 o p row g3 c3 o8 yl Oc=>?_);obtain⟨n3,e3⟩:=bw g3;obtain⟨zW,rfl,Hj,Ew⟩:=o8.gc;generalize TN:CC.f (.g (z q146 9)) .k=T9;have Z:Pg c h p:=(fH e3 e2 J);have Q:∀(H:Hp)(f:Fr)(e:Tree)(r6:List AV)(m:Nat),Pg c p H->bp H c tb l m op false->H.ab p.a=.a 61 [.i b.bi,.i b.ib,.i b.toz,.i b.at,S b.bj,zW]->H.ab (p.a+1)=.a 61 r6->
   ay h.a H e r6->m<l.length->0<m->an 0 f=.a c 0->an 2 f=.a h.a 0->an 3 f=.i (tk l n).a->an 4 f=.a u.a 0->an 5 f=.a p.a 0->an 6 f=.a (p.a+1) 0->
   cU h.a c tb l op false h k (.b (aV l m 14 (tk l n).a (tk l n).a [] [x,b,e]) m)->W T T9 f H [] (finish T (W T) [.b 6 true 2] k):=by
   intro H f e r6 m K cH q5 q6 d6 hm hz f0 f2 f3 f4 f5 f6 o;subst TN;have eH:=gp K;have uH:=K.g;obtain⟨v6,rfl,w6,_⟩:=d6.gc;obtain⟨m,rfl⟩:∃q,m=q+1:=⟨m- 1,by omega⟩;have q1:H.ab h.a=.a 61 vh:=mw eH e3 e2 J;have q4:H.ab u.a=.a 61 [.i x.bi,.i x.ib,.i x.toz,.i x.at,S x.bj,zX]:=bV eH e3;refine nA f0 f2 f3 f4 f5 f6 q1 q4 q5 q6 ?_;refine gS s (cH.am _) zo rfl λh7 C=>?_;obtain⟨n7,e7⟩:=bH C;have w:h7.ab h.a=.a 61 vh:=bV e7 q1;refine aS f2 w ?_;exact o _ _ (fH e7 eH (gp Z)) (((cH.am _).bc C).dT _ zo zo) (ay.of (t:=aV l (m+1) 14 (tk l n).a (tk l n).a [] [x,b,e]) (ah6 ((Hp.fv zo).trans ((e7 _ zm).trans (Hp.bv aa))) zl zo (ay.nf (((((((((NF.cg u).am _).ow _ zo).gp g3 zo).gp K zo).am _).g0 C).dT _ w)) zo _ _ cZ) (ay.nf ((((((NF.cg p).gp K qal).am _).g0 C).dT _ w)) qal _ _ o8) (ay.nf ((((NF.cg H).am _).g0 C).dT _ w) zl _ _ d6))) hm hz
  refine ag ?_;refine He s (((c3.am _).dT _ zo zo).am _) yl (λe h4 g4 I=>?_) λe h4 g4 I=>?_;rw[if_pos e] at o;obtain⟨n4,y⟩:=bw g4;have tc:=lT G yl e;refine ag ?_;refine ke s (I.am _) tc (cY.kw (x:=[105,102]) (Hp.bv zm) zl zm) zm λL g5=>?_;obtain⟨n5,e5⟩:=bH g5;have c5:=(I.am _).bc g5;have P:Pg c p L:=(eF e5 y);have p5:L.ab p.a=.a 61 [.i b.bi,.i b.ib,.i b.toz,.i b.at,S b.bj,zW]:=bV e5 y;have p6:L.ab (p.a+1)=.a 61 vh:=bV e5 y;cases ei:bD (tk l (m3+1)) [[105,102]] with
  |true=>
   rw[if_pos ei] at o;refine ag ?_;refine aaL s G E U N O hF g (m3+1) L _ c5 tc (o.rc (Z.ba P) (λv u M=>by simp_all) λt m o D X g6 c6 B V R=>?_);obtain⟨n6,A⟩:=bw g6;obtain⟨kv6,rfl,Y,nk6⟩:=B.gc;have r:D.ab (p.a+1)=.a 61 vh:=bV A p6;refine aB r ?_;exact Q _ _ t _ m (eF A (gp P)) (c6.dT _ zo zo) (bV A p5) (Hp.fp rfl) (ay.nf ((NF.cg D).dT _ r) zo _ _ B) V R aa aa aa aa aa aa o
  |false=>
   rw[if_neg qaa] at o;refine ag ?_;refine KA s G U N O hF c5 tc (o.rc (Z.ba P) (λv u M=>by simp_all) λt m o D X g6 c6 B V R=>?_);obtain⟨n6,A⟩:=bw g6;obtain⟨kv6,rfl,Y,nk6⟩:=B.gc;have r:D.ab (p.a+1)=.a 61 vh:=bV A p6;refine aB r ?_;exact Q _ _ t _ m (eF A (gp P)) (c6.dT _ zo zo) (bV A p5) (Hp.fp rfl) (ay.nf ((NF.cg D).dT _ r) zo _ _ B) V R aa aa aa aa aa aa o
  rw[if_neg qaa] at o;obtain⟨n4,y⟩:=bw g4;refine ag ?_;exact Q _ _ zT _ m3 (iQ y) I (au y) (au y) vF yl Oc aa aa aa aa aa aa o
end
section
variable {a:Hp}{n:Nat}{l:List Tk}{hd o:Bool}{k i:aK->Prop}
variable {ex:Int->Bool->Int->Nat->PR Tree}{st:Int->Nat->PR Tree}
def rX.ah9{z:Type}{H:PR z->Prop}(w:rX c h k H){s:Nat}{r:PR (Tree×Tree×Tree)}{f:Tree×Tree×Tree->Nat->PR z}(u:H (r.dC f))(g:Pg c h a)(B:∀v q,k (.b v q)->i (.b v q))
 (A:∀p m,H (f p m)->∀q x r2 y,Pg c a q->bp q c tb l m j o->ay s q p.1 x->ay s q p.2.1 r2->ay s q p.2.2 y->m<l.length->0<m->i (.a (.o [.p x,.p r2,.p y]) q)):CH s c tb l j o a i r:=by
 cases r with
 |c=>exact w.2 u
 |d p e=>exact λq g2=>B _ _ (w.1 _ _ u q (g.ba g2))
 |b t m=>exact A t m u
theorem aaM(y:aA T)(O:fc l)(E:pW T c tb l ex)(S1:CK T c tb l st)(o0:0<=op)(o1:op<=128){F:Nat}(hF:F<8589934592)(N:bp h c tb l n op false)(hn:n<l.length)
 (d:lS c tb l op false h k (Hv l F ex st op n)):aE T (W T) ⟨147⟩ [.a c 0] h k:=by
 rw[aJ y.t147];have P:=N.lt;have hy:=N.qn;refine ag ?_;refine Hx y O cU.qi d (N.am _) hn aZ (λv w hv=>by simp_all) λee J d a g1 c1=>?_;obtain⟨n1,e1⟩:=bw g1;generalize TN:CC.f (.g (z q147 5)) (.f (.g (z q147 6)) .k)=T9;have U:∀(H:Hp)(f:Fr)(p:Tree×Tree×Tree)(Q R S:List AV)(m:Nat),Pg c h H->bp H c tb l m op false->a.a+2<H.a->H.ab h.a=.a 61 vh->H.ab a.a=.a 61 Q->H.ab (a.a+1)=.a 61 R->H.ab (a.a+1+1)=.a 61 S->
  ay h.a H p.1 Q->ay h.a H p.2.1 R->ay h.a H p.2.2 S->m<l.length->0<m->an 0 f=.a c 0->an 2 f=.a h.a 0->an 3 f=.i (tk l n).a->an 4 f=.a a.a 0->an 5 f=.a (a.a+1) 0->an 6 f=.a (a.a+1+1) 0->
  cU h.a c tb l op false h k ((vE l F st op m).dC λb q=>.b (aV l q 15 (tk l n).a (tk l n).a [] [p.1,p.2.1,p.2.2,b]) q)->W T T9 f H [] (finish T (W T) [.b 6 true 2] k):=by
  intro H f p Q R S m gH cH hH q1 q4 q5 q6 Z d5 d6 G I f0 L f3 f4 f5 f6 d;subst TN;have eH:=gp gH;obtain⟨v4,rfl,w4,_⟩:=Z.gc;obtain⟨v5,rfl,w5,_⟩:=d5.gc;obtain⟨v6,rfl,w6,_⟩:=d6.gc;refine cq f0 L f3 f4 f5 f6 ?_;refine KA y O S1 o0 o1 hF cH G (d.rc gH (λv w hv=>by simp_all) λb m d D ah' A c3 o8 G I=>?_);obtain⟨n3,g⟩:=bw A;obtain⟨zW,rfl,Hj,Ew⟩:=o8.gc;obtain⟨m,rfl⟩:∃q,m=q+1:=⟨m- 1,by omega⟩;refine wM f0 L f3 f4 f5 f6 q1 q4 q5 q6 g ?_;refine gS y (((c3.am _).dT _ zo zo).am _) zo rfl λh7 B=>?_;obtain⟨n7,K⟩:=bH B;have e:h7.ab h.a=.a 61 vh:=cX K g q1;refine aS L e ?_;exact d _ _ (fH K g eH) (((((c3.am _).dT _ zo zo).am _).bc B).dT _ zo zo) (ay.of (t:=aV l (m+1) 15 (tk l n).a (tk l n).a [] [p.1,p.2.1,p.2.2,b]) (aaK ((Hp.fv zo).trans ((K _ zm).trans (Hp.bv aa))) zl zo (ay.nf (((((((NF.cg H).gp A P).am _).ow _ zo).am _).g0 B).dT _ e) zl _ _ Z) (ay.nf (((((((NF.cg H).gp A P).am _).ow _ zo).am _).g0 B).dT _ e) zl _ _ d5) (ay.nf (((((((NF.cg H).gp A P).am _).ow _ zo).am _).g0 B).dT _ e) zl _ _ d6) (ay.nf ((((((NF.cg D).am _).ow _ zo).am _).g0 B).dT _ e) zo _ _ o8))) G I
 refine aB Tk.fj.eq_1 ?_;refine ke y ((((c1.am _).am _).am _).am _) J (cY.kw (x:=[123]) (Hp.bv zm) zl zm) zm λw g2=>?_;obtain⟨n2,C⟩:=bH g2;have c2:=((((c1.am _).am _).am _).am _).bc g2;have p1:w.ab h.a=.a 61 vh:=bV C e1;have p4:w.ab a.a=.a 61 vh:=au C;have p5:w.ab (a.a+1)=.a 61 vh:=au C;have p6:w.ab (a.a+1+1)=.a 61 vh:=au C;have M:Pg c h w:=(eF C e1);cases eb:bD (tk l (n+1)) [[123]] with
 |true=>
  rw[if_pos eb] at d;refine ag ?_;exact U _ _ (zT,zT,zT) _ _ _ _ M c2 zo p1 p4 p5 p6 vF vF vF J zo aa aa aa aa aa aa d
 |false=>
  rw[if_neg qaa] at d;refine ag ?_;refine ah4 y O E o0 o1 hF c2 J zo (cU.qi.ah9 d M (λv w hv=>by simp_all) λp m d D r1 r2 r3 A c3 V X Y G I=>?_);obtain⟨n3,g⟩:=bw A;obtain⟨v4,rfl,w4,_⟩:=V.gc;obtain⟨v5,rfl,w5,_⟩:=X.gc;obtain⟨v6,rfl,w6,_⟩:=Y.gc;have r:D.ab a.a=.a 61 vh:=bV g p4;have s:D.ab (a.a+1)=.a 61 vh:=bV g p5;have u:D.ab (a.a+1+1)=.a 61 vh:=bV g p6;refine aU r s u ?_;exact U _ _ p _ _ _ m (eF g (gp M)) (((c3.dT _ zo zo).dT _ zo zo).dT _ zo zo) qal (bV g p1) aa aa aa (ay.nf (EA r s u) zo _ _ V) (ay.nf (EA r s u) zo _ _ X) (ay.nf (EA r s u) zo _ _ Y) G I aa aa aa aa aa aa d
end
section
variable {a:Hp}{n:Nat}{l:List Tk}{d:Int}{hd g:Bool}{k b:aK->Prop}
variable {ex:Int->Bool->Int->Nat->PR Tree}{st:Int->Nat->PR Tree}
theorem aia(p:aA T)(L:fc l)(E:pW T c tb l ex)(S1:CK T c tb l st)(o0:0<=op)(o1:op<=128){F:Nat}(hF:F<8589934592)(hc:bp h c tb l n op false)(A:n<l.length)
 (i:lS c tb l op false h k (Ku l F ex st op n)):aE T (W T) ⟨128⟩ [.a c 0] h k:=by
 rw[aJ p.t128];have hx:=hc.lt;have hy:=hc.qn;unfold Ku at i;refine ag ?_;refine qC p (hc.am _) A λa g1=>?_;obtain⟨n1,e1⟩:=bH g1;have c1:=(hc.am _).bc g1;have b8:∀(H M:Hp)(f:Fr)(t:Tree)(row:List AV)(m:Nat),Pg c h H->Pg c H M->bp M c tb l m op false->H.ab h.a=.a 61 vh->ay H.a M t row->m<l.length->0<m->an 2 f=.a h.a 0->cU h.a c tb l op false h k (.b t m)->
  ∃kv,row=[.i t.bi,.i t.ib,.i t.toz,.i t.at,S t.bj,kv]/\M.ab h.a=.a 61 vh/\k (.a (.p row) (M.dT h.a (.a 61 row))):=by
  intro H M f t row m g1 g2 c4 q nd hm hz f2 i;obtain⟨kv,rfl,hkv,nk⟩:=nd.gc;have e1:=gp g1;have e2:=gp g2;have ao:=Hp.lt q rfl;have q':M.ab h.a=.a 61 vh:=bV e2 q;exact⟨kv,rfl,q',i _ _ (eF e2 e1) (c4.dT _ zo zo) (ay.nf ((NF.cg M).dT _ q') zo _ _ nd) hm hz⟩
 have htk:∀{H:Hp}{f:Fr},True:=λ{_ _}=>trivial;refine aB Tk.fj.eq_1 ?_;refine ke p (((c1.am _).dT _ zo zo).am _) A (cY.kw (x:=[123]) (Hp.bv zm) zl zm) zm λK g2=>?_;obtain⟨n2,e2⟩:=bH g2;have c2:=(((c1.am _).dT _ zo zo).am _).bc g2;have X:K.ab h.a=.a 61 vh:=bV e2 e1;have p32:K.ab a.a=.a 80 (tk l n).fj:=cX e2 e1 Tk.fj.eq_1;have gv:Pg c h K:=(eF e2 e1);cases e:bD (tk l n) [[123]] with
 |true=>
  rw[if_pos e] at i;refine ag ?_;refine KA p L S1 o0 o1 hF c2 A (i.Hc gv (λv K N=>by simp_all) λt m i G O y c9 o R U=>?_);obtain⟨CL,rfl,q9,i⟩:=b8 _ _ (fO 2 (.a h.a 0) (nQ [])) t O m gv y c9 X o R U aa i;simp_all
 |false=>
 rw[if_neg qaa] at i;clear e;refine ag ?_;refine ke p ((c2).am _) A (cY.kw (x:=[105,102]) (Hp.bv zm) zl zm) zm λh3 g3=>?_;obtain⟨n3,e3⟩:=bH g3;have c3:=((c2).am _).bc g3;have Y:h3.ab h.a=.a 61 vh:=cX e3 X p32;have p33:h3.ab a.a=.a 80 (tk l n).fj:=mw e3 X p32 Tk.fj.eq_1;have dL:Pg c h h3:=(eF e3 (gp gv));cases e:bD (tk l n) [[105,102]] with
 |true=>
  rw[if_pos e] at i;refine ag ?_;refine aaL p L E S1 o0 o1 hF F n _ _ c3 A (i.Hc dL (λv K N=>by simp_all) λt m i G O y c9 o R U=>?_);obtain⟨CL,rfl,q9,i⟩:=b8 _ _ (fO 2 (.a h.a 0) (nQ [])) t O m dL y c9 Y o R U aa i;simp_all
 |false=>
 rw[if_neg qaa] at i;clear e;refine ag ?_;clear X p32 e3;refine ke p ((c3).am _) A (cY.kw (x:=[102,111,114]) (Hp.bv zm) zl zm) zm λM g4=>?_;obtain⟨n4,e4⟩:=bH g4;have c4:=((c3).am _).bc g4;have Z:M.ab h.a=.a 61 vh:=cX e4 Y p33;have p34:M.ab a.a=.a 80 (tk l n).fj:=mw e4 Y p33 Tk.fj.eq_1;have uh:Pg c h M:=(eF e4 (gp dL));cases e:bD (tk l n) [[102,111,114]] with
 |true=>
  rw[if_pos e] at i;refine ag ?_;refine aaM p L E S1 o0 o1 hF c4 A (i.Hc uh (λv K N=>by simp_all) λt m i G O y c9 o R U=>?_);obtain⟨CL,rfl,q9,i⟩:=b8 _ _ (fO 2 (.a h.a 0) (nQ [])) t O m uh y c9 Z o R U aa i;simp_all
 |false=>
 rw[if_neg qaa] at i;clear e;refine ag ?_;clear Y p33 e4;refine ke p ((c4).am _) A (cY.kw (x:=[118,97,114]) (Hp.bv zm) zl zm) zm λh5 g5=>?_;obtain⟨n5,e5⟩:=bH g5;have c5:=((c4).am _).bc g5;have p25:h5.ab h.a=.a 61 vh:=cX e5 Z p34;have p35:h5.ab a.a=.a 80 (tk l n).fj:=mw e5 Z p34 Tk.fj.eq_1;have qF:Pg c h h5:=(eF e5 (gp uh));cases e:bD (tk l n) [[118,97,114]] with
 |true=>
  rw[if_pos e] at i;refine ag ?_;refine ah5 p L E o0 o1 c5 A (i.Hc qF (λv K N=>by simp_all) λt m i G O y c9 o R U=>?_);obtain⟨CL,rfl,q9,i⟩:=b8 _ _ (fO 2 (.a h.a 0) (nQ [])) t O m qF y c9 p25 o R U aa i;simp_all
 |false=>
 rw[if_neg qaa] at i;clear e;refine ag ?_;clear Z p34 e5;refine ke p ((c5).am _) A (cY.kw (x:=[98,114,101,97,107]) (Hp.bv zm) zl zm) zm λh6 g6=>?_;obtain⟨n6,e6⟩:=bH g6;have c6:=((c5).am _).bc g6;have p26:h6.ab h.a=.a 61 vh:=cX e6 p25 p35;have p36:h6.ab a.a=.a 80 (tk l n).fj:=mw e6 p25 p35 Tk.fj.eq_1;have uo:Pg c h h6:=(eF e6 (gp qF));cases e:bD (tk l n) [[98,114,101,97,107]] with
 |true=>
  rw[if_pos e] at i;refine ag ?_;refine aaJ p L c6 (lT L A e) (i.Hc uo (λv K N=>by simp_all) λt m i G O y c9 o R U=>?_);obtain⟨CL,rfl,q9,i⟩:=b8 _ _ (fO 2 (.a h.a 0) (nQ [])) t O m uo y c9 p26 o R U aa i;simp_all
 |false=>
 rw[if_neg qaa] at i;clear e;refine ag ?_;clear p25 p35 e6;refine ke p ((c6).am _) A (cY.kw (x:=[99,111,110,116,105,110,117,101]) (Hp.bv zm) zl zm) zm λh7 g7=>?_;obtain⟨n7,e7⟩:=bH g7;have c7:=((c6).am _).bc g7;have p27:h7.ab h.a=.a 61 vh:=cX e7 p26 p36;have p37:h7.ab a.a=.a 80 (tk l n).fj:=mw e7 p26 p36 Tk.fj.eq_1;have Ab:Pg c h h7:=(eF e7 (gp uo));cases e:bD (tk l n) [[99,111,110,116,105,110,117,101]] with
 |true=>
  rw[if_pos e] at i;refine ag ?_;refine aaJ p L c7 (lT L A e) (i.Hc Ab (λv K N=>by simp_all) λt m i G O y c9 o R U=>?_);obtain⟨CL,rfl,q9,i⟩:=b8 _ _ (fO 2 (.a h.a 0) (nQ [])) t O m Ab y c9 p27 o R U aa i;simp_all
 |false=>
 rw[if_neg qaa] at i;clear e;refine ag ?_;clear p26 p36 e7;have r0:∀(q:Int),True:=λ_=>trivial;refine He p c7 A (λe h8 g8 c8=>?_) λe h8 g8 c8=>?_;rw[if_pos e] at i;have cV:=lT L A e;obtain⟨n8,e8⟩:=bw g8;refine ag ?_;refine qC p c8 cV λG y=>?_;obtain⟨n9,Q⟩:=bH y;have c9:=c8.bc y;have p2:G.ab h.a=.a 61 vh:=cX Q e8 p27;have p3:G.ab a.a=.a 80 (tk l n).fj:=cX Q e8 p37;have gg9:Pg c h G:=(fH Q e8 (gp Ab));by_cases k7:(tk l (n+1)).c=7;rw[if_pos (.inl k7)] at i;refine aU Tk.fj.eq_1 k7 p3 ?_;refine gS p c9 zo rfl λw s=>?_;obtain⟨V,j⟩:=bH s;refine aS j p2 ?_;exact i _ _ (eF j (gp gg9)) ((c9.bc s).dT _ zo zo) (ay.of (t:=aV l (n+1) 19 (tk l n).a (tk l n).a [] []) rfl) cV zo;refine aS Tk.fj.eq_1 k7 ?_;refine ke p (c9.am _) cV (cY.kw (x:=[125]) (Hp.bv zm) zl zm) zm λw s=>?_;obtain⟨V,j⟩:=bH s;have u:=(c9.am _).bc s;have p2':w.ab h.a=.a 61 vh:=bV j p2;have p3':w.ab a.a=.a 80 (tk l n).fj:=bV j p3;have TP:Pg c h w:=(eF j (gp gg9));cases eb:bD (tk l (n+1)) [[125]] with
 |true=>
  rw[if_pos (.inr eb)] at i;refine aS Tk.fj.eq_1 p3' ?_;refine gS p u zo rfl λJ I=>?_;obtain⟨n11,r⟩:=bH I;refine aS r p2' ?_;exact i _ _ (eF r (gp TP)) ((u.bc I).dT _ zo zo) (ay.of (t:=aV l (n+1) 19 (tk l n).a (tk l n).a [] []) rfl) cV zo
 |false=>
  rw[if_neg qaa] at i;refine ag ?_;refine E _ (n+1) op false 0 _ o0 o1 (atY 0) u cV (i.rc TP (λv K N=>by simp_all) λt m i J aib I B KD hm hz=>?_);obtain⟨n11,r⟩:=bw I;obtain⟨aic,rfl,aid,aie⟩:=KD.gc;obtain⟨m,rfl⟩:∃q,m=q+1:=⟨m- 1,by omega⟩;refine aU r p3' Tk.fj.eq_1 ?_;refine gS p (((B.am _).dT _ zo zo).am _) zo rfl λh12 D=>?_;obtain⟨n12,C⟩:=bH D;have q12:h12.ab h.a=.a 61 vh:=cX C r p2';refine aB q12 ?_;refine i _ _ (fH C r (gp TP)) (((((B.am _).dT _ zo zo).am _).bc D).dT _ zo zo) (ay.of (t:=aV l (m+1) 19 (tk l n).a (tk l n).a [] [t]) ?_) hm hz;exact vD ((Hp.fv zo).trans ((C _ zm).trans (Hp.bv aa))) zl zo
   (by exact ay.nf ((((((NF.cg J).am _).ow _ zo).am _).g0 D).dT _ q12) zo _ _ KD)
 rw[if_neg (by simp[e])] at i;obtain⟨n8,e8⟩:=bw g8;have p2:h8.ab h.a=.a 61 vh:=bV e8 p27;have p3:h8.ab a.a=.a 80 (tk l n).fj:=bV e8 p37;have wZ:Pg c h h8:=(eF e8 (gp Ab));refine ag ?_;refine TD p L E c8 A o0 o1 hF (i.rc wZ (λv K N=>by refine ag ?_;exact N) λx m i G O y c9 o hm hz=>?_);obtain⟨n9,Q⟩:=bw y;obtain⟨CL,rfl,asr,nk9⟩:=o.gc;obtain⟨m,rfl⟩:∃q,m=q+1:=⟨m- 1,by omega⟩;generalize Hh:CC.f (.g (z q128 23)) .k=TC;have Bh:∀(H:Hp)(f:Fr),Pg c G H->bp H c tb l (m+1) op false->H.ab G.a=.a 61 [.i x.bi,.i x.ib,.i x.toz,.i x.at,S x.bj,CL]->an 0 f=.a c 0->an 2 f=.a h.a 0->an 5 f=.a G.a 0->
  cU h.a c tb l op false h k (uj l ex op false x true (m+1))->W T TC f H [] (finish T (W T) [.b 6 true 2] k):=by
  intro H f gH cH q9 f0 f2 f5 i;subst Hh;have eH:=gp gH;have nH:=gH.g;have u9:=Hp.lt q9 rfl;have nd:ay h8.a H x _:=ay.nf ((NF.cg G).gp gH zo) zl _ _ o;refine bK f0 f2 f5 q9 ?_;refine TH p L E o0 o1 cH hm nd zo zo (i.Hc (fH eH Q (gp wZ)) (λv K N=>by refine ag ?_;exact N) λt m2 i w aif s u KE TQ TR=>?_);obtain⟨V,j⟩:=bw s;obtain⟨aih,rfl,aii,aij⟩:=KE.gc;have q10:w.ab h.a=.a 61 vh:=mw j eH Q p2;refine aS f2 q10 ?_;exact i _ _ (qB j eH Q (gp wZ)) (u.dT _ zo zo) (ay.nf ((NF.cg w).dT _ q10) zo _ _ KE) TQ TR
 by_cases P:x.bi=25;refine aB P ?_;refine He p ((c9.am _).dT _ zo zo) hm (λe w s u=>?_) λe w s u=>?_;rw[if_pos ⟨P,e⟩] at i;obtain⟨V,j⟩:=bw s;refine aB j ?_;refine aaM p L E S1 o0 o1 hF u (lT L hm e) (i.rc (fH j Q (gp wZ)) (λv K N=>by refine ag ?_;exact N) λt m2 i J aib I B KD aik ail=>?_);obtain⟨n11,r⟩:=bw I;obtain⟨aic,rfl,aid,aie⟩:=KD.gc;obtain⟨m2,rfl⟩:∃q,m2=q+1:=⟨m2- 1,by omega⟩;have u11:=B.lt;have ass:=B.qn;have u10:=u.lt;have q3:J.ab a.a=.a 80 (tk l n).fj:=mw r j Q p3;have u1:=Hp.lt q3 rfl;have q9:J.ab G.a=.a 61 [.i 25,.i x.ib,.i x.toz,.i x.at,S x.bj,CL]:=bV r j;have u9:=Hp.lt q9 rfl;refine aU q9 q3 Tk.fj.eq_1 ?_;refine gS p (((B.am _).dT _ zo zo).am _) zo rfl λh12 D=>?_;obtain⟨n12,C⟩:=bH D;have q12:h12.ab h.a=.a 61 vh:=zg5 C r j Q p2;refine aB q12 ?_;refine i _ _ (Ei C r j Q (gp wZ)) (((((B.am _).dT _ zo zo).am _).bc D).dT _ zo zo) (ay.of (t:=aV l (m2+1) 16 (tk l n).a (tk l n).a x.bj [t]) ?_) aik ail;exact vD ((Hp.fv zo).trans ((C _ (by simp only[Hp.ii,Hp.ka];omega)).trans (Hp.bv aa))) zl zo
  (by simp only[dZ,auo];exact ay.nf ((((((NF.cg J).am _).ow _ zo).am _).g0 D).dT _ q12) zo _ _ KD)
 rw[if_neg (by simp[e])] at i;obtain⟨V,j⟩:=bw s;refine ag ?_;exact Bh _ _ (iQ j) u (bV j P) aa aa aa i;rw[if_neg (by simp[P])] at i;refine aB P ?_;exact Bh _ _ ((ah.am (ah.cg _) _).dT _ (.inl zl)) ((c9.am _).dT _ zo zo) (Hp.fp rfl) aa aa aa i
end
section
variable {a:Hp}{n:Nat}{l:List Tk}{d:Int}{hd i:Bool}{k b:aK->Prop}
variable {ex:Int->Bool->Int->Nat->PR Tree}{st:Int->Nat->PR Tree}
def aaN(g:aA T)(m:fc l)(E:pW T c tb l ex){F:Nat}(j:F<8589934592):∀f:Nat,CK T c tb l (Hw l F ex f)
 |0=>λ_ _ _ _ _ _ _ _ e=>e.elim
 |f+1=>λh n op k q r o p e=>aia g m E (aaN g m E j f) q r j o p e
def aaO(g:aA T){q:Int}(m:c<h.a)
 (j:∀h' e f,ax h h'->h'.ab e=.a 78 [.a c 0]->h'.ab f=.a 3 [.i q]->h.a<=e->h.a<=f->k (.a (.r ⟨125⟩ [] [.a e 0,.a f 0]) h')):aE T (W T) ⟨93⟩ [.a c 0,.i q] h k:=by
 rw[aJ g.t93];refine ag ?_;exact j _ h.a (h.a+1) aZ aa aa zl zo
theorem aaP(j:aA T)(z:fc l){q:Int}{o p:Nat}(q1:hh.ab o=.a 78 [.a c 0])(q2:hh.ab p=.a 3 [.i q])(A:o≠c)(B:p≠c):Kn T hh c tb l op hd ⟨125⟩ [.a o 0,.a p 0] (En l q):=by
 intro h n k g y G f;have K:=Hp.lt q1 rfl;have L:=Hp.lt q2 rfl;have N:=y.lt;have O:=y.qn;have u:h.ab o=.a 78 [.a c 0]:=by rw[g.f _ K A];omega
 have r2:h.ab p=.a 3 [.i q]:=by rw[g.f _ L B];omega
 have y1:=Hp.lt u rfl;have y2:=Hp.lt r2 rfl;rw[aJ j.t125];refine aB u ?_;refine Hy j z cU.qi zm f (y.am _) G aZ (λv s H=>by simp_all) λM C f a g1 c1=>?_;obtain⟨A,e⟩:=bw g1;refine aU e u Tk.fj.eq_1 ?_;refine aIM j z ((c1.am _).dT _ zo zo) C (f.rc (iQ e) (λv s H=>by simp_all) λt m f s row g2 c2 nd F I=>?_);obtain⟨B,r⟩:=bw g2;obtain⟨kv,rfl,E,Q⟩:=nd.gc;obtain⟨m,rfl⟩:∃q,m=q+1:=⟨m- 1,by omega⟩;have J:s.ab a.a=.a 80 (tk l n).fj:=bV r Tk.fj.eq_1;refine cq r e u r2 J Tk.fj.eq_1 ?_;refine gS j (((c2.am _).dT _ zo zo).am _) zo rfl λD x=>?_;obtain⟨P,w⟩:=bH x;have q3:D.ab h.a=.a 61 vh:=cX w r e;refine aB q3 ?_;refine f _ _ (fH w r e) (((((c2.am _).dT _ zo zo).am _).bc x).dT _ zo zo) (ay.of (t:=aV l (m+1) q (tk l n).a (tk l n).a (tk l n).b [t]) ?_) F I;exact vD ((Hp.fv zo).trans ((w _ zm).trans (Hp.bv aa))) zl zo
  (by exact ay.nf ((((((NF.cg s).am _).ow _ zo).am _).g0 x).dT _ q3) qal _ _ nd)
theorem aim(g:aA T)(r:fc l)(o0:0<=op)(o1:op<=128)(H:bp h c tb l n op hd)(Q:n<l.length)
 (f:lS c tb l op hd h k (Kv l op n)):aE T (W T) ⟨94⟩ [.a c 0] h k:=by
 rw[aJ g.t94];have hx:=H.lt;have hy:=H.qn;unfold Kv at f;refine ag ?_;refine Ts g r (((H.am _).am _).am _) Q o0 o1 (left:=[40]) (right:=[41]) (λe G h' p=>?_) (λe h' p=>?_) (λe G j Z U=>?_)
 ·rw[if_pos e,if_pos G] at f;have n':=p.g;have E:=gp p;try simp only[Hp.ii] at n'
  refine ag ?_;exact f.er (iQ E)
 ·rw[if_neg qaa] at f;have n':=p.g;have E:=gp p;try simp only[Hp.ii] at n'
  refine ag ?_;exact f.er (iQ E)
 rw[if_pos e,if_neg G] at f;obtain⟨n4,w⟩:=bw Z;have X:=lT r Q e;rw[aJ g.t126];have B:j.ab h.a=.a 78 [.a c 0]:=au w;have p2:j.ab (h.a+1+1)=.a 61 vh:=au w;have p3:j.ab (h.a+1)=.a 61 vh:=au w;have C:Pg c h j:=(iQ w);refine aB B ?_;refine Hy g r cU.qi zm f U X C (λv h2 hv=>by simp_all[WK]) λY jB f N g5 V=>?_;obtain⟨n5,x⟩:=bw g5;refine aU x B Tk.fj.eq_1 ?_;refine Hy g r cU.qi zm f ((V.am _).dT _ zo zo) jB (eF x (gp C)) (λv h2 hv=>by simp_all[WK]) λY J f O g6 c6=>?_;obtain⟨n6,F⟩:=bw g6;have p5:O.ab N.a=.a 80 (tk l (n+1)).fj:=bV F Tk.fj.eq_1;have D:Pg c j O:=(eF F x);refine bK F x B Tk.fj.eq_1 ?_;refine gS (n:=n+1+1) g ((c6.am _).dT _ zo zo) zo rfl λA L=>?_;obtain⟨n7,m⟩:=bH L;have c7:=((c6.am _).dT _ zo zo).bc L;have S:Pg c j A:=(eF m (gp D));have p7:A.ab N.a=.a 80 (tk l (n+1)).fj:=bV m p5;have p9:A.ab h.a=.a 78 [.a c 0]:=cX m (gp D) B;refine aU p7 p9 Tk.fj.eq_1 ?_;refine gS (n:=n+1+1) g (((c7.am _).dT _ zo zo).am _) zo rfl λq M=>?_;obtain⟨n8,y⟩:=bH M;have c8:=((((c7.am _).dT _ zo zo).am _).bc M);have s:q.ab (h.a+1+1)=.a 61 vh:=mw y m (gp D) p2;have u:q.ab (h.a+1)=.a 61 vh:=mw y m (gp D) p3;have R:Pg c j q:=(eF y (gp S));simp(disch:=omega) [s,WK];refine⟨n+1+1+1,J,c8.dT _ zo zo,λK P z c9=>?_,λen P z=>?_⟩;rw[if_pos K] at f;obtain⟨n9,o⟩:=bw z;have I:P.ab (h.a+1)=.a 61 vh:=bV o u;refine aS o u ?_;refine f _ _ (fH o (gp R) (gp C)) (c9.dT _ zo zo) (ay.of (t:=aV l (n+1+1+1) 7 (tk l (n+1)).a (tk l (n+1)).a (tk l (n+1)).b [aV l (n+1+1+1) 8 (tk l (n+1+1)).a (tk l (n+1+1)).a (tk l (n+1+1)).b []]) ?_) (lT r J K) zo;have:dO h.a q [aV l (n+1+1+1) 8 (tk l (n+1+1)).a (tk l (n+1+1)).a (tk l (n+1+1)).b []] (.c (A.a+1) 0 6 1 1 true):=by exact vD ((y _ zm).trans (Hp.bv aa)) zl zo (ay.of (t:=aV l (n+1+1+1) 8 (tk l (n+1+1)).a (tk l (n+1+1)).a (tk l (n+1+1)).b []) rfl)
 exact dO.nf ((((NF.cg q).dT _ s).gp z hx).dT _ I) zl _ _ this;rw[if_neg qaa] at f;obtain⟨n9,o⟩:=bw z;exact f.er (fH o (gp R) (gp C))
end
section
variable {a:Hp}{n:Nat}{l:List Tk}{e:Int}{hd g:Bool}{k d:aK->Prop}
variable {ex:Int->Bool->Int->Nat->PR Tree}{st:Int->Nat->PR Tree}
def ain(b:aA T)(j:fc l)(X:0<=op)(Y:op<=128){F:Nat}(P:F<8589934592)(z:bp h c tb l n op hd)(R:n<l.length)
 (f:lS c tb l op hd h k (Ky l F op n)):aE T (W T) ⟨57⟩ [.a c 0] h k:=by
 rw[aJ b.t57];have hx:=z.lt;have hy:=z.qn;refine ag ?_;refine Hx b j cU.qi f (z.am _) R aZ (λv i A=>by simp_all) λK J f a g1 c1=>?_;obtain⟨n1,p⟩:=bw g1;refine aB Tk.fj.eq_1 ?_;refine Hy b j cU.qi zm f c1 J (iQ p) (λv i A=>by simp_all) λek U f i g2 c2=>?_;obtain⟨n2,u⟩:=bw g2;refine aB Tk.fj.eq_1 ?_;refine Hx b j cU.qi f ((c2.am _).dT _ zo zo) U (eF u p) (λv i A=>by simp_all) λK I f y M c3=>?_;obtain⟨n3,w⟩:=bw M;have Z:y.ab h.a=.a 61 vh:=cX w u p;have p4:y.ab i.a=.a 80 (tk l (n+1)).fj:=bV w Tk.fj.eq_1;have C:Pg c h y:=(fH w u p);refine aB Tk.fj.eq_1 ?_;refine aaO b zo λh4 b1 b2 E q1 q2 w1 w2=>?_;obtain⟨n4,r⟩:=bH E;have s:=c3.bc E;refine ag ?_;refine Kq b j s I X Y P (λL=>aaP b j q1 q2 (s.ww q1) (s.ww q2)) (λL=>aaz b j) (f.Hk (eF r (gp C)) (λv i A=>by simp_all) λts m jh f G kv N B Q S o V=>?_);obtain⟨n5,x⟩:=bw N;obtain⟨m,rfl⟩:∃q,m=q+1:=⟨m- 1,by omega⟩;have p5:G.ab i.a=.a 80 (tk l (n+1)).fj:=cX x r p4;refine aS p5 Tk.fj.eq_1 ?_;refine gS b B zo o λO g6=>?_;obtain⟨n6,D⟩:=bH g6;have H:O.ab h.a=.a 61 vh:=mw D x r Z;exact aS H o (f _ _ (qB D x r (gp C)) ((B.bc g6).dT _ zo zo) (ay.of (t:=aV l (m+1) 3 (tk l n).a (tk l (n+1)).a (tk l (n+1)).b ts) (dO.nf (((NF.cg G).g0 g6).dT _ H) zo _ _ V)) Q S)
theorem aio(j:aA T)(C:fc l)(S1:CK T c tb l st)(o0:0<=op)(o1:op<=128){F:Nat}(hF:F<8589934592)(hc:bp h c tb l n op false)(hn:n<l.length)
 (i:lS c tb l op false h k (Kw l F st op n)):aE T (W T) ⟨58⟩ [.a c 0] h k:=by
 rw[aJ j.t58];have hx:=hc.lt;have hy:=hc.qn;unfold Kw at i;refine ag ?_;refine Hx j C cU.qi i (hc.am _) hn aZ (λv m D=>by simp_all) λee cV i a g1 c1=>?_;obtain⟨n1,e1⟩:=bw g1;generalize pY:CC.f (.g (z q58 5)) (.f (.g (z q58 6)) (.f (.g (z q58 7)) (.f (.g (z q58 8)) (.f (.f (.g (z q58 9)) (.i (.t 38) (.g (z q58 10)) .j)) (.f (.g (z q58 11)) (.f (.g (z q58 12)) .k))))))=T2;have k9:∀(H:Hp)(f:Fr)(r:Tree)(r4:List AV)(o:Nat),Pg c h H->bp H c tb l o op false->H.ab h.a=.a 61 vh->H.ab a.a=.a 61 r4->H.ab (a.a+1)=.a 61 vh->ay h.a H r r4->o<l.length->0<o->
  an 0 f=.a c 0->an 2 f=.a h.a 0->an 3 f=.i (tk l n).a->an 4 f=.a a.a 0->an 5 f=.a (a.a+1) 0->
  cU h.a c tb l op false h k ((jR l 1 o).dC λu q=>
   (wS l [40] [41] (En l 7) (Cu l [41]) op F q).dC λps s=>(if bD (tk l s) [[123]]=true then .b zT s else Ct l s).dC λty v=>
    (vE l F st op v).dC λb w=>.b (aV l w 5 (tk l n).a u.a u.b [r,aV l s 6 (tk l q).a (tk l q).a [] ps,ty,b]) w)->
  W T T2 f H [] (finish T (W T) [.b 6 true 2] k):=by
  intro H f r r4 o gH cH q1 q4 q5 d4 ho hz f0 f2 f3 f4 f5 i;have eH:=gp gH;have uH:=gH.g;have u1:=cH.lt;have u2:=cH.qn;have u4:=Hp.lt q4 rfl;have u5:=Hp.lt q5 rfl;obtain⟨v4,rfl,w4,_⟩:=d4.gc;rw[<-pY];generalize rq:CC.f (.g (z q58 11)) (.f (.g (z q58 12)) .k)=T3;refine aB f0 ?_;refine Hy j C cU.qi zm i cH ho gH (λv m D=>by simp_all) λek qy i m g2 c2=>?_;obtain⟨n2,L⟩:=bw g2;refine aS f0 Tk.fj.eq_1 ?_;refine qC j ((c2.am _).dT _ zo zo) qy λU g3=>?_;obtain⟨n3,E⟩:=bH g3;have c3:=((c2.am _).dT _ zo zo).bc g3;have p6:U.ab m.a=.a 80 (tk l o).fj:=bV E Tk.fj.eq_1;have u6:=Hp.lt p6 rfl;have dL:Pg c H U:=(eF E L);refine aS f0 Tk.fj.eq_1 ?_;refine Tw j zo λh4 b1 b2 g4 x1 x2 w1 w2=>?_;obtain⟨n4,e4⟩:=bH g4;refine aB f0 ?_;refine aaO j zo λh5 b3 b4 g5 x3 x4 w3 w4=>?_;obtain⟨n5,e5⟩:=bH g5;have N:=(c3.bc g4).bc g5;have y1:h5.ab b1=.a 78 [.a c 0]:=by rw[e5 _ (Hp.lt x1 rfl)];omega
  have y2:h5.ab b2=.a 9 [S [41]]:=by rw[e5 _ (Hp.lt x2 rfl)];omega
  have qF:Pg c H h5:=(fH e5 e4 (gp dL));refine aB f0 ?_;refine Kq j C N qy o0 o1 hF (λeo=>aaP j C x3 x4 (N.ww x3) (N.ww x4)) (λeo=>Tx j C y1 y2 (N.ww y1) (N.ww y2)) (i.Hk (gH.ba qF) (λv m D=>by simp_all) λps s jh i h6 kv g6 c6 hm KC V nk=>?_);obtain⟨n6,e6⟩:=bw g6;obtain⟨s,rfl⟩:∃q,s=q+1:=⟨s- 1,by omega⟩;have p7:h6.ab m.a=.a 80 (tk l o).fj:=mw e6 e5 e4 p6;have uo:Pg c H h6:=(eF e6 (gp qF));refine aB f0 ?_;refine gS j c6 zo V λp g7=>?_;obtain⟨n7,O⟩:=bH g7;have c7:=c6.bc g7;have q1':p.ab h.a=.a 61 vh:=cX O (gp uo) q1;have q4':p.ab a.a=.a 61 [.i r.bi,.i r.ib,.i r.toz,.i r.at,S r.bj,v4]:=cX O (gp uo) q4;have q5':p.ab (a.a+1)=.a 61 vh:=cX O (gp uo) q5;have I:p.ab m.a=.a 80 (tk l o).fj:=bV O p7;have u7:=Hp.lt I rfl;have Ab:Pg c h p:=(fH O (gp uo) eH);have dr:ay h.a p r [.i r.bi,.i r.ib,.i r.toz,.i r.at,S r.bj,v4]:=ay.nf (((NF.cg H).gp uo hx).g0 g7) zl _ _ d4;have dp:ay h.a p (aV l (s+1) 6 (tk l (o+1)).a (tk l (o+1)).a [] ps) [.i 6,.i (tk l (o+1)).a,.i (tk l s).d,.i (tk l (o+1)).a,S [],kv]:=ay.of (t:=aV l (s+1) 6 (tk l (o+1)).a (tk l (o+1)).a [] ps) (dO.nf ((NF.cg h6).g0 g7) zo _ _ nk);have vG:∀(B:Hp)(f:Fr)(ty:Tree)(r5:List AV)(v:Nat),bp B c tb l v op false->B.ab p.a=.a 61 [.i 6,.i (tk l (o+1)).a,.i (tk l s).d,.i (tk l (o+1)).a,S [],kv]->B.ab (a.a+1)=.a 61 r5->NF h.a p B->ay h.a B ty r5->v<l.length->0<v->B.ab h.a=.a 61 vh->B.ab a.a=.a 61 [.i r.bi,.i r.ib,.i r.toz,.i r.at,S r.bj,v4]->B.ab m.a=.a 80 (tk l o).fj->Pg c h B->
   an 0 f=.a c 0->an 2 f=.a h.a 0->an 3 f=.i (tk l n).a->an 4 f=.a a.a 0->an 5 f=.a (a.a+1) 0->an 6 f=.a m.a 0->an 9 f=.a p.a 0->
   cU h.a c tb l op false h k ((vE l F st op v).dC λb w=>.b (aV l w 5 (tk l n).a (tk l o).a (tk l o).b [r,aV l (s+1) 6 (tk l (o+1)).a (tk l (o+1)).a [] ps,ty,b]) w)->
   W T T3 f B [] (finish T (W T) [.b 6 true 2] k):=by
   intro B f ty r5 v c3 x9 x5 KF d5 D Oc x1 x4 x6 Q f0 f2 f3 f4 f5 f6 f9 i;subst rq;obtain⟨v5,rfl,w5,_⟩:=d5.gc;have t9:=Hp.lt x9 rfl;refine aB f0 ?_;refine KA j C S1 o0 o1 hF c3 D (i.rc Q (λv m D=>by simp_all) λb w i G asu M c8 X hm8 hz8=>?_);obtain⟨n8,A⟩:=bw M;obtain⟨kv8,rfl,asv,nk8⟩:=X.gc;obtain⟨w,rfl⟩:∃q,w=q+1:=⟨w- 1,by omega⟩;refine kC f0 f2 f3 f4 f5 f6 f9 A x1 x4 x5 x6 (atQ x9 Tk.fj.eq_1) ?_;refine gS j (((c8.am _).dT _ zo zo).am _) zo rfl λh9 g9=>?_;obtain⟨n9,e9⟩:=bH g9;have J:h9.ab h.a=.a 61 vh:=cX e9 A x1;refine aS f2 J ?_;refine i _ _ (fH e9 A (gp Q)) (((((c8.am _).dT _ zo zo).am _).bc g9).dT _ zo zo) (ay.of (t:=aV l (w+1) 5 (tk l n).a (tk l o).a (tk l o).b [r,aV l (s+1) 6 (tk l (o+1)).a (tk l (o+1)).a [] ps,ty,b]) ?_) hm8 hz8;have TS:=((((((NF.cg B).gp M hx).am _).ow _ zo).am _).g0 g9).dT (.a 61 [.i 5,.i (tk l n).a,.i (tk l w).d,.i (tk l o).a,S (tk l o).b,.c (G.a+1) 0 6 4 4 true]) J;exact aaK ((Hp.fv zo).trans ((e9 _ zm).trans (Hp.bv aa))) zl zo (ay.nf (KF.ba TS) zl _ _ dr) (ay.nf (KF.ba TS) zl _ _ dp) (ay.nf TS zl _ _ d5) (ay.nf ((((((NF.cg G).am _).ow _ zo).am _).g0 g9).dT _ J) zo _ _ X)
  refine aS f0 V ?_;refine ke j (((c7.am _).dT _ zo zo).am _) hm (cY.kw (x:=[123]) (Hp.bv zm) zl zm) zm λG M=>?_;obtain⟨n8,A⟩:=bH M;have c8:=(((c7.am _).dT _ zo zo).am _).bc M;have wZ:Pg c p G:=(iQ A);have z9:G.ab p.a=.a 61 [.i 6,.i (tk l (o+1)).a,.i (tk l s).d,.i (tk l (o+1)).a,S [],kv]:=au A;have u9:=Hp.lt z9 rfl;have z5:G.ab (a.a+1)=.a 61 vh:=bV A q5';have Y:NF h.a p G:=((((NF.cg p).am _).ow _ zo).am _).g0 M;cases eb:bD (tk l (s+1)) [[123]] with
  |true=>
   rw[if_pos eb] at i;refine aB f0 ?_;exact vG _ _ zT _ (s+1) c8 z9 z5 Y vF hm KC (bV A q1') (bV A q4') (bV A I) (Ab.ba wZ) zA zA zA zA zA aa aa i
  |false=>
   rw[if_neg qaa] at i;refine aB f0 ?_;refine aIM j C c8 hm (i.rc (Ab.ba wZ) (λv m D=>by simp_all) λt v i R aif P c10 KE TQ TR=>?_);obtain⟨n10,y⟩:=bw P;obtain⟨aih,rfl,aii,aij⟩:=KE.gc;have K:R.ab (a.a+1)=.a 61 vh:=bV y z5;refine aS f5 K ?_;exact vG _ _ t _ v (c10.dT _ zo zo) (bV y z9) (Hp.fp rfl) ((Y.gp P hx).dT _ K) (ay.nf ((NF.cg R).dT _ K) zo _ _ KE) TQ TR (cX y A q1') (cX y A q4') (cX y A I) (fH y (gp wZ) (gp Ab))
    zA zA zA zA zA aa aa i
 refine aB Tk.fj.eq_1 ?_;refine ke j (((c1.am _).am _).am _) cV (cY.kw (x:=[40]) (Hp.bv zm) zl zm) zm λm g2=>?_;obtain⟨n2,L⟩:=bH g2;have c2:=(((c1.am _).am _).am _).bc g2;have p1:m.ab h.a=.a 61 vh:=bV L e1;have p4:m.ab a.a=.a 61 vh:=au L;have p5:m.ab (a.a+1)=.a 61 vh:=au L;have gv:Pg c h m:=(eF L e1);cases eb:bD (tk l (n+1)) [[40]] with
 |true=>
  rw[if_pos eb] at i;refine ag ?_;refine aim j C o0 o1 c2 cV (i.rc gv (λv m D=>by refine ag ?_;exact D) λt v i U ah' g3 c3 o8 yl Oc=>?_);obtain⟨n3,E⟩:=bw g3;obtain⟨zW,rfl,Hj,Ew⟩:=o8.gc;have Z:U.ab a.a=.a 61 vh:=bV E p4;refine aB Z ?_;exact k9 _ _ t _ v (eF E (gp gv)) (c3.dT _ zo zo) (bV E p1) (Hp.fp rfl) (bV E p5) (ay.nf ((NF.cg U).dT _ Z) zo _ _ o8) yl Oc aa aa aa aa aa i
 |false=>
  rw[if_neg (by simp[eb])] at i;refine ag ?_;exact k9 _ _ zT _ (n+1) gv c2 p1 p4 p5 vF cV zo aa aa aa aa aa i
end
section
variable (l:List Tk)(F:Nat)
def Ac(o:List UInt8->List UInt8×Bool)(n:Nat):PR Tree:=
 (lR l [105,109,112,111,114,116] n).dC λt m=>if(tk l m).c≠5 then .d (tk l m).a 4 else if(o (tk l m).b).2 =false then .d (tk l m).a 9
  else .b (aV l (m+1) 2 t.a (tk l m).a (o (tk l m).b).1 []) (m+1)
def vH(o:List UInt8->List UInt8×Bool):Nat->Nat->List Tree->PR (List Tree)
 |0,_,_=>.c
 |g+1,n,a=>if bD (tk l n) [[105,109,112,111,114,116]]=true then(Ac l o n).dC λt m=>(mU l m).dC λ_ q=>vH o g q (a++[t]) else .b a n
variable (st:Int->Nat->PR Tree)
def yp:Nat->Nat->List Tree->PR (List Tree)
 |0,_,_=>.c
 |g+1,n,a=>if n+1<l.length then(if bD (tk l n) [[116,121,112,101]]=true then Ky l F 0 n else Kw l F st 0 n).dC λt m=>(mU l m).dC λ_ q=>yp g q (a++[t]) else .b a n
def Ad(a:Int)(o:List UInt8->List UInt8×Bool)(n:Nat):PR Tree:=
 (lR l [112,97,99,107,97,103,101] n).dC λ_ m=>(jR l 1 m).dC λu q=>(mU l q).dC λ_ r=>(vH l o F r []).dC λis s=>(yp l F st F s is).dC λds v=>.b (.mk 1 0 a u.a u.b ds) v
end
section
variable {a:Hp}{n:Nat}{l:List Tk}{m:Int}{hd p:Bool}{k d:aK->Prop}
def pZ(lo:Nat)(h:Hp)(v:AV)(ts:List Tree):Prop:=
 ts=[]/\v=.h\/∃b r f,lo<=b/\v=.c b 0 6 ts.length ts.length false/\ts≠[]/\h.ab b=.b 61 6 r 0 f/\ts.length<=r/\aEs lo (h.dT b .c) ts f
def pZ.pg{lo:Nat}{h h':Hp}{v ts}(x:pZ lo h v ts)(g:Pg c h h')(B:c<lo):pZ lo h' v ts:=by
 have e:∀i o,lo<=i->h.ab i=o->jN o=false->h'.ab i=o:=λi o hi A z=>by rw[g.f i (Hp.lt A z) zo];omega
 rcases x with x|⟨b,r,f,a,q,s,t,u,w⟩;exact .inl x;refine .inr ⟨b,r,f,a,q,s,e b _ a t rfl,u,aEs.nf (lo:=lo) (λi r f hi j=>?_) zl _ _ w⟩;by_cases y:i=b;simp_all;rw[Hp.fv y] at j|-;exact e i _ hi j rfl
theorem pZ.fg{lo:Nat}{h:Hp}{v ts}(x:pZ lo h v ts):bQ v=some [v]/\dO lo h ts v:=by
 rcases x with⟨rfl,rfl⟩|⟨b,r,f,a,rfl,o,g,q,j⟩;exact⟨rfl,by rfl⟩;refine⟨rfl,?_⟩;cases ts with
 |nil=>grind
 |cons t ts=>
  have e:=aEs.nf (lo:=lo) (h':=h) (λi r f _ u=>by by_cases s:i=b;simp_all;simp_all) zl _ _ j
  exact⟨b,_,false,r,f,rfl,g,by omega,a,e.1,e.2⟩
theorem aip{lo:Nat}{v:AV}{ts:List Tree}{t:Tree}{row:List AV}{fB:Nat->List AV}(x:pZ lo h v ts)(B:ts.length<8589934592)(nd:ay lo h t row)(A:lo<=h.a)(s:fB 0=row)
 (nb:∀b,v=.c b 0 6 ts.length ts.length false->ts≠[]->ay lo (h.dT b .c) t row):
 ∃v' g,kJ (h.am (.b 61 6 1 0 fB)) 61 6 72 v (.c h.a 0 6 1 1 true)=.b v' g/\pZ lo g v' (ts++[t])/\h.a<=g.a/\(∀i,i<lo->g.ab i=h.ab i)/\∀i el r,h.ab i=.a el r->g.ab i=.a el r:=by
 rcases x with⟨rfl,rfl⟩|⟨b,r,f,a,rfl,w,q,y,z⟩;refine⟨_,_,A7 (n:=0) (wN (Hp.bv rfl) zl) rfl qab,?_,by simp;omega,λi hi=>aa,λi el r hi=>by have:=Hp.lt hi rfl;exact au hi⟩;refine .inr ⟨h.a+1,1,_,by omega,rfl,by simp,by refine ag ?_;rfl,by simp,?_⟩;refine Ko (by simp only[aEs]) ?_;simp[aup,dZ,auo,s];exact ay.nf ((((NF.cg h).am _).am _).ow _ zo) zl _ _ nd;have xb:=Hp.lt q rfl;refine⟨_,_,A8 (n:=0) (l5:=r) (t:=f) (au q) y (wN (Hp.bv rfl) zl) rfl (rV zo zo),?_,by grind[Hp.ii,Hp.ka],λi hi=>aa,λi el r2 hi=>by
  have:=Hp.lt hi rfl;have:i≠b:=by grind
  exact au hi⟩
 refine .inr ⟨(h.am (.b 61 6 1 0 fB)).a,ts.length+1,_,?_,by grind,by simp,Hp.bv qav,by simp,?_⟩;grind[Hp.ii];have u:=nb b rfl w;refine Ko (aEs.nf (lo:=lo) (h:=h.dT b .c) (λi r f hi e=>?_) zl _ _ (Kp (λj hj=>?_) z)) ?_;have o:i≠b:=by rintro rfl;simp_all
 rw[Hp.fv o] at e;have:=Hp.lt e rfl;exact au e;simp;grind;simp[Ti,dZ,auo,s];refine ay.nf (lo:=lo) (h:=h.dT b .c) (λi r f hi e=>?_) zl _ _ u;have o:i≠b:=by rintro rfl;simp_all
 rw[Hp.fv o] at e;have:=Hp.lt e rfl;exact au e
end
def TU:List (List UInt8):=[[116,114,117,101],[102,97,108,115,101],[114,101,116,117,114,110],[98,114,101,97,107],[99,111,110,116,105,110,117,101],[105,110,116],[98,111,111,108],[115,116,114,105,110,103],[102,108,111,97,116,54,52]]
def Hz(t:Tk):Bool:=
 if t.c=1\/t.c=3\/t.c=4\/t.c=5 then true else if t.c=2 then decide (t.b∈TU) else decide (t.b=[41])||decide (t.b=[125])
def t0:Tk:=⟨0,[],0,0⟩
def vI(t:Tk):List Tk:=if Hz t=true then[⟨7,[],t.d,t.d⟩] else[]
def aER(b:List UInt8->Int×Nat×Int)(s:List UInt8):Nat->Nat->Tk->List Tk->PR (List Tk)
 |0,_,_,_=>.c
 |g+1,a,e,d=>
  if a<s.length then
   if s.getD a 0∈[32,9,13] then aER b s g (a+1) e d
   else if s.getD a 0=10 then aER b s g (a+1) t0 (d++vI e)
   else if w9 (s.drop a) [47,47]=true then aER b s g (a+(iz (s.drop a) 10).1.length) e d
   else if(b (s.drop a)).2.2 ≠0 then .d a (b (s.drop a)).2.2
   else aER b s g (a+(b (s.drop a)).2.1) ⟨(b (s.drop a)).1,(s.drop a).take (b (s.drop a)).2.1,a,a+(b (s.drop a)).2.1⟩
    (d++[⟨(b (s.drop a)).1,(s.drop a).take (b (s.drop a)).2.1,a,a+(b (s.drop a)).2.1⟩])
  else .b (d++vI e) 0
section
variable {k:aK->Prop}{c:UInt8}
def aiq(l:aA T){t:Tk}(a:∀h',ax h h'->k (.a (.g (Hz t)) h')):aE T (W T) ⟨48⟩ [.p t.fj] h k:=by
 rw[aJ l.t48];unfold Hz at a;by_cases d:t.c=1;refine aS Tk.fj.eq_1 d ?_;simpa[d] using a _ aZ;by_cases e:t.c=3;refine aS Tk.fj.eq_1 e ?_;simpa[e] using a _ aZ;by_cases f:t.c=4;refine aS Tk.fj.eq_1 f ?_;simpa[f] using a _ aZ;by_cases g:t.c=5;refine aS Tk.fj.eq_1 g ?_;simpa[g] using a _ aZ;rw[if_neg zo] at a;by_cases b:t.c=2;rw[if_pos b] at a;refine aS Tk.fj.eq_1 b ?_;refine Ek l (ws:=TU) ⟨_,_,_,9,_,rfl,Hp.bv aa,by decide,λj hj=>?_⟩ zd ?_;exact match j,hj with
 |0,_=>rfl
 |1,_=>rfl
 |2,_=>rfl
 |3,_=>rfl
 |4,_=>rfl
 |5,_=>rfl
 |6,_=>rfl
 |7,_=>rfl
 |8,_=>rfl
 |n+9,hj=>absurd hj (by simp[TU])
 refine ag ?_;exact a _ aZ;rw[if_neg b] at a;by_cases i:t.b=[41];refine iR Tk.fj.eq_1 d b e f g i ?_;simpa[i] using a _ aZ;refine iR Tk.fj.eq_1 d b e f g i ?_;simpa[i] using a _ aZ
end
def ur(lo:Nat)(h:Hp)(v:AV)(l:List Tk):Prop:=
 l=[]/\v=.h\/∃b r t,lo<=b/\v=.c b 0 4 l.length l.length false/\l≠[]/\h.ab b=.b 80 4 r 0 t/\l.length<=r/\∀j,(hj:j<l.length)->t j=l[j].fj
section
variable {k:aK->Prop}{c:UInt8}
def ur.vm{M:Nat->Prop}{lo:Nat}{h h':Hp}{v:AV}{l:List Tk}(x:ur lo h v l)(g:ah M h h')(m:∀i,lo<=i->¬M i):ur lo h' v l:=by rcases x with x|⟨b,r,t,a,d,e,f,j⟩;exact .inl x;exact .inr ⟨b,r,t,a,d,e,by rw[g.f b (Hp.lt f rfl) (m b a)];omega,j⟩
theorem ur.ip{lo:Nat}{v:AV}{l:List Tk}(x:ur lo h v l):bQ v=some [v]:=by rcases x with⟨_,rfl⟩|⟨b,r,t,a,rfl,_⟩<;>rfl
theorem TV{lo:Nat}{v:AV}{l:List Tk}{t:Tk}{fB:Nat->List AV}(x:ur lo h v l)(w:l.length<1073741824)(u:lo<=h.a)(g:fB 0=t.fj):
 ∃v' a,kJ (h.am (.b 80 4 1 0 fB)) 80 4 40 v (.c h.a 0 4 1 1 true)=.b v' a/\ur lo a v' (l++[t])/\ah (λi=>lo<=i) h a/\∀i el r,h.ab i=.a el r->a.ab i=.a el r:=by
 rcases x with⟨rfl,rfl⟩|⟨b,r,f,m,rfl,o,d,e,q⟩;refine⟨_,_,A7 (n:=0) (wN (Hp.bv rfl) zl) rfl qab,?_,fZ,λi el r hi=>by have:=Hp.lt hi rfl;exact au hi⟩;refine .inr ⟨h.a+1,1,_,by omega,rfl,by simp,by refine ag ?_;rfl,by simp,λj hj=>?_⟩;obtain rfl:j=0:=by grind
 simp[g];have xb:=Hp.lt d rfl;refine⟨_,_,A8 (n:=0) (l5:=r) (t:=f) (au d) e (wN (Hp.bv rfl) zl) rfl (rV zo zo),?_,fZ,λi el r2 hi=>by
  have:=Hp.lt hi rfl;have:i≠b:=by grind
  exact au hi⟩
 refine .inr ⟨(h.am (.b 80 4 1 0 fB)).a,l.length+1,_,?_,by grind,by simp,Hp.bv qav,by simp,λj hj=>?_⟩;grind[Hp.ii];simp;grind
theorem aaQ(l:aA T){lo bT bL:Nat}{a:Tk}{d:List Tk}{v:AV}(o:h.ab bT=.a 80 a.fj)(C:h.ab bL=.a 73 [v])(u:ur lo h v d)(r:d.length<1073741824)(D:bT<lo)(E:bL<lo)(F:lo<=h.a)(A:bT≠bL)
 (b:∀h' v',ah (λi=>i=bT\/i=bL\/lo<=i) h h'->h'.ab bT=.a 80 t0.fj->h'.ab bL=.a 73 [v']->ur lo h' v' (d++vI a)->k (.a (.o []) h')):aE T (W T) ⟨47⟩ [.a bT 0,.a bL 0] h k:=by
 rw[aJ l.t47];refine aS o Tk.fj.eq_1 ?_;refine aiq l (t:=a) λm g1=>?_;have B:=g0 g1;have G:=g1.g;have g:m.ab bT=.a 80 a.fj:=by grind
 have f:m.ab bL=.a 73 [v]:=by grind
 have j:=u.vm g1 λi _=>id;unfold vI at b;cases e:Hz a with
 |false=>
  rw[if_neg qaa] at b;refine aS g Tk.fj.eq_1 ?_;refine b _ v (ah.dT (g1.mr) _ (.inr (.inl rfl))) (Hp.fp rfl) (au f) ?_;rw[av5];exact j.vm (M:=(·=bT)) (ah.dT (ah.cg _) _ (.inr rfl)) λi hi=>zo
 |true=>
  rw[if_pos e] at b;refine aU g f Tk.fj.eq_1 ?_;obtain⟨w,z,q,n,q1,q2⟩:=TV (t:=⟨7,[],a.d,a.d⟩) (fB:=cx (cx fG 0 [.i 0,S [],.i 0,.i 0]) 0 [.i 7,S [],.i a.d,.i a.d]) j r zo qab;rw[q];have x:=q2 _ _ _ g;have y:=q2 _ _ _ f;refine bK x y n.ip Tk.fj.eq_1 ?_;exact b _ w (ah.dT (ah.dT ((g1.mr).ba (q1.bc λi _ hi=>.inr (.inr hi))) _ (.inr (.inr (.inl rfl)))) _ (.inr (.inl rfl))) (Hp.fp rfl) aa (n.vm (M:=λi=>i=bT\/i=bL) (ah.dT (ah.dT (ah.cg _) _ (.inr (.inr rfl))) _ (.inr (.inl rfl))) λi hi=>by omega)
end
def aEv(c:Nat):Nat:=if c<128 then 240 else if c<194 then 241 else if c<224 then 2 else if c=224 then 19 else if c<237 then 3 else if c=237 then 35 else if c<240 then 3 else if c=240 then 52 else if c<244 then 4 else if c=244 then 68 else 241
def aFc(i:Nat):Nat×Nat:=if i=0 then(128,191) else if i=1 then(160,191) else if i=2 then(128,159) else if i=3 then(144,191) else if i=4 then(128,143) else(0,0)
def aEO(q:Nat×Nat)(s:List UInt8)(i:Nat):Bool:=match s[i]? with|some c=>decide (q.1 <=c.toNat)&&decide (c.toNat<=q.2)|none=>false
def aEF(s:List UInt8):Nat:=match s with
 |[]=>0
 |c::_=>if 240<=aEv c.toNat then 1 else if(aEO (aFc (aEv c.toNat/16)) s 1&&(decide (aEv c.toNat% 8<=2)||aEO (128,191) s 2)&&(decide (aEv c.toNat% 8<=3)||aEO (128,191) s 3))=true then aEv c.toNat% 8 else 1
def aEH:Nat->List UInt8->Nat->Int
 |0,_,_=>-1
 |_+1,[],_=>-1
 |g+1,c::s,a=>if aEF (c::s)=1/\128<=c.toNat then a else aEH g ((c::s).drop (aEF (c::s))) (a+aEF (c::s))
def aFh(s:List UInt8):Int:=aEH s.length s 0
def KG(T:aM->Option CF)(h:Hp):Prop:=∀(s:List UInt8)(k:aK->Prop),s.length<=65536->(∀h',ax h h'->k (.a (.i (aFh s)) h'))->aE T (W T) ⟨46⟩ [S s] h k
def aE0(O:Orc)(s:List UInt8):PR (List Tk):=if 65536<s.length then .d 65536 3 else if 0<=aFh s then .d (aFh s) 8 else aER (azS O.a O.b) s (s.length+1) 0 t0 []
section
variable {k:aK->Prop}{c:UInt8}
def EC(hh:Hp)(k:aK->Prop)(r:PR (List Tk)):Prop:=
 match r with
 |.b l _=>∀h' v,ax hh h'->ur hh.a h' v l->k (.a (.o [v,.i 0,.i 0]) h')
 |.d p e=>∀h',ax hh h'->k (.a (.o [.h,.i p,.i e]) h')
 |.c=>False
def ur.lo{lo kg:Nat}{v:AV}{l:List Tk}(x:ur lo h v l)(le:kg<=lo):ur kg h v l:=by rcases x with x|⟨b,r,t,d,a⟩;exact .inl x;exact .inr ⟨b,r,t,by omega,a⟩
theorem aGl{nE fE:List UInt8->Int}(s:List UInt8)(h:(azS nE fE s).2.2 =0):0<(azS nE fE s).2.1 :=by grind[aJ5,azS]
theorem aHl{nE fE:List UInt8->Int}(a:s≠[]):(azS nE fE s).2.1 <=s.length:=by grind[aav,Kh,aar,List.length_pos_iff,aIL,aJ4,azS]
theorem ait(e:w9 s [47,47]=true):1<(iz s 10).1.length:=by
 match s,e with
 |[],e=>simp[w9] at e
 |[c],e=>simp[w9] at e
 |a::b::r,e=>
  simp[w9] at e;grind[iz]
theorem aiu:(iz s c).1.length<=s.length:=by grind[iz]
theorem aiv(r:aA T)(IC:∀h',ax hh h'->Cz T O h') (FC:∀h',ax hh h'->CA T O h') (hl:s.length<=65536) {bL bT lo:Nat} (l1:bT<lo) (l2:bL<lo) (l3:hh.a<=bL) (l4:hh.a<=bT) (Y:bT≠bL) (yd:1<hh.a):∀(g a:Nat)(l:Tk)(j:List Tk)(h:Hp)(v:AV)(f:Fr),
 lO (h.ab 1)->ax hh h->lo<=h.a->s.length+1<=a+g->a<=s.length->j.length<=2*a->h.ab bT=.a 80 l.fj->h.ab bL=.a 73 [v]->ur lo h v j->an 0 f=S s->an 2 f=.a bL 0->an 6 f=.a bT 0->an 7 f=.r ⟨47⟩ [] [.a bT 0,.a bL 0]->an 8 f=.i a->
 EC hh k (aER (azS O.a O.b) s g a l j)->W T (.d l29_0) f h [] (bY 0 (bF (W T (.f (.g (z q29 24)) (.f (.g (z q29 25)) .k))) (finish T (W T) [.b 1 false 2,.a 3,.a 4] k))):=by
 intro g;induction g with
 |zero=>intro a l j h v f G m x F pQ;omega
 |succ g H=>
  intro a l j h v f G m x F pQ asw B A D f0 u f6 f7 f8 d;have u1:=Hp.lt B rfl;have u2:=Hp.lt A rfl;generalize U:CC.f (.g (z q29 24)) (.f (.g (z q29 25)) .k)=TL at*;generalize hIN:aJH=TI;rw[aP];by_cases L:a<s.length;have K:(a:Int)<s.length:=zo;have hd:=aut L;have vz:(s.drop a).length=s.length- a:=auf ..;have mT:0<(s.drop a).length:=zo;refine iR f0 u f6 f7 f8 K vz ?_;have Co:s.getD a 0=s[a]:=by grind
  unfold aER at d;rw[if_pos L,Co] at d;refine Tf r (s:=[32,9,13]) (c:=s[a]) ?_;by_cases X:s[a]∈[32,9,13];have J:=G0.2 X;refine aS J f8 ?_;refine H (a+1) l j h v _ G m x zo zo zo B A D zA zA zA zA aa ?_;grind;have J:¬0<=aE6 [32,9,13] s[a]:=mt G0.1 X;by_cases I:s[a].toNat=10;have E:s[a]=10:=UInt8.toNat_inj.1 I;refine aU J I f7 ?_;refine aaQ r B A D zo l1 l2 x Y λb w g1 q1 q2 q3=>?_;refine aB f8 ?_;refine H (a+1) t0 (j++vI l) b w _ (by rw[g1.f 1 zo zo];omega) (m.na g1 λi hi=>by omega) qan zo zo ?_ q1 q2 q3 zA zA zA zA aa ?_;grind[vI];grind;have E:¬s[a]=10:=λe=>I qae;refine aS J I ?_;refine NJ r zo ?_;cases m3:w9 (s.drop a) [47,47] with
  |true=>
   refine ag ?_;refine Th r (c:=10) zo ?_;have cl:(iz (s.drop a) 10).1.length<=(s.drop a).length:=aiu;have cp:=ait m3;refine aB f8 ?_;refine H (a+(iz (s.drop a) 10).1.length) l j h v _ G m x zo zo zo B A D zA zA zA zA aa ?_;grind
  |false=>
   refine ag ?_;refine ahQ r (λh' g=>IC h' (m.ba g)) (λh' g=>FC h' (m.ba g)) zo G λb xa xb xc xd g1 hx=>?_;have e1:=g0 g1;have n1:=g1.g;have pV:b.ab bT=.a 80 l.fj:=by grind
   have jg:b.ab bL=.a 73 [v]:=by grind
   have Ba:=D.vm g1 λi _=>id;have tl:(azS O.a O.b (s.drop a)).2.1 <=(s.drop a).length:=aHl qaa;have tp:=aGl (nE:=O.a) (fE:=O.b) (s.drop a);rw[if_neg X,if_neg E,if_neg qaa] at d;generalize azS O.a O.b (s.drop a)=R at*;obtain⟨q,n,e⟩:=R;simp only at*;by_cases N:e=0;subst N;obtain⟨z1,z2,z3,z4⟩:=hx rfl;rw[z1,z2,z3,z4];rw[if_neg zm] at d;have tp:=tp rfl;refine cq u f6 f8 pV jg Tk.fj.eq_1 ?_;obtain⟨o,Z⟩:∃o,o=(((b.am (.a 80 aE7)).dT b.a (.a 80 [.i q,S ((s.drop a).take n),.i 0,.i n])).dT b.a (.a 80 [.i q,S ((s.drop a).take n),.i a,.i n])).dT b.a (.a 80 [.i q,S ((s.drop a).take n),.i a,.i (a+n)]):=⟨_,rfl⟩;have Ae:o.ab b.a=.a 80 [.i q,S ((s.drop a).take n),.i a,.i (a+n)]:=by simp_all
   have TW:o.a=b.a+1:=by grind[Hp.ii,Hp.ka]
   have y:ax b o:=by rw[Z];exact aZ
   have Q:o.ab bT=.a 80 l.fj:=by rw[y.f _ zo id];omega
   have P:o.ab bL=.a 73 [v]:=by rw[y.f _ zo id];omega
   rw[<-Z];obtain⟨w,H2,F,hw,q1,q2⟩:=TV (h:=o) (lo:=lo) (t:=⟨q,(s.drop a).take n,a,a+n⟩) (fB:=cx (cx fG 0 aE7) 0 [.i q,S ((s.drop a).take n),.i a,.i (a+n)]) (Ba.vm y λi _=>id) zo zo qab;rw[TW] at F;rw[F];have pY:=q2 _ _ _ Q;have wQ:=q2 _ _ _ P;have C:=q2 _ _ _ Ae;have y1:=Hp.lt pY rfl;have y2:=Hp.lt wQ rfl;have y3:=Hp.lt C rfl;have q1n:=q1.g;have mV:b.a≠bL:=zo;have kT:b.a≠bT:=zo;have V:lO (H2.ab 1):=by rw[q1.f 1 zo zo,y.f 1 zo id,g1.f 1 zo id];omega
   refine fY u f6 f8 pY wQ C hw.ip Tk.fj.eq_1 ?_;refine H (a+n) ⟨q,(s.drop a).take n,a,a+n⟩ (j++[⟨q,(s.drop a).take n,a,a+n⟩]) _ w _ (au V) ?_ qal zo zo qaa (Hp.fp rfl) aa (hw.vm (M:=λi=>i=bT\/i=bL) (ah.dT (ah.dT (ah.cg _) _ (.inr (.inr rfl))) _ (.inr (.inl rfl))) λi hi=>by omega) zA zA zA zA aa d;exact ah.dT (ah.dT (((m.ba g1).ba y).na q1 λi hi=>by omega) _ (.inl l3)) _ (.inl l4);rw[if_pos N] at d;refine bK N u f8 jg ?_;exact d _ (ah.dT ((m.ba g1).ba aZ) _ (.inl zo))
  have K:¬(a:Int)<s.length:=zo;unfold aER at d;rw[if_neg L] at d;subst U;refine cq f0 u f6 f7 f8 K ?_;refine aaQ r B A D zo l1 l2 x Y λb w g1 q1 q2 q3=>?_;have v1:=Hp.lt q2 rfl;refine aU u q2 q3.ip ?_;refine d _ _ (ah.dT (m.na g1 λi hi=>by omega) _ (.inl zo)) ((q3.vm (M:=(·=bL)) (ah.dT (ah.cg _) _ (.inr rfl)) λi hi=>by omega).lo zo)
def aiw(j:aA T)(r:∀h',ax h h'->Cz T O h') (q:∀h',ax h h'->CA T O h') (o:∀h',ax h h'->KG T h') (y:s.length<1073741824) (w:lO (h.ab 1))
 (a:EC h k (aE0 O s)):aE T (W T) ⟨29⟩ [S s] h k:=by
 rw[aJ j.t29];have n:1<h.a:=by obtain⟨t,e,_⟩:=w;exact Hp.lt e rfl
 generalize v:CC.d l29_0=L;by_cases l:65536<s.length;have d:(65536:Int)<s.length:=zo;unfold aE0 at a;rw[if_pos l] at a;refine aB d ?_;exact a _ aZ;have d:¬(65536:Int)<s.length:=zo;refine aB d ?_;refine o _ aZ _ _ zo λg g1=>?_;have u:=g0 g1;have x:=g1.g;simp at x;have i:ax h g:=ah.ba aZ g1;have m:g.ab h.a=.a 73 [.h]:=au u;unfold aE0 at a;rw[if_neg l] at a;generalize aFh s=b at a|-;by_cases f:0<=b;rw[if_pos f] at a;exact aS f m (a _ (i.dT _ (.inl zl)));rw[if_neg f] at a;refine aB f ?_;subst v;refine aiv j r q zo (bL:=h.a) (bT:=g.a) (lo:=g.a+1) zo zo zl zo zo n (s.length+1) 0 t0 [] _ .h _ ?_ (i.ba aZ) zm zo zo zm (Hp.bv rfl) (au m) (.inl ⟨rfl,rfl⟩) aa aa aa aa aa a;rw[Hp.jp zo,i.f 1 n id];omega
end
section
open Go (IntKind)
variable {a b:Int}{n:Nat}
def bX(op:(n:Nat)->BitVec n->BitVec n->BitVec n)(a b:Int):Int:=match qN op .i32 a b with|.d _ n=>n|_=>0
@[simp] def asy{op}:jI op (.d .i32 a) (.d .i32 b)=.v (.d .i32 (bX op a b)):=rfl
@[simp] def asz:aEy .i32 (.s m)=.v (.d .i32 (IntKind.i32.wrap (.ofNat m))):=rfl
@[simp] def asA{k:Int}(h:0<=k):oQ pF (.d .i32 a) (.d .u64 k)=.v (.d .i32 (IntKind.i32.wrap (a*2^(min k.toNat 32)))):=by obtain⟨n,rfl⟩:=at6 h;rfl
@[simp] def asB{k:Int}(h:0<=k):sC (.d .i32 a) (.d .u64 k)=.v (.d .i32 (a.fdiv (2^(min k.toNat 32)))):=by obtain⟨n,rfl⟩:=at6 h;rfl
@[simp] def asC{k:Int}(h:0<=k):sC (.s m) (.d .u64 k)=.v (.s (m/2^(min k.toNat 8))):=by obtain⟨n,rfl⟩:=at6 h;rfl
end
def aFQ(o:AO):Prop:=∃t,o=.h 1 256 t/\∀i,i<256->t i=[.s (aEv i)]
def Bj(o:AO):Prop:=∃t,o=.h 2 16 t/\∀i,i<16->t i=[.s (aFc i).1,.s (aFc i).2]
def aJ7:∀i,i<256->aEv i<240->aEv i=2\/aEv i=3\/aEv i=4\/aEv i=19\/aEv i=35\/aEv i=52\/aEv i=68:=by decide+kernel
def aJ8:∀i,i<256->aEv i<256:=by decide+kernel
def aMJ:∀i,i<128->aEv i=240:=by decide+kernel
def aaR{l5 k:Nat}{t:Nat->List AV}(f:k<l5):cellsOf (.h 2 l5 t) (k*2) 2=gK 2 (t k):=by have d:k*2/2=k:=zo;have e:k*2% 2=0:=zo;simp only[cellsOf,Ee,Ef,vp,wL,ny,d,e,kH];rw[avf (by omega:0+2<=2),avf (by omega:k+1<=l5)];rfl
section
variable {k:aK->Prop}{c:UInt8}
abbrev aaS(h:Hp)(s:List UInt8)(k:aK->Prop):Prop:=∀(r:Int) h',ax h h'->k (.a (.o [.d .i32 r,.i (aEF s:Nat)]) h')
theorem aJ9{q:Nat×Nat}{i:Nat}(h:s.length<=i):aEO q s i=false:=by grind[aEO]
theorem aFR{q:Nat×Nat}{i:Nat}(h:i<s.length):aEO q s i=(decide (q.1 <=s[i].toNat)&&decide (s[i].toNat<=q.2)):=by simp[aEO,h]
theorem aix(C:aA T){f:Fr}{q lo hi x0 sz:Nat}(H:ax hh h)(t:h.ab q=.a 192 [.s lo,.s hi])(I:hh.a<=q)(D:sz=2\/sz=3\/sz=4)(J:s.length<1073741824)(f0:an 0 f=S s)(f4:an 4 f=.i s.length)(f5:an 5 f=.s x0)(f8:an 8 f=.i sz)(f9:an 9 f=.a q 0)(K:1<=s.length)
 (hd:aEF s=if(aEO (lo,hi) s 1&&(decide (sz<=2)||aEO (128,191) s 2)&&(decide (sz<=3)||aEO (128,191) s 3))=true then sz else 1)
 (u:aaS hh s k):W T (CC.f (.f (.g (z q110 11)) (.i (.t 45) (.f (.g (z q110 12)) .k) .j)) (.f (.g (z q110 13)) (.f (.f (.g (z q110 14)) (.i (.t 57) (.f (.g (z q110 15)) .k) .j)) aG'))) f h [] (finish T (W T) [.a 2,.a 3] k):=by
 replace u:∀(r:Int)(n:Nat) h',ax hh h'->aEF s=n->k (.a (.o [.d .i32 r,.i n]) h'):=λr n h' g e=>e▸u r h' g;by_cases E:s.length<sz;have d:(s.length:Int)<sz:=zo;refine bK f0 f4 f8 d ?_;grind[aJ9];have d:¬(s.length:Int)<sz:=zo;generalize A:aG'=w;have v:∀f':Fr,lo<=s[1].toNat->s[1].toNat<=hi->an 0 f'=S s->an 5 f'=.s x0->an 8 f'=.i sz->an 10 f'=.s s[1].toNat->W T w f' h [] (finish T (W T) [.a 2,.a 3] k):=by
  intro f' L M y0 y5 y8 f10;subst A;unfold aG' zt;by_cases F:sz<=2;have i:(sz:Int)<=2:=zo;refine cC y0 y5 y8 f10 i ?_;grind[aFR];have i:¬(sz:Int)<=2:=zo;generalize B:aJM=x;have y:∀f':Fr,128<=s[2].toNat->s[2].toNat<=191->an 0 f'=S s->an 5 f'=.s x0->an 8 f'=.i sz->an 10 f'=.s s[1].toNat->an 11 f'=.s s[2].toNat->W T x f' h [] (finish T (W T) [.a 2,.a 3] k):=by intro f' N O y0 y5 y8 y10 y11;subst B;by_cases G:sz<=3;have j:(sz:Int)<=3:=zo;refine cq y0 y5 y8 y10 y11 j ?_;grind[aFR];have j:¬(sz:Int)<=3:=zo;by_cases l:s[3].toNat<128;refine iR y0 y5 y8 y10 y11 j l ?_;grind[aFR];by_cases o:191<s[3].toNat;refine fY y0 y5 y8 y10 y11 j l o ?_;grind[aFR];refine fY y0 y5 y8 y10 y11 j l o ?_;grind[aFR]
  by_cases l:s[2].toNat<128;refine cq y0 y5 y8 f10 i l ?_;grind[aFR];by_cases o:191<s[2].toNat;refine iR y0 y5 y8 f10 i l o ?_;grind[aFR];refine iR y0 y5 y8 f10 i l o ?_;exact y _ zo zo (au y0) (au y5) (au y8) zA aa
 by_cases l:s[1].toNat<lo;refine iR f0 f4 f8 f9 d t l ?_;grind[aFR];by_cases o:hi<s[1].toNat;refine fY f0 f4 f8 f9 d t l o ?_;grind[aFR];refine fY f0 f4 f8 f9 d t l o ?_;exact v _ zo zo zA zA zA aa
theorem aiy(r:aA T)(f:aFQ (h.ab 3))(g:Bj (h.ab 4))(A:s.length<1073741824)(G:s≠[])(y:aaS h s k):aE T (W T) ⟨110⟩ [S s] h k:=by
 rw[aJ r.t110];obtain⟨t3,f,t⟩:=f;obtain⟨t4,g,u⟩:=g;have H:=Hp.lt g rfl;cases s with
 |nil=>grind
 |cons c s=>
  have d:=c.toNat_lt;have I:(c::s).length=s.length+1:=rfl;have o:=t c.toNat d;have i:=aJ7 c.toNat d;have C:=aJ8 c.toNat d;have hd:aEF (c::s)=aEF (c::s):=rfl
  conv at hd=>rhs;unfold aEF
  dsimp only at hd;generalize aEv c.toNat=x at o C i hd;generalize q:aIe=E;have F:¬((c::s).length:Int)<1:=zo;have e:¬(s.length:Int)+1<1:=zo;by_cases j:240<=x;simp(disch:=omega) [e,ri d zl,f,sY d,o,j];simp_all[aaS,ah.cg];rw[if_neg j] at hd;have i:=i zo;have key:∀sz:Nat,(sz=2\/sz=3\/sz=4)->bU (λ_ a b=>a&&&b) x 7=sz->x% 8=sz->x/16<16->
   W T ((CC.f (.g (z q110 0)) (.f (.g (z q110 1)) (.f (.f (.g (z q110 2)) (.i (.t 16) (.f (.g (z q110 3)) .k) .j)) (.f (.g (z q110 4)) (.f (.g (z q110 5)) (.f (.f (.g (z q110 6)) (.i (.t 23) (.f (.g (z q110 7)) (.f (.g (z q110 8)) .k)) .j)) (.f (.g (z q110 9)) (.f (.g (z q110 10)) aIe))))))))) (nQ [S (c::s)]) h [] (finish T (W T) [.a 2,.a 3] k):=by
   intro sz v ex w l;have D:=u _ l;rw[w] at hd;have hi:=ri (rw:=2) (n:=16) (b:=4) l zm;have B:sz<256:=zo;rw[q];simp(disch:=omega) [e,ri d zl,f,sY d,o,j,ex,hi,g,aaR l,D,aal B];subst q;exact aix r (hh:=h) (x0:=c.toNat) (lo:=(aFc (x/16)).1) (hi:=(aFc (x/16)).2) (sz:=sz) aZ (Hp.fp rfl) zl v A aa aa aa aa aa zo hd y
  subst q;rcases i with rfl|rfl|rfl|rfl|rfl|rfl|rfl;exact key 2 zm qab qab zm;exact key 3 zm qab qab zm;exact key 4 zm qab qab zm;exact key 3 zm qab qab zm;exact key 3 zm qab qab zm;exact key 4 zm qab qab zm;exact key 4 zm qab qab zm
def aiz(d:aA T)(g:aFQ (h.ab 3))(i:Bj (h.ab 4))(l:s.length<1073741824)(f:s≠[])(j:aaS h s k):aE T (W T) ⟨77⟩ [S s] h k:=by
 rw[aJ d.t77];cases s with
 |nil=>exact absurd rfl f
 |cons c s=>
  by_cases e:c.toNat<128;refine aB e ?_;have q:=λr=>j r _ (ah.cg _);simp_all[aEF,aMJ];refine aB e ?_;refine aiy d g i l f λr o g1=>?_;simp_all
theorem aMK(e:s≠[]):1<=aEF s/\aEF s<=s.length:=by
 cases s with
 |nil=>grind
 |cons c s=>
  have d:=c.toNat_lt;have f:=aJ7 c.toNat d;simp[aEF,atX];split;omega;grind[aJ9]
theorem aiA(A:aA T)(H:s.length<=65536)(B:aFQ (hh.ab 3))(C:Bj (hh.ab 4))(o:∀h',ax hh h'->k (.a (.i (aFh s)) h')):∀(m a:Nat)(h:Hp)(f:Fr),s.length<=a+m->a<=s.length->aEH m (s.drop a) a=aFh s->ax hh h->an 0 f=S s->an 3 f=.i a->
 W T (.d l46_0) f h [] (bY 0 (bF (W T (.f (.g (z q46 7)) .k)) (finish T (W T) [.a 2] k))):=by
 have F:3<hh.a:=by obtain⟨t,e,_⟩:=B;exact Hp.lt e rfl
 have G:4<hh.a:=by obtain⟨t,e,_⟩:=C;exact Hp.lt e rfl
 intro m;induction m with
 |zero=>
  intro a h f E D d g f0 f3;have j:¬(a:Int)<s.length:=zo;rw[aP];refine aU f0 f3 j ?_;rw[<-d] at o;exact o _ g
 |succ m y=>
  intro a h f E D d g f0 f3;rw[aP];by_cases j:a<s.length;have u:(a:Int)<s.length:=zo;have I:(s.drop a).length=s.length- a:=auf ..;refine aU f0 f3 u ?_;refine aiz A (by rw[g.f _ F id];omega) (by rw[g.f _ G id];omega) zo qaa λr x g1=>?_;have w:=aMK (s:=s.drop a) qaa;rw[aut j,aEH,<-aut j,aP2] at d;generalize aEF (s.drop a)=n at w d|-;by_cases i:n=1;by_cases l:128<=s[a].toNat;refine bK i f0 f3 l ?_;rw[if_pos ⟨i,l⟩] at d;rw[<-d] at o;exact o _ (g.ba g1);refine bK i f0 f3 l ?_;rw[if_neg λq=>l q.2,i] at d;exact y (a+1) x _ zo zo d (g.ba g1) zA aa;have v:¬(n:Int)=1:=zo;refine bK i v f0 f3 ?_;rw[if_neg λq=>i q.1] at d;exact y (a+n) x _ zo zo d (g.ba g1) zA aa;have u:¬(a:Int)<s.length:=zo;refine aU f0 f3 u ?_;grind[aEH]
def aiB(d:aA T)(e:aFQ (h.ab 3))(f:Bj (h.ab 4)):KG T h:=by intro s k i g;rw[aJ d.t46];refine ag ?_;exact aiA d i e f g s.length 0 h _ zo zo rfl (ah.cg _) aa aa
end
section
variable {a:Hp}{n:Nat}{l:List Tk}{d:Int}{hd:Bool}{k b:aK->Prop}
def Od(T:aM->Option CF)(O:Orc)(h:Hp):Prop:=∀(s:List UInt8)(k:aK->Prop),s.length<1073741824->(∀h',ax h h'->(O.c s).1.length<1073741824->k (.a (.o [S (O.c s).1,.i (O.c s).2]) h'))->aE T (W T) ⟨90⟩ [S s] h k
def aET(O:Orc)(s:List UInt8):List UInt8×Bool:=((O.c s).1,decide ((O.c s).2 =0)&&El (O.c s).1)
theorem aiC(g:aA T)(Q:fc l)(V:∀h',Pg c hh h'->Od T O h') (X:Pg c hh h) (S:∀n,n<l.length->(tk l n).b.length<1073741824) (G:bp h c tb l n op hd) (P:n<l.length)
 (i:lS c tb l op hd h k (Ac l (aET O) n)):aE T (W T) ⟨56⟩ [.a c 0] h k:=by
 rw[aJ g.t56];have U:=S;have S:=G.lt;have hy:=G.qn;refine ag ?_;refine Cx g (G.am _) P (λC a g1 c1=>?_) λC a g1=>?_;have j:=lT Q P C;unfold Ac lR at i;rw[if_pos C] at i;simp only[PR.dC] at i;obtain⟨n1,o⟩:=bw g1;refine aB Tk.fj.eq_1 ?_;refine qC g c1 j λh2 g2=>?_;obtain⟨n2,r⟩:=bH g2;have c2:=c1.bc g2;by_cases A:(tk l (n+1)).c=5;refine aS Tk.fj.eq_1 A ?_;refine qC g c2 j λh3 L=>?_;obtain⟨n3,y⟩:=bH L;have c3:=c2.bc L;refine aB Tk.fj.eq_1 ?_;refine V _ (X.ba (fH y r o)) _ _ (U _ j) λY M w=>?_;obtain⟨n4,B⟩:=bH M;have H:=c3.bc M;obtain⟨E,F⟩:(((O.c (tk l (n+1)).b).2 =0->El (O.c (tk l (n+1)).b).1 =false)->lS c tb l op hd h k (.d (tk l (n+1)).a 9))/\((O.c (tk l (n+1)).b).2 =0->El (O.c (tk l (n+1)).b).1 =true->lS c tb l op hd h k (.b (aV l (n+1+1) 2 (tk l n).a (tk l (n+1)).a (O.c (tk l (n+1)).b).1 []) (n+1+1))):=by grind[aET]
 generalize O.c (tk l (n+1)).b=R at w E F|-;obtain⟨v,e⟩:=R;simp only at w E F|-;have p:(e=0->El v=false)->∀z,Pg c Y z->k (.b (qD (tk l (n+1)).a 9) z):=λq z u=>(E q).er (by have n5:=u.g;have s:=gp u;exact(Ei s B y r o));by_cases x:e=0;refine aB x ?_;refine aag g zo λz u=>?_;subst x;obtain⟨n5,s⟩:=bH u;have I:=H.bc u;cases K:El v with
 |false=>
  refine ag ?_;refine Cw g I j λD g6=>?_;obtain⟨n6,m⟩:=bH g6;refine ag ?_;exact p (λ_=>K) _ (eF m s)
 |true=>
  have i:=F rfl K;refine ag ?_;refine vB g I j λD g6 c6=>?_;obtain⟨n6,m⟩:=bw g6;have jB:=wT Q j A zm;refine aB Tk.fj.eq_1 ?_;refine gS g ((c6.am _).dT _ zo zo) zo rfl λZ N=>?_;obtain⟨n7,J⟩:=bH N;have q7:Z.ab h.a=.a 61 vh:=zg7 J m s B y r o;refine aB q7 ?_;exact i _ _ (ZX J m s B y r o) ((((c6.am _).dT _ zo zo).bc N).dT _ zo zo) (ay.of (t:=aV l (n+1+1) 2 (tk l n).a (tk l (n+1)).a v []) rfl) jB zo
 refine aB x ?_;refine Cw g H j λD g6=>?_;obtain⟨n6,m⟩:=bH g6;exact ag (p (λq=>absurd q x) _ (iQ m));rw[if_pos A] at i;refine aS Tk.fj.eq_1 A ?_;refine Cw g c2 j λD g6=>?_;obtain⟨n6,m⟩:=bH g6;refine ag ?_;exact i.er (fH m r o);unfold Ac lR at i;rw[if_neg qaa] at i;obtain⟨n1,o⟩:=bw g1;refine ag ?_;exact i.er (iQ o)
end
section
variable {o:Hp}{n:Nat}{l:List Tk}{s:Int}{hd u:Bool}{k q:aK->Prop}
theorem aaT{lo d:Nat}{v:AV}{ts:List Tree}{t:Tree}{row:List AV}{fB:Nat->List AV}(x:pZ lo h v ts)(m:ts.length<8589934592)(nd:ay d h t row)(o:lo<=d)(p:∀b,v=.c b 0 6 ts.length ts.length false->b<d) (g:lo<=h.a) (j:fB 0=row):
 ∃v' a,kJ (h.am (.b 61 6 1 0 fB)) 61 6 72 v (.c h.a 0 6 1 1 true)=.b v' a/\pZ lo a v' (ts++[t])/\h.a<=a.a/\(∀i,i<lo->a.ab i=h.ab i)/\∀i el r,h.ab i=.a el r->a.ab i=.a el r:=
 aip x m (ay.nf (λi r f _ e=>e) o _ _ nd) g j λb w _=>ay.nf (lo:=d) (λi r f hi e=>by grind[Hp.fv]) o _ _ nd
theorem pZ.lt{lo:Nat}{v ts}(x:pZ lo h v ts):∀b,v=.c b 0 6 ts.length ts.length false->b<h.a:=by intro b e;rcases x with⟨_,rfl⟩|⟨d,r,f,o,rfl,g,a,_⟩;grind;cases e;exact Hp.lt a rfl
theorem pZ.ip{lo:Nat}{v ts}(x:pZ lo h v ts):bQ v=some [v]:=x.fg.1
theorem bp.lL{h h':Hp}{c tb n:Nat}{l op hd}(x:bp h c tb l n op hd)(b:h'.ab c=h.ab c)(e:h'.ab tb=h.ab tb):bp h' c tb l n op hd:=by obtain⟨⟨cap,ex,f⟩,⟨r,t,g,o⟩,le⟩:=x;exact⟨⟨cap,ex,by grind⟩,⟨r,t,by grind,o⟩,le⟩
theorem aaU(G:aA T)(Q:fc l)(VC:∀h',Pg c hh h'->Od T O h') (Y:∀n,n<l.length->(tk l n).b.length<1073741824) {lo B:Nat} (hB:B<8589934592) (D:c<lo) (ao:tb<lo) (KJ:hh.a<=lo) {K:aT->Prop} {H:PR (List Tree)->Prop} (F:rX c hh k H) (P:∀v f A,k (.b v A)->K (.d v f A [])):∀(g n:Nat)(h:Hp)(z:List Tree)(v:AV)(f:Fr),
 Pg c hh h->bp h c tb l n 0 false->n<l.length->0<n->pZ lo h v z->lo<=h.a->z.length+g<=B->an 0 f=.a c 0->an 6 f=v->H (vH l (aET O) g n z)->
 (∀h' f' v' C n',Pg c hh h'->(∀i,i<lo->i≠c->h'.ab i=h.ab i)->bp h' c tb l n' 0 false->pZ lo h' v' C->lo<=h'.a->n'<l.length->0<n'->C.length<=B->an 0 f'=.a c 0->(∀i,i<6->an i f'=an i f)->an 6 f'=v'->H (.b C n')->K (.a 0 f' h' []))->
 W T (.d l31_1) f h [] K
 |0,_,_,_,_,_,_,_,_,_,_,_,_,_,_,a,_=>(F.2 a).elim
 |g+1,n,h,z,v,f,I,J,N,hz,hv,CN,hac,f0,f6,a,pT=>by
  have hx:=J.lt;have hy:=J.qn;rw[aP];refine aB f0 ?_;refine ke G (J.am _) N (cY.kw (x:=[105,109,112,111,114,116]) (Hp.bv zm) zl zm) zm λo g1=>?_;obtain⟨n1,e1⟩:=bH g1;have c1:=(J.am _).bc g1;have r:Pg c h o:=(iQ e1);have R:=hv.pg r D;cases e:bD (tk l n) [[105,109,112,111,114,116]] with
  |false=>
   unfold vH at a;rw[if_neg qaa] at a;refine ag ?_;exact pT _ _ _ _ _ (I.ba r) (λi hi j=>gp r i zo j) c1 R zo N hz zo zA (λi hi=>by refine ag ?_;grind) zA a
  |true=>
   unfold vH at a;rw[if_pos e] at a;refine aS f0 f6 ?_;refine aiC G Q VC (I.ba r) Y c1 N ?_;revert a;cases vl:Ac l (aET O) n with
   |c=>exact λa=>F.2 a
   |d p e=>exact λa=>λA g2=>by exact ag (P _ _ _ (F.1 _ _ a A ((I.ba r).ba g2)))
   |b t m=>
    intro a A row g2 c2 nd j KL;obtain⟨n2,e2⟩:=bw g2;have v2:=R.pg g2 D;have D7:=nd.agg;have TX:z.length<8589934592:=zo;have gv:Pg c h A:=r.ba g2;obtain⟨kv,rfl,M,nk⟩:=nd.gc;refine aS f0 M ?_;obtain⟨w,Z,ha,hw,q1,q2,q3⟩:=aaT (fB:=cx (cx fG 0 vh) 0 [.i t.bi,.i t.ib,.i t.toz,.i t.at,S t.bj,kv]) v2 TX nd zo (λb hb=>R.lt b hb) zo zm;rw[ha];refine aB f0 ?_;have c3:bp Z c tb l m 0 false:=c2.lL (q2 c D) (q2 tb ao);have dL:Pg c hh Z:=⟨by omega,λi hi y=>by rw[q2 i zo,e2 i zo y,gp r i zo y,gp I i hi y]⟩;refine NZ G c3 j (λe L E c4=>?_) λe L E=>?_
    ·simp only[PR.dC] at a;unfold mU jR at a;rw[if_pos e] at a;have jB:=wT Q j e zm;obtain⟨n4,e4⟩:=bw E;refine ag ?_;refine aaU G Q VC Y hB D ao KJ F P g (m+1) L (z++[t]) w _ (dL.ba E) c4 jB zo (hw.pg E D) zo qaa zA aa a ?_;intro h' f' v' C n' x1 x2 x3 x4 x5 x6 x7 x8 x9 U V X;exact pT h' f' v' C n' x1 (λi hi j=>by rw[x2 i hi j,e4 i zo j,q2 i hi,e2 i zo j,gp r i zo j]) x3 x4 x5 x6 x7 x8 x9 (λi hi=>by rw[U i hi];refine ag ?_;repeat rw[if_neg zo]) V X
    simp only[PR.dC] at a;unfold mU jR at a;rw[if_neg e] at a;refine ag ?_;exact P _ _ _ (F.1 _ _ a L (dL.ba E))
end
section
variable {d:Hp}{n:Nat}{l:List Tk}{hd o:Bool}{k a:aK->Prop}
variable {st:Int->Nat->PR Tree}{F:Nat}
def aiD(C:aA T)(N:fc l){lo x:Nat}(A:c<lo)(D:tb<lo){H:PR (List Tree)->Prop}(P:rX c hh k H){g m:Nat}{h f:Hp}{p:List Tree}{v:AV}{t:Tree}{row:List AV}
 (G:Pg c hh f) (S:∀i,i<lo->i≠c->f.ab i=h.ab i) (c2:bp f c tb l m 0 false) (u:m<l.length) (R:pZ lo f v p) (nd:ay x f t row) (Q:lo<=x) (V:x<=f.a) (J:∀b,v=.c b 0 6 p.length p.length false->b<x) (U:hh.a<=lo)
 (K:p.length<8589934592) (y:H ((mU l m).dC λ_ q=>yp l F st g q (p++[t]))):
 ∃w r,kJ (f.am (.b 61 6 1 0 (cx (cx fG 0 vh) 0 row))) 61 6 72 v (.c f.a 0 6 1 1 true)=.b w r/\
  ∀(a:aK->Prop),(∀v e,k (.b v e)->a (.b v e))->(∀e,Pg c hh e->(∀i,i<lo->i≠c->e.ab i=h.ab i)->bp e c tb l (m+1) 0 false->m+1<l.length->pZ lo e w (p++[t])->lo<=e.a->H (yp l F st g (m+1) (p++[t]))->a (.a (.o []) e))->aE T (W T) ⟨54⟩ [.a c 0] r a:=by
 obtain⟨w,r,I,O,q1,q2,q3⟩:=aaT (fB:=cx (cx fG 0 vh) 0 row) R K nd Q J zo zm;refine⟨w,r,I,λa M hd=>?_⟩;have c3:=c2.lL (q2 c A) (q2 tb D);have B:Pg c hh r:=⟨by omega,λi hi z=>by rw[q2 i zo,gp G i hi z]⟩;refine TF C N P y c3 u B M λL y e s E=>hd e (B.ba s) (λi hi u=>by rw[gp s i zo u,q2 i hi,S i hi u]) E L (O.pg s A) qay y
theorem aaV(G:aA T)(Q:fc l)(Z:CK T c tb l st){F:Nat}(R:F<8589934592){lo:Nat}(N:c<lo)(ao:tb<lo)(Y:hh.a<=lo){M:aT->Prop}{H:PR (List Tree)->Prop}(J:rX c hh k H)(hp:∀v f r,k (.b v r)->M (.d v f r [])):∀(g n:Nat)(h:Hp)(y:List Tree)(v:AV)(f:Fr),
 Pg c hh h->bp h c tb l n 0 false->n<l.length->0<n->pZ lo h v y->lo<=h.a->y.length+g<8589934592->an 0 f=.a c 0->an 6 f=v->H (yp l F st g n y)->
 (∀h' f' v' X n',Pg c hh h'->(∀i,i<lo->i≠c->h'.ab i=h.ab i)->bp h' c tb l n' 0 false->pZ lo h' v' X->lo<=h'.a->n'<l.length->0<n'->an 0 f'=.a c 0->(∀i,i<6->an i f'=an i f)->an 6 f'=v'->H (.b X n')->M (.a 2 f' h' []))->
 W T (.d l31_0) f h [] M
 |0,_,_,_,_,_,_,_,_,_,_,_,_,_,_,p,_=>(J.2 p).elim
 |g+1,n,h,y,v,f,O,D,P,hz,E,CN,hac,f0,f6,p,pT=>by
  have hx:=D.lt;have hy:=D.qn;have Bk:=D;obtain⟨⟨cap,ex,q⟩,_,dA⟩:=Bk;rw[aP];unfold yp at p;by_cases el:n+1<l.length;rw[if_pos el] at p;have V:(n:Int)+1<l.length:=zo;refine aU f0 q V ?_;refine ke G (D.am _) P (cY.kw (x:=[116,121,112,101]) (Hp.bv zm) zl zm) zm λd g1=>?_;obtain⟨n1,e1⟩:=bH g1;have c1:=(D.am _).bc g1;have K:Pg c h d:=(iQ e1);have v1:=E.pg K N;have TX:y.length<8589934592:=zo;have main:∀(t:Tree)(m:Nat)(r:Hp)(kv:AV),H ((mU l m).dC λ_ q=>yp l F st g q (y++[t]))->Pg c d r->bp r c tb l m 0 false->ay d.a r t [.i t.bi,.i t.ib,.i t.toz,.i t.at,S t.bj,kv]->m<l.length->0<m->
   ∃w B,kJ (r.am (.b 61 6 1 0 (cx (cx fG 0 vh) 0 [.i t.bi,.i t.ib,.i t.toz,.i t.at,S t.bj,kv]))) 61 6 72 v (.c r.a 0 6 1 1 true)=.b w B/\∀a:aK->Prop,(∀v s,k (.b v s)->a (.b v s))->(∀s,(∀C:Fr,an 0 C=.a c 0->an 6 C=w->(∀i,i<6->an i C=an i f)->W T (.d l31_0) C s [] M)->a (.a (.o []) s))->
    aE T (W T) ⟨54⟩ [.a c 0] B a:=by
   intro t m r kv p g2 c2 nd u L;obtain⟨w,B,I,z⟩:=aiD G Q (h:=h) N ao J (O.ba (K.ba g2)) (λi hi u=>by rw[gp g2 i zo u,gp K i zo u]) c2 u (v1.pg g2 N) nd zo g2.g (λb z=>v1.lt b z) Y TX p;refine⟨w,B,I,λa kp kd=>z _ kp λs g3 x3 c3 nW v3 TY p=>kd s λC y0 y6 yi=>?_⟩;refine aaV G Q Z R N ao Y J hp g (m+1) s (y++[t]) w C g3 c3 nW zo v3 TY qaa y0 y6 p ?_;grind
  cases e:bD (tk l n) [[116,121,112,101]] with
  |true=>
   rw[if_pos e] at p;refine aS f0 f6 ?_;refine ain G Q (atY 0) zm R c1 P (J.rc p (O.ba K) (λv r E=>by simp_all) λt m p r row g2 c2 nd u L=>?_);obtain⟨kv,rfl,A,nk⟩:=nd.gc;refine aS f0 A ?_;obtain⟨w,B,I,z⟩:=main t m r kv p g2 c2 nd u L;rw[I];refine aB f0 ?_;refine z _ (λv s E=>by simp_all) λs U=>?_;refine ag ?_;exact U _ zA aa (λi hi=>by simp(disch:=decide) only[aFg hi])
  |false=>
   rw[if_neg qaa] at p;refine aS f0 f6 ?_;refine aio G Q Z (atY 0) zm R c1 P (J.rc p (O.ba K) (λv r E=>by simp_all) λt m p r row g2 c2 nd u L=>?_);obtain⟨n2,e2⟩:=bw g2;obtain⟨kv,rfl,A,nk⟩:=nd.gc;refine aS f0 A ?_;obtain⟨w,B,I,z⟩:=main t m r kv p g2 c2 nd u L;rw[I];refine aB f0 ?_;refine z _ (λv s E=>by simp_all) λs U=>?_;refine ag ?_;exact U _ zA aa (λi hi=>by simp(disch:=decide) only[aFg hi])
  ·rw[if_neg el] at p;have V:¬(n:Int)+1<l.length:=zo;refine aU f0 q V ?_;exact pT _ _ _ _ _ O (λi hi u=>rfl) D E zo P hz zA (λi hi=>by refine ag ?_;repeat rw[if_neg zo]) zA p
end
mutual
def yu:Tree->Int->Int->Int
 |.mk q _ _ a _ ks,c,b=>if q=0 then b else KN ks (if 0<c- 1 then c- 1 else 0) (if c=0 then(if a<b then a else b) else b)
def KN:List Tree->Int->Int->Int
 |[],_,a=>a
 |t::ts,b,a=>KN ts b (yu t b a)
end
mutual
def rY:Tree->Prop
 |.mk _ _ _ _ _ ks=>ks.length<4294967296/\aEU ks
def aEU:List Tree->Prop
 |[]=>True
 |t::ts=>rY t/\aEU ts
end
@[simp] theorem asE{a b:Int}:wq true (.i a) [.i b]=.v (.i (if b<a then b else a)):=by simp only[wq,qk,Ej];by_cases c:a<b;simp[c,show¬b<a by omega];by_cases d:a=b;grind;simp[c,d,show b<a by omega]
@[simp] theorem asF{a b:Int}:wq false (.i a) [.i b]=.v (.i (if a<b then b else a)):=by simp only[wq,qk,Ej];by_cases c:a<b;simp[c];by_cases d:a=b;grind;simp[c,d]
mutual
theorem aaW(i:aA T):∀(x:Tree)(h:Hp)(row:List AV)(lo:Nat)(f u:Int)(k:aK->Prop),ay lo h x row->rY x->0<=f->f<=64->(∀h',ax h h'->k (.a (.i (yu x f u)) h'))->aE T (W T) ⟨32⟩ [.p row,.i f,.i u] h k
 |.mk q y m a nm ks,h,row,lo,f,u,k,nd,s,o,p,d=>by
  obtain⟨kv,rfl,l,w⟩:=nd.gc;simp[Tree.bi,Tree.ib,Tree.toz,Tree.at,Tree.bj,Tree.fg] at l w|-;rw[aJ i.t32];generalize n:CC.d l32_0=L;unfold yu at d;by_cases q0:q=0;rw[if_pos q0] at d;refine aS l q0 ?_;exact d _ aZ;rw[if_neg q0] at d;cases ks with
  |nil=>
   subst w;by_cases c:f=0;rw[if_pos c] at d;refine aS q0 c ?_;subst n;exact KO i [] _ h (λ_=>[]) 0 0 0 0 0 false lo f _ _ k aZ rfl zm trivial o p (λe=>absurd rfl e) aa aa (au c) aa d;rw[if_neg c] at d;refine aS q0 c ?_;subst n;exact KO i [] _ h (λ_=>[]) 0 0 0 0 0 false lo f _ _ k aZ rfl zm trivial o p (λe=>absurd rfl e) aa aa (au c) aa d
  |cons t ts=>
   obtain⟨b,cap,ex,r,g,rfl,v,hr,D,z,B⟩:=w;have:=Hp.lt v rfl;have A:ay lo (h.am (.a 61 [.i q,.i y,.i m,.i a,S nm,.c b 0 6 (ts.length+1) cap ex])) t (g 0):=ay.nf ((NF.cg h).am _) zl _ _ z;have C:aEs lo (h.am (.a 61 [.i q,.i y,.i m,.i a,S nm,.c b 0 6 (ts.length+1) cap ex])) ts λj=>g (j+1):=aEs.nf ((NF.cg h).am _) zl _ _ B;by_cases c:f=0;rw[if_pos c] at d;refine aS q0 c ?_;subst n;exact KO i (t::ts) _ h g b cap r (ts.length+1) 0 ex lo f _ _ k aZ zm s.1 s.2 o p (λ_=>⟨aa,au v,hr,by simp_all[aEs]⟩) aa aa (au c) aa d;rw[if_neg c] at d;refine aS q0 c ?_;subst n;exact KO i (t::ts) _ h g b cap r (ts.length+1) 0 ex lo f _ _ k aZ zm s.1 s.2 o p (λ_=>⟨aa,au v,hr,by simp_all[aEs]⟩) aa aa (au c) aa d
theorem KO(p:aA T):∀(ts:List Tree)(h hh:Hp)(g:Nat->List AV)(b cap r len j:Nat)(ex:Bool)(lo:Nat)(a c:Int)(f:Fr)(k:aK->Prop),ax hh h->j+ts.length=len->len<4294967296->aEU ts->0<=a->a<=64->
 (ts≠[]->an 20 f=.c b 0 6 len cap ex/\h.ab b=.b 61 6 r 0 g/\len<=r/\aEs lo h ts (λi=>g (j+i)))->an 21 f=.i len->an 22 f=.i j->an 1 f=.i a->an 2 f=.i c->(∀h',ax hh h'->k (.a (.i (KN ts (if 0<a- 1 then a- 1 else 0) c)) h'))->
 W T (.d l32_0) f h [] (bY 0 (bF (W T (.f (.g (z q32 10)) .k)) (finish T (W T) [.a 6] k)))
 |[],h,hh,g,b,cap,r,len,j,ex,lo,a,c,f,k,s,hj,v,o,x,y,w,f21,f22,l,d,u=>by rw[aP];refine aU f21 f22 d ?_;grind[KN]
 |t::ts,h,hh,g,b,cap,r,len,j,ex,lo,a,c,f,k,s,hj,v,o,x,y,w,f21,f22,l,d,u=>by
  obtain⟨f20,m,hr,C⟩:=w zm;obtain⟨e,E⟩:=C;simp at hj;have lt:=Hp.lt m rfl;have A:(j:Int)<len:=zo;obtain⟨kv,n,B,F⟩:=e.gc;simp at n;rw[aP];refine fY f20 f21 f22 l d m n A ?_;rw[<-n];refine aaW p t _ _ lo _ _ _ (ay.nf (((NF.cg h).am _).ow _ zo) zl _ _ e) o.1 zo zo λD g1=>?_;have e:=g1.g;have q:=g0 g1;try simp only[Hp.ii,Hp.ka] at e
  refine cC f20 f21 f22 l d ?_;refine KO p ts _ hh g b cap r len (j+1) ex lo a _ _ k (ah.ba s ⟨by omega,λi hi _=>au q⟩) zo v o.2 x y (λ_=>⟨zA,bV q m,hr,?_⟩) zA zA zA aa u;refine aEs.nf ((((NF.cg h).am _).ow _ zo).g0 g1) zl _ _ ?_;grind
end
section
variable {a:Hp}{n:Nat}{l:List Tk}{d:Int}{hd:Bool}{k b:aK->Prop}
variable {st:Int->Nat->PR Tree}
def CP(c:Nat)(h:Hp)(k:aK->Prop)(r:PR Tree):Prop:=
 match r with
 |.b t _=>∀h' row,Pg c h h'->ay h.a h' t row->k (.a (.p row) h')
 |.d p e=>∀h',Pg c h h'->k (.b (qD p e) h')
 |.c=>False
def CP.qi:rX c h k (CP c h k):=⟨λ_ _ e=>e,id⟩
theorem aiE(j:aA T)(y:fc l)(X:∀h',Pg c h h'->Od T O h') (S:∀n,n<l.length->(tk l n).b.length<1073741824) (V:CK T c tb l st) {F:Nat} (hF:F<4294967296) {size:Int} (I:bp h c tb l n 0 false) (Q:n<l.length)
 (g:CP c h k (Ad l F st size (aET O) n)):aE T (W T) ⟨31⟩ [.a c 0,.i size] h k:=by
 rw[aJ j.t31];have hx:=I.lt;have hy:=I.qn;generalize jg:CC.d l31_1=L1;generalize G:CC.d l31_0=L0;have jC:rX c h k (CP c h k):=CP.qi;refine ag ?_;refine Cx j (I.am _) Q (λu a g1 c1=>?_) λu a g1=>?_
 rotate_left
 unfold Ad lR at g;rw[if_neg qaa] at g;obtain⟨n1,m⟩:=bw g1;refine ag ?_;exact g _ (iQ m);have N:=lT y Q u;obtain⟨n1,m⟩:=bw g1;refine ag ?_;refine Eo j c1 N (λw x g2 c2=>?_) λw x g2=>?_
 rotate_left
 unfold Ad lR jR at g;rw[if_pos u] at g;simp at g;rw[if_neg w] at g;obtain⟨n2,o⟩:=bw g2;refine ag ?_;exact g _ (eF o m);have R:=wT y N w zm;obtain⟨n2,o⟩:=bw g2;refine aB Tk.fj.eq_1 ?_;refine NZ j ((c2.am _).dT _ zo zo) R (λA i D c3=>?_) λA i D=>?_
 rotate_left
 unfold Ad lR jR mU jR at g;rw[if_pos u] at g;simp at g;rw[if_pos w] at g;simp at g;rw[if_neg A] at g;obtain⟨n3,q⟩:=bw D;refine ag ?_;exact g _ (fH q o m);have U:=wT y R A zm;obtain⟨n3,q⟩:=bw D;have p1:i.ab h.a=.a 61 vh:=cX q o m;have p5:i.ab x.a=.a 80 (tk l (n+1)).fj:=bV q Tk.fj.eq_1;have u5:=Hp.lt p5 rfl;have C:Pg c h i:=(fH q o m);unfold Ad lR jR mU jR at g;rw[if_pos u] at g;simp only[PR.dC] at g;rw[if_pos w] at g;simp only[] at g;rw[if_pos A] at g;refine ag ?_;subst jg;refine aaU j y X S (hh:=h) (lo:=i.a) (k:=k) (B:=F) (H:=λr=>CP c h k (r.dC λis s=>(yp l F st F s is).dC λds v=>.b (.mk 1 0 size (tk l (n+1)).a (tk l (n+1)).b ds) v)) zo c3.lt c3.qn C.g ⟨λp e g=>g,id⟩ ?_ F (n+1+1+1) i [] .h _ C c3 U zo (.inl ⟨rfl,rfl⟩) zl zm aa aa g ?_;simp;intro h4 f4 v4 ts n4 Z x4 Y L J K yj hac y0 yi y6 g;have y1:an 1 f4=.i size:=by simp_all
 have y4:an 4 f4=.a h.a 0:=by simp_all
 have y5:an 5 f4=.a x.a 0:=by simp_all
 clear yi;refine ag ?_;subst G;refine aaV j y V (hh:=h) (F:=F) zo (lo:=i.a) (k:=k) (H:=λr=>CP c h k (r.dC λds v=>.b (.mk 1 0 size (tk l (n+1)).a (tk l (n+1)).b ds) v)) c3.lt c3.qn C.g ⟨λp e g=>g,id⟩ ?_ F n4 h4 ts v4 _ Z Y K yj L J zo y0 y6 g ?_;simp;intro E f5 v5 M n5 P x5 c5 z hl5 hn5 hz5 z0 zi z6 g;have z1:an 1 f5=.i size:=by grind
 have z4:an 4 f5=.a h.a 0:=by grind
 have z5:an 5 f5=.a x.a 0:=by grind
 have hcx:=c3.lt;have q1:E.ab h.a=.a 61 vh:=by grind
 have q5:E.ab x.a=.a 80 (tk l (n+1)).fj:=by grind
 have nx5:=P.g;refine fY z1 z4 z5 q5 Tk.fj.eq_1 z.ip z6 q1 ?_;refine g _ _ (iQ (gp P)) (ay.of (t:=.mk 1 0 size (tk l (n+1)).a (tk l (n+1)).b M) (dO.nf ((NF.cg E).dT _ q1) zo _ _ z.fg.2))
end
section
variable {k:aK->Prop}{c:UInt8}
def KP(T:aM->Option CF)(h:Hp):Prop:=∀(s:List UInt8)(k:aK->Prop),s.length<1073741824->(∀(b:Bool) h',ax h h'->k (.a (.g b) h'))->aE T (W T) ⟨122⟩ [S s] h k
def aBt(j:aA T)(o:∀h',ax h h'->KP T h') (m:s.length<1073741824) (d:∀v e h',ax h h'->v.length<1073741824->k (.a (.o [S v,.i e]) h')):aE T (W T) ⟨90⟩ [S s] h k:=by
 rw[aJ j.t90];generalize q:aJL=t;have r:=aIL s;refine ag ?_;refine aak j m λv w g1 y=>?_;generalize(aEA s).2 =n at r|-;by_cases f:n=0;refine aB f ?_;exact d [] 4 _ g1 zm;by_cases l:n=s.length;subst l;have g:¬s=[]:=by rintro rfl;exact f rfl
 refine aB g ?_;refine o _ g1 _ _ m λb x g2=>?_;cases b with
 |false=>
  refine ag ?_;exact d [] 4 _ (g1.ba g2) zm
 |true=>
  subst q;by_cases u:4096<v.length;have a:(4096:Int)<v.length:=zo;refine aB a ?_;exact d [] 3 _ (g1.ba g2) zm;have a:¬(4096:Int)<v.length:=zo;refine aB a ?_;exact d v 0 _ (g1.ba g2) zo
 have i:¬(n:Int)=s.length:=zo;refine aU f l i ?_;exact d [] 4 _ g1 zm
end
section
open Go (IntKind)
variable {a b:Int}{n:Nat}
@[simp] def asG:cJ (.a (.b .u64)) (.d .u64 a) (.d .u64 b)=some (decide (a=b)):=by simp[cJ,sD,A6,qh]
@[simp] def asH:aEy .u64 (.s m)=.v (.d .u64 (IntKind.u64.wrap (.ofNat m))):=rfl
@[simp] def asI{k:Int}(h:0<=k):oQ pF (.d .u64 a) (.d .u64 k)=.v (.d .u64 (IntKind.u64.wrap (a*2^(min k.toNat 64)))):=by obtain⟨n,rfl⟩:=at6 h;rfl
end
section
variable {k:aK->Prop}{c:UInt8}
def EE(d:aA T)(f:8<=s.length)(e:∀w:Int,k (.a (.d .u64 w) h)):aE T (W T) ⟨145⟩ [S s] h k:=by rw[aJ d.t145];have:s.length=s.length:=rfl;refine ag ?_;exact e _
def aiG(g:aA T){j:aT->Prop}:∀(m:Nat)(s:List UInt8)(f:Fr),s.length<=m->s.length<1073741824->an 0 f=S s->(∀f'(s':List UInt8),s'.length<=s.length->an 0 f'=S s'->j (.a 2 f' h []))->W T (.d l122_0) f h [] j:=by
 intro m;induction m with
 |zero=>
  intro s f u t f0 d;have e:¬(32:Int)<s.length:=zo;rw[aP];refine aS f0 e ?_;exact d _ s zl zA
 |succ m v=>
  intro s f u t f0 d;rw[aP];by_cases e:32<s.length;have i:(32:Int)<s.length:=zo;have B:(s.drop 8).length=s.length- 8:=auf ..;have C:(s.drop 16).length=s.length- 16:=auf ..;have D:(s.drop 24).length=s.length- 24:=auf ..;have E:(s.drop 32).length=s.length- 32:=auf ..;simp(maxSteps:=10000000) (disch:=first|exact bh|fail) [f0,i];refine EE g zo λw=>?_;simp(maxSteps:=10000000) (disch:=first|exact bh|fail);refine EE g zo λx=>?_;simp(maxSteps:=10000000) (disch:=first|exact bh|fail);refine EE g zo λy=>?_;simp(maxSteps:=10000000) (disch:=first|exact bh|fail);refine EE g zo λz=>?_;generalize o:bW (λ_ a b=>a&&&b) (bW (λ_ a b=>a|||b) (bW (λ_ a b=>a|||b) w x) (bW (λ_ a b=>a|||b) y z)) 9259542123273814144=q;by_cases l:q=0;refine aU f0 o l ?_;exact v (s.drop 32) _ zo zo aa λf' s' A r=>d f' s' zo r;refine aU f0 o l ?_;exact d _ s zl zA;have i:¬(32:Int)<s.length:=zo;refine aS f0 i ?_;exact d _ s zl zA
end
section
open Go (IntKind)
variable {k:aK->Prop}{c:UInt8}
abbrev TZ(T:aM->Option CF)(hh:Hp)(s:List UInt8)(a:aT->Prop):Prop:=∀f' h'(s':List UInt8),ax hh h'->s'.length<s.length->an 0 f'=S s'->W T (.d l122_1) f' h' [] a
def aiH(m:aA T){u:aT->Prop}{f:Fr}(j:ax hh h)(I:s.length<1073741824)(f0:an 0 f=S (c::s))(l:TZ T hh (c::s) u):
 W T (CC.f (.g (z q122 4)) (.f (.f (.g (z q122 5)) (.i (.t 24) (.f (.g (z q122 6)) (.f (.h r122_7) (.i (.t 39) (.f (.g (z q122 8)) (.m 2 (.d l122_0))) .j))) .j)) (.p 1))) f h [] (bF (W T aHa) (bY 1 (bF (W T (.d l122_1)) u))):=by
 generalize H:aHa=F;generalize x:CC.d l122_0=E;have J:(c::s).length=s.length+1:=rfl;have v:(1:Int)<=(s.length:Int)+1:=zo;by_cases e:8<s.length;have q:(8:Int)<s.length:=zo;have K:(s.drop 8).length=s.length- 8:=auf ..;refine aU f0 v q ?_;refine EE m zo λB=>?_;by_cases n:bW (λ_ a b=>a&&&b) B 9259542123273814144=0;have t:(8:Int)<=s.length:=zo;generalize o:s.drop 8=d at*;by_cases G:16<d.length;have g:(16:Int)<d.length:=zo;have y:(d.drop 8).length=d.length- 8:=auf ..;have A:(d.drop 16).length=d.length- 16:=auf ..;have i:(8:Int)<=d.length:=zo;refine cC n t o g i ?_;refine EE m zo λC=>?_;refine cC n t o g i ?_;refine EE m zo λD=>?_;by_cases w:bW (λ_ a b=>a&&&b) (bW (λ_ a b=>a|||b) C D) 9259542123273814144=0;have r:(16:Int)<=d.length:=zo;refine aS w r ?_;subst x;exact aiG m (d.drop 16).length (d.drop 16) _ zl zo aa λf' s' q1 q2=>(ag (l _ _ s' j zo q2));refine aB w ?_;exact l _ _ d j zo aa;have g:¬(16:Int)<d.length:=zo;refine bK n t o g ?_;exact l _ _ d j zo aa;refine aB n ?_;exact l _ _ s j zo aa;have q:¬(8:Int)<s.length:=zo;refine aU f0 v q ?_;exact l _ _ s j zo aa
def aiI(x:aA T){m:aT->Prop}{f:Fr}{b6 lo hi sz:Nat}(b:ax hh h)(e:h.ab b6=.a 192 [.s lo,.s hi])(y:s.length<1073741824)(f0:an 0 f=S s)(f5:an 5 f=.i sz)(f6:an 6 f=.a b6 0)
 (hr:∀f' h',ax hh h'->an 2 f'=.g false->m (.b f' h' [])) (n:TZ T hh s m):
 W T aIi f h [] (bY 1 (bF (W T (.d l122_1)) m)):=by
 by_cases w:sz=2;subst w;by_cases q0:s.length<2;have a:(s.length:Int)<2:=zo;refine bK f0 f5 f6 a ?_;exact hr _ _ b aa;have a:¬(s.length:Int)<2:=zo;have u:1<s.length:=zo;have l:(2:Int)<=s.length:=zo;by_cases d:s[1].toNat<lo;refine cq f0 f5 f6 e a d ?_;exact hr _ _ b aa;by_cases g:hi<s[1].toNat;refine iR f0 f5 f6 e a d g ?_;exact hr _ _ b aa;refine fY f0 f5 f6 e a d g l ?_;exact n _ _ (s.drop 2) b (by rw[auf];omega) aa;by_cases z3:sz=3;subst z3;by_cases q0:s.length<3;have a:(s.length:Int)<3:=zo;refine bK f0 f5 f6 a ?_;exact hr _ _ b aa;have a:¬(s.length:Int)<3:=zo;have u:2<s.length:=zo;have l:(3:Int)<=s.length:=zo;by_cases d:s[1].toNat<lo;refine cq f0 f5 f6 e a d ?_;exact hr _ _ b aa;by_cases g:hi<s[1].toNat;refine iR f0 f5 f6 e a d g ?_;exact hr _ _ b aa;by_cases i:s[2].toNat<128;refine fY f0 f5 f6 e a d g i ?_;exact hr _ _ b aa;by_cases j:191<s[2].toNat;refine mz f0 f5 f6 e a d g i j ?_;exact hr _ _ b aa;refine nA f0 f5 f6 e a d g i j l ?_;exact n _ _ (s.drop 3) b (by rw[auf];omega) aa;by_cases z4:sz=4;subst z4;by_cases q0:s.length<4;have a:(s.length:Int)<4:=zo;refine bK f0 f5 f6 a ?_;exact hr _ _ b aa;have a:¬(s.length:Int)<4:=zo;have u:3<s.length:=zo;have l:(4:Int)<=s.length:=zo;by_cases d:s[1].toNat<lo;refine cq f0 f5 f6 e a d ?_;exact hr _ _ b aa;by_cases g:hi<s[1].toNat;refine iR f0 f5 f6 e a d g ?_;exact hr _ _ b aa;by_cases i:s[2].toNat<128;refine fY f0 f5 f6 e a d g i ?_;exact hr _ _ b aa;by_cases j:191<s[2].toNat;refine mz f0 f5 f6 e a d g i j ?_;exact hr _ _ b aa;by_cases o:s[3].toNat<128;refine nA f0 f5 f6 e a d g i j o ?_;exact hr _ _ b aa;by_cases v:191<s[3].toNat;refine wM f0 f5 f6 e a d g i j o v ?_;exact hr _ _ b aa;refine pU f0 f5 f6 e a d g i j o v l ?_;exact n _ _ (s.drop 4) b (by rw[auf];omega) aa;have q:¬(sz:Int)=2:=zo;have r:¬(sz:Int)=3:=zo;have t:¬(sz:Int)=4:=zo;refine cq f0 f5 f6 q r t ?_;exact hr _ _ b aa
theorem aiJ(B:aA T)(u:aFQ (hh.ab 3))(w:Bj (hh.ab 4)){j:aT->Prop}(hr:∀f' h',ax hh h'->an 2 f'=.g false->j (.b f' h' [])) (R:∀f' h',ax hh h'->j (.a 0 f' h' [])):∀(m:Nat)(s:List UInt8)(h:Hp)(f:Fr),s.length<=m->s.length<1073741824->ax hh h->an 0 f=S s->W T (.d l122_1) f h [] j:=by
 have N:3<hh.a:=by obtain⟨t,e,_⟩:=u;exact Hp.lt e rfl
 have O:4<hh.a:=by obtain⟨t,e,_⟩:=w;exact Hp.lt e rfl
 intro m;induction m with
 |zero=>
  intro s h f J I d f0;rw[aP];refine aB f0 ?_;grind
 |succ m L=>
  intro s h f J I d f0;cases s with
  |nil=>
   rw[aP];refine aB f0 ?_;grind
  |cons c s=>
   have U:(c::s).length=s.length+1:=rfl;have l:=c.toNat_lt;have D:TZ T hh (c::s) j:=λf' h' s' g q r=>L s' h' f' zo zo g r;rw[aP];show W T aIj f h [] _;unfold aIj zt aHa zt;generalize z:aJO=P;generalize i:aIi=Q;have C:(0:Int)<(s.length:Int)+1:=zo;by_cases e:c.toNat<128;refine aU f0 C e ?_;subst z;subst i;exact aiH B d zo zA D;obtain⟨t3,u,F⟩:=u;obtain⟨t4,w,G⟩:=w;have E:=F c.toNat l;have M:=aJ8 c.toNat l;generalize aEv c.toNat=x at E M;have v:h.ab 3=.h 1 256 t3:=by rw[d.f _ N id];omega
   have y:h.ab 4=.h 2 16 t4:=by rw[d.f _ O id];omega
   have o:x/16<16:=zo;have A:=G _ o;generalize(aFc (x/16)).1 =a at A;generalize(aFc (x/16)).2 =b at A;have hi:=ri (rw:=2) (n:=16) (b:=4) o zm;have K:bU (λ_ a b=>a&&&b) x 7<256:=aht;have H:=d.g;simp(disch:=omega) [f0,C,e,ri l zl,v,sY l,E,hi,y,aaR o,A,aal K];subst i;exact aiI B (b6:=h.a) (lo:=a) (hi:=b) (sz:=bU (λ_ a b=>a&&&b) x 7) (d.ba aZ) (Hp.fp rfl) zo zA aa aa hr D
def aiK(a:aA T)(b:aFQ (h.ab 3))(d:Bj (h.ab 4)):KP T h:=by intro s k f j;rw[aJ a.t122];generalize e:CC.d l122_1=L;refine ag ?_;subst e;refine aiJ a (hh:=h) b d (λf' h' g i=>?_) (λf' h' g=>?_) s.length s h _ zl f (ah.cg _) aa;simp_all;simp_all
end
section
open Go (IntKind)
variable {a b:Int}{n:Nat}
@[simp] def vJ:lG (.d .u64 a) (.d .u64 b)=.v (.d .u64 (IntKind.u64.wrap (a+b))):=rfl
@[simp] def ru:jb (.d .u64 a) (.d .u64 b)=.v (.d .u64 (IntKind.u64.wrap (a- b))):=rfl
@[simp] def vK:qj (.d .u64 a) (.d .u64 b)=.v (.d .u64 (IntKind.u64.wrap (a*b))):=rfl
@[simp] def KQ(h:b≠0):we (.d .u64 a) (.d .u64 b)=.v (.d .u64 (IntKind.u64.wrap (a.tdiv b))):=by simp only[we,IL,A6,h];rfl
def Oe:tK (.d .u64 a) (.d .u64 b)=some (if a<b then 0 else if a=b then 1 else 2):=by simp[tK,qk,Ej];rfl
@[simp] def asK:ua (.d .u64 a) (.d .u64 b)=.v (.g (decide (a<b))):=by simp only[ua,mc,Oe];by_cases h:a<b<;>by_cases e:a=b<;>simp[h,e]
@[simp] def asL:vq (.d .u64 a) (.d .u64 b)=.v (.g (decide (a<=b))):=by simp only[vq,mc,Oe];by_cases h:a<b<;>by_cases e:a=b<;>simp[h,e]<;>omega
@[simp] def asM:uc (.d .u64 a) (.d .u64 b)=.v (.g (decide (b<a))):=by simp only[uc,mc,Oe];by_cases h:a<b<;>by_cases e:a=b<;>simp[h,e]<;>omega
@[simp] def asN:vt (.d .u64 a) (.d .u64 b)=.v (.g (decide (b<=a))):=by simp only[vt,mc,Oe];by_cases h:a<b<;>by_cases e:a=b<;>simp[h,e]<;>omega
@[simp] def lg{k:Int}(h:0<=k):sC (.d .u64 a) (.d .u64 k)=.v (.d .u64 (a.fdiv (2^(min k.toNat 64)))):=by obtain⟨n,rfl⟩:=at6 h;rfl
@[simp] def vL:aEy .u64 (.i a)=.v (.d .u64 (IntKind.u64.wrap a)):=rfl
@[simp] def Of:aEy .u64 (.d .u64 a)=.v (.d .u64 (IntKind.u64.wrap a)):=rfl
@[simp] def asO:aEy .i64 (.d .u64 a)=.v (.i (w64 a)):=rfl
@[simp] def T'(h:n<=m)(h':m<256):jb (.s m) (.s n)=.v (.s (m- n)):=by show OR.v (.s (IntKind.u8.wrap ((m:Int)- n)).toNat)=_;rw[Go.IntKind.wrap_u8];congr 2;omega
@[simp] def asQ:cJ .c .x .x=some true:=rfl
@[simp] def asR{t v}:cJ .c (.q t v) .x=some false:=rfl
@[simp] def asS{t v}:cJ .c .x (.q t v)=some false:=rfl
@[simp] def asT:cJ (.i [27,206,219]) (.q 219 (.i a)) (.q 219 (.i b))=some (decide (a=b)):=by simp[cJ,BR,A6]
@[simp] def Og:IntKind.u64.wrap a=a% 18446744073709551616:=Go.IntKind.wrap_u64 ..
end
section
variable {k:aK->Prop}
def Ua:∀l n,(mg l n).length=l
 |0,_=>rfl
 |l+1,n=>by simp only[mg,atX,Ua l]
def Ub:∀l n j,(hj:j<(mg l n).length)->(mg l n)[j]=[.s (lF n j)]
 |0,_,_,h=>absurd h (avm _)
 |l+1,n,0,_=>by rfl
 |l+1,n,j+1,h=>by simp[mg,auu];rw[Ub l _ j (by simpa[mg] using h)];show[AV.s ((n>>>8)>>>(8*j)% 256)]=[AV.s (n>>>(8*(j+1))% 256)];rw[<-awl,show 8+8*j=8*(j+1) from by omega]
theorem aiL(e:s.length<1152921504606846976):∃t,BX h 5 (S s)=.b (.c h.a 0 1 s.length s.length false) (h.am (.b 5 1 s.length 0 t))/\∀j,(hj:j<s.length)->t j=[.s s[j].toNat]:=by refine⟨jy fG 0 (mg s.length (cO (s.map (·.toNat)))),?_,λj hj=>?_⟩;simp[BX,S,ny,show s.length<=1152921504606846975 by omega,auS,cond,alloc];rfl;rw[wO (by rw[Ua];omega),Ub,Tb _ (λb d=>by obtain⟨c,_,rfl⟩:=auR.1 d;exact UInt8.toNat_lt _)];grind
def kh(c:UInt8):Bool:=decide (48<=c.toNat)&&decide (c.toNat<=57)
def jS(s:List UInt8):Nat:=(s.takeWhile kh).length
theorem aaX{p:UInt8->Bool}:∀{l:List UInt8},l.all p=true->l.takeWhile p=l
 |[],_=>rfl
 |c::l,h=>by simp only[aw2,atW] at h;rw[avL h.1,aaX h.2]
def aiM:jS s<=s.length:=(aw9 _).length_le
theorem Uc(g:aA T)(p:s.length<1073741824)(c:k (.a (.i (jS s)) h)):aE T (W T) ⟨140⟩ [S s] h k:=by
 rw[aJ g.t140];have key:∀(m i:Nat)(f:Fr)(K:aT->Prop),m=s.length- i->i<=s.length->(s.take i).all kh=true->an 3 f=.i i->an 0 f=S s->(∀f',an 3 f'=.i (jS s)->K (.a 0 f' h []))->W T (.d l140_0) f h [] K:=by
  intro m;induction m with
  |zero=>
   intro i f K l hi hd f3 f0 c;have e:¬(i:Int)<s.length:=zo;have:jS s=i:=by grind[jS,aaX]
   rw[aP];refine aU f3 f0 e ?_;exact c _ qae
  |succ m o=>
   intro i f K l hi hd f3 f0 c;have j:i<s.length:=zo;have e:(i:Int)<s.length:=zo;rw[aP];have d:kh s[i]=false->jS s=i:=λq=>by grind[jS,List.take_append_drop,List.drop_eq_getElem_cons,List.takeWhile_append_of_pos,List.takeWhile_cons_of_neg]
   by_cases c1:s[i].toNat<48;have:=d (by simp[kh];omega);refine bK f3 f0 e c1 ?_;exact c _ (by rw[this];exact zA);by_cases c2:57<s[i].toNat;have:=d (by simp[kh];omega);refine cC f3 f0 e c1 c2 ?_;exact c _ (by rw[this];exact zA);refine cC f3 f0 e c1 c2 ?_;refine o (i+1) _ _ zo zo ?_ aa zA c;rw[avb j,List.all_append,hd];simp[kh];omega
 refine ag ?_;refine key _ 0 _ _ rfl zo zm aa aa λf' f3=>?_;refine aB f3 ?_;exact c
def Ag(s:List UInt8):Bool:=decide (s≠[])&&decide (jS s=s.length)&&(decide (s.length=1)||decide ((s.headD 0).toNat≠48))
theorem aaZ(d:aA T)(i:s.length<1073741824)(g:k (.a (.g (Ag s)) h)):aE T (W T) ⟨115⟩ [S s] h k:=by
 rw[aJ d.t115];cases s with
 |nil=>exact ag g
 |cons c r=>
  refine ag ?_;refine Uc d i ?_;by_cases e:jS (c::r)=(c::r).length;by_cases j:r=[];simp_all[Ag];have l:¬((r.length:Int)+1=1):=by grind[List.length_pos_iff]
  simp_all[Ag];rw[atX] at e;have f:¬((jS (c::r):Int)=r.length+1):=zo;simp_all[Ag]
end
section
open Go (IntKind)
variable {k:aK->Prop}
theorem aa0(hd:jS s=s.length):∀j,(hj:j<s.length)->48<=s[j].toNat/\s[j].toNat<=57:=by
 intro j hj;have a:=(aw9 _).eq_of_length hd;have b:s[j]∈s.takeWhile kh:=by grind
 grind[List.all_takeWhile,kh]
def aiN(F:aA T){t:Nat->List AV}{b:Nat}(u:h.ab b=.b 5 1 s.length 0 t)(C:∀j,(hj:j<s.length)->t j=[.s s[j].toNat]) (I:s.length<1073741824) (hd:jS s=s.length) {K:aT->Prop}
 (E:∀f' x,0<=x->x<18446744073709551616->(s.length=1->x<10)->an 13 f'=.d .u64 x->an 12 f'=.g false->K (.a 3 f' h []))
 (z:∀f' x,0<=x->x<18446744073709551616->s.length≠1->an 6 f'=.d .u64 x->an 7 f'=.q 219 (.i 1)->K (.b f' h [])):∀(m i:Nat)(f:Fr)(x:Int),m=s.length- i->i<=s.length->0<=x->x<18446744073709551616->(s.length=1->x<10/\(i=0->x=0))->
 an 99 f=.c b 0 1 s.length s.length false->an 100 f=.i s.length->an 101 f=.i i->an 13 f=.d .u64 x->an 12 f=.g false->an 8 f=.g false->an 1 f=.i 10->an 10 f=.d .u64 1844674407370955162->an 11 f=.d .u64 18446744073709551615->W T (.d l166_0) f h [] K:=by
 intro m;induction m with
 |zero=>
  intro i f x B hi h0 w y f99 f100 f101 f13 f12 f8 d f10 f11;have e:¬i<s.length:=zo;rw[aP];refine bK f99 f100 f101 e ?_;exact E _ x h0 w (λq=>(y q).1) zA zA
 |succ m D=>
  intro i f x B hi h0 w y f99 f100 f101 f13 f12 f8 d f10 f11;have a:i<s.length:=zo;obtain⟨g,l⟩:=aa0 hd i a;have v:=C i a;rw[aP];have r:¬s[i].toNat=95:=zo;have G:s[i].toNat- 48<10:=zo;generalize H:s[i].toNat=c at*;obtain⟨q,rfl⟩:∃q,c=q+48:=⟨c- 48,by omega⟩;have n:¬10<=q:=zo;have o:q<10:=zo;have p:q<=9:=zo;by_cases c1:1844674407370955162<=x;refine kC f99 f100 f101 f13 f12 f8 d f10 f11 u v r (atQ (atQ (atQ (atQ (atQ (atQ g l) n) o) p) a) c1) ?_;exact z _ 18446744073709551615 zm zm (λq=>by omega) aa aa;have A:x*10% 18446744073709551616=x*10:=zo;by_cases c2:(x*10+q)% 18446744073709551616<x*10;refine kC f99 f100 f101 f13 f12 f8 d f10 f11 u v r (atQ (atQ (atQ (atQ (atQ (atQ (atQ (atQ g l) n) o) p) a) c1) c2) A) ?_;exact z _ 18446744073709551615 zm zm (λq=>by omega) aa aa;have c3:¬18446744073709551615<(x*10+q)% 18446744073709551616:=zo;refine kC f99 f100 f101 f13 f12 f8 d f10 f11 u v r (atQ (atQ (atQ (atQ (atQ (atQ (atQ (atQ (atQ g l) n) o) p) a) c1) c2) c3) A) ?_;refine D (i+1) _ ((x*10+q)% 18446744073709551616) zo zo zo zo (λq=>by omega) zA zA aa aa zA zA zA zA zA
def aiO(c:aA T)(i:s.length<1073741824)(j:s≠[])(hd:jS s=s.length)
 (d:∀x e h',ax h h'->0<=x->x<18446744073709551616->(e=.x/\(s.length=1->x<10)\/s.length≠1/\e=.q 219 (.i 1))->k (.a (.o [.d .u64 x,e]) h')):aE T (W T) ⟨166⟩ [S s,.i 10,.i 64] h k:=by
 rw[aJ c.t166];obtain⟨t,f,l⟩:=aiL (h:=h) (s:=s) zo;generalize g:CC.d l166_0=L;refine aS j f ?_;subst g;refine aiN c (Hp.bv rfl) l i hd ?_ ?_ _ 0 _ 0 rfl zo zm zm (λ_=>⟨by simp,λ_=>rfl⟩) ?_ ?_ ?_ ?_ ?_ ?_ ?_ ?_ ?_;intro f' x h0 a b f13 f12;refine aS f13 f12 ?_;exact d _ _ _ aZ h0 a (.inl ⟨rfl,b⟩);intro f' x h0 a b f6 f7;refine aS f6 f7 ?_;exact d _ _ _ aZ h0 a (.inr ⟨b,rfl⟩)
 all_goals rfl
theorem aiP(b:aA T)(j:s.length<1073741824)(l:s≠[])(hd:jS s=s.length)
 (n:∀x e h',ax h h'->(e=.x\/s.length≠1/\e=.q 219 (.i 1))->k (.a (.o [.i x,e]) h')):aE T (W T) ⟨141⟩ [S s,.i 10,.i 64] h k:=by
 rw[aJ b.t141];obtain⟨c,r,rfl⟩:∃c r,s=c::r:=by cases s with|nil=>grind|cons c r=>grind
 have d:=aa0 hd 0 zm;simp at d;have f:¬c.toNat=43:=zo;have i:¬c.toNat=45:=zo;refine aS f i ?_;refine aiO b j l hd λx e h' g h0 m a=>?_;rcases a with⟨rfl,a⟩|⟨a,rfl⟩;by_cases c1:9223372036854775808<=x;refine aB c1 ?_;grind;refine aB c1 ?_;grind;simp_all
def ry(h:Hp)(i:Nat):Prop:=i<h.a/\∃t v,cellsOf (h.ab i) 0 1=some [.q t v]
def ry.bc{h':Hp}{i}(x:ry h i)(g:ax h h'):ry h' i:=by obtain⟨a,t,v,e⟩:=x;exact⟨aur a g.g,t,v,by rw[g.f _ a id];omega⟩
theorem aa1:∀(l:List (List AV))(t:N3 (List AV))(q n:Nat),q+l.length<=n->(∀j,j<n->∃u,u<256/\t j=[.s u])->(∀r∈l,∃u,u<256/\r=[.s u])->
 ∃t',yW (.b 5 1 n 0 t) q 1 l=some (.b 5 1 n 0 t')/\∀j,j<n->∃u,u<256/\t' j=[.s u]
 |[],t,q,n,_,a,_=>⟨t,rfl,a⟩
 |r::l,t,q,n,f,a,b=>by obtain⟨u,g,rfl⟩:=b r zm;simp at f;obtain⟨w,i,e⟩:=a q zo;have:=aa1 l (cx t q [.s u]) (q+1) n zo (λj hj=>by rw[dZ];grind) (λr hr=>b r qaa);obtain⟨t',c,d⟩:=this;refine⟨t',?_,d⟩;simp[yW];rw[ag4 zo zo,e];exact c
theorem aa2(d:aA T)(m:s.length<1073741824)(b:∀l n h',ax h h'->k (.a (.y l n) h')):aE T (W T) ⟨191⟩ [S s] h k:=by
 rw[aJ d.t191];cases s with
 |nil=>exact ag (b 0 0 _ aZ)
 |cons c r=>
  have e:¬((r.length:Int)+1=0):=zo;simp at m;have em:DB h 5 1 1 [.s 0] (.i ((r.length:Int)+1)) (.i ((r.length:Int)+1))=.b (.c h.a 0 1 (r.length+1) (r.length+1) true) (h.am (.b 5 1 (r.length+1) 0 (qm [.s 0] (r.length+1) 0 fG))):=aan (n:=r.length+1) zo zo;obtain⟨t',p,f⟩:=aa1 (mg (r.length+1) (cO ((c::r).map (·.toNat)))) (qm [.s 0] (r.length+1) 0 fG) 0 (r.length+1) (by rw[Ua];omega) (λj hj=>⟨0,by simp,by rw[aao,if_pos zo]⟩) (λq o=>by obtain⟨j,hj,rfl⟩:=avC o;exact⟨_,avn _ zm,Ub _ _ _ hj⟩)
  generalize qm [.s 0] (r.length+1) 0 fG=z at*;have g:∀H:Hp,H.ab h.a=.b 5 1 (r.length+1) 0 z->FV H 1 (.c h.a 0 1 (r.length+1) (r.length+1) true) (S (c::r))=.b (.i (r.length+1)) (H.dT h.a (.b 5 1 (r.length+1) 0 t')):=λH a=>by simp[FV,S,lenOf,atX,show Nat.min (r.length+1) (r.length+1)=r.length+1 from Nat.min_self _,Mp,cond,a];obtain⟨x,L,u⟩:∃x L,mg (r.length+1) (cO ((c::r).map (·.toNat)))=x::L:=⟨_,_,rfl⟩;grind
  simp(disch:=omega) [e,em,g _ (Hp.bv (h:=h) rfl)];obtain⟨l,y,A,B⟩:=Tm (t:=t') (r.length+1) 0 λj _ w=>f j zo;have er:kZ (.b 5 1 (r.length+1) 0 t') 0 1 (r.length+1)=some (dw t' (r.length+1) 0):=NL zm zl;have i:∀H:Hp,H.ab h.a=.b 5 1 (r.length+1) 0 t'->AL H 5 (.a h.a 0) (.i ((r.length:Int)+1))=.b (.y (r.length+1) (cO l)) (H.dT h.a .c):=λH a=>by have v:mM (.i ((r.length:Int)+1))=some (r.length+1):=rfl;simp_all[AL]
  simp(disch:=omega) [i _ (Hp.fp rfl)];exact b _ _ _ aZ
def aiQ(b:aA T){p:List UInt8}(g:s.length<1073741824)(a:ry h 6)(f:∀v h',ax h h'->k (.a v h')):aE T (W T) ⟨168⟩ [S p,S s] h k:=by
 rw[aJ b.t168];obtain⟨a,t,v,d⟩:=a;refine aB d ?_;refine aa2 b g λw w' e g1=>?_;have c:cellsOf (e.ab 6) 0 1=some [.q t v]:=by rw[g1.f _ a id];omega
 refine aB c ?_;exact f _ _ aZ
def aa3(a:aA T){p:List UInt8}{b z:Int}(d:s.length<1073741824)(c:ry h 6)(f:∀v h',ax h h'->k (.a (.q 222 v) h')):aE T (W T) ⟨142⟩ [S p,S s,.i b,.i z,.q 219 (.i 1)] h k:=by rw[aJ a.t142];refine ag ?_;refine aiQ a d c λv e g1=>?_;simp_all
def aiR(a:aA T)(c:s.length<1073741824)(g:s≠[])(hd:jS s=s.length)(d:ry h 6)
 (f:∀x e h',ax h h'->(e=.x\/s.length≠1/\∃v,e=.q 222 v)->k (.a (.o [.i x,e]) h')):aE T (W T) ⟨116⟩ [S s,.i 10,.i 64] h k:=by
 rw[aJ a.t116];refine ag ?_;refine aiP a c g hd λx e i g1 b=>?_;rcases b with rfl|⟨b,rfl⟩;simp_all;refine ag ?_;exact aa3 a c (d.bc g1) λv j g2=>(ag (f _ _ _ (g1.ba g2) (.inr ⟨b,_,rfl⟩)))
def aiS:∀c:UInt8,c∈rj->kh c=true:=by decide
def aiT(a:aA T)(i:ry h 6)(g:s.length<1073741824)(l:∀v e h',ax h h'->(s.length=1/\dU s=1->e=0)->k (.a (.o [v,.i e]) h')):aE T (W T) ⟨83⟩ [S s] h k:=by
 rw[aJ a.t83];refine ag ?_;refine aaZ a g ?_;cases b:Ag s with
 |false=>
  refine ag ?_;refine l _ _ _ aZ λ⟨d,m⟩=>?_;obtain⟨c,rfl⟩:=List.length_eq_one_iff.1 d;have j:c∈rj:=by by_cases j:c∈rj;omega;simp_all[dU,sW]
  simp_all[Ag,jS,aiS]
 |true=>
  simp[Ag,atW,auU] at b;refine ag ?_;refine aiR a g b.1.1 b.1.2 i λx e d g1 f=>?_;rcases f with rfl|⟨f,v,rfl⟩;simp_all;simp_all
end
section
variable {k:aK->Prop}{c:UInt8}
def aFd(c:UInt8):Bool:=decide (65<=c.toNat/\c.toNat<=90)||decide (97<=c.toNat/\c.toNat<=122)||decide (c.toNat=95)
def ajL(b:aA T)(a:k (.a (.g (aFd c)) h)):aE T (W T) ⟨43⟩ [.s c.toNat] h k:=by rw[aJ b.t43];unfold aFd at a;by_cases c1:65<=c.toNat<;>by_cases c2:c.toNat<=90<;>by_cases c3:97<=c.toNat<;>by_cases d:c.toNat<=122<;>simp(disch:=omega) [c1,c2,c3,d] at a|-<;>exact a
def yF(s:List UInt8):Bool:=decide (s≠[])&&decide (s≠[95])&&decide (s.length<=40)&&aFd (s.headD 0)&&s.all λc=>aFd c||kh c
theorem abv(n:aA T)(F:s.length<1073741824)(a:k (.a (.g (yF s)) h)):aE T (W T) ⟨26⟩ [S s] h k:=by
 rw[aJ n.t26];generalize z:CC.d l26_0=L;by_cases d:s=[];subst d;exact ag a;by_cases g:s=[95];subst g;exact ag a;by_cases v:(40:Int)<s.length;have:yF s=false:=by simp[yF];omega
 simp_all;refine aU d g v ?_;have w:s.length<=40:=zo;have B:yF s=(aFd (s.headD 0)&&s.all λc=>aFd c||kh c):=by simp[yF,d,g,w]
 rw[B] at a;subst z;have key:∀(m i:Nat)(f:Fr)(K:aT->Prop),m=s.length- i->i<=s.length->an 16 f=.i s.length->an 17 f=.i i->an 0 f=S s->
  (((∀j,(hj:j<s.length)->i<=j->aFd s[j]=true\/j≠0/\kh s[j]=true)->∀f',K (.a 0 f' h []))/\((∃j,∃hj:j<s.length,¬(aFd s[j]=true\/j≠0/\kh s[j]=true))->∀f',an 2 f'=.g false->K (.b f' h [])))->W T (.d l26_0) f h [] K:=by
  intro m;induction m with
  |zero=>
   intro i f K A hi f16 f17 f0 a;have e:¬i<s.length:=zo;rw[aP];refine bK f16 f17 f0 e ?_;grind
  |succ m C=>
   intro i f K A hi f16 f17 f0 a;have t:i<s.length:=zo;rw[aP];simp(disch:=omega) [f16,f17,f0,t];refine ajL n ?_;have l:aFd s[i]=true\/i≠0/\kh s[i]=true->∀f',an 16 f'=.i s.length->an 17 f'=.i ((i:Int)+1)->an 0 f'=S s->W T (.d l26_0) f' h [] K:=λq f' f16 f17 f0=>by refine C (i+1) f' K zo zo f16 qaa f0 ⟨λb D=>a.1 (λj hj E=>?_) D,a.2⟩;grind
   have o:¬(aFd s[i]=true\/i≠0/\kh s[i]=true)->∀f',an 2 f'=.g false->K (.b f' h []):=λq=>a.2 ⟨i,t,q⟩;cases c1:aFd s[i] with
   |true=>
    refine aU f16 f17 f0 ?_;exact l (.inl c1) _ zA aa zA
   |false=>
    by_cases c0:i=0;simp_all;by_cases c2:s[i].toNat<48;simp(disch:=omega) [f0,c0,c2];exact o (by simp[c1,kh];omega) _ qab;by_cases c3:57<s[i].toNat;simp(disch:=omega) [f0,c0,c2,c3];exact o (by simp[c1,kh];omega) _ (by simp(disch:=omega));simp(disch:=omega) [f17,f0,c0,c2,c3];exact l (.inr ⟨c0,by simp[kh];omega⟩) _ (by simp(disch:=omega) [f16]) (by simp(disch:=omega)) (by simp(disch:=omega) [f0])
 have u:(∀j,(hj:j<s.length)->aFd s[j]=true\/j≠0/\kh s[j]=true) <-> (aFd (s.headD 0)&&s.all λc=>aFd c||kh c)=true:=by
  obtain⟨c,r,rfl⟩:∃c r,s=c::r:=by cases s with|nil=>exact absurd rfl d|cons c r=>exact⟨c,r,rfl⟩
  simp only[axh,atW,auO,awq];constructor;intro q;refine⟨by have:=q 0 zm;rcases this with q|q;exact q;exact absurd rfl q.1,λx b=>?_⟩;obtain⟨j,hj,rfl⟩:=avC b;rcases q j hj with q|q;exact .inl q;exact .inr q.2;rintro⟨q1,q2⟩ j hj;rcases j with _|j;exact .inl q1;rcases q2 _ (auy hj) with q|q;exact .inl q;exact .inr ⟨by omega,q⟩
 refine key _ 0 _ _ rfl zo aa aa aa ⟨λb f'=>?_,λb f' y=>?_⟩;have:=u.1 λj hj=>b j hj (auz _);rw[this] at a;refine ag ?_;exact a;have:¬_:=mt u.2 (by obtain⟨j,hj,b⟩:=b;exact λq=>b (q j hj));rw[Bool.not_eq_true] at this;rw[this] at a;refine aB y ?_;exact a
def Oy(s:List UInt8):Bool:=decide (s∈vA kwS)
def ajM(a:aA T)(b:lO (h.ab 1))(d:∀h',ax h h'->k (.a (.g (Oy s)) h')):aE T (W T) ⟨27⟩ [S s] h k:=by rw[aJ a.t27];refine ag ?_;refine aap (s:=kwS) a zd zd b qam λf v g1 e=>?_;refine ag ?_;exact Ek a e qam (ag (d _ g1))
def rZ(u:List UInt8):Option (List UInt8):=
 let rest:=if w9 u [102,105,108,101,58,47,47,47]=true then u.drop 8 else u
 let q:=iz rest 47
 let base:=if vu q.2.1 [46,103,111]=true then q.2.1.take (q.2.1.length- 3) else q.2.1
 if w9 u [102,105,108,101,58,47,47,47]=true/\q.2.2 =true/\vu q.2.1 [46,103,111]=true/\yF q.1 =true/\Oy q.1 =false/\yF base=true then some q.1 else none
theorem abw:(iz s c).1.length<=s.length/\(iz s c).2.1.length<=s.length:=by grind[iz]
theorem ajN(b:aA T)(y:s.length<1073741824)(r:lO (h.ab 1))(a:∀h',ax h h'->k (.a (match rZ s with|some d=>.o [S d,.g true]|none=>.o [S [],.g false]) h')):aE T (W T) ⟨14⟩ [S s] h k:=by
 rw[aJ b.t14];have hd:∀rest d fl base e g f,w9 s [102,105,108,101,58,47,47,47]=e->(if e=true then s.drop 8 else s)=rest->iz rest 47=(d,fl,g)->vu fl [46,103,111]=f->(if f=true then fl.take (fl.length- 3) else fl)=base->
  rZ s=if e=true/\g=true/\f=true/\yF d=true/\Oy d=false/\yF base=true then some d else none:=by
  rintro rest d fl base e g f rfl rfl j rfl rfl;simp only[rZ,j]
 refine ag ?_;refine Tg b zo ?_;generalize l:w9 s [102,105,108,101,58,47,47,47]=e;rw[show([102,105,108,101,58,47,47,47]:List UInt8).length=8 from rfl];generalize hr:(if e=true then s.drop 8 else s)=rest;have t:rest.length<=s.length:=by grind
 refine aB hr ?_;refine Th b zo ?_;have j:=abw (s:=rest) (c:=47);generalize m:iz rest 47=q at j|-;obtain⟨d,fl,g⟩:=q;simp only at j;refine ag ?_;refine ahh b zo ?_;generalize n:vu fl [46,103,111]=f;generalize i:(if f=true then fl.take (fl.length- 3) else fl)=base;have u:base.length<=s.length:=by grind
 have hd:=hd _ _ _ _ _ _ _ l hr m n i;cases e with
 |false=>refine aB i ?_;rw[hd] at a;exact a _ aZ
 |true=>
 cases g with
 |false=>refine aB i ?_;rw[hd] at a;exact a _ aZ
 |true=>
 cases f with
 |false=>refine aB i ?_;rw[hd] at a;exact a _ aZ
 |true=>
 refine aB i ?_;refine abv b zo ?_;cases o:yF d with
 |false=>refine ag ?_;rw[hd] at a;simp[o] at a;exact a _ aZ
 |true=>
 refine ag ?_;refine ajM b r λx g1=>?_;cases v:Oy d with
 |true=>simp_all
 |false=>
 refine ag ?_;refine abv b zo ?_;cases w:yF base with
 |false=>simp_all
 |true=>simp_all
end
section
variable {k:aK->Prop}{a b:Int}
def xj(a b:Int):Int:=if a<b then-1 else if b<a then 1 else 0
def abx(c:aGk T)(d:k (.a (.g false) h)):aE T (W T) ⟨98⟩ [.i a] h k:=by rw[aJ c.d];refine ag ?_;omega
def aby(c:aA T)(d:k (.a (.g false) h)):aE T (W T) ⟨99⟩ [.i a] h k:=by rw[aJ c.t99];refine ag ?_;omega
def Oz(c:aGk T)(d:k (.a (.i (xj a b)) h)):aE T (W T) ⟨60⟩ [.i a,.i b] h k:=by rw[aJ c.c];refine ag ?_;refine abx c ?_;refine ag ?_;refine abx c ?_;unfold xj at d;by_cases c1:a<b;simp_all;by_cases c2:b<a;simp(disch:=omega) [c1,c2] at d|-;omega;simp(disch:=omega) [c1,c2] at d|-;omega
def ajO(c:aA T)(d:k (.a (.i (xj a b)) h)):aE T (W T) ⟨61⟩ [.i a,.i b] h k:=by rw[aJ c.t61];refine ag ?_;refine aby c ?_;refine ag ?_;refine aby c ?_;unfold xj at d;by_cases c1:a<b;simp_all;by_cases c2:b<a;simp(disch:=omega) [c1,c2] at d|-;omega;simp(disch:=omega) [c1,c2] at d|-;omega
def Bo(l:List Int):Int:=(l.dropWhile λx=>decide (x=0)).headD 0
theorem abz(p:aGk T){L:List Int}{q r:Nat}{cap ex}{t:Nat->List AV}(l:h.ab q=.b 3 1 r 0 t)(hr:L.length<=r)(n:∀j,(hj:j<L.length)->t j=[.i L[j]]) (x:L.length<1073741824) (w:k (.a (.i (Bo L)) h)):aE T (W T) ⟨59⟩ [.c q 0 1 L.length cap ex] h k:=by
 rw[aJ p.b];refine ag ?_;have key:∀(m i:Nat)(f:Fr)(K:aT->Prop),m=L.length- i->i<=L.length->an 6 f=.c q 0 1 L.length cap ex->an 7 f=.i L.length->an 8 f=.i i->an 3 f=.i 0->Bo L=Bo (L.drop i)->
  (Bo L=0->∀f',an 3 f'=.i 0->K (.a 0 f' h []))->(∀f',an 2 f'=.i (Bo L)->K (.b f' h []))->W T (.d l59_0) f h [] K:=by
  intro m;induction m with
  |zero=>
   intro i f K s hi f6 f7 f8 f3 g d o;have e:¬i<L.length:=zo;rw[aP];refine bK f6 f7 f8 e ?_;refine d ?_ _ zA;rw[g,auJ zo];rfl
  |succ m u=>
   intro i f K s hi f6 f7 f8 f3 g d o;have c:i<L.length:=zo;rw[aP];have:=n i c;by_cases e:L[i]=0;refine fY f6 f7 f8 f3 l this c e ?_;refine u (i+1) _ K zo zo zA zA aa zA ?_ d o;grind[List.drop_eq_getElem_cons,Bo,List.dropWhile_cons_of_pos];have:Bo L=L[i]:=by grind[List.drop_eq_getElem_cons,Bo,List.dropWhile_cons_of_neg]
   refine fY f6 f7 f8 f3 l (n i c) c e ?_;simp_all
 refine key _ 0 _ _ rfl zo aa aa aa aa rfl (λe f' f3=>?_) λf' v=>?_;simp_all;simp_all
structure cN where
 b:Int
 a:Int
 e:Int
def cN.fj(f:cN):List AV:=[.i f.b,.i f.a,.i f.e]
def Uz(x y:cN):Int:=Bo [xj x.b y.b,xj x.a y.a,xj x.e y.e]
def ajP(c:aA T){x y:cN}(d:∀h',ax h h'->k (.a (.i (Uz x y)) h')):aE T (W T) ⟨33⟩ [.p x.fj,.p y.fj] h k:=by
 rw[aJ c.t33];refine aB cN.fj.eq_1 ?_;refine Oz c.1 ?_;refine ag ?_;refine Oz c.1 ?_;refine ag ?_;refine ajO c ?_;refine ag ?_;refine abz c.1 (L:=[xj x.b y.b,xj x.a y.a,xj x.e y.e]) (Hp.bv rfl) zm (λj hj=>?_) zm ?_;exact match j,hj with
 |0,_=>rfl
 |1,_=>rfl
 |2,_=>rfl
 refine ag ?_;exact d _ aZ
def Bp(f x:cN):cN:=if f.e=0\/Uz x f<0 then x else f
def bS(c d aq:AV)(f:cN)(nodes bu g e:AV):List AV:=[c,d,aq,.i f.b,.i f.a,.i f.e,nodes,bu,g,e]
def ES(g:aA T){p:Nat}{c0 c1 c2 c6 c7 c8 c9:AV}{f x:cN}(c:h.ab p=.a 57 (bS c0 c1 c2 f c6 c7 c8 c9))(d:∀h',ah (·=p) h h'->h'.ab p=.a 57 (bS c0 c1 c2 (Bp f x) c6 c7 c8 c9)->k (.a (.o []) h')):
 aE T (W T) ⟨17⟩ [.a p 3,.i x.b,.i x.a,.i x.e] h k:=by
 rw[aJ g.t17];have i:=Hp.lt c rfl;simp[bS] at c;unfold Bp at d;by_cases c1:f.e=0;refine aS c c1 ?_;refine d _ aZ ?_;simp_all[bS];refine aS c c1 ?_;refine ajP g (x:=x) (y:=f) λj g2=>?_;have e:=g0 g2;by_cases c2:Uz x f<0;refine aU e c c2 ?_;refine d _ (ah.dT (ah.mr (ah.ba aZ g2)) _ (.inr rfl)) ?_;simp_all[bS];refine aU e c c2 ?_;refine d _ (ah.mr (ah.ba aZ g2)) ?_;simp(disch:=first|exact bh|fail) [bS,e,c,c1,c2]
end
abbrev SL:=List (List UInt8×AV)
def di(L:SL):List (AV×AV):=L.map λp=>(S p.1,p.2)
def eV:SL->List UInt8->Option AV
 |[],_=>none
 |(a,v)::L,s=>if s=a then some v else eV L s
def mA:SL->List UInt8->AV->SL
 |[],s,v=>[(s,v)]
 |(a,w)::L,s,v=>if s=a then(a,v)::L else(a,w)::mA L s v
def cD(L:SL):List (List UInt8):=L.map (·.1)
section
variable {k:aK->Prop}{a:List UInt8}{L:SL}{z:AV}{aD:Nat}
def UA:∀L:SL,s∉cD L->yZ (.a .a) (S s) (di L)=true
 |[],_=>rfl
 |(a,v)::L,h=>by simp only[cD,aul,atZ,aEi] at h;simp[di,aul,yZ,Td,auK h.1];exact UA L h.2
theorem UB:∀L:SL,(cD L).Nodup->wj (.a .a) (S s) (di L)=some (eV L s)
 |[],_=>rfl
 |(a,v)::L,h=>by simp only[cD,aul,au6] at h;simp[di,aul,wj,Td,eV];by_cases e:s=a;have:=UA L h.1;grind[di];have:=UB L h.2;grind[di]
def abA:∀L:SL,(cD L).Nodup->∃b,AJ (.a .a) (S s) v (di L)=some (b,di (mA L s v))
 |[],_=>⟨_,rfl⟩
 |(a,w)::L,h=>by simp only[cD,aul,au6] at h;simp[di,aul,AJ,Td,mA];by_cases e:s=a;have:=UA L h.1;simp_all[di];obtain⟨b,this⟩:=abA L h.2;simp_all[di]
theorem OA:∀L:SL,cD (mA L s v)=if s∈cD L then cD L else cD L++[s]
 |[]=>rfl
 |(a,w)::L=>by have:=OA L;grind[mA,cD]
theorem ajS(h:(cD L).Nodup):(cD (mA L s v)).Nodup:=by grind[OA]
theorem Bq:∀L:SL,eV (mA L s v) a=if a=s then some v else eV L a
 |[]=>rfl
 |(b,w)::L=>by simp[mA];by_cases e:s=b;simp_all[eV];simp[e,auM,eV,Bq L];grind
theorem Br:∀{L:SL},eV L s=none <-> s∉cD L
 |[]=>by simp[eV,cD]
 |(a,v)::L=>by have:=Br (L:=L);simp[cD] at this;simp[eV,cD,aul,atZ,aEi];grind
def iV(h:Hp)(i:Nat)(L:SL):Prop:=(∃aD,h.ab i=.f (di L) aD)/\(cD L).Nodup
def iV.lt(x:iV h i L):i<h.a:=by obtain⟨⟨aD,e⟩,_⟩:=x;exact Hp.lt e rfl
theorem iV.wa(x:iV h i L){ok:Bool}:me (.a .a) h z (.j i) (S s) ok=y7 ok ((eV L s).getD z) (eV L s).isSome:=by obtain⟨⟨aD,e⟩,b⟩:=x;simp[me,BS,cond,e,UB L b];grind
def iV.ti(x:iV h i L):∃o,aFk (.a .a) h (.j i) (S s) v=.b undef (h.dT i o)/\∀h':Hp,h'.ab i=o->iV h' i (mA L s v):=by obtain⟨⟨aD,e⟩,b⟩:=x;obtain⟨bb,f⟩:=abA (s:=s) (v:=v) L b;refine⟨.f (di (mA L s v)) (cond bb (Nat.succ aD) aD),?_,λh' c=>⟨⟨_,c⟩,ajS b⟩⟩;simp_all[aFk,BS]
def iV.ow(e:h.ab i=.f [] aD):iV h i []:=⟨⟨aD,e⟩,by simp[cD]⟩
theorem iV.bc{h':Hp}(x:iV h i L)(e:h'.ab i=h.ab i):iV h' i L:=by obtain⟨⟨aD,q⟩,b⟩:=x;exact⟨⟨aD,by grind⟩,b⟩
end
structure aC where
 b:Int
 a:List UInt8
 c:Int
 f:Int
 g:List UInt8
deriving DecidableEq
def aC.fj(d:aC):List AV:=[.i d.b,S d.a,.i d.c,.i d.f,S d.g]
def qG:aC:=⟨0,[],0,0,[]⟩
abbrev dK:EK:=.b [.b .i64,.a,.b .i64,.b .i64,.a]
section
variable {k:aK->Prop}{d e:aC}{L:List (aC×AV)}{z:AV}{aD:Nat}
theorem K2:cJ dK (.p d.fj) (.p e.fj)=some (decide (d=e)):=by
 obtain⟨f,g,a3,a4,a5⟩:=d;obtain⟨j,l,m,n,o⟩:=e;have c:∀a b:Int,sD (.b .i64) (.i a) (.i b)=some (decide (a=b)):=λa b=>by simp[sD,A6]
 simp[cJ,aC.fj,yX,c,Z1,aC.mk.injEq];grind
def vN(L:List (aC×AV)):List (AV×AV):=L.map λp=>(.p p.1.fj,p.2)
def vO(L:List (aC×AV)):List aC:=L.map (·.1)
def Ak:List (aC×AV)->aC->Option AV
 |[],_=>none
 |(a,v)::L,s=>if s=a then some v else Ak L s
def Bs:List (aC×AV)->aC->AV->List (aC×AV)
 |[],s,v=>[(s,v)]
 |(a,w)::L,s,v=>if s=a then(a,v)::L else(a,w)::Bs L s v
def UD:∀L:List (aC×AV),d∉vO L->yZ dK (.p d.fj) (vN L)=true
 |[],_=>rfl
 |(a,v)::L,h=>by simp only[vO,aul,atZ,aEi] at h;simp[vN,aul,yZ,K2,auK h.1];exact UD L h.2
theorem abB:∀L:List (aC×AV),(vO L).Nodup->wj dK (.p d.fj) (vN L)=some (Ak L d)
 |[],_=>rfl
 |(a,v)::L,h=>by simp only[vO,aul,au6] at h;simp[vN,aul,wj,K2,Ak];by_cases e:d=a;have:=UD L h.1;grind[vN];have:=abB L h.2;grind[vN]
def abC:∀L:List (aC×AV),(vO L).Nodup->∃b,AJ dK (.p d.fj) v (vN L)=some (b,vN (Bs L d v))
 |[],_=>⟨_,rfl⟩
 |(a,w)::L,h=>by simp only[vO,aul,au6] at h;simp[vN,aul,AJ,K2,Bs];by_cases e:d=a;have:=UD L h.1;simp_all[vN];obtain⟨b,this⟩:=abC L h.2;simp_all[vN]
theorem abD:∀L:List (aC×AV),vO (Bs L d v)=if d∈vO L then vO L else vO L++[d]
 |[]=>rfl
 |(a,w)::L=>by have:=abD L;grind[Bs,vO]
theorem UE:∀L:List (aC×AV),Ak (Bs L d v) e=if e=d then some v else Ak L e
 |[]=>rfl
 |(b,w)::L=>by simp[Bs];by_cases c:d=b;simp_all[Ak];simp[c,auM,Ak,UE L];grind
def lX(h:Hp)(i:Nat)(N:List aC):Prop:=∃L aD,h.ab i=.f (vN L) aD/\(vO L).Nodup/\(∀d v,Ak L d=some v->∃a b c e kv,v=.p [a,b,c,e,S d.a,kv])/\∀d∈N,(Ak L d).isSome=true
def lX.lt{N}(x:lX h i N):i<h.a:=by obtain⟨L,aD,e,_⟩:=x;exact Hp.lt e rfl
theorem lX.bc{h':Hp}{N}(x:lX h i N)(e:h'.ab i=h.ab i):lX h' i N:=by obtain⟨L,aD,q,r⟩:=x;exact⟨L,aD,by grind,r⟩
theorem lX.ti{N}(x:lX h i N){a b c f kv:AV}:∃o,aFk dK h (.j i) (.p d.fj) (.p [a,b,c,f,S d.a,kv])=.b undef (h.dT i o)/\∀h':Hp,h'.ab i=o->lX h' i (d::N):=by obtain⟨L,aD,e,l,m,n⟩:=x;obtain⟨bb,p⟩:=abC (d:=d) (v:=.p [a,b,c,f,S d.a,kv]) L l;refine⟨.f (vN (Bs L d (.p [a,b,c,f,S d.a,kv]))) (cond bb (Nat.succ aD) aD),?_,λh' j=>⟨Bs L d (.p [a,b,c,f,S d.a,kv]),_,j,?_,λg v q=>?_,λg hd=>?_⟩⟩;simp_all[aFk,BS,K2];grind[abD];grind[UE];grind[UE]
def lX.wa{N}(x:lX h i N)(hd:d∈N):∃a b c f kv,me dK h z (.j i) (.p d.fj) false=.v (.p [a,b,c,f,S d.a,kv]):=by obtain⟨L,aD,e,l,j,g⟩:=x;obtain⟨v,m⟩:=awk.1 (g d hd);simp_all[me,BS,K2,abB]
end
abbrev KM:=List UInt8->Option aC
def rA(m:KM)(s:List UInt8)(d:aC):KM:=λa=>if a=s then some d else m a
def aX:KM:=λ_=>none
def MK(h:Hp)(i:Nat)(m:KM):Prop:=∃L,iV h i L/\∀s,eV L s=(m s).map λd=>.p d.fj
def aEC:List KM->List UInt8->Option aC
 |[],_=>none
 |m::ms,s=>match m s with|some d=>some d|none=>aEC ms s
def si(lo hi:Nat)(h:Hp):List KM->AV->Prop
 |[],v=>v=.u
 |m::ms,v=>∃bb par kv lv,v=.a bb 0/\h.ab bb=.a 117 [par,kv,lv]/\lo<bb/\bb<hi/\(kv=.A/\(∀s,m s=none)\/∃i,kv=.j i/\lo<i/\i<hi/\MK h i m)/\si lo hi h ms par
def lA(o:Option aC):AV:=.o [.p (o.getD qG).fj,.g o.isSome]
section
variable {k:aK->Prop}{nm:List UInt8}{m:KM}{ms:List KM}{d:aC}{lo hi:Nat}
def MK.lt(x:MK h i m):i<h.a:=by obtain⟨L,e,_⟩:=x;exact e.lt
def MK.bc{h':Hp}(x:MK h i m)(e:h'.ab i=h.ab i):MK h' i m:=by obtain⟨L,q,r⟩:=x;exact⟨L,q.bc e,r⟩
def MK.ow{aD}(e:h.ab i=.f [] aD):MK h i aX:=⟨[],iV.ow e,λ_=>rfl⟩
def MK.wa(x:MK h i m){ok:Bool}{z:AV}:me (.a .a) h z (.j i) (S s) ok=y7 ok ((m s).elim z λd=>.p d.fj) (m s).isSome:=by obtain⟨L,q,r⟩:=x;rw[q.wa,r];cases m s<;>rfl
theorem MK.ti(x:MK h i m):∃o,aFk (.a .a) h (.j i) (S s) (.p d.fj)=.b undef (h.dT i o)/\∀h':Hp,h'.ab i=o->MK h' i (rA m s d):=by obtain⟨L,q,r⟩:=x;obtain⟨o,e,f⟩:=q.ti (s:=s) (v:=.p d.fj);refine⟨o,e,λh' b=>⟨_,f h' b,λa=>?_⟩⟩;grind[Bq,rA]
theorem si.bc{h':Hp}:∀{ms:List KM}{v:AV},(∀j,lo<j->j<hi->(∃l,h.ab j=.a 117 l)\/(∃c aD,h.ab j=.f c aD)->h'.ab j=h.ab j)->si lo hi h ms v->si lo hi h' ms v
 |[],_,_,x=>x
 |m::ms,v,g,x=>by obtain⟨bb,par,kv,lv,b,n,e,f,a,x⟩:=x;refine⟨bb,par,kv,lv,b,by grind,e,f,?_,si.bc g x⟩;rcases a with a|⟨i,q1,q2,q3,q4⟩;grind;have q5:=q4;obtain⟨L,⟨⟨aD,q6⟩,_⟩,_⟩:=q5;exact .inr ⟨i,q1,q2,q3,q4.bc (g i q2 q3 (.inr ⟨_,_,q6⟩))⟩
theorem si.up{a:Nat}(le:hi<=a):∀{ms:List KM}{v:AV},si lo hi h ms v->si lo a h ms v
 |[],_,x=>x
 |m::ms,v,x=>by obtain⟨bb,par,kv,lv,b,c,e,g,f,x⟩:=x;refine⟨bb,par,kv,lv,b,c,e,by omega,?_,x.up le⟩;grind
theorem ajT(u:aA T)(b:si lo hi h ms v)(l:∀h',ax h h'->k (.a (lA (aEC ms s)) h')):aE T (W T) ⟨105⟩ [v,S s] h k:=by
 rw[aJ u.t105];refine ag ?_;have key:∀(ms:List KM)(v:AV)(f:Fr)(a:Hp)(K:aT->Prop),ax h a->si lo hi h ms v->h.a<a.a->a.ab h.a=.a 35 qG.fj->an 0 f=v->an 1 f=S s->an 4 f=.a h.a 0->
  (aEC ms s=none->∀f' h',ax h h'->h.a<h'.a->h'.ab h.a=.a 35 qG.fj->an 4 f'=.a h.a 0->K (.a 0 f' h' []))->
  (∀d,aEC ms s=some d->∀f' h',ax h h'->h.a<h'.a->h'.ab h.a=.a 35 d.fj->an 4 f'=.a h.a 0->an 5 f'=.g true->K (.b f' h' []))->W T (.d l105_0) f a [] K:=by
  intro ms;induction ms with
  |nil=>
   intro v f a K g b n hr f0 o f4 r t;subst b;rw[aP];refine aB f0 ?_;exact r rfl _ _ g n hr zA
  |cons m ms z=>
   intro v f a K g b n hr f0 o f4 r t;obtain⟨bb,par,kv,lv,rfl,x,A,B,y,b⟩:=b;have C:=Hp.lt x rfl;have w:=g0 g;have j:a.ab bb=.a 117 [par,kv,lv]:=by grind
   rw[aP];have c:me (.a .a) a (.p [.i 0,S [],.i 0,.i 0,S []]) kv (S s) true=.v (lA (m s)):=by rcases y with⟨rfl,q⟩|⟨i,rfl,q2,q3,q4⟩;rw[q];rfl;rw[(q4.bc (w i q4.lt)).wa];cases m s<;>rfl
   simp only[qG,aC.fj] at hr;cases p:m s with
   |some d=>
    rw[p] at c;simp[lA,Option.getD,Option.isSome,aC.fj] at c;refine cq f0 o f4 j c hr ?_;refine t d (by simp only[aEC,p]) _ _ ?_ ?_ ?_ ?_ ?_;exact(((g.am _).dT _ (.inl zo)).dT _ (.inl zo));refine ag ?_;omega;exact au aC.fj.eq_1;exact zA;rfl
   |none=>
    rw[p] at c;simp[lA,Option.getD,Option.isSome,aC.fj,qG] at c;refine cq f0 o f4 j c hr ?_;refine z _ _ _ K ?_ b ?_ ?_ aa zA zA (λq=>r (by grind[aEC])) (λd q=>t d (by grind[aEC]));exact((g.am _).dT _ (.inl zo));refine ag ?_;omega;simp(disch:=omega) [hr,qG,aC.fj]
 refine key ms v _ _ _ aZ b aa (by simp(disch:=omega) [qG,aC.fj]) aa aa aa (λe f' h' g n hr f4=>?_) (λd e f' h' g n hr f4 f5=>?_);rw[e] at l;simp only[qG,aC.fj] at hr;refine aS f4 hr ?_;refine l _ (g.dT _ (.inl zl));rw[e] at l;simp only[aC.fj] at hr;refine aU f4 hr f5 ?_;exact l _ g
end
end Yv
