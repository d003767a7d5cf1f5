/- A part of the proof of 'ScopeAlphaUptoCardSaid'. No condition. -/
import Derived.Test.YtjjppojiafpfcaaGreatDoorX07
set_option maxHeartbeats 64000000
set_option maxRecDepth 100000
set_option linter.all false
namespace Yv
variable {M:List Int}{body new:List UInt8}{h h':Hp}{ms:List KM}{v w:AV}
def rG.up{N e:Nat}{lo hi d:Int}{t:Tree}(x:rG N lo hi t)(h:N<=e)(k:hi<=d):rG e lo d t:=⟨x.b,by have:=x.g;omega,x.c.up (atY _) k,x.i,x.f.up h,at1 x.a h,x.d,x.j.up (atY _) k⟩
def rG.WP{N:Nat}{lo hi:Int}{t:Tree}(x:rG N lo hi t):Yv.gX lo hi t:=by rw[Tree.eta t];exact .yr (by rw[x.b];rfl) (by rw[x.b];rfl) x.g x.c
section
variable {ic:List UInt8}{j:Nat}{s:jv}{aq:List (List UInt8)}
def DG(s:jv):Prop:=∀q,∀d∈s.a q,(d.b=2\/d.b=3)/\d∈s.d
theorem adu{key:List UInt8}:∀(ts:List Tree)(s:jv),DG s->DG (yL ic key j ts s)/\(∀d∈s.d,d∈(yL ic key j ts s).d)/\(yL ic key j ts s).d.length=s.d.length+ts.length
 |[],s,h=>⟨h,λ_ h=>h,rfl⟩
 |t::ts,s,h=>by unfold yL;obtain⟨a,b,c⟩:=adu ts {s with d:=⟨5,t.bj,j,t.at,ic⟩::s.d,b:=iY s.b (1,key) (s.b (1,key)++[⟨5,t.bj,j,t.at,ic⟩])} λq d hd=>⟨(h q d hd).1,.tail _ (h q d hd).2⟩;exact⟨a,λd hd=>b d (.tail _ hd),by grind⟩
theorem adv{nd:List aC}{bu:List UInt8->List aC}{d:aC}{im f:List aC}{ot b:Kk->List aC}(h:DG ⟨bu,im,nd,ot⟩)(hd:d.b=2\/d.b=3):DG ⟨vQ bu ic (bu ic++[d]),f,d::nd,b⟩:=λq e a=>by have a:e∈vQ bu ic (bu ic++[d]) q:=a;unfold vQ at a;split at a;rcases auj.1 a with c|c;exact⟨(h _ e c).1,.tail _ (h _ e c).2⟩;grind;exact⟨(h _ e a).1,.tail _ (h _ e a).2⟩
theorem amv(t:Tree)(s:jv)(h:DG s):DG (kX ic j t s)/\(∀d∈s.d,d∈(kX ic j t s).d)/\(kX ic j t s).d.length<=s.d.length+1+t.fg.length/\(t.bi=2->⟨1,t.bj,j,t.at,t.bj⟩∈(kX ic j t s).d):=by have up:∀d:aC,∀q,∀e∈s.a q,(e.b=2\/e.b=3)/\e∈d::s.d:=λd q e f=>⟨(h q e f).1,.tail _ (h q e f).2⟩;unfold kX;split<;>rename_i c1;exact⟨up _,λd h=>.tail _ h,by grind,λ_=>.head _⟩;split<;>rename_i c2;obtain⟨a,b,c⟩:=adu (ic:=ic) (j:=j) t.fg {s with a:=vQ s.a ic (s.a ic++[⟨2,t.bj,j,t.at,ic⟩]),d:=⟨2,t.bj,j,t.at,ic⟩::s.d} (adv (im:=s.c) (ot:=s.b) h (.inl rfl));exact⟨a,λd h=>b d (.tail _ h),by grind,λe=>absurd e c1⟩;split;exact⟨adv (im:=s.c) (ot:=s.b) h (.inr rfl),λd h=>.tail _ h,by grind,λe=>absurd e c1⟩;exact⟨up _,λd h=>.tail _ h,by grind,λe=>absurd e c1⟩
theorem adw{N:Nat}:∀(ts:List Tree)(s:jv),DG s->kP N ts->DG (tB ic j ts s)/\(∀d∈s.d,d∈(tB ic j ts s).d)/\(tB ic j ts s).d.length<=s.d.length+ts.length*(N+1)/\(∀t∈ts,t.bi=2->⟨1,t.bj,j,t.at,t.bj⟩∈(tB ic j ts s).d)
 |[],s,h,_=>⟨h,λ_ h=>h,by simp[tB],λ_ h=>by grind⟩
 |t::ts,s,h,e=>by
  unfold tB;obtain⟨a,b,c,d⟩:=amv (ic:=ic) (j:=j) t s h;obtain⟨a',f,g,i⟩:=adw ts _ a e.2;have:t.fg.length<=N:=by have:=e.1;rw[Tree.eta t] at this;exact this.1
  grind[Nat.add_mul]
theorem adx{N:Nat}{hi:Int}:∀(ts:List Tree)(j:Nat)(s:jv),DG s->(∀t∈ts,rG N 0 hi t)->DG (jG aq ts j s)/\(∀d∈s.d,d∈(jG aq ts j s).d)/\(jG aq ts j s).d.length<=s.d.length+ts.length*(N*(N+1))/\(∀i(hi:i<ts.length),∀x∈ts[i].fg,x.bi=2->⟨1,x.bj,(j+i:Nat),x.at,x.bj⟩∈(jG aq ts j s).d)
 |[],_,s,h,_=>⟨h,λ_ h=>h,by simp[jG],λi hi=>absurd hi (avm _)⟩
 |t::ts,j,s,h,g=>by unfold jG;have f:=g t zm;obtain⟨a,b,c,d⟩:=adw (ic:=aq.getD j []) (j:=j) (N:=N) t.fg s h f.f;obtain⟨a',k,l,m⟩:=adx ts (j+1) _ a λt n=>g t qaa;refine⟨a',λd hd=>k d (b d hd),?_,λi hi x o e=>?_⟩;have:t.fg.length*(N+1)<=N*(N+1):=at4 _ f.a;grind[Nat.add_mul];grind
end
structure Pv(Pd:aC->Prop)(s:Sc):Prop where
 a:s.b.Pairwise λu v=>u.a<v.a\/u.a=v.a/\u.c<v.c
 b:∀u∈s.b,C' Pd u s.c
 c:s.b.length<=54000
section
variable {Pd:aC->Prop}{E:fM}{nd:List aC}{hi:Int}{fs:List Tree}{aq:List (List UInt8)}{bu:List UInt8->List aC}
def Pw(u v:dx):Prop:=u.a<v.a\/u.a=v.a/\u.c<v.c
def tG.lo:∀{d:List dx}{lo:Int},tG Pd E nd lo d hi->∀u∈d,lo<=u.c/\u.a=E.j/\C' Pd u nd
 |_::_,_,a,u,h=>by rcases atZ.1 h with e|e;rw[e];exact⟨a.1,a.2.1,a.2.2.1⟩;obtain⟨b,c⟩:=a.2.2.2.lo u e;exact⟨by have:=a.1;omega,c⟩
def tG.pw:∀{d:List dx}{lo:Int},tG Pd E nd lo d hi->d.Pairwise Pw
 |[],_,_=>.nil
 |u::d,_,a=>.cons (λv e=>.inr (by obtain⟨b,c,_⟩:=a.2.2.2.lo v e;exact⟨by rw[a.2.1,c],by omega⟩)) a.2.2.2.pw
theorem ady{N:Nat}{k:List aC}(n:∀q,∀d∈bu q,Pd d) (y:∀q,∀d∈bu q,(d.b=2\/d.b=3)/\d∈k) (m:∀i(hi:i<fs.length),∀x∈fs[i].fg,x.bi=2->⟨1,x.bj,(i:Nat),x.at,x.bj⟩∈k):∀(ts:List Tree)(j:Nat)(s:Sc),(∀i,ts[i]? =fs[j+i]?)->(∀t∈ts,rG N 0 hi t)->(∀d∈k,d∈s.c)->s.b.Pairwise Pw->(∀u∈s.b,u.a<j/\C' Pd u s.c)->
 (uB fs aq bu ts j s).b.Pairwise Pw/\(∀u∈(uB fs aq bu ts j s).b,C' Pd u (uB fs aq bu ts j s).c)/\((uB fs aq bu ts j s).b.length:Int)<=s.b.length+ts.length*hi
 |[],j,s,_,_,_,l,b=>⟨l,λu h=>(b u h).2,by simp[uB]⟩
 |t::ts,j,s,r,p,o,l,b=>by
  unfold uB;have f:=p t zm;have g0:=r 0;obtain⟨B,F⟩:=at0.1 g0.symm;have C:Pt Pd (C3 fs aq bu j) k:=⟨y,λx z e=>by
   have q:(fs.getD j zT)=fs[j]:=by grind
   rw[show(C3 fs aq bu j).f=fs from rfl,show(C3 fs aq bu j).j=j from rfl,q] at z;exact m j B x z e,n⟩
  have w:=adt C _ t (aw7 _) 0 hi false [] aX ⟨aX,aX,s⟩ f.WP ⟨o,λ_ h=>qaa,.z,.z,.z⟩;generalize fU (C3 fs aq bu j) [] false aX t ⟨aX,aX,s⟩=w' at w|-;obtain⟨new,e,a⟩:=w.i;have e:=e;have lo:=a.lo;have D:=a.pi;have pw:w'.a.b.Pairwise Pw:=by rw[e];refine au9.2 ⟨l,a.pw,λu g v A=>.inl ?_⟩;have:=(b u g).1;have:=(lo v A).2.1;rw[this];exact(b u g).1
  obtain⟨c1,c2,c3⟩:=ady n y m ts (j+1) w'.a (λi=>by
   have:=r (i+1);grind) (λt h=>p t qaa) (λd h=>w.c d (o d h)) pw λu g=>by rw[e] at g;rcases auj.1 g with c|c;exact⟨by grind,(b u c).2.up w.c⟩;have:=lo u c;exact⟨by rw[this.2.1];show(j:Int)<_;omega,this.2.2⟩
  refine⟨c1,c2,avU c3 ?_⟩;rw[e,auk,atX];grind
end
def DG0:DG l9:=λ_ _ h=>by cases h
theorem amw{fs:List Tree}{aq:List (List UInt8)}(m:fs.length<=6)(g:∀t∈fs,rG 9006 0 9000 t):O5 fs aq/\∀f,Pv (λd=>∃q,d∈(jG aq fs 0 l9).a q) (Lw fs aq f):=by obtain⟨a,b,c,d⟩:=adx (aq:=aq) fs 0 l9 DG0 g;have k:=λfl=>ady (aq:=aq) (bu:=(jG aq fs 0 l9).a) (Pd:=λd=>∃q,d∈(jG aq fs 0 l9).a q) (λq d hd=>⟨q,hd⟩) a (λi hi x l e=>by have:=d i hi x l e;grind) fs 0 ⟨fl,(jG aq fs 0 l9).d,[]⟩ (λi=>by grind) g (λ_ h=>h) .nil (λ_ h=>by grind);refine⟨⟨λt h=>⟨(g t h).fh,(g t h).PH zm⟩,λt h=>(g t h).d,?_,λfl=>?_⟩,λf=>⟨(k f).1,(k f).2.1,by have:=(k f).2.2;unfold Lw;simp only[aup] at this;omega⟩⟩;have:(l9.d).length=0:=rfl;omega;grind
def amx{O:Orc}{a:List Doc}{rs:List (PR Tree)}{aq:List (List UInt8)}(hd:∀d∈a,d.a.length<=9000) (x:Ay O a rs aq) (ok:∀r∈rs,BF r):∀t∈rs.map pB,rG 9006 0 9000 t:=λt l=>by
 obtain⟨r,hr,e⟩:=auR.1 l;obtain⟨i,hi,h⟩:=avC hr;have f:i<a.length:=by have:=x.a;omega
 have g:=x.r i hi f;have n:=hd _ (auy f);have:=V8 O a[i].a zo;rw[<-g,h] at this;have k:=ok r hr;subst e;cases r with
 |b t m=>exact rG.up this zo zo
 |d=>cases k
 |c=>cases k
theorem Wb{O:Orc}{a:List Doc}(b:a.length<=6)(hd:∀d∈a,d.a.length<=9000) {rs:List (PR Tree)} {aq:List (List UInt8)} (x:Ay O a rs aq) (ok:∀r∈rs,BF r):O5 (rs.map pB) aq/\∀f,Pv (λd=>∃q,d∈(jG aq (rs.map pB) 0 l9).a q) (Lw (rs.map pB) aq f):=
 amw (by have:=x.a;grind) (amx hd x ok)
section
variable {T:aM->Option CF}
variable {o:Hp}{k:aK->Prop}{l:List dx}{s:Sc}{p aG tb:Nat}{c0 c1 c2 c8:AV}{f:List Doc}
def uC.g0(x:uC p aG tb c0 c1 c2 c8 h s)(g:ax h h'):uC p aG tb c0 c1 c2 c8 h' s:=by obtain⟨v,d,e⟩:=x.b;exact⟨⟨v,(g.f _ (Hp.lt d rfl) id).trans d,e.bc λq i _=>g.f q i id⟩,x.a.bc (g.f _ x.a.lt id),x.c⟩
def pA.pi(x:pA h v l){H:Hp}:aEW 1 H v=.v (.i l.length):=by rcases x with⟨rfl,rfl⟩|⟨_,q,t,rfl,_⟩<;>rfl
theorem alX(w:aA T)(x:pA h v l)(C:l.length<1073741824)(g:∀h' v',ax h h'->pA h' v' l->k (.a v' h')):aE T (W T) ⟨20⟩ [v] h k:=by
 rw[aJ w.t20];rcases x with⟨rfl,rfl⟩|⟨y,q,t,rfl,r,D⟩;simp(disch:=omega) [cJ];exact g _ _ (ah.cg _) (.inl ⟨rfl,rfl⟩);have B:=Hp.lt r rfl;obtain⟨n,m⟩:∃n,l.length=n+1:=⟨l.length- 1,by grind[List.length_pos_iff]⟩;simp(disch:=omega) [cJ];generalize e:(h.am _:Hp)=H;have c:∃t,H.ab h.a=.b 37 9 0 0 t:=⟨_,by rw[<-e];exact Hp.bv rfl⟩;have d:ax h H:=by rw[<-e];exact aZ
 obtain⟨t1,c⟩:=c;have u:=(d.f _ B id).trans r;have a:=acD (h:=H) (el:=37) (rw:=9) (b:=q) (cap:=l.length) (ex:=0) (Lt:=false) (n:=l.length) zm u zl;have A:=G2 (h:=H) (el:=37) (rw:=9) (bytes:=96) (n:=n) (i:=h.a) (len:=0) (l5:=0) (t:=t1) zm c zl a (by simp[lenOf,m]) (rV zo zo);rw[A];refine ag ?_;refine g _ _ (d.am _) (.inr ⟨y,H.a,jy fG 0 ([]++dw t l.length 0),by grind,?_,λj hj=>?_⟩);rw[Hp.bv rfl,jJ,m];rfl;have z:j<(dw t l.length 0).length:=by grind[oZ]
 rw[au5,wO z];have:=vw t l.length 0 j hj;grind
def acK(a:aA T)(x:uC p aG tb c0 c1 c2 c8 h s)(b:s.b.length<1073741824)(e:∀h' v',ax h h'->pA h' v' s.b->k (.a v' h')):aE T (W T) ⟨7⟩ [.a p 0] h k:=by rw[aJ a.t7];obtain⟨i,d,c⟩:=x.b;simp(disch:=omega) [d,cJ];refine alX a c.a b λh' v' g j=>?_;simp_all
def pC(ds:List Doc):Nat:=(ds.map λd=>d.a.length+d.b.length).sum
theorem al0{ds:List Doc}{i:Nat}(hi:i<ds.length):pC (ds.drop i)=ds[i].a.length+ds[i].b.length+pC (ds.drop (i+1)):=by grind[List.drop_eq_getElem_cons,pC]
theorem We:∀{ds:List Doc}{d:Doc},d∈ds->d.a.length+d.b.length<=pC ds
 |e::ds,d,h=>by
  have:pC (e::ds)=e.a.length+e.b.length+pC ds:=by rfl
  rcases atZ.1 h with q|q;grind;have:=We q;omega
theorem al1(C:aA T)(hd:vV h v f)(O:f.length<1073741824)(N:pC f<1073741824)(g:k (.a (.g (decide (f.length<=6/\pC f<=9000))) h)):aE T (W T) ⟨4⟩ [v] h k:=by
 rw[aJ C.t4];generalize E:CC.f (.g (z q4 6)) .k=D;generalize u:CC.d l4_0=L;refine ag ?_;subst u;have key:∀(m i:Nat)(d:Fr),m=f.length- i->i<=f.length->an 0 d=v->an 4 d=.i i->∀z:Nat,an 3 d=.i z->z+pC (f.drop i)=pC f->
  W T (.d l4_0) d h [] (bY 0 (bF (W T D) (finish T (W T) [.a 2] k))):=by
  intro m;induction m with
  |zero=>
   intro i d I hi f0 f4 z f3 A;have G:i=f.length:=zo;subst G;rw[aP];refine bK f0 f3 f4 (hd.pi (H:=h)) ?_;subst E;simp[pC] at A;by_cases c1:f.length<=6;have a:(f.length:Int)<=6:=zo;by_cases c2:z<=9000;have c:(z:Int)<=9000:=zo;refine cC f0 f3 (hd.pi (H:=h)) a c ?_;grind[pC];have c:¬(z:Int)<=9000:=zo;refine cC f0 f3 (hd.pi (H:=h)) a c ?_;rw[auK (by unfold pC;omega)] at g;exact g;have a:¬(f.length:Int)<=6:=zo;refine bK f0 f3 (hd.pi (H:=h)) a ?_;rw[auK zo] at g;exact g
  |succ m K=>
   intro i d I hi f0 f4 z f3 A;have e:i<f.length:=zo;have F:(i:Int)<f.length:=zo;have M:=al0 e;obtain⟨b,cap,ex,r,t,rfl,w,hr,J⟩:∃b cap ex r t,v=.c b 0 3 f.length cap ex/\tC (h.ab b) r t/\f.length<=r/\∀j,(hj:j<f.length)->t j=f[j].fj:=by rcases hd with⟨rfl,_⟩|x;simp at e;exact x
   have lb:=w.lt;have B:i<r:=zo;have y:=J i e;have n:=w.ld0 B y;have q:=w.yV B y;rw[aP];generalize u:CC.d l4_0=L;refine iR f0 f3 f4 e F n q ?_;subst u;refine K (i+1) _ zo zo zA aa (z+f[i].a.length+f[i].b.length) aa zo
 exact key _ 0 _ rfl (auz _) aa aa 0 aa zm
end
section
variable {T:aM->Option CF}{O:Orc}
def xx(lo:Nat)(h:Hp)(v:AV)(L:List Int):Prop:=
 L=[]/\v=.h\/L≠[]/\∃q r t,lo<=q/\v=.c q 0 1 L.length L.length false/\h.ab q=.b 3 1 r 0 t/\L.length<=r/\∀j,(hj:j<L.length)->t j=[.i L[j]]
def tD(h:Hp)(v:AV)(L:List Int):Prop:=
 L=[]/\v=.h\/∃q cap ex r t,(v=.c q 0 1 L.length cap ex/\L.length<=cap)/\h.ab q=.b 3 1 r 0 t/\L.length<=r/\∀j,(hj:j<L.length)->t j=[.i L[j]]
def vX:List dx->List Int
 |[]=>[]
 |u::f=>w64 (u.c- 10)::(if u.f=true then w64 (u.d.f- 10) else-1)::vX f
section
variable {d:Hp}{k:aK->Prop}{lo:Nat}{L:List Int}{f:List dx}
def xx.il(x:xx lo h v L):bQ v=some [v]:=by rcases x with⟨_,rfl⟩|⟨_,q,r,t,_,rfl,_⟩<;>rfl
def xx.iv(x:xx lo h v L):tD h v L:=by rcases x with x|⟨x,q,r,t,c,a,b⟩;exact .inl x;exact .inr ⟨q,_,_,r,t,⟨a,at2 _⟩,b⟩
def xx.g0(x:xx lo h v L)(g:ax h h'):xx lo h' v L:=by rcases x with x|⟨x,q,r,t,e,a,b,c⟩;exact .inl x;exact .inr ⟨x,q,r,t,e,a,by rw[g.f q (Hp.lt b rfl) id];omega,c⟩
theorem tD.kp(x:tD h v L)(g:∀i r t,h.ab i=.b 3 1 r 0 t->h'.ab i=h.ab i):tD h' v L:=by rcases x with x|⟨q,cap,ex,r,t,a,c,b⟩;exact .inl x;exact .inr ⟨q,cap,ex,r,t,a,by grind,b⟩
def tD.g0(x:tD h v L)(g:ax h h'):tD h' v L:=x.kp λi _ _ e=>g.f i (Hp.lt e rfl) id
theorem tD.fm(x:tD h v L)(g:Fm h h'):tD h' v L:=x.kp λi _ _ e=>g.d i (Hp.lt e rfl) qac
def tD.pi(x:tD h v L){H:Hp}:aEW 1 H v=.v (.i L.length):=by rcases x with⟨rfl,rfl⟩|⟨q,cap,ex,r,t,⟨rfl,_⟩,_⟩<;>rfl
theorem tD.ph(x:tD h v L){j:Nat}(hj:j<L.length):∃q cap ex r t,v=.c q 0 1 L.length cap ex/\h.ab q=.b 3 1 r 0 t/\L.length<=r/\∀j,(hj:j<L.length)->t j=[.i L[j]]:=by rcases x with⟨rfl,_⟩|x;grind;grind
theorem xx.ss(x:xx lo h v L)(J:L.length<1073741824)(F:lo<=h.a){K:List Int}{y:AV}(H:K≠[])(I:K.length<1073741824){b:Hp}(o:ax h b)(A:rL b 1 y=some (K.map λa=>[.i a])) (u:lenOf y=some K.length):
 ∃v' p,kJ b 3 1 8 v y=.b v' p/\xx lo p v' (L++K)/\∀d:Hp,d.a<=lo->ax d h->ax d p:=by
 obtain⟨m,em⟩:∃m,K.length=m+1:=⟨K.length- 1,by grind[List.length_pos_iff]⟩;have Q:=o.g;have cell:∀(t:N3 (List AV))(l j:Nat),l<=j->(hj:j- l<K.length)->jy t l (K.map λa=>[AV.i a]) j=[.i K[j- l]]:=λt l j b D=>by rw[G3,if_pos ⟨b,by grind⟩,aub,auh,atT D];rfl
 rcases x with⟨rfl,rfl⟩|⟨G,q,r,t,P,rfl,z,hr,N⟩;have s:=A7 (h:=b) (el:=3) (rw:=1) (bytes:=8) (n:=m) (y:=y) A (u.trans qaa) (rV zo zo);refine⟨_,_,s,.inr ⟨by grind,b.a,m+1,_,by omega,by grind,Hp.bv rfl,by grind,λj hj=>?_⟩,λd C g=>(g.ba o).am _⟩;grind;have B:=Hp.lt z rfl;have E:=(o.f _ B id).trans z;have s:=A8 (h:=b) (el:=3) (rw:=1) (bytes:=8) (n:=m) (i:=q) (len:=L.length) (l5:=r) (t:=t) (y:=y) E hr A (u.trans qaa) (rV zo zo);have e:(b.dT q .c).a=b.a:=Hp.my zo;refine⟨_,_,s,.inr ⟨by simp_all,b.a,L.length+(m+1),_,by omega,by grind,Hp.bv e.symm,by grind,λj hj=>?_⟩,λd C g=>((g.ba o).dT _ (.inl zo)).am _⟩;simp at hj;by_cases c:j<L.length;simp_all[G3,if_neg];grind
def aNV{H:Hp}{b cap a:Nat}{ex:Bool}{t:N3 (List AV)}(e:H.ab b=.b 3 1 1 0 t){x:Int}(c:t 0=[.i x]):rL H 1 (.c b 0 1 1 cap ex)=some ([x].map λa=>[.i a]):=by rw[wN e zl,c];rfl
theorem aNW{H:Hp}{b cap:Nat}{ex:Bool}{t:N3 (List AV)}(e:H.ab b=.b 3 1 2 0 t){x y:Int}(h0:t 0=[.i x])(c:t 1=[.i y]):rL H 1 (.c b 0 1 2 cap ex)=some ([x,y].map λa=>[.i a]):=by have:rL H 1 (.c b 0 1 2 cap ex)=some [t 0,t 1]:=acD (ex:=0) zm e zl;grind
end
def nG(body:List UInt8):Doc:=⟨[102,105,108,101,58,47,47,47,112,47,97,46,103,111],[112,97,99,107,97,103,101,32,112,10]++body,0⟩
structure Told(O:Orc)(body:List UInt8)(L:List Int):Prop where
 d:O3 O (nG body).a
 b:body.length<1000000
 a:rZ (nG body).b≠none
 c:∀rs aq,Ay O [nG body] rs aq->(∀r∈rs,BF r)->O5 (rs.map pB) aq
 f:∀rs aq f,Ay O [nG body] rs aq->VL rs aq f->f.e≠0->L=[f.e,w64 (f.a- 10)]
 p:∀rs aq s,Ay O [nG body] rs aq->acF rs aq s->s.a.e=0->s.b.length<1000000/\L=vX s.b
structure yQ(T:aM->Option CF)(O:Orc)(h:Hp):Prop where
 g:Ax T O h
 n:∀i,i<22->¬rF (h.ab i)
 m:cellsOf (h.ab 0) 0 1=some [.D]
section
variable {A:Hp}{k:aK->Prop}{lo:Nat}{L:List Int}{o:List dx}
theorem yQ.fm(x:yQ T O h)(g:Fm h h'):yQ T O h':=by have n:=x.g.1;have e:∀i,i<22->h'.ab i=h.ab i:=λi hi=>g.d i zo (x.n i hi);exact⟨⟨at1 n g.f,λa l b=>x.g.2 a (at1 g.f l) λi hi=>by grind⟩,λi hi=>by rw[e i hi];exact x.n i hi,by rw[e 0 zm];exact x.m⟩
def yQ.g0(x:yQ T O h)(g:ax h h'):yQ T O h':=x.fm (.of g)
theorem al4(b:aA T)(e:body.length<1073741824)(d:∀h' v',ax h h'->vV h' v' [nG body]->k (.a v' h')):aE T (W T) ⟨39⟩ [S body] h k:=by
 rw[aJ b.t39];have c:=Tc (l:=[112,97,99,107,97,103,101,32,112,10]) (m:=body) (by grind[List.length_cons]);refine aB c ?_;generalize a:(h.am _:Hp)=H;have u:∃t,H.ab h.a=.b 45 3 1 0 t/\t 0=(nG body).fj:=by rw[<-a];refine⟨_,Hp.bv rfl,?_⟩;rfl
 have g:ax h H:=by rw[<-a];exact aZ
 obtain⟨t,u,f⟩:=u;exact d _ _ g (.inr ⟨h.a,1,true,1,t,rfl,.inl ⟨0,u⟩,at2 _,λj hj=>by grind⟩)
def acL:∀o vs,vX (o++vs)=vX o++vX vs
 |[],_=>rfl
 |u::o,vs=>by simp only[auY,vX,acL o vs]
def acM:∀o,(vX o).length=2*o.length
 |[]=>rfl
 |u::o=>by simp[vX,atX,acM o];omega
theorem al6(HT:aA T)(E:pA A v o)(VT:o.length<1000000){K:aT->Prop}(hK:∀f' h' a,an 5 f'=a->ax A h'->xx A.a h' a (vX o)->K (.a 0 f' h' [])):∀(n j:Nat)(a:AV)(h:Hp)(d:Fr),j+n=o.length->ax A h->xx A.a h a (vX (o.take j))->
 an 5 d=a->an 6 d=v->an 7 d=.i j->W T (.d l22_0) d h [] K:=by
 intro n;induction n with
 |zero=>
  intro j a h d hj g D f5 f6 f7;rw[aP];refine bK f5 f6 f7 (E.pi (H:=h)) ?_;simp_all
 |succ n Z=>
  intro j a h d hj g D f5 f6 f7;have e:j<o.length:=zo;have i:(j:Int)<o.length:=zo;obtain⟨q,t,rfl,F,X⟩:∃q t,v=.c q 0 9 o.length o.length false/\A.ab q=.b 37 9 o.length 0 t/\∀j,(hj:j<o.length)->t j=o[j].fj:=by rcases E with⟨rfl,_⟩|⟨_,x⟩;grind;omega
  have lq:=Hp.lt F rfl;have ng:=g.g;have r:=(g.f _ lq id).trans F;have p:=X j e;have l:vX (o.take (j+1))=vX (o.take j)++[w64 (o[j].c- 10),if o[j].f=true then w64 (o[j].d.f- 10) else-1]:=by rw[avb e,acL];rfl
  have tl:=acM (o.take j);rw[auN] at tl;rw[aP];generalize S:CC.d l22_0=L;unfold l22_0 zt;have rest:∀(b:Fr)(x:Int),x=(if o[j].f=true then w64 (o[j].d.f- 10) else-1)->an 5 b=a->an 6 b=.c q 0 9 o.length o.length false->an 7 b=.i j->an 8 b=.i x->W T (CC.g (z q22 11)) b h [] (bY 1 (bF (W T (CC.g (z q22 12))) (bF (W T L) K))):=by
   intro b x Y J B C N;refine mz J B C N e i r p dx.fj.eq_1 ?_;generalize G:(h.am _:Hp)=f;obtain⟨t1,U,V,u⟩:∃t1:N3 (List AV),t1 0=[.i (w64 (o[j].c- 10))]/\t1 1=[.i x]/\f=h.am (.b 3 1 2 0 t1):=⟨_,by simp,by simp,G.symm⟩;have m:ax h f:=by rw[u];exact aZ
   have u1:f.ab h.a=.b 3 1 2 0 t1:=by rw[u];exact Hp.bv rfl
   obtain⟨v',I,P,s,Q⟩:=D.ss zo zo (K:=[w64 (o[j].c- 10),x]) (y:=.c h.a 0 1 2 2 true) zm zm m (aNW u1 U V) rfl;rw[P];refine aB C ?_;subst S;rw[Y,<-l] at s;exact Z (j+1) v' I _ zo (Q A zl g) s aa (au B) aa
  generalize hR:CC.g (z q22 11)=R at rest|-;by_cases c:o[j].f=true;refine nA f5 f6 f7 e i r p dx.fj.eq_1 c avg ?_;refine rest _ _ (by rw[if_pos c]) ?_ ?_ ?_ ?_;exact au f5;exact au f6;exact au f7;exact aa;refine mz f5 f6 f7 e i r p dx.fj.eq_1 c ?_;refine rest _ _ (by rw[if_neg c]) ?_ ?_ ?_ ?_;exact au f5;exact au f6;exact au f7;exact aa
theorem al7(b:aA T)(P:yQ T O h)(a:Told O body L)(y:∀h' v',Fm h h'->tD h' v' L->k (.a v' h')):aE T (W T) ⟨22⟩ [S body] h k:=by
 rw[aJ b.t22];have U:=a.b;refine ag ?_;refine al4 b zo λZ v1 g1 D=>?_;refine ag ?_;refine acJ b D zm (λd hd=>by simp_all[nG]) (λd hd=>by simp at hd;subst hd;exact a.d) (P.g0 g1).g a.c (λi g2 B=>?_) (λrs aq f i r J n g2=>?_) λrs aq s i p aG tb c0 c1 c2 c8 r N n g2 ps _=>?_;rcases B with⟨m,hm,_⟩|⟨d,hd,c⟩;grind;simp at hd;subst hd;exact absurd c a.a;have e:=a.f rs aq f r J n;refine aS cN.fj.eq_1 n ?_;generalize l:(Hp.am (Hp.dT (Hp.am _ _) _ _) _:Hp)=H;have u:∃q t,H.ab q=.b 3 1 2 0 t/\t 0=[.i f.e]/\t 1=[.i (w64 (f.a- 10))]/\q=i.a+1:=by rw[<-l];exact⟨_,_,Hp.bv rfl,by simp,by simp,aa⟩
 have g:ax i H:=by rw[<-l];exact fZ
 obtain⟨q,t,u,t0,t1,hq⟩:=u;refine y _ _ (((Fm.of g1).ba g2).ba (.of g)) (.inr ⟨q,2,true,2,t,⟨by grind,by grind⟩,u,by grind,λj hj=>?_⟩);have Y:j=0\/j=1:=by grind
 grind;obtain⟨C,e⟩:=a.p rs aq s r N n;subst e;generalize R:CC.f (.g (z q22 4)) _=V;refine ag ?_;generalize l:(Hp.dT (Hp.am _ _) _ _:Hp)=H;have x:ax i H:=by rw[<-l];exact fZ
 subst R;refine ag ?_;refine acK b (ps.g0 x) zo λI v3 G Q=>?_;refine ag ?_;exact al6 b Q C (λf' h' X E F K=>(aB E (y _ _ (((Fm.of g1).ba g2).ba (.of ((x.ba G).ba F))) K.iv))) s.b.length 0 .h I _ zo (ah.cg _) (.inl ⟨rfl,rfl⟩) aa aa aa
theorem acN(C:aA T)(Q:yQ T O h)(V:Told O body L)(X:tD h w M)(hL:L.length<1073741824)(hM:M.length<1073741824)(G:∀h',Fm h h'->k (.a (.g (decide (L=M))) h')):aE T (W T) ⟨12⟩ [S body,w] h k:=by
 rw[aJ C.t12];generalize Z:CC.f (.f (.g (z q12 4)) _) _=T4;refine ag ?_;refine al7 C Q V λd v g1 iv=>?_;have y:=X.fm g1;by_cases el:L.length=M.length;have B:(L.length:Int)=M.length:=zo;refine aU (iv.pi (H:=d)) (y.pi (H:=d)) B ?_;subst Z;generalize u:CC.d l12_0=K;refine ag ?_;subst u;have key:∀(n j:Nat)(f:Fr),j+n=L.length->(∀i(hi:i<j)(R:i<L.length)(NO:i<M.length),L[i]=M[i])->an 5 f=v->an 1 f=w->an 6 f=.i j->
  W T (.d l12_0) f d [] (bY 0 (bF (W T (.f (.g (z q12 9)) .k)) (finish T (W T) [.a 4] k))):=by
  intro n;induction n with
  |zero=>
   intro j f hj U f5 g f6;rw[aP];refine bK f5 f6 g (iv.pi (H:=d)) ?_;grind[List.ext_getElem]
  |succ n Y=>
   intro j f hj U f5 g f6;have s:j<L.length:=zo;have p:j<M.length:=zo;have E:(j:Int)<L.length:=zo;have P:(j:Int)<M.length:=zo;obtain⟨q,cap,ex,r,t,rfl,F,hr,N⟩:=iv.ph s;obtain⟨q',U4,Ey,r',t',rfl,J,qY,x⟩:=y.ph p;have l:=N j s;have m:=x j p;have I:j<r:=zo;have D:j<r':=zo;rw[aP];generalize u:CC.d l12_0=K;by_cases c:L[j]=M[j];refine kC f5 f6 g E p s F J l m I D c ?_;subst u;refine Y (j+1) _ zo (λi hi a b=>?_) (au f5) (au g) aa;grind;refine kC f5 f6 g E p s F J l m I D c ?_;have:=G d g1;rw[auK (λe=>c qaa)] at this;exact this
 exact key L.length 0 _ zo (λi hi=>by omega) aa aa aa;have B:¬(L.length:Int)=M.length:=zo;refine aU (iv.pi (H:=d)) (y.pi (H:=d)) B ?_;have:=G d g1;rw[auK (λe=>el (by rw[e]))] at this;exact this
def Pe:List UInt8:=[102,117,110,99,32,102,40,97,32,105,110,116,41,32,105,110,116,32,123,32,98,32,58,61,32,97,59,32,123,32,97,32,58,61,32,98,59,32,114,101,116,117,114,110,32,97,32,125,59,32,114,101,116,117,114,110,32,97,32,125]
def Pf:List UInt8:=[102,117,110,99,32,102,40,41,32,123,32,97,32,58,61,32,49,59,32,97,32,58,61,32,50,32,125]
def Ph:List Int:=[25,7,35,20,45,30,57,7]
def Pj:List Int:=[13,19]
def aF3(c:aA T)(l:yQ T O h)(n:Told O Pe Ph)(A:Told O Pf Pj)(p:∀h',Fm h h'->k (.a (.g true) h')):aE T (W T) ⟨5⟩ [] h k:=by
 rw[aJ c.t5];refine ag ?_;generalize i:(h.am _:Hp)=H;have d:ax h H:=by rw[<-i];exact aZ
 have iv:tD H (.c h.a 0 1 8 8 true) Ph:=by
  refine .inr ⟨h.a,8,true,8,?_,⟨rfl,by decide⟩,by rw[<-i];exact Hp.bv rfl,by decide,λj hj=>?_⟩;have hj:=hj
  match j,hj with
  |0,_=>rfl
  |1,_=>rfl
  |2,_=>rfl
  |3,_=>rfl
  |4,_=>rfl
  |5,_=>rfl
  |6,_=>rfl
  |7,_=>rfl
 refine acN c (l.g0 d) n iv zd zd λb g1=>?_;refine ag ?_;generalize g:(b.am _:Hp)=f;have a:ax b f:=by rw[<-g];exact aZ
 have e:tD f (.c b.a 0 1 2 2 true) Pj:=by
  refine .inr ⟨b.a,2,true,2,?_,⟨rfl,by decide⟩,by rw[<-g];exact Hp.bv rfl,by decide,λj hj=>?_⟩;have hj:=hj
  match j,hj with
  |0,_=>rfl
  |1,_=>rfl
 exact acN c (((l.g0 d).fm g1).g0 a) A e zd zd λq m=>(ag (p _ ((((Fm.of d).ba g1).ba (.of a)).ba m)))
end
end
structure Ren where
 M:Int->Bool
 c:Int->Int
 b:List UInt8
 d:List UInt8
def Ren.nm(R:Ren)(a:Int)(s:List UInt8):List UInt8:=if R.M a=true/\s=R.b then R.d else s
def Ren.tk(R:Ren)(t:Tk):Tk:=⟨t.c,R.nm t.a t.b,R.c t.a,R.c t.d⟩
mutual
def Ren.T(R:Ren):Tree->Tree
 |.mk k f t a n ks=>.mk k (R.c f) (R.c t) (R.c a) (R.nm a n) (R.L ks)
def Ren.L(R:Ren):List Tree->List Tree
 |[]=>[]
 |t::ts=>R.T t::R.L ts
end
def PR.mp{g h:Type}(f:g->h)(sh:Int->Int):PR g->PR h
 |.b a n=>.b (f a) n
 |.d p e=>.d (sh p) e
 |.c=>.c
theorem y9{h i o δ:Type}{f:h->i}{g:o->δ}{sh:Int->Int}{r:PR h}{m:PR i}{k:h->Nat->PR o}{j:i->Nat->PR δ}(hr:m=r.mp f sh)(q:∀a n,r=.b a n->j (f a) n=(k a n).mp g sh):m.dC j=(r.dC k).mp g sh:=by
 subst hr;cases r with
 |b a n=>exact q a n rfl
 |d p e=>rfl
 |c=>rfl
structure aE1(R:Ren)(l:List Tk):Prop where
 z:R.c 0=0
 i:R.b≠[]
 b:∀t∈l,R.M t.a=true->t.c=1
 j:R.b≠[112,114,105,110,116]
 m:R.b≠[112,97,110,105,99]
 d:R.d≠[112,114,105,110,116]
 g:R.d≠[112,97,110,105,99]
section
variable {R:Ren}{l:List Tk}(H:aE1 R l)
include H
def aE1.nil(a:Int):R.nm a []=[]:=by unfold Ren.nm;rw[if_neg];exact λh=>H.i h.2.symm
theorem aE1.tk(n:Nat):tk (l.map R.tk) n=R.tk (tk l n):=by
 unfold Yv.tk;rw[aub,aub,auh];cases l[n]? with
 |some t=>rfl
 |none=>
  show(⟨0,[],0,0⟩:Tk)=⟨0,R.nm 0 [],R.c 0,R.c 0⟩;rw[H.nil,H.z]
def aE1.text{n:Nat}(h:(Yv.tk l n).c≠1):(R.tk (Yv.tk l n)).b=(Yv.tk l n).b:=by
 unfold Yv.tk at h|-;rw[aub] at h|-;cases e:l[n]? with
 |none=>exact H.nil _
 |some t=>
  rw[e] at h;exact if_neg λq=>h (H.b t (aua e) q.1)
def aE1.rx(n:Nat)(ws:List (List UInt8)):bD (Yv.tk (l.map R.tk) n) ws=bD (Yv.tk l n) ws:=by rw[H.tk];by_cases c:(Yv.tk l n).c=1;unfold Yv.bD;rw[show(R.tk (Yv.tk l n)).c=1 from c,c];rfl;unfold Yv.bD;rw[H.text c];rfl
def aE1.wd(n:Nat)(k f a:Int)(s:List UInt8)(ks:List Tree):aV (l.map R.tk) n k (R.c f) (R.c a) (R.nm a s) (R.L ks)=R.T (aV l n k f a s ks):=by unfold Yv.aV;rw[H.tk];rfl
def aE1.va(n:Nat)(k f a:Int)(ks:List Tree):Yv.aV (l.map R.tk) n k (R.c f) (R.c a) [] (R.L ks)=R.T (Yv.aV l n k f a [] ks):=by rw[<-H.wd,H.nil]
def aE1.plain(n:Nat):o7 (Yv.tk (l.map R.tk) n)=o7 (Yv.tk l n):=by rw[H.tk];by_cases c:(Yv.tk l n).c=1;unfold o7;rw[show(R.tk (Yv.tk l n)).c=1 from c,c];rfl;unfold o7;rw[H.text c];rfl
def aE1.level(n:Nat):Bb (Yv.tk (l.map R.tk) n)=Bb (Yv.tk l n):=by rw[H.tk];by_cases c:(Yv.tk l n).c=1;unfold Bb;rw[show(R.tk (Yv.tk l n)).c=1 from c,c];rfl;unfold Bb;rw[H.text c];rfl
def aE1.yv(n:Nat):(Yv.tk (l.map R.tk) n).c=(Yv.tk l n).c:=by rw[H.tk];rfl
def aE1.ib(n:Nat):(Yv.tk (l.map R.tk) n).a=R.c (Yv.tk l n).a:=by rw[H.tk];rfl
def aE1.txt(n:Nat):(Yv.tk (l.map R.tk) n).b=R.nm (Yv.tk l n).a (Yv.tk l n).b:=by rw[H.tk];rfl
def aFs(q:Int)(n:Nat):jR (l.map R.tk) q n=(jR l q n).mp R.tk R.c:=by unfold jR;rw[H.yv,H.ib,H.tk];split<;>rfl
def aFK(x:List UInt8)(n:Nat):lR (l.map R.tk) x n=(lR l x n).mp R.tk R.c:=by unfold lR;rw[H.rx,H.ib,H.tk];split<;>rfl
theorem aI8(n:Nat):Ct (l.map R.tk) n=(Ct l n).mp R.T R.c:=by
 unfold Ct;rw[H.rx,H.ib,H.txt];split;exact aui (PR.b · _) (H.wd _ _ _ _ _ []);refine y9 (aFs H ..) λt m e=>?_;have a:t=Yv.tk l n:=by grind[jR]
 subst a;rw[H.rx];split;refine y9 (aFs H ..) λu o _=>?_;show PR.b (aV _ _ _ _ _ _ [aV _ _ _ _ _ (R.nm _ _) (R.L [])]) o=_;rw[H.wd];exact aui (PR.b · _) (H.wd _ _ _ _ _ [_]);exact aui (PR.b · _) (H.wd _ _ _ _ _ [])
def aKG(k:Int)(n:Nat):En (l.map R.tk) k n=(En l k n).mp R.T R.c:=by exact y9 (aFs H ..) λt m _=>y9 (aI8 H ..) λx o _=>(aui (PR.b · _) (H.wd _ _ _ _ _ [_]))
def aKH{right:List UInt8}{g b:Nat->PR Tree}{c a:Nat->PR Unit}(d:∀n,b n=(g n).mp R.T R.c) (e:∀n,a n=(c n).mp id R.c):∀f n,ug (l.map R.tk) right b a f n=(ug l right g c f n).mp R.L R.c
 |0,_=>rfl
 |f+1,n=>by unfold ug;rw[H.rx];split;rfl;refine y9 (d n) λt m _=>?_;rw[H.rx];split;rfl;exact y9 (e m) λ_ o _=>y9 (aKH d e f o) λts q _=>rfl
def aGN{left right:List UInt8}{d b:Nat->PR Tree}{c a:Nat->PR Unit}(e:∀n,b n=(d n).mp R.T R.c) (g:∀n,a n=(c n).mp id R.c) (op:Int) (f n:Nat):wS (l.map R.tk) left right b a op f n=(wS l left right d c op f n).mp R.L R.c:=by unfold wS;rw[H.rx,H.ib];split;split;rfl;refine y9 (aKH H e g f _) λts m _=>?_;rw[H.rx,H.ib];split<;>rfl;rfl
def aI9(right:List UInt8)(n:Nat):Cu (l.map R.tk) right n=(Cu l right n).mp id R.c:=by refine y9 (aFK H ..) λ_ m _=>?_;rw[H.rx,H.ib];split<;>rfl
def aGd(n:Nat):mU (l.map R.tk) n=(mU l n).mp id R.c:=by exact y9 (aFs H ..) λ_ m _=>rfl
end
def NmQ(t:Tree):Prop:=t.bi=25->t.at=t.ib
def PQ(r:PR Tree):Prop:=∀a n,r=.b a n->NmQ a
theorem PQ.dC{f:Type}{r:PR f}{k:f->Nat->PR Tree}(h:∀a n,PQ (k a n)):PQ (r.dC k):=by
 cases r with
 |b a n=>simp_all
 |d p e=>exact λ_ _ q=>by cases q
 |c=>exact λ_ _ q=>by cases q
def PQ.IR{r:PR Tree}{k:Tree->Nat->PR Tree}(hr:PQ r)(h:∀a n,NmQ a->PQ (k a n)):PQ (r.dC k):=by
 cases r with
 |b a n=>exact h a n (hr a n rfl)
 |d p e=>simp_all
 |c=>exact λ_ _ q=>by cases q
theorem PQ.ok{a:Tree}{n:Nat}(h:NmQ a):PQ (.b a n):=λ_ _ q=>by grind
theorem PQ.er{p e:Int}:PQ (.d p e):=λ_ _ q=>by grind
def NmQ.ne{l:List Tk}{n:Nat}{k f a:Int}{s:List UInt8}{ks:List Tree}(h:k≠25):NmQ (aV l n k f a s ks):=λe=>(h e).elim
theorem NmQ.eq{l:List Tk}{n:Nat}{k f:Int}{s:List UInt8}{ks:List Tree}:NmQ (aV l n k f f s ks):=λ_=>rfl
section
variable {l:List Tk}{F:Nat}{ex:Int->Bool->Int->Nat->PR Tree}
theorem aKI(op:Int)(x:Tree)(n:Nat):PQ (Cv l F ex op x n):=PQ.dC λ_ _=>PQ.ok (NmQ.ne zm)
theorem aNX(op:Int)(hd:Bool)(n:Nat):PQ (Km l F ex op hd n):=by grind[Km,aKI,PQ.ok,NmQ.eq,PQ.dC,NX,PQ.er]
def aHG(op:Int)(hd:Bool):∀g x n,NmQ x->PQ (ye l F ex op hd g x n)
 |0,_,_,_=>λ_ _ q=>by cases q
 |g+1,x,n,a=>by unfold ye;split;refine PQ.dC λt m=>?_;split;exact PQ.IR (aKI _ _ _) λy o b=>aHG op hd g y o b;exact aHG op hd g _ _ (NmQ.ne zm);split;exact PQ.dC λ_ _=>aHG op hd g _ _ (NmQ.ne zm);exact PQ.ok a
theorem aI'(op:Int)(hd:Bool)(n:Nat):PQ (aEZ l F ex op hd n):=PQ.IR (aNX _ _ _) λx m a=>aHG op hd F x m a
theorem aNY(op:Int)(hd:Bool):∀g n,PQ (G8 l F ex op hd g n)
 |0,_=>λ_ _ q=>by cases q
 |g+1,n=>by grind[G8,PQ.dC,PQ.ok,NmQ.eq,aI']
def aKJ(op:Int)(hd:Bool)(a:Int):∀g x n,NmQ x->PQ (G9 l ex op hd a g x n)
 |0,_,_,_=>λ_ _ q=>by cases q
 |g+1,x,n,b=>by unfold G9;split;exact PQ.dC λ_ _=>aKJ op hd a g _ _ (NmQ.ne zm);exact PQ.ok b
def aNZ:∀f op hd a n,PQ (zU l F f op hd a n)
 |0,_,_,_,_=>λ_ _ q=>by cases q
 |f+1,op,hd,a,n=>PQ.IR (aNY _ _ _ _) λx m b=>aKJ op hd a F x m b
end
section
variable {R:Ren}{l:List Tk}(H:aE1 R l){F:Nat}{ex v:Int->Bool->Int->Nat->PR Tree}
def ExR(R:Ren)(ex v:Int->Bool->Int->Nat->PR Tree):Prop:=∀op hd a n,v op hd a n=(ex op hd a n).mp R.T R.c
def ExQ(ex:Int->Bool->Int->Nat->PR Tree):Prop:=∀op hd a n,PQ (ex op hd a n)
variable (E:ExR R ex v)
include H E
def aKK(op:Int)(n:Nat):Kj (l.map R.tk) F v op n=(Kj l F ex op n).mp R.L R.c:=
 aGN H (λn=>E _ _ _ n) (λn=>aI9 H _ n) op F n
def aN0(op:Int)(hd:Bool)(n:Nat):Kl (l.map R.tk) v op hd n=(Kl l ex op hd n).mp R.T R.c:=by exact y9 (aFs H ..) λt m _=>y9 (aFK H ..) λ_ o _=>y9 (E ..) λx q _=>aui (PR.b · _) (H.wd _ _ _ _ _ [_])
theorem aKL(op:Int)(x:Tree)(n:Nat):Cv (l.map R.tk) F v op (R.T x) n=(Cv l F ex op x n).mp R.T R.c:=by refine y9 (aGN H (λn=>aN0 H E _ _ n) (λn=>aI9 H _ n) op F n) λts m _=>?_;rw[H.ib];cases x;exact aui (PR.b · _) (H.va _ _ _ _ (_::_))
def aN1(op:Int)(n:Nat):NX (l.map R.tk) v op n=(NX l ex op n).mp R.T R.c:=by unfold NX;rw[H.rx,H.ib];split;split;rfl;refine y9 (E ..) λx m _=>?_;rw[H.rx,H.ib];split;exact aui (PR.b · _) (H.va _ _ _ _ [_]);rfl;rfl
theorem aN2(op:Int)(hd:Bool)(n:Nat):Km (l.map R.tk) F v op hd n=(Km l F ex op hd n).mp R.T R.c:=by unfold Km;rw[H.plain,H.rx,H.rx,H.ib,H.txt];split;split;have q:=H.wd (n+1) 8 (Yv.tk l n).a (Yv.tk l n).a (Yv.tk l n).b [];grind[Ren.L,aKL];exact aui (PR.b · _) (H.wd _ _ _ _ _ []);split;exact y9 (aKK H E ..) λts m _=>(aui (PR.b · _) (H.wd _ _ _ _ _ _));exact aN1 H E ..
theorem aHH(op:Int)(hd:Bool):∀g x n,ye (l.map R.tk) F v op hd g (R.T x) n=(ye l F ex op hd g x n).mp R.T R.c
 |0,_,_=>rfl
 |g+1,x,n=>by
  have b:(R.T x).bi=x.bi:=by cases x;rfl
  have a:(R.T x).ib=R.c x.ib:=by cases x;rfl
  unfold ye;rw[H.rx,H.rx,b];split;refine y9 (aFs H ..) λt m _=>?_;rw[H.rx];split;have q:=H.wd m 9 x.ib t.a t.b [x];simp[Ren.L] at q;rw[a,show(R.tk t).a=R.c t.a from rfl,show(R.tk t).b=R.nm t.a t.b from rfl,q];exact y9 (aKL H E ..) λy o _=>aHH op hd g y o;have q:=H.wd m 26 x.ib t.a t.b [x];simp[Ren.L] at q;rw[a,show(R.tk t).a=R.c t.a from rfl,show(R.tk t).b=R.nm t.a t.b from rfl,q];exact aHH op hd g _ _;split;refine y9 (aKK H E ..) λts m _=>?_;have q:=H.va m 27 x.ib (Yv.tk l n).a (x::ts);simp[Ren.L] at q;rw[a,H.ib,q];exact aHH op hd g _ _;rfl
theorem aJa(op:Int)(hd:Bool)(n:Nat):aEZ (l.map R.tk) F v op hd n=(aEZ l F ex op hd n).mp R.T R.c:=by grind[aEZ,y9,aN2,aHH]
def aKM(op:Int)(hd:Bool):∀g n,G8 (l.map R.tk) F v op hd g n=(G8 l F ex op hd g n).mp R.T R.c
 |0,_=>rfl
 |g+1,n=>by unfold G8;rw[H.rx,H.ib,H.txt];split;exact y9 (aKM op hd g (n+1)) λx m _=>aui (PR.b · _) (H.wd _ _ _ _ _ [_]);exact aJa H E ..
def aKN(op:Int)(hd:Bool)(a:Int):∀g x n,G9 (l.map R.tk) v op hd a g (R.T x) n=(G9 l ex op hd a g x n).mp R.T R.c
 |0,_,_=>rfl
 |g+1,x,n=>by
  have b:(R.T x).ib=R.c x.ib:=by cases x;rfl
  unfold G9;rw[H.level];split;refine y9 (E ..) λy m _=>?_;have q:=H.wd m 31 x.ib (Yv.tk l n).a (Yv.tk l n).b [x,y];simp[Ren.L] at q;rw[b,H.ib,H.txt,q];exact aKN op hd a g _ _;rfl
end
section
variable {R:Ren}{l:List Tk}(H:aE1 R l){F:Nat}
include H
def aJb:∀f,ExR R (zU l F f) (zU (l.map R.tk) F f)
 |0,_,_,_,_=>rfl
 |f+1,op,hd,a,n=>y9 (aKM H (aJb f) op hd F n) λx m _=>aKN H (aJb f) op hd a F x m
theorem aKO:∀t:Tree,Aa (R.T t)=Aa t
 |.mk q f t a n []=>by rfl
 |.mk q f t a n (k::ks)=>by simp[Ren.T,Ren.L,Aa];rw[aKO k]
def aN3(t:Tree):Hs (R.T t)=Hs t:=by
 cases t with
 |mk k f t a n ks=>
  show(decide (k=27)||decide (k=32)&&(decide (R.nm a n=_)||decide (R.nm a n=_)))=(decide (k=27)||decide (k=32)&&(decide (n=_)||decide (n=_)));unfold Ren.nm;split;rename_i q;rw[q.2];simp only[H.j,H.m,H.d,H.g];rfl
end
section
variable {R:Ren}{l:List Tk}(H:aE1 R l){F:Nat}{ex j:Int->Bool->Int->Nat->PR Tree}(E:ExR R ex j)(Q:ExQ ex)
theorem aHI(t:Tree):(R.T t).bi=t.bi:=by cases t;rfl
def aJc(t:Tree):(R.T t).ib=R.c t.ib:=by cases t;rfl
theorem aGO(t:Tree):(R.T t).bj=R.nm t.at t.bj:=by cases t;rfl
include H
def aFt:R.T zT=zT:=by show Tree.mk 0 (R.c 0) (R.c 0) (R.c 0) (R.nm 0 []) []=_;rw[H.z,H.nil];rfl
omit H
include H E
def aJd(op:Int)(hd:Bool)(x:Tree)(b:NmQ x)(a:Bool)(n:Nat):uj (l.map R.tk) j op hd (R.T x) a n=(uj l ex op hd x a n).mp R.T R.c:=by
 unfold uj;rw[aHI,H.rx,H.rx,aKO H,aN3 H,H.ib];split;rename_i c;refine y9 (E ..) λy m _=>?_;have q:=H.wd m 12 x.ib x.ib x.bj [y];simp[Ren.L] at q;rw[aJc,aGO,b c.2.1,q];rfl;cases Aa x with
 |none=>rfl
 |some p=>
  simp;split;refine y9 (E ..) λy m _=>?_;have q:=H.va m 13 x.ib (Yv.tk l n).a [x,y];simp[Ren.L] at q;rw[aJc,q];rfl;split;have q:=H.va n 20 x.ib x.ib [x];simp[Ren.L] at q;rw[aJc,q];rfl;rfl
include Q
theorem aN4(op:Int)(n:Nat):Ks (l.map R.tk) F j op n=(Ks l F ex op n).mp (λp=>(R.T p.1,R.T p.2.1,R.T p.2.2)) R.c:=by
 refine y9 (f:=λp=>(R.T p.1,R.T p.2.1,p.2.2)) ?_ λr m _=>?_;rw[H.yv];split;refine y9 (E ..) λx m e=>?_;rw[H.rx];split;show PR.b (zT,R.T x,true) m=PR.b (R.T zT,R.T x,true) m;rw[aFt H];exact y9 (aJd H E _ _ _ (Q _ _ _ _ _ _ e) _ _) λi o _=>by show PR.b (R.T i,zT,false) o=PR.b (R.T i,R.T zT,false) o;rw[aFt H]
 show PR.b (zT,zT,false) n=PR.b (R.T zT,R.T zT,false) n;rw[aFt H];split;show PR.b (zT,_,zT) m=PR.b (R.T zT,_,R.T zT) m;rw[aFt H];refine y9 (aGd H _) λ_ o _=>y9 (f:=R.T) ?_ λx q _=>y9 (aGd H _) λ_ s _=>y9 (f:=R.T) ?_ λz v _=>rfl;rw[H.yv];split;exact E ..;show PR.b zT o=PR.b (R.T zT) o;rw[aFt H];rw[H.rx];split;show PR.b zT s=PR.b (R.T zT) s;rw[aFt H];exact y9 (aJa H E ..) λy u e=>aJd H E _ _ _ (aI' _ _ _ _ _ e) _ _
omit Q
def aN5(op:Int)(n:Nat):Kt (l.map R.tk) j op n=(Kt l ex op n).mp R.T R.c:=by refine y9 (aFK H ..) λt m _=>y9 (aFs H ..) λu o _=>y9 (f:=R.T) ?_ λty q _=>y9 (f:=R.T) ?_ λe r _=>?_;rw[H.rx];split;show PR.b zT o=PR.b (R.T zT) o;rw[aFt H];exact aI8 H ..;rw[H.rx];split;exact E ..;show PR.b zT q=PR.b (R.T zT) q;rw[aFt H];exact aui (PR.b · _) (H.wd _ _ _ _ _ [_,_])
omit E
def aKP(k:Int)(n:Nat):Ht (l.map R.tk) k n=(Ht l k n).mp R.T R.c:=by unfold Ht;rw[H.yv,H.ib,H.ib,H.txt];split;exact aui (PR.b · _) (H.va _ _ _ _ []);exact aui (PR.b · _) (H.wd _ _ _ _ _ [])
section
variable {st d:Int->Nat->PR Tree}(S:∀op n,d op n=(st op n).mp R.T R.c)
include S
def aGP(op:Int)(n:Nat):vE (l.map R.tk) F d op n=(vE l F st op n).mp R.T R.c:=by refine y9 (aGN H (λn=>S _ n) (λn=>aGd H n) op F n) λts m _=>?_;rw[H.ib];exact aui (PR.b · _) (H.va _ _ _ _ _)
include E
def aKQ(op:Int):∀g n,Hu (l.map R.tk) F j d op g n=(Hu l F ex st op g n).mp R.T R.c
 |0,_=>rfl
 |g+1,n=>by refine y9 (aFK H ..) λt m _=>y9 (E ..) λc o _=>y9 (aGP H S ..) λb q _=>y9 (f:=R.T) ?_ λe r _=>?_;rw[H.rx,H.rx];split;split;exact aKQ op g _;exact aGP H S ..;show PR.b zT q=PR.b (R.T zT) q;rw[aFt H];exact aui (PR.b · _) (H.va _ _ _ _ [_,_,_])
include Q
theorem aKR(op:Int)(n:Nat):Hv (l.map R.tk) F j d op n=(Hv l F ex st op n).mp R.T R.c:=by refine y9 (aFK H ..) λt m _=>y9 (f:=λp:Tree×Tree×Tree=>(R.T p.1,R.T p.2.1,R.T p.2.2)) ?_ λp o _=>y9 (aGP H S ..) λb q _=>?_;rw[H.rx];split;show PR.b (zT,zT,zT) m=PR.b (R.T zT,R.T zT,R.T zT) m;rw[aFt H];grind[aN4];exact aui (PR.b · _) (H.va _ _ _ _ [_,_,_,_])
theorem aN6{op:Int}{hd:Bool}{n:Nat}{x:Tree}{m:Nat}(e:aEZ l F ex op hd n=.b x m)(k:x.bi=25):x.at=(Yv.tk l n).a:=by
 have lit:∀op y n x m,Cv l F ex op y n=.b x m->x.bi≠25:=by intro op y n x m e;unfold Cv at e;cases h:wS l [123] [125] (Kl l ex (op+1) false) (Cu l [125]) op F n<;>rw[h] at e<;>simp only[PR.dC] at e<;>cases e;show¬((28:Int)=25);simp
 have f:∀g y n x m,ye l F ex op hd g y n=.b x m->x.bi=25->x=y:=by
  intro g;induction g with
  |zero=>intro _ _ _ _ e;cases e
  |succ g o=>
   intro y n x m e k;unfold ye at e;have c:∀{z:Tree}{q:Nat},z.bi≠25->ye l F ex op hd g z q=.b x m->x=y:=λi e=>by grind
   split at e
   ·cases b:jR l 1 (n+1)<;>rw[b] at e<;>simp only[PR.dC] at e<;>try cases e
    split at e;grind;exact c (by show¬((26:Int)=25);simp) e
   ·split at e
    ·cases b:Kj l F ex op n<;>rw[b] at e<;>simp only[PR.dC] at e<;>try cases e
     exact c (by show¬((27:Int)=25);simp) e
    grind
 unfold aEZ at e;cases a:Km l F ex op hd n<;>rw[a] at e<;>simp only[PR.dC] at e<;>try cases e
 rename_i y q;have:=f _ _ _ _ _ e k;subst this;unfold Km at a;split at a;split at a;grind;cases a;rfl
 ·split at a;cases b:Kj l F ex op (n+1)<;>rw[b] at a<;>simp only[PR.dC] at a<;>cases a;rfl
  ·unfold NX at a;split at a
   ·split at a;grind
    ·cases b:ex (op+1) false 0 (n+1)<;>rw[b] at a<;>simp only[PR.dC] at a<;>try cases a
     split at a;cases a;rfl;grind
   grind
def aN7(op:Int)(n:Nat):Ku (l.map R.tk) F j d op n=(Ku l F ex st op n).mp R.T R.c:=by unfold Ku;simp[H.rx,H.yv,H.ib];split;exact aGP H S ..;split;exact aKQ H E S ..;split;exact aKR H E Q S ..;split;exact aN5 H E ..;split;exact aKP H ..;split;exact aKP H ..;split;split;exact aui (PR.b · _) (H.va _ _ _ _ []);exact y9 (E ..) λx m _=>(aui (PR.b · _) (H.va _ _ _ _ [_]));refine y9 (aJa H E ..) λx m e=>?_;rw[aHI];split;rename_i c;refine y9 (aKR H E Q S ..) λy o _=>?_;have q:=H.wd o 16 (Yv.tk l n).a (Yv.tk l n).a x.bj [y];simp[Ren.L] at q;rw[aGO,aN6 H E Q S e c.1,q];rfl;exact aJd H E _ _ _ (aI' _ _ _ _ _ e) _ _
end
end
section
variable {R:Ren}{l:List Tk}(H:aE1 R l){F:Nat}
include H
def aKS{ex j:Int->Bool->Int->Nat->PR Tree}(E:ExR R ex j)(Q:ExQ ex):∀f op n,Hw (l.map R.tk) F j f op n=(Hw l F ex f op n).mp R.T R.c
 |0,_,_=>rfl
 |f+1,op,n=>aN7 H E Q (λop n=>aKS E Q f op n) op n
def aN8(op:Int)(n:Nat):Kv (l.map R.tk) op n=(Kv l op n).mp R.T R.c:=by unfold Kv;rw[H.rx,H.ib];split;split;rfl;refine y9 (aFs H ..) λt m _=>y9 (aFs H ..) λu o _=>?_;rw[H.rx,H.ib];split;have q:=H.wd o 8 u.a u.a u.b [];have q2:=H.wd o 7 t.a t.a t.b [Yv.aV l o 8 u.a u.a u.b []];simp[Ren.L] at q q2;show PR.b (aV _ _ _ (R.c t.a) (R.c t.a) (R.nm t.a t.b) [aV _ _ _ (R.c u.a) (R.c u.a) (R.nm u.a u.b) []]) _=_;rw[q,q2];rfl;rfl;rfl
theorem aN9{st d:Int->Nat->PR Tree}(S:∀op n,d op n=(st op n).mp R.T R.c) (op:Int) (n:Nat):Kw (l.map R.tk) F d op n=(Kw l F st op n).mp R.T R.c:=by refine y9 (aFK H ..) λt m _=>y9 (f:=R.T) ?_ λr o _=>y9 (aFs H ..) λu q _=>y9 (aGN H (λn=>aKG H _ n) (λn=>aI9 H _ n) op F q) λps s _=>y9 (f:=R.T) ?_ λty v _=>y9 (aGP H S ..) λb w _=>?_;rw[H.rx];split;exact aN8 H ..;show PR.b zT m=PR.b (R.T zT) m;rw[aFt H];rw[H.rx];split;show PR.b zT s=PR.b (R.T zT) s;rw[aFt H];exact aI8 H ..;have q1:=H.va s 6 (Yv.tk l q).a (Yv.tk l q).a ps;have q2:=H.wd w 5 t.a u.a u.b [r,Yv.aV l s 6 (Yv.tk l q).a (Yv.tk l q).a [] ps,ty,b];simp[Ren.L] at q1 q2;rw[H.ib,q1];show PR.b (aV _ _ _ (R.c t.a) (R.c u.a) (R.nm u.a u.b) _) _=_;rw[q2];rfl
theorem aN'(op:Int)(n:Nat):Ky (l.map R.tk) F op n=(Ky l F op n).mp R.T R.c:=by exact y9 (aFK H ..) λt m _=>y9 (aFs H ..) λu o _=>y9 (aFK H ..) λ_ q _=>y9 (aGN H (λn=>aKG H _ n) (λn=>aGd H n) op F q) λts r _=>(aui (PR.b · _) (H.wd _ _ _ _ _ _))
theorem aKT{st d:Int->Nat->PR Tree}(S:∀op n,d op n=(st op n).mp R.T R.c):∀g n b,yp (l.map R.tk) F d g n (R.L b)=(yp l F st g n b).mp R.L R.c
 |0,_,_=>rfl
 |g+1,n,b=>by
  have fF:∀b t,R.L (b++[t])=R.L b++[R.T t]:=by
   intro b t;induction b with
   |nil=>rfl
   |cons a b c=>grind[Ren.L]
  unfold yp;rw[avd];split;refine y9 (f:=R.T) ?_ λt m _=>y9 (aGd H _) λ_ q _=>?_;rw[H.rx];grind[aN',aN9];rw[<-fF];exact aKT S g q _;rfl
theorem aOa(o:List UInt8->List UInt8×Bool)(n:Nat):Ac (l.map R.tk) o n=(Ac l o n).mp R.T R.c:=by
 refine y9 (aFK H ..) λt m _=>?_;rw[H.yv,H.ib];split;rfl;rename_i c;have ne:(Yv.tk l m).c≠1:=λe=>c (λb=>by omega);have a:(Yv.tk (l.map R.tk) m).b=(Yv.tk l m).b:=by rw[H.tk,H.text ne]
 rw[a];split;rfl;have nm:∀s,R.nm (Yv.tk l m).a s=s:=λs=>if_neg λq=>by
  unfold Yv.tk at q ne c;rw[aub] at q ne c;cases e:l[m]? with
  |none=>grind
  |some t=>rw[e] at q ne;exact ne (H.b t (aua e) q.1)
 have q:=H.wd (m+1) 2 t.a (Yv.tk l m).a (o (Yv.tk l m).b).1 [];rw[nm] at q;simp[Ren.L] at q;show PR.b (aV _ _ _ (R.c t.a) _ _ []) _=_;rw[q];rfl
theorem aOb(a b:List Tree):R.L (a++b)=R.L a++R.L b:=by
 induction a with
 |nil=>rfl
 |cons x a c=>grind[Ren.L]
def aKU(o:List UInt8->List UInt8×Bool):∀g n a,vH (l.map R.tk) o g n (R.L a)=(vH l o g n a).mp R.L R.c
 |0,_,_=>rfl
 |g+1,n,a=>by unfold vH;rw[H.rx];split;refine y9 (aOa H ..) λt m _=>y9 (aGd H _) λ_ q _=>?_;have:=aOb H a [t];simp[Ren.L] at this;rw[<-this];exact aKU o g q _;rfl
def aOc{st d:Int->Nat->PR Tree}(S:∀op n,d op n=(st op n).mp R.T R.c) (a:Int) (o:List UInt8->List UInt8×Bool) (n:Nat):Ad (l.map R.tk) F d (R.c a) o n=(Ad l F st a o n).mp R.T R.c:=by refine y9 (aFK H ..) λ_ m _=>y9 (aFs H ..) λu q _=>y9 (aGd H _) λ_ r _=>y9 (aKU H _ _ _ []) λis s _=>y9 (aKT H S _ _ _) λds v _=>?_;show PR.b (Tree.mk 1 0 _ _ _ _) v=PR.b (Tree.mk 1 (R.c 0) _ _ _ _) v;rw[H.z];rfl
end
section
variable {R:Ren}(mono:∀a b,a<b->R.c a<R.c b)
include mono
theorem aOd(a b:Int):R.c a<R.c b <-> a<b:=by refine⟨λh=>?_,mono a b⟩;by_cases c:a<b;omega;by_cases e:a=b;grind;have:=mono b a zo;omega
mutual
theorem aOe:∀(t:Tree)(m e:Int),yu (R.T t) m (R.c e)=R.c (yu t m e)
 |.mk q f t a n ks,m,e=>by
  have b:(if m=0 then(if R.c a<R.c e then R.c a else R.c e) else R.c e)=R.c (if m=0 then(if a<e then a else e) else e):=by grind[aOd]
  simp[Ren.T,yu];rw[b];split;rfl;exact aKV ks _ _
theorem aKV:∀(ts:List Tree)(m e:Int),KN (R.L ts) m (R.c e)=R.c (KN ts m e)
 |[],_,_=>rfl
 |t::ts,m,e=>by simp[Ren.L,KN];rw[aOe t,aKV ts]
end
end
def aEt(p:UInt8->Bool):List UInt8->Nat
 |[]=>0
 |c::s=>if p c=true then aEt p s+1 else 0
theorem aOf(p:UInt8->Bool):∀s,aEt p s<=s.length
 |[]=>at2 _
 |c::s=>by have:=aOf p s;grind[aEt]
theorem aJe(p:List UInt8):∀s:List UInt8,s.length- (sW s p).length=aEt (λc=>decide (c∈p)) s
 |[]=>rfl
 |c::s=>by have a:=aJe p s;grind[sW,List.dropWhile_sublist,List.dropWhile_cons,aEt]
def aE'(c:UInt8):Bool:=decide (c∈rj)
def aFL(c:UInt8):Bool:=decide (c∈wP++rj)
theorem aE2(s:List UInt8):dU s=aEt aE' s:=aJe _ s
theorem aGr(s:List UInt8):gu s=match s with|[]=>0|c::_=>if c∈wP then aEt aFL s else 0:=by
 cases s with
 |nil=>rfl
 |cons c s=>show(if _ then _ else _)=(if _ then _ else _);split;exact aJe _ _;rfl
theorem aF4(p:UInt8->Bool):∀(w r:List UInt8),aEt p w=w.length->aEt p (w++r)=w.length+aEt p r
 |[],r,_=>by simp
 |c::w,r,h=>by unfold aEt at h;split at h;rename_i e;simp[auY,aEt,e,auo,atX] at h|-;have:=aF4 p w r zo;omega;grind
theorem aGs(p:UInt8->Bool):∀s:List UInt8,∃w r,s=w++r/\w.length=aEt p s/\aEt p w=w.length/\aEt p r=0
 |[]=>⟨[],[],rfl,rfl,rfl,rfl⟩
 |c::s=>by by_cases e:p c=true;obtain⟨w,r,b,d,f,a⟩:=aGs p s;refine⟨c::w,r,by grind,?_,?_,a⟩<;>simp only[aEt,e,auo,atX]<;>omega;exact⟨[],c::s,rfl,by simp[aEt,e],rfl,by simp[aEt,e]⟩
structure aF5(iI new:List UInt8):Prop where
 a:∃c q,iI=c::q/\c∈wP
 b:∃q,new=122::q
 d:aEt aFL new=new.length
 f:El new=true
inductive Sp(iI new:List UInt8):List UInt8->List UInt8->Prop
 |i:Sp iI new [] []
 |g (c:UInt8) {r r':List UInt8}:Sp iI new r r'->Sp iI new (c::r) (c::r')
 |j {r r':List UInt8}:Sp iI new r r'->Sp iI new (iI++r) (new++r')
section
variable {iI:List UInt8}(N:aF5 iI new)
include N
theorem Sp.ut{r b:List UInt8}(h:Sp iI new r b):(r=[]/\b=[])\/(∃c q a,r=c::q/\b=c::a/\Sp iI new q a)\/∃c q a,r=c::q/\c∈wP/\b=122::a:=by
 cases h with
 |i=>grind
 |g c h=>grind
 |j h=>
  obtain⟨c,q,rfl,d⟩:=N.a;obtain⟨a,rfl⟩:=N.b;grind
theorem aKW{c:UInt8}(h:c∈wP):aE' c=false:=by
 have:∀c∈wP,aE' c=false:=by decide+kernel
 grind
omit N in
theorem aGQ:(122:UInt8)∈wP:=by decide
theorem Sp.fig:∀{r a:List UInt8},Sp iI new r a->aEt aE' a=aEt aE' r:=by
 intro r a h;induction h with
 |i=>rfl
 |g c h b=>simp only[aEt,b]
 |j h b=>
  obtain⟨c,q,rfl,d⟩:=N.a;obtain⟨e,rfl⟩:=N.b;grind[aEt,aKW,aGQ]
def Sp.mB{r a:List UInt8}(h:Sp iI new r a):dU a=dU r:=by rw[aE2,aE2,h.fig N]
theorem Sp.aOg{r a:List UInt8}(h:Sp iI new r a):dU (a.drop 1)=dU (r.drop 1)\/∃c q b,r=c::q/\c∈wP/\a=122::b:=by rcases h.ut N with⟨rfl,rfl⟩|⟨c,q,b,rfl,rfl,d⟩|h;omega;exact .inl (d.mB N);grind
theorem Sp.pre{r a:List UInt8}(h:Sp iI new r a){c:UInt8}(b:c∉wP):w9 a [c]=w9 r [c]:=by rcases h.ut N with⟨rfl,rfl⟩|⟨d,q,e,rfl,rfl,h⟩|⟨d,q,e,rfl,hd,rfl⟩;rfl;rfl;unfold w9;simp only[atX,aup,awj,List.take_zero,awm,axS];rw[auK (by rintro rfl;exact b aGQ),auK qaa]
theorem Sp.exp{r f:List UInt8}(h:Sp iI new r f)(h0:aEN r=0):aEN f=0:=by
 rcases h.ut N with⟨rfl,rfl⟩|⟨d,q,a,rfl,rfl,b⟩|⟨d,q,a,rfl,hd,rfl⟩;rfl
 ·skip
  by_cases e:d=101;subst e;rcases b.ut N with⟨rfl,rfl⟩|⟨c,q,a,rfl,rfl,l⟩|⟨c,q,a,rfl,hd,rfl⟩;rfl;simp[aEN] at h0|-;split at h0<;>rename_i k;rw[if_pos k,l.mB N];omega;have:dU (c::a)=dU (c::q):=b.mB N;grind;grind[aE2,aEt,aKW,aGQ,aEN];simp_all[aEN]
 rfl
theorem Sp.aOh{w r d:List UInt8}(h:Sp iI new r d)(b:aEN (w++r)=w.length):aEN (w++d)=w.length:=by
 match w,b with
 |[],b=>exact h.exp N b
 |[a],b=>
  unfold aEN at b;grind
 |a::c::w,b=>
  by_cases e:a=101;subst e;simp[auY,aEN,atX] at b|-;split at b<;>rename_i p;have q:dU (w++r)=w.length:=by grind
  have f:aEt aE' w=w.length:=by
   rw[aE2] at q;obtain⟨l,r2,k,m,n,o⟩:=aGs aE' (w++r);have:l=w:=by have:=aui (List.take w.length) k;grind
   grind
  have q2:dU (w++d)=w.length:=by rw[aE2] at q|-;rw[aF4 _ _ _ f] at q|-;rw[h.fig N];omega
  grind;have q:dU (c::(w++r))=(c::w).length:=by grind
  have f:aEt aE' (c::w)=(c::w).length:=by
   rw[aE2] at q;obtain⟨l,r2,k,m,n,o⟩:=aGs aE' (c::(w++r));have:l=c::w:=by have:=aui (List.take (c::w).length) k;grind
   grind
  have q2:dU (c::(w++d))=(c::w).length:=by rw[aE2] at q|-;rw[show∀r,c::(w++r)=(c::w)++r from λ_=>rfl,aF4 _ _ _ f] at q|-;rw[h.fig N];omega
  grind;simp_all[aEN]
end
theorem aOi{i:Type}{a b c d:List i}(h:a++b=c++d)(l:c.length<=a.length):∃e,a=c++e/\d=e++b:=by
 rcases List.append_eq_append_iff.1 h with⟨e,f,g⟩|⟨e,f,g⟩;have:e=[]:=by have:=aui List.length f;cases e<;>simp at this|-;omega
 grind;grind
def aKX{e:Type}{a b c d:List e}(h:a++b=c++d)(l:a.length=c.length):a=c/\b=d:=List.append_inj h l
def aJf{p:UInt8->Bool}{w r:List UInt8}(h:aEt p (w++r)=w.length):aEt p w=w.length/\aEt p r=0:=by obtain⟨e,r2,a,b,c,d⟩:=aGs p (w++r);obtain⟨rfl,rfl⟩:=aKX a zo;omega
theorem aOj{s:List UInt8}(h:aEw s≠0):∃u r,s=u++r/\u.length=aEw s/\∀a,aEw (u++a)=aEw s:=by
 match s,h with
 |[],h=>exact(h rfl).elim
 |c::s,h=>
  by_cases b:c=110;exact⟨[c],s,rfl,by simp[aEw,b],λa=>by simp[aEw,b]⟩;by_cases d:c=116;exact⟨[c],s,rfl,by simp[aEw,d],λa=>by simp[aEw,d]⟩;by_cases e:c=34\/c=92;exact⟨[c],s,rfl,by simp[aEw,b,d,e],λa=>by simp[aEw,b,d,e]⟩;by_cases f:c=120
  match s,h with
  |x::y::s,h=>
   by_cases g:x∈aHk/\y∈aHk;exact⟨[c,x,y],s,rfl,by simp[aEw,f,g],λa=>by rfl⟩;grind[aEw]
  |[],h=>grind[aEw]
  |[x],h=>grind[aEw]
  simp_all[aEw]
def aHJ{g:Nat}{c:UInt8}{s:List UInt8}{v i:Nat}:aEY (g+1) (c::s) v i=if c=34 then(v,i+1) else if c<32\/c=127 then(0,0)
 else if c=92 then(if aEw s=0 then(0,0) else aEY g (s.drop (aEw s)) (v+1) (i+1+aEw s))
 else aEY g s (v+1) (i+1):=rfl
theorem aJg:∀(g:Nat)(s:List UInt8)(v i:Nat),(aEY g s v i).2 ≠0->∃u r,s=u++r/\(aEY g s v i).2 =i+u.length/\∀b a,u.length<=a->aEY a (u++b) v i=aEY g s v i
 |0,_,_,_,h=>(h rfl).elim
 |g+1,[],_,_,h=>(h rfl).elim
 |g+1,c::s,v,i,h=>by
  rw[aHJ] at h|-;have n:∀{u:List UInt8}{a},(c::u).length<=a->∃g2,a=g2+1/\u.length<=g2:=by
   intro u a d;cases a with
   |zero=>grind
   |succ g2=>grind
  by_cases k:c=34;refine⟨[c],s,rfl,by grind,λb a d=>?_⟩;obtain⟨g2,rfl,_⟩:=n d;simp_all[aHJ];rw[if_neg k] at h|-;by_cases l:c<32\/c=127;grind;rw[if_neg l] at h|-;by_cases j:c=92;rw[if_pos j] at h|-;by_cases m:aEw s=0;grind;rw[if_neg m] at h|-;obtain⟨t,x,y,w,z⟩:=aOj m;have hd:s.drop (aEw s)=x:=by grind
  obtain⟨u,r,p,q,o⟩:=aJg g _ _ _ h;refine⟨c::(t++u),r,by grind,by grind,λb a d=>?_⟩;obtain⟨g2,rfl,f⟩:=n d;have e:aEw ((t++u)++b)=aEw s:=by grind
  rw[auY,aHJ,if_neg k,if_neg l,if_pos j,e,if_neg m];rw[<-o b g2 qaa];congr 1;rw[<-w,av7,aPZ];rw[if_neg j] at h|-;obtain⟨u,r,p,q,o⟩:=aJg g _ _ _ h;refine⟨c::u,r,by rw[p];rfl,by rw[q];simp;omega,λb a d=>?_⟩;obtain⟨g2,rfl,f⟩:=n d;rw[auY,aHJ,if_neg k,if_neg l,if_neg j];exact o b g2 f
theorem aOk{s:List UInt8}(h:0<(aEA s).2):∃u r,s=u++r/\u.length=(aEA s).2 /\∀a,aEA (u++a)=aEA s:=by
 match s,h with
 |[],h=>exact(Nat.lt_irrefl _ h).elim
 |c::s,h=>
  by_cases e:c=34;subst e;have h':=Nat.pos_iff_ne_zero.1 h;obtain⟨u,r,d,f,b⟩:=aJg _ _ _ _ h';refine⟨34::u,r,by grind,?_,λa=>?_⟩;show _=(aEY (s.length+1) s 0 1).2;grind;exact b a _ zn;simp_all[aEA]
section
variable {iI:List UInt8}(N:aF5 iI new)
include N
theorem Sp.fl{w r l:List UInt8}(h:Sp iI new r l)(q:zS (w++r)=true)(z:aE3 (w++r)=w.length):zS (w++l)=true/\aE3 (w++l)=w.length:=by
 unfold zS at q;simp only[atW,auU] at q;obtain⟨⟨L,D⟩,v⟩:=q;obtain⟨e,E,y,u,I,M⟩:=aGs aE' (w++r);rw[<-aE2] at u;rw[<-u,y,aPZ] at D;obtain⟨n,rfl⟩:∃n,E=46::n:=by
  cases E with
  |nil=>simp[w9] at D
  |cons c n=>grind[w9]
 have dr:∀t:List UInt8,(e++46::t).drop (e.length+1)=t:=λt=>by simp
 obtain⟨f,F,rfl,A,f3,z3⟩:=aGs aE' n;rw[<-aE2] at A;have o:aFF (w++r)=(e++46::f).length:=by grind[aFF]
 have s:(w++r).drop (aFF (w++r))=F:=by grind
 unfold aE3 at z;rw[s,o] at z;obtain⟨k,rfl,G⟩:=aOi (a:=w) (b:=r) (c:=e++46::f) (d:=F) qaa zo;subst G;have J:aEN (k++r)=k.length:=by grind
 have K:=h.aOh N J;have x:aEt aE' (k++l)=0:=by
  cases k with
  |nil=>rw[au5] at z3|-;rw[h.fig N];omega
  |cons c k=>
   grind[aEt]
 have m:(e++46::f)++k++l=e++46::(f++(k++l)):=by simp
 have B:dU ((e++46::f)++k++l)=e.length:=by rw[m,aE2,aF4 _ _ _ I];rfl
 have C:dU (((e++46::f)++k++l).drop (e.length+1))=f.length:=by rw[m,dr,aE2,aF4 _ _ _ f3,x];rfl
 have p:aFF ((e++46::f)++k++l)=(e++46::f).length:=by unfold aFF;rw[B,C];simp;omega
 have H:f.length≠0:=by rw[<-u,y,dr] at v;rw[<-A] at v;exact v
 refine⟨?_,?_⟩;unfold zS;rw[B,C,m,aPZ];simp only[atW,auU];exact⟨⟨by omega,by simp[w9]⟩,H⟩;unfold aE3;rw[p,av7,aPZ,K];simp;omega
theorem Sp.int{w r a:List UInt8}(h:Sp iI new r a)(b:zS (w++r)=false)(d:dU (w++r)=w.length)(h0:0<w.length):zS (w++a)=false/\dU (w++a)=w.length:=by
 rw[aE2] at d;obtain⟨f,z⟩:=aJf d;have k:dU (w++a)=w.length:=by rw[aE2,aF4 _ _ _ f,h.fig N,z];rfl
 have n0:dU (w++r)=w.length:=by rw[aE2];omega
 refine⟨?_,k⟩;unfold zS at b|-;rw[n0] at b;rw[k];have dr:∀t:List UInt8,(w++t).drop (w.length+1)=t.drop 1:=λt=>by simp
 rw[dr,aPZ] at b|-;rw[h.pre N zd];rcases h.aOg N with e|⟨c,q,m,rfl,l,rfl⟩;grind;have:w9 (c::q) [46]=false:=by refine auK λe=>?_;simp at e;subst e;exact absurd l zd
 grind
theorem Sp.aln{r a:List UInt8}(h:Sp iI new r a)(z:aEt aFL r=0):aEt aFL a=0:=by
 have f:∀c∈wP,aFL c=true:=by decide+kernel
 rcases h.ut N with⟨rfl,rfl⟩|⟨d,q,b,rfl,rfl,e⟩|⟨d,q,b,rfl,hd,rfl⟩;rfl;grind[aEt];grind[aEt]
theorem Sp.aOn{w r b:List UInt8}(h:Sp iI new r b)(a:gu (w++r)=w.length)(h0:0<w.length):gu (w++b)=w.length:=by
 cases w with
 |nil=>grind
 |cons c w=>
  rw[aGr] at a|-;simp at a|-;split at a;rename_i e;rw[if_pos e];obtain⟨f,z⟩:=aJf (w:=c::w) a;rw[show c::(w++b)=(c::w)++b from rfl,aF4 _ _ _ f,h.aln N z];rfl;omega
omit N in
theorem aJh{c:UInt8}{s:List UInt8}:gu (c::s)=0 <-> c∉wP:=by grind[aGr,aFL,aEt]
omit N in
theorem aKY{c:UInt8}{s:List UInt8}:dU (c::s)=0 <-> aE' c=false:=by grind[aE2,aEt]
omit N in
theorem aKZ{c:UInt8}{s:List UInt8}(h:c≠34):aEA (c::s)=(0,0):=by simp_all[aEA]
theorem Sp.mk2{c:UInt8}{r l:List UInt8}(h:Sp iI new r l):wR (c::l) 2 G7=wR (c::r) 2 G7:=by
 rcases h.ut N with⟨rfl,rfl⟩|⟨d,q,n,rfl,rfl,o⟩|⟨d,q,n,rfl,hd,rfl⟩;rfl;rfl;have f:∀m∈G7,∀b∈m,b∉wP:=by decide+kernel
 have p:∀m∈G7,∀a b,m=[a,b]->b∉wP:=λm k a b e=>f m k b qaa;have key:∀d∈wP,∀q,wR (c::d::q) 2 G7=false:=by intro d hd q;rw[aP3];intro t;unfold wR at t;rw[awE] at t;obtain⟨m,k,t⟩:=t;simp[atW,auU,w9] at t;grind
 grind[aGQ]
omit N in
theorem aK0{n:Nat}{w r a:List UInt8}(l:n<=w.length):wR (w++a) n G7=wR (w++r) n G7:=by grind[wR,w9]
theorem aOo{nE fE:List UInt8->Int}{w r b:List UInt8}{k:Int}(h:Sp iI new r b)(h0:0<w.length)(a:azS nE fE (w++r)=(k,w.length,0)):azS nE fE (w++b)=(k,w.length,0):=by
 unfold azS at a;split at a;rename_i c1;have B:gu (w++r)=w.length:=by grind
 have F:=h.aOn N B h0;simp_all[azS];rename_i c1;cases w with
 |nil=>grind
 |cons c w=>
  have cs:c∉wP:=aJh.1 (by grind:gu (c::(w++r))=0);have i:¬0<gu (c::w++b):=by rw[show c::w++b=c::(w++b) from rfl,aJh.2 cs];omega
  unfold azS;rw[if_neg i];split at a;rename_i c2;split at a;rename_i c3;have d:aE3 (c::w++r)=(c::w).length:=by grind
  obtain⟨q1,q2⟩:=h.fl N c3 d;have f:0<dU (c::w++b):=by grind[zS]
  rw[if_pos f,if_pos q1,q2,aP5];rw[d,aP5] at a;exact a;rename_i c3;have d:dU (c::w++r)=(c::w).length:=by simp only[avj] at a;exact a.2.1
  obtain⟨q1,q2⟩:=h.int N (by simpa using c3) d h0;rw[q2,if_pos h0,q1,if_neg zd,aP5];rw[d,aP5] at a;exact a;rename_i c2;have y:aE' c=false:=aKY.1 (by simpa using c2:dU (c::(w++r))=0);have f:¬0<dU (c::w++b):=by rw[show c::w++b=c::(w++b) from rfl,aKY.2 y];omega
  rw[if_neg f];split at a;rename_i c3;have d:(aEA (c::w++r)).2 =(c::w).length:=by simp only[avj] at a;exact a.2.1
  obtain⟨u,r2,z,E,A⟩:=aOk c3;obtain⟨rfl,rfl⟩:=aKX z zo;rw[A b,if_pos c3];exact a;rename_i c3;have l:c≠34:=by
   rintro rfl;split at a;rename_i g;simp[w9] at g;split at a;rename_i s;have:∀x:List UInt8,o6 (34::x)=0:=by
    intro x;unfold o6 wR;have D:∀m∈G7,m.head?≠some 34:=by decide+kernel
    have key:∀n,0<n->(G7.any λm=>decide (m.length=n)&&w9 (34::x) m)=false:=by
     intro n d;rw[aP3];intro t;rw[awE] at t;obtain⟨m,o,t⟩:=t;simp only[atW,auU,w9] at t;refine D m o ?_;rw[<-t.2,t.1];cases n with
     |zero=>omega
     |succ n=>simp
    rw[key 2 zd,key 1 zd];rfl
   rw[show(34:UInt8)::w++r=34::(w++r) from rfl,this] at s;omega;simp only[avj] at a;exact absurd a.2.2 zd
  have j:¬0<(aEA (c::w++b)).2 :=by rw[show c::w++b=c::(w++b) from rfl,aKZ l];decide
  rw[if_neg j];have q:w9 (c::w++b) [59]=w9 (c::w++r) [59]:=by simp[w9]
  rw[q];split at a;rename_i g;rw[if_pos g];exact a;rename_i g;rw[if_neg g];split at a;rename_i s;have d:o6 (c::w++r)=(c::w).length:=by simp only[avj] at a;exact a.2.1
  have o:o6 (c::w++b)=(c::w).length:=by
   rw[<-d];unfold o6 at d|-;have v:wR (c::w++b) 1 G7=wR (c::w++r) 1 G7:=aK0 zm;by_cases e:wR (c::w++r) 2 G7=true;rw[if_pos e] at d;have p:wR (c::w++b) 2 G7=wR (c::w++r) 2 G7:=aK0 zo;rw[p,v];rw[if_neg e] at d;have C:w=[]:=by split at d<;>simp at d;cases w<;>simp_all
   subst C;have p:wR ([c]++b) 2 G7=wR ([c]++r) 2 G7:=h.mk2 N;rw[p,v]
  rw[o,if_pos h0];rw[d] at a;exact a;simp only[avj] at a;exact absurd a.2.2 zd
theorem aOp{nE fE:List UInt8->Int}{r b:List UInt8}(h:Sp iI new r b)(i:azS nE fE (iI++r)=(1,iI.length,0)):azS nE fE (new++b)=(1,new.length,0):=by
 obtain⟨c,q,rfl,g⟩:=N.a;have d:gu (c::q++r)=(c::q).length:=by unfold azS at i;grind
 have z:aEt aFL r=0:=by rw[aGr] at d;simp[auY,if_pos g] at d;exact(aJf (w:=c::q) d).2
 obtain⟨f,e⟩:=N.b;have j:gu (new++b)=new.length:=by have a:=N.d;rw[aGr,e];rw[e] at a;simp;rw[show(122:UInt8)::(f++b)=(122::f)++b from rfl,aF4 _ _ _ a,h.aln N z];rfl
 have k:0<new.length:=by grind
 have nm:=N.f;simp_all[El,azS]
end
section
variable (j:List UInt8->Int×Nat×Int)
def aEP:Nat->Nat->List UInt8->Tk->PR (List Tk)
 |0,_,_,_=>.c
 |_+1,_,[],b=>.b (vI b) 0
 |g+1,a,c::s,b=>
  if c∈[32,9,13] then aEP g (a+1) s b
  else if c=10 then(aEP g (a+1) s t0).dC λl n=>.b (vI b++l) n
  else if w9 (c::s) [47,47]=true then aEP g (a+(iz (c::s) 10).1.length) ((c::s).drop (iz (c::s) 10).1.length) b
  else if(j (c::s)).2.2 ≠0 then .d a (j (c::s)).2.2
  else(aEP g (a+(j (c::s)).2.1) ((c::s).drop (j (c::s)).2.1) ⟨(j (c::s)).1,(c::s).take (j (c::s)).2.1,a,a+(j (c::s)).2.1⟩).dC λl n=>
   .b (⟨(j (c::s)).1,(c::s).take (j (c::s)).2.1,a,a+(j (c::s)).2.1⟩::l) n
end
section
variable {j:List UInt8->Int×Nat×Int}
def aFu{g a:Nat}{c:UInt8}{s:List UInt8}{b:Tk}:aEP j (g+1) a (c::s) b=
 if c∈[32,9,13] then aEP j g (a+1) s b
 else if c=10 then(aEP j g (a+1) s t0).dC λl n=>.b (vI b++l) n
 else if w9 (c::s) [47,47]=true then aEP j g (a+(iz (c::s) 10).1.length) ((c::s).drop (iz (c::s) 10).1.length) b
 else if(j (c::s)).2.2 ≠0 then .d a (j (c::s)).2.2
 else(aEP j g (a+(j (c::s)).2.1) ((c::s).drop (j (c::s)).2.1) ⟨(j (c::s)).1,(c::s).take (j (c::s)).2.1,a,a+(j (c::s)).2.1⟩).dC λl n=>
  .b (⟨(j (c::s)).1,(c::s).take (j (c::s)).2.1,a,a+(j (c::s)).2.1⟩::l) n:=rfl
def PR.xr{e h i:Type}(r:PR e)(f:e->Nat->PR h)(g:h->Nat->PR i):(r.dC f).dC g=r.dC λa n=>(f a n).dC g:=by cases r<;>rfl
def aF6(s:List UInt8):∀(g a:Nat)(d:Tk)(b:List Tk),aER j s g a d b=(aEP j g a (s.drop a) d).dC λl n=>.b (b++l) n
 |0,_,_,_=>rfl
 |g+1,a,d,b=>by
  unfold aER;by_cases c:a<s.length;rw[if_pos c];obtain⟨x,r,e⟩:∃x r,s.drop a=x::r:=⟨_,_,aut c⟩;have h:s.getD a 0=x:=by have:=aui List.head? e;rw[List.head?_drop] at this;rw[aub,this];rfl
  have dr:∀n,s.drop (a+n)=(x::r).drop n:=λn=>by rw[<-e,aP2]
  have f:s.drop (a+1)=r:=dr 1;rw[h,aF6 s g,aF6 s g,aF6 s g,aF6 s g,f,dr,dr,e,aFu];split;rfl;split;rw[PR.xr];congr 1;funext l n;simp[PR.dC];split;rfl;split;rfl;rw[PR.xr];congr 1;funext l n;simp[PR.dC];rw[if_neg c,auJ zo];rfl
def R3{e g:Type}{r:PR e}{f:e->Nat->PR g}{b:g}{n:Nat}(h:r.dC f=.b b n):∃a m,r=.b a m/\f a m=.b b n:=by
 cases r with
 |b a m=>exact⟨a,m,rfl,h⟩
 |d=>cases h
 |c=>cases h
def aHK{c:UInt8}{s:List UInt8}(h:w9 (c::s) [47,47]=true):0<(iz (c::s) 10).1.length:=by
 have:c=47:=by
  unfold w9 at h;cases s with
  |nil=>simp at h
  |cons d s=>simp at h;exact h.1
 subst this;unfold iz;split;rename_i e;simp only[auN];have:(47::s).idxOf 10=s.idxOf 10+1:=by rw[axg];rfl
 rw[this];simp;simp
def aFf:∀{g a:Nat}{s:List UInt8}{d:Tk}{l:List Tk}{n:Nat},aEP j g a s d=.b l n->∀t∈l,t.c=1->(a:Int)<=t.a
 |0,_,_,_,_,_,h=>by cases h
 |g+1,a,[],d,l,n,h=>by unfold aEP at h;cases h;intro t b k;unfold vI at b;split at b;rw[awQ] at b;subst b;exact absurd (show(7:Int)=1 from k) zd;cases b
 |g+1,a,c::s,d,l,n,h=>by
  rw[aFu] at h;split at h;intro t b k;have:=aFf h t b k;omega
  split at h;obtain⟨i,m,e,f⟩:=R3 h;cases f;intro t b k;rcases auj.1 b with b|b;unfold vI at b;split at b;rw[awQ] at b;subst b;exact absurd (show(7:Int)=1 from k) zd;cases b;have:=aFf e t b k;omega;split at h;intro t b k;have:=aFf h t b k;omega
  split at h;cases h;obtain⟨i,m,e,f⟩:=R3 h;cases f;intro t b k;rcases atZ.1 b with rfl|b;exact atY _;have:=aFf e t b k;omega
def aGR(pos:∀s,(j s).2.2 =0->0<(j s).2.1):∀{g a:Nat}{s:List UInt8}{d:Tk}{l:List Tk}{n:Nat},aEP j g a s d=.b l n->∀b,s.length+1<=b->aEP j b a s d=.b l n
 |0,_,_,_,_,_,h,_,_=>by cases h
 |g+1,a,[],d,l,n,h,b,k=>by
  cases b with
  |zero=>omega
  |succ b=>exact h
 |g+1,a,c::s,d,l,n,h,b,k=>by
  cases b with
  |zero=>omega
  |succ b=>
   simp only[atX] at k;rw[aFu] at h|-;split at h<;>rename_i c1;rw[if_pos c1];exact aGR pos h b zo;rw[if_neg c1];split at h<;>rename_i c2;rw[if_pos c2];obtain⟨o,m,e,f⟩:=R3 h;rw[aGR pos e b zo];exact f;rw[if_neg c2];split at h<;>rename_i c3;rw[if_pos c3];have:=aHK c3;exact aGR pos h b zn;rw[if_neg c3];split at h<;>rename_i i;cases h;rw[if_neg i];have:=pos (c::s) (by simpa using i);obtain⟨o,m,e,f⟩:=R3 h;rw[aGR pos e b zn];exact f
end
def spl(R:Ren):Nat->Nat->List UInt8->List UInt8
 |_,_,[]=>[]
 |k+1,a,_::s=>spl R k (a+1) s
 |0,a,c::s=>if R.M a=true then R.d++spl R (R.b.length- 1) (a+1) s else c::spl R 0 (a+1) s
section
variable {R:Ren}
def aGS{a:Nat}{c:UInt8}{s:List UInt8}:spl R 0 a (c::s)=if R.M a=true then R.d++spl R (R.b.length- 1) (a+1) s else c::spl R 0 (a+1) s:=rfl
def aGT:∀(w:List UInt8){a:Nat}{r:List UInt8},(∀i:Nat,a<=i->i<a+w.length->R.M i=false)->spl R 0 a (w++r)=w++spl R 0 (a+w.length) r
 |[],_,_,_=>rfl
 |c::w,a,r,h=>by rw[auY,aGS,h a zl zm,if_neg zd,aGT w λi b d=>h i zo zn];rw[show a+(c::w).length=a+1+w.length by simp;omega];rfl
def aK1:∀(w:List UInt8){a:Nat}{r:List UInt8},spl R w.length a (w++r)=spl R 0 (a+w.length) r
 |[],_,_=>rfl
 |c::w,a,r=>by show spl R w.length (a+1) (w++r)=_;rw[aK1 w,show a+(c::w).length=a+1+w.length by simp;omega]
def aHL{a:Nat}{r:List UInt8}(h0:R.b≠[])(h:R.M a=true):spl R 0 a (R.b++r)=R.d++spl R 0 (a+R.b.length) r:=by
 cases e:R.b with
 |nil=>exact(h0 e).elim
 |cons c w=>
  rw[auY,aGS,h,if_pos rfl,e];show R.d++spl R w.length (a+1) (w++r)=_;rw[aK1 w,show a+(c::w).length=a+1+w.length by simp;omega]
def aF7(h0:R.b≠[]):∀(n:Nat){a:Nat}{s:List UInt8},s.length<=n->(∀i,i<s.length->R.M ((a+i:Nat):Int)=true->∃q,s.drop i=R.b++q)->Sp R.b R.d s (spl R 0 a s)
 |_,_,[],_,_=>.i
 |0,_,c::s,h,_=>by simp at h
 |n+1,a,c::s,h,d=>by by_cases m:R.M a=true;obtain⟨q,e⟩:=d 0 zm m;rw[axq] at e;rw[e,aHL h0 m];have g:=aui List.length e;have k:0<R.b.length:=auA.2 h0;simp at g h;refine .j (aF7 h0 n zo λi hi f=>?_);obtain⟨q2,b⟩:=d (R.b.length+i) zn (by rw[<-f];congr 1;omega);rw[e,<-aP2,aPZ] at b;exact⟨q2,b⟩;rw[aGS,if_neg m];simp at h;refine .g c (aF7 h0 n h λi hi f=>?_);obtain⟨q2,b⟩:=d (i+1) zn (by rw[<-f];congr 1;omega);exact⟨q2,b⟩
end
structure aHM(R:Ren):Prop where
 z:R.c 0=0
 c:∀a n:Nat,(∀i:Nat,a<=i->i<a+n->R.M i=false)->R.c (a+n:Nat)=R.c a+n
 b:∀a:Nat,R.M a=true->(∀i:Nat,a<i->i<a+R.b.length->R.M i=false)->R.c (a+R.b.length:Nat)=R.c a+R.d.length
theorem aK2{w r:List UInt8}(h:10∉w)(hr:r=[]\/∃q,r=10::q):(iz (w++r) 10).1 =w:=by unfold iz;grind
theorem aOq(s:List UInt8):∃w r,s=w++r/\(iz s 10).1 =w/\10∉w/\(r=[]\/∃q,r=10::q):=by
 induction s with
 |nil=>exact⟨[],[],rfl,rfl,by simp,.inl rfl⟩
 |cons c s a=>
  by_cases e:c=10;subst e;exact⟨[],10::s,rfl,by rfl,by simp,.inr ⟨s,rfl⟩⟩;grind[aK2]
theorem aJi{c:UInt8}{s:List UInt8}:w9 (c::s) [47,47]=(decide (c=47)&&w9 s [47]):=by grind[w9]
section
variable {R:Ren}(N:aF5 R.b R.d)(f:aHM R){nE fE:List UInt8->Int}
include N f
theorem aHN:R.b≠[]:=by obtain⟨c,q,e,_⟩:=N.a;grind
theorem aJj(a:Int):R.nm a []=[]:=if_neg λh=>aHN N f h.2.symm
def aK3{t:Tk}(h:(R.tk t).b=t.b\/t.c=1):vI (R.tk t)=(vI t).map R.tk:=by
 have e:Hz (R.tk t)=Hz t:=by unfold Hz;rcases h with h|h;rw[h];rfl;rw[show(R.tk t).c=t.c from rfl,h];rfl
 unfold vI;rw[e];split;show[(⟨7,[],R.c t.d,R.c t.d⟩:Tk)]=[⟨7,R.nm t.d [],R.c t.d,R.c t.d⟩];rw[aJj N f];rfl
def aHO:R.tk t0=t0:=by show(⟨0,R.nm 0 [],R.c 0,R.c 0⟩:Tk)=⟨0,[],0,0⟩;rw[aJj N f,f.z]
theorem aGt:∀{g a:Nat}{s:List UInt8}{G:Tk}{l:List Tk}{n a':Nat},aEP (azS nE fE) g a s G=.b l n->R.c a=a'->
 (∀i,i<s.length->R.M ((a+i:Nat):Int)=true->∃q,s.drop i=R.b++q)->(∀p:Nat,a<=p->R.M p=true->∃t∈l,t.a=p/\t.c=1/\t.b=R.b)->
 ((R.tk G).b=G.b\/G.c=1)->aEP (azS nE fE) g a' (spl R 0 a s) (R.tk G)=.b (l.map R.tk) n
 |0,_,_,_,_,_,_,h,_,_,_,_=>by cases h
 |g+1,a,[],G,l,n,a',h,_,_,_,W=>by cases h;show PR.b (vI (R.tk G)) 0=_;rw[aK3 N f W]
 |g+1,a,c::s,G,l,n,a',h,V,hT,C,W=>by
  have h0:=aHN N f;have HS:=aF7 (R:=R) h0 _ zl hT;have x:∀n:Nat,∀i,i<((c::s).drop n).length->R.M ((a+n+i:Nat):Int)=true->∃q,((c::s).drop n).drop i=R.b++q:=λn i hi u=>by rw[aP2];exact hT (n+i) qaa qaa
  have run:∀n:Nat,(∀i:Nat,a<=i->i<a+n->R.M i=false)->R.c (a+n:Nat)=((a'+n:Nat):Int):=λn q=>by rw[f.c a n q,V];simp
  rw[aFu] at h;by_cases m:R.M a=true;obtain⟨t,j,A,y,tt⟩:=C a zl m;split at h;have:=aFf h t j y;omega;split at h;obtain⟨O,k,o,B⟩:=R3 h;cases B;exfalso;rcases auj.1 j with j|j;grind[vI];have:=aFf o t j y;omega;split at h;rename_i c3;have:=aFf h t j y;have:=aHK c3;omega
  split at h;cases h;rename_i D;obtain⟨O,k,o,B⟩:=R3 h;cases B;have D:(azS nE fE (c::s)).2.2 =0:=by simpa using D
  have pos:=aGl (c::s) D;have le:=aHl (nE:=nE) (fE:=fE) (s:=c::s) zm;have uk:=aFf o;have Q:t=⟨(azS nE fE (c::s)).1,(c::s).take (azS nE fE (c::s)).2.1,a,a+(azS nE fE (c::s)).2.1⟩:=by rcases atZ.1 j with e|j;exact e;have:=uk t j y;omega
  subst Q;have tt:(c::s).take (azS nE fE (c::s)).2.1 =R.b:=tt;have y:(azS nE fE (c::s)).1 =1:=y;obtain⟨q,e⟩:=hT 0 zm m;rw[axq] at e;have X:(azS nE fE (c::s)).2.1 =R.b.length:=by rw[<-tt,auN];omega
  have dq:(c::s).drop (azS nE fE (c::s)).2.1 =q:=by rw[X,e,aPZ]
  have K:∀i:Nat,a<i->i<a+R.b.length->R.M i=false:=λi o B=>by rw[aP3];intro u;obtain⟨t,j,A,tk,_⟩:=C i zo u;rcases atZ.1 j with rfl|j;have:(a:Int)=i:=A;omega;have:=uk t j tk;omega
  have Z:=f.b a m K;have S:=aHL (R:=R) (r:=q) h0 m;have Q:azS nE fE (R.b++q)=(1,R.b.length,0):=by rw[<-e,<-X,<-y,<-D]
  have T:=aF7 (R:=R) h0 _ zl (x R.b.length);have L:(c::s).drop R.b.length=q:=by rw[<-X];exact dq
  rw[L] at T;have en:=aOp N T Q;obtain⟨z,ez⟩:=N.b;rw[tt,X,L,y] at o;have J:=aGt (a':=a'+R.d.length) o (by rw[Z,V];simp) (by have:=x R.b.length;rw[L] at this;exact this) (λp S u=>by obtain⟨t,j,A,tk,P⟩:=C p zo u;rcases atZ.1 j with rfl|j;have:(a:Int)=p:=A;omega;exact⟨t,j,A,tk,P⟩) (.inr rfl)
  rw[e,S];have H:R.d++spl R 0 (a+R.b.length) q=122::(z++spl R 0 (a+R.b.length) q):=by rw[ez];rfl
  rw[H,aFu,<-H,en,if_neg zd,if_neg zd,if_neg (by rw[H,aJi];simp),if_neg (λh:(0:Int)≠0=>h rfl)];simp only[];rw[aP5,aPZ];have E:R.tk ⟨1,R.b,(a:Int),(a:Int)+R.b.length⟩=⟨1,R.d,a',a'+R.d.length⟩:=by
   show(⟨1,R.nm a R.b,R.c a,R.c (a+R.b.length)⟩:Tk)=_;have:R.nm a R.b=R.d:=if_pos ⟨m,rfl⟩;rw[this,V];have:R.c ((a:Int)+R.b.length)=a'+R.d.length:=by rw[<-V];exact_mod_cast Z
   rw[this]
  rw[E] at J;rw[<-e,tt,X,y,aul,E,J];rfl;have mf:R.M a=false:=by simpa using m
  have I:spl R 0 a (c::s)=c::spl R 0 (a+1) s:=by rw[aGS,if_neg m]
  have one:∀i:Nat,a<=i->i<a+1->R.M i=false:=λi o B=>by rw[show i=a by omega];exact mf
  have hP':∀{O:List Tk}{b:Nat},(∀t∈l,t.c=1->t∈O\/t.a<b)->∀p:Nat,b<=p->a<=p->R.M p=true->∃t∈O,t.a=p/\t.c=1/\t.b=R.b:=λGt p o B u=>by obtain⟨t,j,A,tk,P⟩:=C p B u;rcases Gt t j tk with h|h;exact⟨t,h,A,tk,P⟩;omega
  split at h;rename_i c1;rw[I,aFu,if_pos c1];exact aGt h (run 1 one) (x 1) (λp S u=>C p zo u) W;rename_i c1;split at h;rename_i c2;obtain⟨O,k,o,B⟩:=R3 h;cases B;rw[I,aFu,if_neg c1,if_pos c2];have J:=aGt o (run 1 one) (x 1) (λp S u=>by obtain⟨t,j,A,tk,P⟩:=C p zo u;rcases auj.1 j with j|j;exfalso;unfold vI at j;split at j;rw[awQ] at j;subst j;exact absurd (show(7:Int)=1 from tk) zd;cases j;exact⟨t,j,A,tk,P⟩) (.inl (by rw[aHO N f]))
  rw[aHO N f] at J;rw[J];show PR.b (vI (R.tk G)++O.map R.tk) _=_;rw[aK3 N f W,au4];rename_i c2;have np:w9 (c::spl R 0 (a+1) s) [47,47]=w9 (c::s) [47,47]:=by rw[aJi,aJi];have q:=aF7 (R:=R) h0 _ zl (x 1);simp only[awK,axq] at q;rw[q.pre N zd]
  split at h;rename_i c3;obtain⟨w,r,M,H,e3,F⟩:=aOq (c::s);have lw:0<w.length:=by rw[<-H];exact aHK c3
  rw[H] at h;have fr:=aFf h;have K:∀i:Nat,a<=i->i<a+w.length->R.M i=false:=λi o B=>by rw[aP3];intro u;obtain⟨t,j,A,tk,_⟩:=C i o u;have:=fr t j tk;omega
  have dr:(c::s).drop w.length=r:=by rw[M,aPZ]
  have sp:=aF7 (R:=R) h0 _ zl (x w.length);rw[dr] at sp h;have U:spl R 0 a (c::s)=w++spl R 0 (a+w.length) r:=by rw[M];exact aGT w K
  have e6:spl R 0 (a+w.length) r=[]\/∃q,spl R 0 (a+w.length) r=10::q:=by rcases sp.ut N with⟨_,e⟩|⟨d,q,q',e,e',_⟩|⟨d,q,q',e,hd,_⟩;exact .inl e;rcases F with F|⟨q2,F⟩;rw[F] at e;cases e;rw[F] at e;cases e;exact .inr ⟨q',e'⟩;rcases F with F|⟨q2,F⟩;rw[F] at e;cases e;rw[F] at e;cases e;exact absurd hd zd
  have cu:=aK2 (r:=spl R 0 (a+w.length) r) e3 e6;rw[<-U,I] at cu;rw[I,aFu,if_neg c1,if_neg c2,np,if_pos c3,cu,<-I,U,aPZ];exact aGt h (run w.length K) qau (λp S u=>C p zo u) W;rename_i c3;split at h;cases h;rename_i D;obtain⟨O,k,o,B⟩:=R3 h;cases B;have D:(azS nE fE (c::s)).2.2 =0:=by simpa using D
  have pos:=aGl (c::s) D;have le:=aHl (nE:=nE) (fE:=fE) (s:=c::s) zm;generalize hv:azS nE fE (c::s)=v at o D pos le C;obtain⟨kd,n2,er⟩:=v;simp only[] at o D pos le C|-;subst D;have uk:=aFf o;have K:∀i:Nat,a<=i->i<a+n2->R.M i=false:=λi o B=>by rw[aP3];intro u;obtain⟨t,j,A,tk,_⟩:=C i o u;rcases atZ.1 j with rfl|j;have e:(a:Int)=i:=A;have:i=a:=zo;subst this;rw[mf] at u;cases u;have:=uk t j tk;omega
  obtain⟨w,r,M,H⟩:∃w r,c::s=w++r/\w.length=n2:=⟨_,_,(av6 n2 (c::s)).symm,by rw[auN];omega⟩;subst H;have dr:(c::s).drop w.length=r:=by rw[M,aPZ]
  have tw:(c::s).take w.length=w:=by rw[M,aP5]
  have sp:=aF7 (R:=R) h0 _ zl (x w.length);rw[dr] at sp o;rw[tw] at o;have U:spl R 0 a (c::s)=w++spl R 0 (a+w.length) r:=by rw[M];exact aGT w K
  have Q:=aOo N (nE:=nE) (fE:=fE) sp pos (by rw[<-M];exact hv);rw[<-U,I] at Q;have Y:R.nm a w=w:=if_neg λq=>m q.1;have E:R.tk ⟨kd,w,(a:Int),(a:Int)+w.length⟩=⟨kd,w,a',a'+w.length⟩:=by
   show(⟨kd,R.nm a w,R.c a,R.c (a+w.length)⟩:Tk)=_;rw[Y,V];have:R.c ((a:Int)+w.length)=a'+w.length:=by have:=run w.length K;exact_mod_cast this
   rw[this]
  have J:=aGt o (run w.length K) qau (λp S u=>by obtain⟨t,j,A,tk,P⟩:=C p zo u;rcases atZ.1 j with rfl|j;have:(a:Int)=p:=A;omega;exact⟨t,j,A,tk,P⟩) (.inl Y)
  rw[E] at J;rw[I,aFu,if_neg c1,if_neg c2,np,if_neg c3,Q,if_neg (λh:(0:Int)≠0=>h rfl)];simp only[];rw[<-I,U,aP5,aPZ,J,tw,aul,E];rfl
end
section
open Classical
structure l6 where
 M:Nat->Int->Bool
 b:Nat->Int->Int
 a:List UInt8
 D:aC
abbrev l6.R(w:l6)(j:Nat):Ren:=⟨w.M j,w.b j,w.D.a,w.a⟩
noncomputable def l6.d(w:l6)(x:aC):aC:=⟨x.b,if x=w.D then w.a else x.a,x.c,w.b x.c.toNat x.f,x.g⟩
noncomputable def l6.u(w:l6)(x:dx):dx:=⟨x.a,w.b x.a.toNat x.c,if x.f=true/\x.d=w.D then w.a else x.b,x.f,if x.f=true then w.d x.d else x.d⟩
noncomputable def l6.n(w:l6)(s:List UInt8)(o:Option aC):List UInt8:=if o=some w.D then w.a else s
def l6.LU(w:l6)(x:dx):Prop:=(w.M x.a.toNat x.c=true/\x.b=w.D.a) <-> (x.f=true/\x.d=w.D)
def l6.LD(w:l6)(x:aC):Prop:=(w.M x.c.toNat x.f=true/\x.a=w.D.a) <-> x=w.D
def MR(w:l6)(m r:KM):Prop:=∀s,r s=if s=w.a then(if m w.D.a=some w.D then some (w.d w.D) else none) else if s=w.D.a/\m s=some w.D then none else(m s).map w.d
def MN(w:l6)(m:KM):Prop:=∀s d,m s=some d->d.a=s/\s≠w.a
section
variable {w:l6}{m r:KM}{p:List KM}{s:List UInt8}{d:aC}
def MR.z:MR w aX aX:=λs=>by simp[aX]
def MN.z:MN w aX:=λs d h=>by cases h
theorem l6.dD:(w.d w.D).a=w.a:=by unfold l6.d;grind
theorem MR.Hm(x:MR w m r)(h0:m d.a=none)(hd:d.a≠w.a)(c:w.D.a≠w.a):MR w (rA m d.a d) (rA r (w.d d).a (w.d d)):=by
 intro s;by_cases e:d=w.D;subst e;rw[l6.dD];unfold rA;by_cases a:s=w.a;grind;rw[if_neg a,if_neg a,x s,if_neg a];grind;have nm:(w.d d).a=d.a:=by simp_all[l6.d]
 rw[nm];unfold rA;by_cases a:s=w.a;rw[if_neg qaa,x s,if_pos a,if_pos a];grind;rw[if_neg a];by_cases b:s=d.a;grind;rw[if_neg b,if_neg b,x s,if_neg a]
theorem MN.Hm(x:MN w m)(hd:d.a≠w.a):MN w (rA m d.a d):=by intro s e h;unfold rA at h;split at h;grind;exact x s e h
def MR.Hn(x:MR w m r)(n:MN w m)(b:w.D.a≠w.a)(a:s≠w.a):r (w.n s (m s))=(m s).map w.d:=by unfold l6.n;by_cases c:m s=some w.D;have e:=(n s w.D c).1;rw[if_pos c,x,if_pos rfl,e,c,if_pos rfl];rfl;rw[if_neg c,x,if_neg a,if_neg λh=>c h.2]
inductive ChR(w:l6):List KM->List KM->Prop
 |b:ChR w [] []
 |a {m r:KM} {ms p:List KM}:MR w m r->MN w m->ChR w ms p->ChR w (m::ms) (r::p)
theorem ChR.none(x:ChR w ms p)(f:s≠w.a):aEC ms s=none->aEC p s=none:=by
 induction x with
 |b=>grind
 |a h n _ g=>
  intro e;rename_i m r ms p _;unfold aEC at e|-;cases c:m s with
  |some d=>grind
  |none=>
   rw[h s,if_neg f,c,if_neg zm];grind
theorem ChR.ow(x:ChR w ms p):aEC ms w.D.a=Option.none->aEC p w.a=Option.none:=by
 induction x with
 |b=>intro _;rfl
 |a h n _ f=>
  intro e;rename_i m r ms p _;unfold aEC at e|-;cases c:m w.D.a with
  |some d=>grind
  |none=>
   rw[h w.a,if_pos rfl,c,if_neg zm];grind
theorem ChR.some(x:ChR w ms p)(k:w.D.a≠w.a)(f:s≠w.a):∀{d},aEC ms s=some d->aEC p (w.n s (some d))=some (w.d d):=by
 induction x with
 |b=>intro d e;cases e
 |a h n y l=>
  intro d e;rename_i m r ms p;unfold aEC at e|-;cases c:m s with
  |some g=>
   rw[c] at e;cases e;have q:=h.Hn n k f;grind
  |none=>
   have o:r (w.n s (Option.some d))=Option.none:=by
    unfold l6.n;by_cases i:d=w.D;subst i;have j:w.D.a=s:=by
     have:∀{ms p},ChR w ms p->∀{d},aEC ms s=Option.some d->d.a=s:=by
      intro ms p y;induction y with
      |b=>intro d e;cases e
      |a h n _ l=>
       intro d e;rename_i m r ms p _;unfold aEC at e;cases c:m s with
       |some g=>rw[c] at e;cases e;exact(n _ _ c).1
       |none=>grind
     grind
    rw[if_pos rfl,h,if_pos rfl,j,c,if_neg zm];rw[if_neg qaa,h,if_neg f,c,if_neg zm];rfl
   grind
theorem aJk{l:List aC}(b:∀d∈l,d.a≠w.a) (g:s≠w.a):uy (l.map w.d) (w.n s (uy l s))=(uy l s).map w.d:=by
 induction l with
 |nil=>rfl
 |cons d l a=>
  have a:=a λx f=>b x (aug _ f);unfold uy at a|-;rw[aul,awM,awM];by_cases c:d.a=s;rw[avf c];unfold l6.n;by_cases e:d=w.D;subst e;rw[if_pos rfl,avf l6.dD];rfl;grind[l6.d];grind[l6.n,l6.d]
structure aHP(w:l6)(E u:fM):Prop where
 j:u.j=E.j
 f:u.b=E.b
 a:∀q,u.a q=(E.a q).map w.d
 h:∀q,∀d∈E.a q,d.a≠w.a
 g:∀s,(u.f.getD E.j zT).fg.find? (λx=>decide (x.bi=2)&&decide (x.bj=s))=((E.f.getD E.j zT).fg.find? λx=>decide (x.bi=2)&&decide (x.bj=s)).map (w.R E.j).T
 c:∀x∈(E.f.getD E.j zT).fg,x.bi=2->x.bj≠w.a
 l:w.D.b≠1
 i:w.D.a≠[]
 m:w.a≠[]
 k:w.D.a∉K5
 n:w.a∉K5
 b:w.D.a≠w.a
variable {E u:fM}(V:aHP w E u)
include V
theorem aK4(x:ChR w ms p)(a:s≠w.a):qH u p (w.n s (qH E ms s))=(qH E ms s).map w.d:=by
 unfold qH EU;cases c:aEC ms s with
 |some d=>
  rw[x.some V.b a c];rfl
 |none=>
  rw[V.j];cases i:((E.f.getD E.j zT).fg.find? λx=>decide (x.bi=2)&&decide (x.bj=s)) with
  |some t=>
   have ne:(⟨1,s,E.j,t.at,s⟩:aC)≠w.D:=λe=>V.l qaa;have e:w.n s (some ⟨1,s,E.j,t.at,s⟩)=s:=by simp_all[l6.n]
   rw[e,x.none a c,V.g,i];unfold l6.d;have k:((w.R E.j).T t).at=w.b E.j t.at:=by cases t;rfl
   grind
  |none=>
   have q:=aJk (V.h (E.b.getD E.j [])) a;rw[V.f,V.a];generalize b:uy (E.a (E.b.getD E.j [])) s=o at q|-;have j:aEC p (w.n s o)=none:=by
    unfold l6.n;split;rename_i e;subst e;have:w.D.a=s:=by have:=List.find?_some b;grind
    exact x.ow qaa;exact x.none a c
   have g:((u.f.getD E.j zT).fg.find? λx=>decide (x.bi=2)&&decide (x.bj=w.n s o))=none:=by
    rw[V.g];unfold l6.n;split;rw[aQh.2 λy f h=>by simp at h;exact V.c y f h.1 h.2];rfl
    grind
   grind
end
structure ScL(a b:Sc):Prop where
 f:∀u∈a.b,u∈b.b
 g:∀d∈a.c,d∈b.c
 i:b.a.e=0->b.a=a.a
theorem ScL.cg(a:Sc):ScL a a:=⟨λ_ h=>h,λ_ h=>h,λ_=>rfl⟩
def ScL.ba{a b c:Sc}(x:ScL a b)(y:ScL b c):ScL a c:=⟨λu h=>y.f u (x.f u h),λd h=>y.g d (x.g d h),λe=>by have h:=y.i e;rw[h] at e|-;exact x.i e⟩
theorem aGU{f:cN}{m:KM}{d:aC}(h:(UM f m d).e=0):m d.a=none/\UM f m d=f:=by
 unfold UM at h|-;cases c:m d.a with
 |none=>grind
 |some x=>
  grind[Bp]
def aOr(E:fM)(a:Int)(nm:List UInt8)(o:Option aC)(s:Sc):ScL s (lD E a nm o s):=⟨λu h=>aP7 _ h,λ_ h=>h,λ_=>rfl⟩
def aOs(d:aC)(s:WS):ScL s.a (HK d s).a:=⟨λ_ h=>h,λ_ h=>aug _ h,λe=>(aGU (show(UM s.a.a s.m d).e=0 from e)).2⟩
def aOt(d:aC)(s:WS):ScL s.a (EW d s).a:=⟨λ_ h=>h,λ_ h=>aug _ h,λe=>(aGU (show(UM s.a.a s.b d).e=0 from e)).2⟩
def LbL(a b:WS):Prop:=∀q,(a.b q).isSome=true->(b.b q).isSome=true
structure WL(a b:WS):Prop where
 f:ScL a.a b.a
 g:LbL a b
theorem WL.cg(a:WS):WL a a:=⟨.cg _,λ_ h=>h⟩
def WL.ba{a b c:WS}(x:WL a b)(y:WL b c):WL a c:=⟨x.f.ba y.f,λq h=>y.g q (x.g q h)⟩
theorem WL.IH{E:fM}{a:Int}{nm:List UInt8}{o:Option aC}(s:WS):WL s ⟨s.m,s.b,lD E a nm o s.a⟩:=⟨aOr ..,λ_ h=>h⟩
def WL.IO(d:aC)(s:WS):WL s (HK d s):=⟨aOs d s,λ_ h=>h⟩
theorem WL.EW(d:aC)(s:WS):WL s (Yv.EW d s):=⟨aOt d s,λq h=>by show(rA s.b d.a d q).isSome=true;grind[rA]⟩
section
variable {E:fM}{aN:Bool}{ar:KM}{k f t a:Int}{nm:List UInt8}{kids:List Tree}{s:WS}
def aK5{b d:Tree}{l m n o e g h i:Int}{p j:List UInt8}{ps c:List Tree}:fU E ms aN ar (.mk 5 f t a nm [b,.mk l m n o p ps,d,.mk e g h i j c]) s=
 ⟨s.m,s.b,(jF E [aX] true aX c ⟨(oD E ps (tj E b ⟨aX,aX,(fU E [] false aX b ⟨aX,aX,s.a⟩).a⟩)).m,(oD E ps (tj E b ⟨aX,aX,(fU E [] false aX b ⟨aX,aX,s.a⟩).a⟩)).b,
  (fU E [] false aX d ⟨aX,aX,(oD E ps (tj E b ⟨aX,aX,(fU E [] false aX b ⟨aX,aX,s.a⟩).a⟩)).a⟩).a⟩).a⟩:=by
 rfl
theorem aHQ(h:k=10\/k=15):fU E ms aN ar (.mk k f t a nm kids) s=⟨s.m,(jF E (s.m::ms) true ar kids ⟨aX,s.b,s.a⟩).b,(jF E (s.m::ms) true ar kids ⟨aX,s.b,s.a⟩).a⟩:=by
 conv=>lhs;unfold fU
 grind
def aHR:fU E ms aN ar (.mk 16 f t a nm kids) s=jF E ms aN (rA ar nm (kj E 8 nm a)) kids (Yv.EW (kj E 8 nm a) s):=by
 conv=>lhs;unfold fU
 rfl
def aE5(E:fM)(ms:List KM)(aN:Bool)(ar:KM)(k a:Int)(nm:List UInt8)(s:WS):WS:=if(k=17\/k=18)/\nm≠[] then⟨s.m,s.b,lD E a nm (ar nm) s.a⟩
 else if(k=25\/k=8)/\nm∉K5 then⟨s.m,s.b,lD E a nm (qH E (rC aN ms s.m) nm) s.a⟩ else s
def aFM(E:fM)(ms:List KM)(aN:Bool)(k a:Int)(nm:List UInt8)(kids:List Tree)(b:WS):WS:=
 if k=11\/k=12 then Yv.HK (kj E 7 nm a) b
  else if k=26\/k=9 then
   match kids with
   |.mk e _ _ _ c _::_=>
    if e=25 then
     match qH E (rC aN ms b.m) c with
     |some d=>if d.b=1 then⟨b.m,b.b,lD E a nm (uy (E.a d.g) nm) b.a⟩ else b
     |none=>b
    else b
   |[]=>b
  else b
theorem aF8(d:k≠5)(b:¬(k=10\/k=15))(c:k≠16):fU E ms aN ar (.mk k f t a nm kids) s=aFM E ms aN k a nm kids (jF E ms aN ar kids (aE5 E ms aN ar k a nm s)):=by
 conv=>lhs;unfold fU
 rw[if_neg d,if_neg b,if_neg c];rfl
theorem aGu{t:Tree}{ts:List Tree}:jF E ms aN ar (t::ts) s=jF E ms aN ar ts (fU E ms aN ar t s):=by rfl
theorem aGv:jF E ms aN ar [] s=s:=by rfl
def aJl{t:Tree}{ts:List Tree}:oD E (t::ts) s=oD E ts (tj E t ⟨s.m,s.b,(fU E [] false aX t ⟨aX,aX,s.a⟩).a⟩):=by rfl
def aJm:oD E [] s=s:=by rfl
def aK6:WL s (aE5 E ms aN ar k a nm s):=by unfold aE5;split;exact .IH s;split;exact .IH s;exact .cg s
def aJn:WL s (aFM E ms aN k a nm kids s):=by unfold aFM;split;exact .IO _ s;split;split;split;split;split;exact .IH s;exact .cg s;exact .cg s;exact .cg s;exact .cg s;exact .cg s
def aGV(t:Tree):WL s (tj E t s):=by unfold tj;split;exact .cg s;exact .IO _ s
end
mutual
theorem aF9{E:fM}:∀(t:Tree)(ms:List KM)(aN:Bool)(ar:KM)(s:WS),WL s (fU E ms aN ar t s)
 |.mk k f t a nm kids,ms,aN,ar,s=>by
  have g:=aFU (E:=E) kids;by_cases j:k=5;subst j
  match kids with
  |[b,.mk w x y z A ps,n,.mk o p r u v i]=>
   have l:=(aF9 (E:=E) b [] false aX ⟨aX,aX,s.a⟩).f;have m:=(aGV (E:=E) (s:=⟨aX,aX,(fU E [] false aX b ⟨aX,aX,s.a⟩).a⟩) b).f;have a3:=(aGW (E:=E) ps (tj E b ⟨aX,aX,(fU E [] false aX b ⟨aX,aX,s.a⟩).a⟩)).f;have a4:=(aF9 (E:=E) n [] false aX ⟨aX,aX,(oD E ps (tj E b ⟨aX,aX,(fU E [] false aX b ⟨aX,aX,s.a⟩).a⟩)).a⟩).f;have key:∀(P:WS)(c:Sc),ScL c (jF E [aX] true aX i ⟨P.m,P.b,c⟩).a:=λP c=>(aFU (E:=E) i [aX] true aX ⟨P.m,P.b,c⟩).f;exact⟨l.ba (m.ba (a3.ba (a4.ba (key _ _)))),λ_ h=>h⟩
  |[]=>
   conv=>rhs;unfold fU
   exact .cg s
  |[_]=>
   conv=>rhs;unfold fU
   exact .cg s
  |[_,.mk ..]=>
   conv=>rhs;unfold fU
   exact .cg s
  |[_,.mk ..,_]=>
   conv=>rhs;unfold fU
   exact .cg s
  |_::.mk ..::_::.mk ..::_::_=>
   conv=>rhs;unfold fU
   exact .cg s
  by_cases d:k=10\/k=15;rw[aHQ d];have q:=g (s.m::ms) true ar ⟨aX,s.b,s.a⟩;exact⟨q.f,q.g⟩;by_cases e:k=16;subst e;rw[aHR];exact(WL.EW _ s).ba (g _ _ _ _);rw[aF8 j d e];exact aK6.ba ((g _ _ _ _).ba aJn)
theorem aFU{E:fM}:∀(ts:List Tree)(ms:List KM)(aN:Bool)(ar:KM)(s:WS),WL s (jF E ms aN ar ts s)
 |[],_,_,_,s=>by exact .cg s
 |t::ts,ms,aN,ar,s=>by exact(aF9 t ms aN ar s).ba (aFU ts ms aN ar _)
theorem aGW{E:fM}:∀(ts:List Tree)(s:WS),WL s (oD E ts s)
 |[],s=>by exact .cg s
 |t::ts,s=>by have b:=(aF9 (E:=E) t [] false aX ⟨aX,aX,s.a⟩).f;have c:WL s ⟨s.m,s.b,(fU E [] false aX t ⟨aX,aX,s.a⟩).a⟩:=⟨b,λ_ h=>h⟩;exact c.ba ((aGV (E:=E) t).ba (aGW ts _))
end
def nmK(k:Int):Bool:=decide (k=25)||decide (k=7)||decide (k=11)||decide (k=12)||decide (k=16)||decide (k=3)||decide (k=5)||decide (k=4)
mutual
def wfT(Q:Bool->Int->List UInt8->Prop):Tree->Prop
 |.mk k _ _ a nm kids=>(k≠2->Q (nmK k) a nm)/\(k=5->∀x∈kids.take 1++(kids.getD 1 zT).fg,x.bi=0\/x.bi=7)/\((k=26\/k=9)->∃t,kids=[t]/\(t.bi=25->t.fg=[]))/\(k=25->nm∉K5)/\wfL Q kids
def wfL(Q:Bool->Int->List UInt8->Prop):List Tree->Prop
 |[]=>True
 |t::ts=>wfT Q t/\wfL Q ts
end
abbrev nq(new:List UInt8):Bool->Int->List UInt8->Prop:=λ_ _ nm=>nm≠new
structure SR(w:l6)(s s':WS):Prop where
 m:MR w s.m s'.m
 n:MN w s.m
 b:MR w s.b s'.b
 p:MN w s.b
 l:s'.a.b=s.a.b.map w.u
 j:s'.a.c=s.a.c.map w.d
 i:s'.a.a=s.a.a
section
variable {w:l6}{E r:fM}(V:aHP w E r)
include V
theorem aGX{a:Int}{nm:List UInt8}{o:Option aC}(h:w.LU ⟨E.j,a,nm,o.isSome,o.getD qG⟩):(w.R E.j).nm a nm=w.n nm o:=by
 unfold Ren.nm l6.n;have h:(w.M ((E.j:Int)).toNat a=true/\nm=w.D.a) <-> (o.isSome=true/\o.getD qG=w.D):=h;have e:(o.isSome=true/\o.getD qG=w.D) <-> o=some w.D:=by cases o<;>simp
 grind
def aOu{a:Int}{nm:List UInt8}{o:Option aC}(h:w.LU ⟨E.j,a,nm,o.isSome,o.getD qG⟩):w.u ⟨E.j,a,nm,o.isSome,o.getD qG⟩=⟨E.j,w.b E.j a,(w.R E.j).nm a nm,(o.map w.d).isSome,(o.map w.d).getD qG⟩:=by
 rw[aGX V h];unfold l6.u l6.n;simp only[awr];cases o with
 |none=>simp
 |some d=>simp
theorem aJo{k a:Int}{nm:List UInt8}(b:k≠1)(h:w.LD (kj E k nm a)):w.d (kj E k nm a)=kj r k ((w.R E.j).nm a nm) (w.b E.j a)/\(w.R E.j).nm a nm=(w.d (kj E k nm a)).a:=by
 have h:(w.M ((E.j:Int)).toNat a=true/\nm=w.D.a) <-> kj E k nm a=w.D:=h;have e:(w.R E.j).nm a nm=if kj E k nm a=w.D then w.a else nm:=by grind[Ren.nm]
 have ic:r.b.getD r.j []=E.b.getD E.j []:=by rw[V.f,V.j]
 unfold kj at*;unfold l6.d;rw[e,if_neg b,ic,V.j];grind
theorem SR.IH{s s':WS}(x:SR w s s'){a:Int}{nm c:List UInt8}{o o':Option aC}(h:w.LU ⟨E.j,a,nm,o.isSome,o.getD qG⟩)(d:c=(w.R E.j).nm a nm)(e:o'=o.map w.d):SR w ⟨s.m,s.b,lD E a nm o s.a⟩ ⟨s'.m,s'.b,lD r (w.b E.j a) c o' s'.a⟩:=by subst d e;refine⟨x.m,x.n,x.b,x.p,?_,x.j,x.i⟩;show s'.a.b++[_]=(s.a.b++[_]).map w.u;rw[au4,x.l,List.map_singleton,aOu V h,V.j]
theorem SR.IO{s s':WS}(x:SR w s s'){k a:Int}{nm f:List UInt8}(m:k≠1)(e:nm≠w.a)(h:w.LD (kj E k nm a))(d:f=(w.R E.j).nm a nm)(z:(Yv.HK (kj E k nm a) s).a.a.e=0):SR w (Yv.HK (kj E k nm a) s) (Yv.HK (kj r k f (w.b E.j a)) s'):=by
 subst d;obtain⟨q1,q2⟩:=aGU (show(UM s.a.a s.m (kj E k nm a)).e=0 from z);obtain⟨d,q⟩:=aJo V m h;rw[<-d];have o:=x.m.Hm q1 e V.b;refine⟨o,x.n.Hm e,x.b,x.p,x.l,?_,?_⟩;show _::s'.a.c=(_::s.a.c).map w.d;rw[aul,x.j];show UM s'.a.a s'.m (w.d (kj E k nm a))=UM s.a.a s.m (kj E k nm a);rw[q2,x.i];unfold UM;have:s'.m (w.d (kj E k nm a)).a=none:=by
  have y:=x.m.Hn x.n V.b (s:=(kj E k nm a).a) e;rw[q1] at y;by_cases c:kj E k nm a=w.D;rw[c,l6.dD,x.m,if_pos rfl,<-c,q1,if_neg zm];have g:(w.d (kj E k nm a)).a=(kj E k nm a).a:=by unfold l6.d;grind
  rw[g];exact y
 grind
theorem SR.EW{s s':WS}(x:SR w s s'){k a:Int}{nm f:List UInt8}(m:k≠1)(e:nm≠w.a)(h:w.LD (kj E k nm a))(d:f=(w.R E.j).nm a nm)(z:(Yv.EW (kj E k nm a) s).a.a.e=0):SR w (Yv.EW (kj E k nm a) s) (Yv.EW (kj r k f (w.b E.j a)) s'):=by
 subst d;obtain⟨q1,q2⟩:=aGU (show(UM s.a.a s.b (kj E k nm a)).e=0 from z);obtain⟨d,q⟩:=aJo V m h;rw[<-d];have o:=x.b.Hm q1 e V.b;refine⟨x.m,x.n,o,x.p.Hm e,x.l,?_,?_⟩;show _::s'.a.c=(_::s.a.c).map w.d;rw[aul,x.j];show UM s'.a.a s'.b (w.d (kj E k nm a))=UM s.a.a s.b (kj E k nm a);rw[q2,x.i];unfold UM;have:s'.b (w.d (kj E k nm a)).a=none:=by
  have y:=x.b.Hn x.p V.b (s:=(kj E k nm a).a) e;rw[q1] at y;by_cases c:kj E k nm a=w.D;rw[c,l6.dD,x.b,if_pos rfl,<-c,q1,if_neg zm];have g:(w.d (kj E k nm a)).a=(kj E k nm a).a:=by unfold l6.d;grind
  rw[g];exact y
 grind
structure Fin(w:l6)(s:WS):Prop where
 c:s.a.a.e=0
 g:∀u∈s.a.b,w.LU u
 f:∀d∈s.a.c,w.LD d
omit V in
theorem Fin.sT{a b:Sc}(y:ScL a b)(x:b.a.e=0/\(∀u∈b.b,w.LU u)/\∀d∈b.c,w.LD d):a.a.e=0/\(∀u∈a.b,w.LU u)/\∀d∈a.c,w.LD d:=
 ⟨by have:=y.i x.1;grind,λu h=>x.2.1 u (y.f u h),λd h=>x.2.2 d (y.g d h)⟩
def Gd(w:l6)(c:Sc):Prop:=c.a.e=0/\(∀u∈c.b,w.LU u)/\∀d∈c.c,w.LD d
omit V in
theorem Gd.sT{a b:Sc}(x:Gd w b)(y:ScL a b):Gd w a:=Fin.sT y x
theorem SR.Ps{s s':WS}(x:SR w s s'){t:Tree}(d:wfT (nq w.a) t)(e:t.bi≠2)(g:Gd w (tj E t s).a):SR w (tj E t s) (tj r ((w.R E.j).T t) s'):=by
 cases t with
 |mk k f h a nm ks=>
  show SR w (if k=0 then _ else _) (if k=0 then _ else _);by_cases c:k=0;grind;rw[if_neg c,if_neg c];have g:Gd w (if k=0 then s else Yv.HK (kj E 6 nm a) s).a:=g;rw[if_neg c] at g;exact x.IO V zm (d.1 e) (g.2.2 _ (au0 ..)) rfl g.1
theorem SR.pre{s s':WS}(x:SR w s s'){ms c:List KM}{aN:Bool}{ar d:KM}{k a:Int}{nm:List UInt8}(t:k≠2->nm≠w.a)(o:ChR w ms c)(m:MR w ar d)(f:MN w ar)(g:Gd w (aE5 E ms aN ar k a nm s).a):SR w (aE5 E ms aN ar k a nm s) (aE5 r c aN d k (w.b E.j a) ((w.R E.j).nm a nm) s'):=by
 have ne:((w.R E.j).nm a nm≠[]) <-> nm≠[]:=by unfold Ren.nm;split;rename_i q;exact⟨λ_=>by rw[q.2];exact V.i,λ_=>V.m⟩;rfl
 have nb:(w.R E.j).nm a nm∈K5 <-> nm∈K5:=by unfold Ren.nm;split;rename_i q;exact⟨λh=>(V.n h).elim,λh=>(V.k qaa).elim⟩;rfl
 have cc:ChR w (rC aN ms s.m) (rC aN c s'.m):=by cases aN;exact .b;exact .a x.m x.n o
 unfold aE5 at g|-;simp[ne,nb];by_cases c1:(k=17\/k=18)/\nm≠[];rw[if_pos c1] at g|-;rw[if_pos c1];have e:=g.2.1 _ (aP1 _ (awQ.2 rfl));refine x.IH V e rfl ?_;rw[aGX V e];exact m.Hn f V.b (t zo);rw[if_neg c1] at g|-;rw[if_neg c1];by_cases c2:(k=25\/k=8)/\nm∉K5;rw[if_pos c2] at g|-;rw[if_pos c2];have e:=g.2.1 _ (aP1 _ (awQ.2 rfl));refine x.IH V e rfl ?_;rw[aGX V e];grind[aK4];grind
theorem SR.post{s s':WS}(x:SR w s s'){ms h:List KM}{aN:Bool}{k a:Int}{nm:List UInt8}{kids:List Tree}(y:k≠2->nm≠w.a)(z:ChR w ms h)
 (u:∀f m o c ks rest,kids=.mk 25 f m o c ks::rest->(k=26\/k=9)->c≠w.a/\w.LU ⟨E.j,o,c,(qH E (rC aN ms s.m) c).isSome,(qH E (rC aN ms s.m) c).getD qG⟩)
 (g:Gd w (aFM E ms aN k a nm kids s).a):SR w (aFM E ms aN k a nm kids s) (aFM r h aN k (w.b E.j a) ((w.R E.j).nm a nm) ((w.R E.j).L kids) s'):=by
 have cc:ChR w (rC aN ms s.m) (rC aN h s'.m):=by cases aN;exact .b;exact .a x.m x.n z
 unfold aFM at g|-;by_cases c1:k=11\/k=12;rw[if_pos c1] at g|-;rw[if_pos c1];exact x.IO V zm (y zo) (g.2.2 _ (au0 ..)) rfl g.1;rw[if_neg c1] at g|-;rw[if_neg c1];by_cases c2:k=26\/k=9;rw[if_pos c2] at g|-;rw[if_pos c2]
 match kids,g,u with
 |[],_,_=>exact x
 |.mk C f m o c ks::rest,g,u=>
  simp[Ren.L,Ren.T] at g|-;by_cases c3:C=25;subst c3;obtain⟨F,D⟩:=u f m o c ks rest rfl c2;have q:qH r (rC aN h s'.m) ((w.R E.j).nm o c)=(qH E (rC aN ms s.m) c).map w.d:=by rw[aGX V D];exact aK4 V cc F
  rw[q];cases e:qH E (rC aN ms s.m) c with
  |none=>grind
  |some d=>
   rw[e] at g;simp at g|-;have B:(w.d d).b=d.b:=rfl;have A:(w.d d).g=d.g:=rfl;rw[B,A];by_cases v:d.b=1;rw[if_pos v] at g|-;rw[if_pos v];have t:=g.2.1 _ (aP1 _ (awQ.2 rfl));refine x.IH V t rfl ?_;rw[aGX V t,V.a];exact aJk (V.h _) (y zo);grind
  grind
 grind
omit V in
theorem aK7{k:Int}(h:k=26\/k=9):¬(k=17\/k=18)/\¬(k=25\/k=8):=zo
omit V in
theorem SR.mix{P a Q c:WS}(y:SR w P a)(z:SR w Q c):SR w ⟨P.m,P.b,Q.a⟩ ⟨a.m,a.b,c.a⟩:=⟨y.m,y.n,y.b,y.p,z.l,z.j,z.i⟩
omit V in
theorem leaf{ms:List KM}{aN:Bool}{ar:KM}{f t a:Int}{nm:List UInt8}{s:WS}(h:nm∉K5):jF E ms aN ar [.mk 25 f t a nm []] s=⟨s.m,s.b,lD E a nm (qH E (rC aN ms s.m) nm) s.a⟩:=by grind[aGu,aGv,aF8,aFM,aE5]
mutual
theorem aGY:∀(t:Tree){ms n:List KM}{aN:Bool}{ar l:KM}{s s':WS},wfT (nq w.a) t->ChR w ms n->MR w ar l->MN w ar->(∀q,(ar q).isSome=true->(s.b q).isSome=true)->SR w s s'->Gd w (fU E ms aN ar t s).a->
 SR w (fU E ms aN ar t s) (fU r n aN l ((w.R E.j).T t) s')
 |.mk k f t a nm kids,ms,n,aN,ar,l,s,s',wf,u,B,e,z,x,g=>by
  unfold wfT at wf;obtain⟨v,o,w2,w3,b⟩:=wf;simp only[Ren.T];have z0:∀{c A:Sc},A.b=c.b.map w.u->A.c=c.c.map w.d->A.a=c.a->SR w ⟨aX,aX,c⟩ ⟨aX,aX,A⟩:=λU W X=>⟨.z,.z,.z,.z,U,W,X⟩;by_cases F:k=5;subst F
  match kids,o,b,g with
  |[j,.mk p1 p2 p3 p4 p5 ps,N,.mk b1 b2 b3 b4 b5 C],o,b,g=>
   simp only[Ren.T,Ren.L];rw[aK5] at g|-;rw[aK5];unfold wfL at b;obtain⟨v0,b⟩:=b;unfold wfL at b;obtain⟨Q,b⟩:=b;unfold wfL at b;obtain⟨v2,b⟩:=b;unfold wfL at b;obtain⟨v3,_⟩:=b;unfold wfT at Q v3;have x0:SR w ⟨aX,aX,s.a⟩ ⟨aX,aX,s'.a⟩:=z0 x.l x.j x.i;have R:=aGV (E:=E) (s:=⟨aX,aX,(fU E [] false aX j ⟨aX,aX,s.a⟩).a⟩) j;have a3:=aGW (E:=E) ps (tj E j ⟨aX,aX,(fU E [] false aX j ⟨aX,aX,s.a⟩).a⟩);have a4:=aF9 (E:=E) N [] false aX ⟨aX,aX,(oD E ps (tj E j ⟨aX,aX,(fU E [] false aX j ⟨aX,aX,s.a⟩).a⟩)).a⟩;have a5:∀(P:WS)(c:Sc),ScL c (jF E [aX] true aX C ⟨P.m,P.b,c⟩).a:=λP c=>(aFU (E:=E) C [aX] true aX ⟨P.m,P.b,c⟩).f;have M:=Gd.sT (w:=w) g (a5 _ _);have L:=M.sT a4.f;have g2:=L.sT a3.f;have g1:=g2.sT R.f;have y1:=aGY j v0 .b .z .z (λq h=>by omega) x0 g1;have o:∀x∈[j]++ps,x.bi≠2:=λx Y=>by have:=o rfl x Y;omega
   have y2:=(z0 y1.l y1.j y1.i).Ps V v0 (o j zm) g2;have y3:=aK8 ps Q.2.2.2.2 (λp hp=>o p qaa) y2 L;have y4:=aGY N v2 .b .z .z (λq h=>by omega) (z0 y3.l y3.j y3.i) M;have y5:=aGZ C v3.2.2.2.2 (.a .z .z .b) .z .z (λq h=>by cases h) (aN:=true) (y3.mix y4) g;exact⟨x.m,x.n,x.b,x.p,y5.l,y5.j,y5.i⟩
  |[],_,_,_=>unfold fU;simpa[Ren.L] using x
  |[_],_,_,_=>unfold fU;simpa[Ren.L] using x
  |[_,.mk ..],_,_,_=>unfold fU;simpa[Ren.L,Ren.T] using x
  |[_,.mk ..,_],_,_,_=>unfold fU;simpa[Ren.L,Ren.T] using x
  |_::.mk ..::_::.mk ..::_::_,_,_,_=>unfold fU;simpa[Ren.L,Ren.T] using x
  by_cases i:k=10\/k=15;rw[aHQ i] at g|-;rw[aHQ i];have y:=aGZ kids (aN:=true) (s:=⟨aX,s.b,s.a⟩) (s':=⟨aX,s'.b,s'.a⟩) b (.a x.m x.n u) B e z ⟨.z,.z,x.b,x.p,x.l,x.j,x.i⟩ g;exact⟨x.m,x.n,y.b,y.p,y.l,y.j,y.i⟩;by_cases m:k=16;subst m;rw[aHR] at g|-;rw[aHR];have le:=aFU (E:=E) kids ms aN (rA ar nm (kj E 8 nm a)) (Yv.EW (kj E 8 nm a) s);have g1:=g.sT le.f;have ld:=g1.2.2 _ (au0 ..);obtain⟨S,T⟩:=aJo V zd ld;have y:=x.EW V zd (v zd) ld rfl g1.1;have n0:=(aGU (show(UM s.a.a s.b (kj E 8 nm a)).e=0 from g1.1)).1;have Z:ar nm=none:=by
   cases c:ar nm with
   |none=>rfl
   |some d=>
    have:=z nm (by rw[c];rfl);have n0:s.b nm=none:=n0;rw[n0] at this;cases this
  have O:=B.Hm (d:=kj E 8 nm a) Z (v zd) V.b;rw[<-T,S] at O;refine aGZ kids b u O (e.Hm (d:=kj E 8 nm a) (v zd)) (λq h=>?_) y g;show(rA s.b nm (kj E 8 nm a) q).isSome=true;have h:(rA ar nm (kj E 8 nm a) q).isSome=true:=h;unfold rA at h|-;split;rfl;rename_i c;rw[if_neg c] at h;exact z q h;rw[aF8 F i m] at g|-;rw[aF8 F i m];have g2:=g.sT (aJn (E:=E) (ms:=ms) (aN:=aN) (k:=k) (a:=a) (nm:=nm) (kids:=kids)).f;have g1:=g2.sT (aFU (E:=E) kids ms aN ar (aE5 E ms aN ar k a nm s)).f;have y1:=x.pre V v u B e g1;have y2:=aGZ kids b u B e (λq h=>(aK6 (E:=E) (ms:=ms) (aN:=aN) (ar:=ar) (k:=k) (a:=a) (nm:=nm) (s:=s)).g q (z q h)) y1 g2;refine y2.post V v u (λf toz ak An ks rest J G=>?_) g;obtain⟨t,K,D⟩:=w2 G;rw[K] at J;cases J;have H:ks=[]:=D rfl;subst H;subst K;unfold wfL at b;have I:=b.1;unfold wfT at I;have ps:aE5 E ms aN ar k a nm s=s:=by unfold aE5;rw[if_neg λq=>(aK7 G).1 q.1,if_neg λq=>(aK7 G).2 q.1]
  rw[ps,leaf (I.2.2.2.1 rfl)] at g2|-;exact⟨I.1 zd,g2.2.1 _ (aP1 _ (awQ.2 rfl))⟩
theorem aGZ:∀(ts:List Tree){ms b:List KM}{aN:Bool}{ar a:KM}{s s':WS},wfL (nq w.a) ts->ChR w ms b->MR w ar a->MN w ar->(∀q,(ar q).isSome=true->(s.b q).isSome=true)->SR w s s'->Gd w (jF E ms aN ar ts s).a->
 SR w (jF E ms aN ar ts s) (jF r b aN a ((w.R E.j).L ts) s')
 |[],_,_,_,_,_,_,_,_,_,_,_,_,x,_=>by rw[aGv];simp only[Ren.L];rw[aGv];exact x
 |t::ts,ms,b,aN,ar,a,s,s',wf,f,e,c,d,x,g=>by unfold wfL at wf;rw[aGu] at g|-;simp only[Ren.L];rw[aGu];have g1:=g.sT (aFU (E:=E) ts ms aN ar (fU E ms aN ar t s)).f;exact aGZ ts wf.2 f e c (λq h=>(aF9 (E:=E) t ms aN ar s).g q (d q h)) (aGY t wf.1 f e c d x g1) g
theorem aK8:∀(ts:List Tree){s s':WS},wfL (nq w.a) ts->(∀t∈ts,t.bi≠2)->SR w s s'->Gd w (oD E ts s).a->SR w (oD E ts s) (oD r ((w.R E.j).L ts) s')
 |[],_,_,_,_,x,_=>by rw[aJm];simp only[Ren.L];rw[aJm];exact x
 |t::ts,s,s',wf,a,x,g=>by unfold wfL at wf;rw[aJl] at g|-;simp only[Ren.L];rw[aJl];have g2:=g.sT (aGW (E:=E) ts _).f;have g1:=g2.sT (aGV (E:=E) t).f;have y1:=aGY t wf.1 .b .z .z (λq h=>by cases h) (s:=⟨aX,aX,s.a⟩) (s':=⟨aX,aX,s'.a⟩) (aN:=false) ⟨.z,.z,.z,.z,x.l,x.j,x.i⟩ g1;have y2:SR w ⟨s.m,s.b,(fU E [] false aX t ⟨aX,aX,s.a⟩).a⟩ ⟨s'.m,s'.b,(fU r [] false aX ((w.R E.j).T t) ⟨aX,aX,s'.a⟩).a⟩:=⟨x.m,x.n,x.b,x.p,y1.l,y1.j,y1.i⟩;exact aK8 ts wf.2 (λt h=>a t (aug _ h)) (y2.Ps V wf.1 (a t (au0 ..)) g2) g
end
end
noncomputable def l6.k(w:l6)(ic n:List UInt8):List UInt8:=if(w.D.b=2\/w.D.b=3)/\ic=w.D.g/\n=w.D.a then w.a else n
noncomputable def l6.q(w:l6)(q:List UInt8):Option (List UInt8):=
 if w.D.b=2\/w.D.b=3 then(if q=w.D.g++[32]++w.a then some (w.D.g++[32]++w.D.a) else if q=w.D.g++[32]++w.D.a then none else some q) else some q
theorem aHS:∀{a b x y:List UInt8},32∉a->32∉b->a++[32]++x=b++[32]++y->a=b/\x=y
 |[],[],x,y,_,_,h=>by grind
 |[],c::b,x,y,_,f,h=>by grind
 |c::a,[],x,y,e,_,h=>by grind
 |c::a,d::b,x,y,e,f,h=>by simp only[auY,awm] at h;obtain⟨g,i⟩:=aHS (λq=>e (aug _ q)) (λq=>f (aug _ q)) h.2;grind
section
variable {w:l6}(dn:w.D.a≠w.a)(l:32∉w.D.g)
include dn l
theorem l6.q1{ic n:List UInt8}(e:32∉ic)(f:n≠w.a):w.q (ic++[32]++w.k ic n)=some (ic++[32]++n):=by by_cases c:w.D.b=2\/w.D.b=3;by_cases c2:ic=w.D.g/\n=w.D.a;have d:w.k ic n=w.a:=if_pos ⟨c,c2⟩;unfold l6.q;grind;have d:w.k ic n=n:=if_neg λh=>c2 h.2;rw[d];unfold l6.q;rw[if_pos c,if_neg λh=>f (aHS e l h).2,if_neg λh=>c2 (aHS e l h)];have d:w.k ic n=n:=if_neg λh=>c h.1;simp_all[l6.q]
theorem l6.q2{ic n q:List UInt8}(c:32∉ic)(h:w.q q=some (ic++[32]++n)):q=ic++[32]++w.k ic n:=by grind[l6.q,l6.k,aHS]
end
structure DR(w:l6)(s s':jv):Prop where
 b:∀q,s'.a q=(s.a q).map w.d
 f:s'.c=s.c.map w.d
 g:s'.d=s.d.map w.d
 a:∀c q,s'.b (c,q)=match w.q q with|some q0=>(s.b (c,q0)).map w.d|none=>[]
theorem aHT{ic key:List UInt8}{j:Nat}:∀(ts:List Tree)(s:jv),∀d∈s.d,d∈(yL ic key j ts s).d
 |[],_,_,h=>h
 |t::ts,s,d,h=>by exact aHT ts _ d (aug _ h)
theorem aOv{ic:List UInt8}{j:Nat}(t:Tree)(s:jv):∀d∈s.d,d∈(kX ic j t s).d:=by grind[kX,aHT]
def aJp{ic:List UInt8}{j:Nat}:∀(ts:List Tree)(s:jv),∀d∈s.d,d∈(tB ic j ts s).d
 |[],_,_,h=>h
 |t::ts,s,d,h=>by exact aJp ts _ d (aOv t s d h)
def aK9{aq:List (List UInt8)}:∀(ts:List Tree)(j:Nat)(s:jv),∀d∈s.d,d∈(jG aq ts j s).d
 |[],_,_,_,h=>h
 |t::ts,j,s,d,h=>by exact aK9 ts _ _ d (aJp _ s d h)
section
variable {w:l6}(dn:w.D.a≠w.a)(l:32∉w.D.g)(o:w.D.b≠1/\w.D.b≠4/\w.D.b≠5)
theorem aF'{k a:Int}{nm ic:List UInt8}{j:Nat}(h:w.LD ⟨k,nm,j,a,ic⟩):w.d ⟨k,nm,j,a,ic⟩=⟨k,(w.R j).nm a nm,j,w.b j a,ic⟩:=by have h:(w.M ((j:Int)).toNat a=true/\nm=w.D.a) <-> (⟨k,nm,j,a,ic⟩:aC)=w.D:=h;grind[l6.d,Ren.nm]
theorem aK'{k a:Int}{nm ic:List UInt8}{j:Nat}(h:w.LD ⟨k,nm,j,a,ic⟩)(b:k≠w.D.b):(w.R j).nm a nm=nm:=by have h:(w.M ((j:Int)).toNat a=true/\nm=w.D.a) <-> (⟨k,nm,j,a,ic⟩:aC)=w.D:=h;exact if_neg λq=>b qaa
include dn l o
theorem aLa{ic n:List UInt8}{j:Nat}(b:32∉ic)(p:n≠w.a):∀(ts:List Tree){s s':jv},DR w s s'->(∀d∈(yL ic (ic++[32]++n) j ts s).d,w.LD d)->DR w (yL ic (ic++[32]++n) j ts s) (yL ic (ic++[32]++w.k ic n) j ((w.R j).L ts) s')
 |[],s,s',x,_=>x
 |.mk k f r a nm ks::ts,s,s',x,g=>by
  simp only[Ren.L,Ren.T];unfold yL at g|-;refine aLa b p ts ?_ g;have ld:=g _ (aHT ts _ _ (au0 ..));have e:(⟨5,(w.R j).nm a nm,j,w.b j a,ic⟩:aC)=w.d ⟨5,nm,j,a,ic⟩:=(aF' ld).symm;refine⟨x.b,x.f,?_,λc q=>?_⟩;show(⟨5,(w.R j).nm a nm,j,w.b j a,ic⟩:aC)::s'.d=_;rw[e,x.g];rfl;show iY s'.b (1,ic++[32]++w.k ic n) (s'.b (1,ic++[32]++w.k ic n)++[⟨5,(w.R j).nm a nm,j,w.b j a,ic⟩]) (c,q)=_;unfold iY;by_cases c1:c=1/\q=ic++[32]++w.k ic n;obtain⟨rfl,rfl⟩:=c1;rw[if_pos rfl,x.a,l6.q1 dn l b p];show _=(iY s.b (1,ic++[32]++n) (s.b (1,ic++[32]++n)++[⟨5,nm,j,a,ic⟩]) (1,ic++[32]++n)).map w.d;unfold iY;grind;rw[if_neg λh=>c1 ⟨aui Prod.fst h,aui Prod.snd h⟩,x.a];cases eq:w.q q with
  |none=>rfl
  |some q0=>
   show _=(iY s.b (1,ic++[32]++n) (s.b (1,ic++[32]++n)++[⟨5,nm,j,a,ic⟩]) (c,q0)).map w.d;unfold iY;rw[if_neg];intro h;have i:=aui Prod.fst h;have m:=aui Prod.snd h;simp only[] at i m;rw[m] at eq;exact c1 ⟨i,l6.q2 dn l b eq⟩
structure KRn(w:l6)(ic:List UInt8)(j:Nat)(t:Tree):Prop where
 s:t.bi=3->(w.R j).nm t.at t.bj=w.k ic t.bj/\t.bj≠w.a
 m:t.bi≠2->t.bi≠3->(t.fg.headD zT).bi≠0->((t.fg.headD zT).fg≠[])/\(w.R j).nm ((t.fg.headD zT).fg.headD zT).at ((t.fg.headD zT).fg.headD zT).bj=w.k ic ((t.fg.headD zT).fg.headD zT).bj/\((t.fg.headD zT).fg.headD zT).bj≠w.a
 k:t.bi≠2->t.bi≠3->t.fg≠[]
def aOw{ic:List UInt8}{j:Nat}(v:32∉ic){t:Tree}{s s':jv}(x:DR w s s')(ok:KRn w ic j t)(g:∀d∈(kX ic j t s).d,w.LD d):DR w (kX ic j t s) (kX ic j ((w.R j).T t) s'):=by
 cases t with
 |mk k f b a nm ks=>
  unfold kX at g|-;show DR w (if k=2 then _ else _) (if k=2 then _ else _);by_cases c2:k=2;rw[if_pos c2,if_pos c2];rw[if_pos (show(Tree.mk k f b a nm ks).bi=2 from c2)] at g;have ld:w.LD ⟨1,nm,j,a,nm⟩:=g _ (au0 ..);have e:=aK' ld (λh=>o.1 h.symm);have E:(⟨1,(w.R j).nm a nm,j,w.b j a,(w.R j).nm a nm⟩:aC)=w.d ⟨1,nm,j,a,nm⟩:=by rw[aF' ld,e]
  refine⟨x.b,?_,?_,x.a⟩;show s'.c++[(⟨1,(w.R j).nm a nm,j,w.b j a,(w.R j).nm a nm⟩:aC)]=(s.c++[_]).map w.d;rw[E,au4,x.f];rfl;show(⟨1,(w.R j).nm a nm,j,w.b j a,(w.R j).nm a nm⟩:aC)::s'.d=_;rw[E,x.g];rfl;rw[if_neg c2,if_neg c2];rw[if_neg (show¬(Tree.mk k f b a nm ks).bi=2 from c2)] at g;have p:∀{K:Int},w.LD ⟨K,nm,j,a,ic⟩->∀q,vQ s'.a ic (s'.a ic++[⟨K,(w.R j).nm a nm,j,w.b j a,ic⟩]) q=(vQ s.a ic (s.a ic++[⟨K,nm,j,a,ic⟩]) q).map w.d:=λld q=>by unfold vQ;split;rw[au4,x.b,<-aF' ld];rfl;exact x.b q
  show DR w (if k=3 then _ else _) (if k=3 then _ else _);by_cases c3:k=3;rw[if_pos c3,if_pos c3];rw[if_pos (show(Tree.mk k f b a nm ks).bi=3 from c3)] at g;obtain⟨n,u⟩:=ok.s c3;have n:(w.R j).nm a nm=w.k ic nm:=n;have ld:w.LD ⟨2,nm,j,a,ic⟩:=g _ (aHT _ _ _ (au0 ..));show DR w _ (yL ic (ic++[32]++(w.R j).nm a nm) j ((w.R j).L ks) _);rw[n];refine aLa dn l o v u ks ?_ g;refine⟨p ld,x.f,?_,x.a⟩;show(⟨2,(w.R j).nm a nm,j,w.b j a,ic⟩:aC)::s'.d=_;rw[<-aF' ld,x.g];rfl;rw[if_neg c3,if_neg c3];rw[if_neg (show¬(Tree.mk k f b a nm ks).bi=3 from c3)] at g;have z:ks≠[]:=ok.k c2 c3;cases ks with
  |nil=>exact(z rfl).elim
  |cons r rest=>
   have hd:(((w.R j).L (r::rest)).headD zT)=(w.R j).T r:=rfl;have F:((w.R j).T r).bi=r.bi:=by cases r;rfl
   show DR w (if r.bi=0 then _ else _) (if(((w.R j).L (r::rest)).headD zT).bi=0 then _ else _);rw[hd,F];by_cases m:r.bi=0;rw[if_pos m,if_pos m];rw[if_pos (show((Tree.mk k f b a nm (r::rest)).fg.headD zT).bi=0 from m)] at g;have ld:w.LD ⟨3,nm,j,a,ic⟩:=g _ (au0 ..);refine⟨p ld,x.f,?_,x.a⟩;show(⟨3,(w.R j).nm a nm,j,w.b j a,ic⟩:aC)::s'.d=_;rw[<-aF' ld,x.g];rfl;rw[if_neg m,if_neg m];rw[if_neg (show¬((Tree.mk k f b a nm (r::rest)).fg.headD zT).bi=0 from m)] at g;have ld:w.LD ⟨4,nm,j,a,ic⟩:=g _ (au0 ..);obtain⟨G,A,B⟩:=ok.m c2 c3 m;cases r with
   |mk L J rt I M C=>
    cases C with
    |nil=>exact(G rfl).elim
    |cons y P=>
     cases y with
     |mk O N Q D i H=>
      have A:(w.R j).nm D i=w.k ic i:=A;have B:i≠w.a:=B;refine⟨x.b,x.f,?_,λc q=>?_⟩;show(⟨4,(w.R j).nm a nm,j,w.b j a,ic⟩:aC)::s'.d=_;rw[<-aF' ld,x.g];rfl;show iY s'.b (2,ic++[32]++(w.R j).nm D i) (s'.b (2,ic++[32]++(w.R j).nm D i)++[⟨4,(w.R j).nm a nm,j,w.b j a,ic⟩]) (c,q)=_;rw[A];unfold iY;by_cases c1:c=2/\q=ic++[32]++w.k ic i;obtain⟨rfl,rfl⟩:=c1;rw[if_pos rfl,x.a,l6.q1 dn l v B];show _=(iY s.b (2,ic++[32]++i) (s.b (2,ic++[32]++i)++[⟨4,nm,j,a,ic⟩]) (2,ic++[32]++i)).map w.d;unfold iY;rw[if_pos rfl,au4,<-aF' ld];rfl;rw[if_neg λh=>c1 ⟨aui Prod.fst h,aui Prod.snd h⟩,x.a];cases eq:w.q q with
      |none=>rfl
      |some q0=>
       show _=(iY s.b (2,ic++[32]++i) (s.b (2,ic++[32]++i)++[⟨4,nm,j,a,ic⟩]) (c,q0)).map w.d;unfold iY;rw[if_neg];intro h;have n:=aui Prod.fst h;have u:=aui Prod.snd h;simp only[] at n u;rw[u] at eq;exact c1 ⟨n,l6.q2 dn l v eq⟩
def aLc{ic:List UInt8}{j:Nat}(a:32∉ic):∀(ts:List Tree){s s':jv},DR w s s'->(∀t∈ts,KRn w ic j t)->(∀d∈(tB ic j ts s).d,w.LD d)->DR w (tB ic j ts s) (tB ic j ((w.R j).L ts) s')
 |[],_,_,x,_,_=>x
 |t::ts,s,s',x,ok,g=>by exact aLc a ts (aOw dn l o a x (ok t (au0 ..)) λd h=>g d (aJp ts _ d h)) (λt h=>ok t (aug _ h)) g
omit dn l o in
def l6.F(w:l6):Nat->List Tree->List Tree
 |_,[]=>[]
 |j,t::ts=>(w.R j).T t::w.F (j+1) ts
theorem aLd{aq:List (List UInt8)}(a:∀j,32∉aq.getD j []):∀(ts:List Tree)(j:Nat){s s':jv},DR w s s'->(∀i,∀t,ts[i]? =some t->∀x∈t.fg,KRn w (aq.getD (j+i) []) (j+i) x)->(∀d∈(jG aq ts j s).d,w.LD d)->DR w (jG aq ts j s) (jG aq (w.F j ts) j s')
 |[],_,_,_,x,_,_=>x
 |t::ts,j,s,s',x,ok,g=>by
  unfold l6.F;unfold jG at g|-;have kd:((w.R j).T t).fg=(w.R j).L t.fg:=by cases t;rfl
  rw[kd];refine aLd a ts (j+1) (aLc dn l o (a j) t.fg x (ok 0 t rfl) λd h=>g d (aK9 ts _ _ d h)) (λi t h=>?_) g;have:=ok (i+1) t h;grind
end
end
end Yv
namespace Yv
open Classical
section
variable {w:l6}{fs NP:List Tree}{aq:List (List UInt8)}{bu aHU:List UInt8->List aC}
def aHV:∀(ts:List Tree)(j:Nat)(s:Sc),ScL s (uB fs aq bu ts j s)
 |[],_,s=>.cg s
 |t::ts,j,s=>by exact(aF9 (E:=C3 fs aq bu j) t [] false aX ⟨aX,aX,s⟩).f.ba (aHV ts (j+1) _)
theorem aLe:∀(ts:List Tree)(j:Nat){s s':Sc},wfL (nq w.a) ts->(∀i,i<ts.length->aHP w (C3 fs aq bu (j+i)) (C3 NP aq aHU (j+i)))->s'.b=s.b.map w.u->s'.c=s.c.map w.d->s'.a=s.a->Gd w (uB fs aq bu ts j s)->
 (uB NP aq aHU (w.F j ts) j s').b=(uB fs aq bu ts j s).b.map w.u/\(uB NP aq aHU (w.F j ts) j s').a=(uB fs aq bu ts j s).a
 |[],_,_,_,_,_,a,_,b,_=>⟨a,b⟩
 |t::ts,j,s,s',wf,V,a,c,b,g=>by have g1:=Gd.sT (w:=w) g (aHV ts (j+1) _);have y:=aGY (V 0 zm) t wf.1 .b .z .z (λq h=>by omega) (aN:=false) (s:=⟨aX,aX,s⟩) (s':=⟨aX,aX,s'⟩) ⟨.z,.z,.z,.z,a,c,b⟩ g1;exact aLe ts (j+1) wf.2 (λi hi=>by have:=V (i+1) qaa;grind) y.l y.j y.i g
theorem aLf{l:List aC}(h:(l.map (·.a)).Nodup)(a:∀d∈l,d.a≠w.a):((l.map w.d).map (·.a)).Nodup:=by
 have nm:∀d,(w.d d).a=if d=w.D then w.a else d.a:=λd=>rfl
 induction l with
 |nil=>grind
 |cons d l b=>
  simp at h|-;grind
structure DOk(aq:List (List UInt8))(s:jv):Prop where
 c:∀q,((s.b (1,q)++s.b (2,q)).map (·.a)).Nodup
 b:∀d∈s.c,ayH aq s.a d
 a:∀q,((s.a q).map (·.a)).Nodup
structure DNw(w:l6)(s:jv):Prop where
 a:∀c q,∀d∈s.b (c,q),d.a≠w.a
 f:∀d∈s.c,d.a≠w.a/\d≠w.D
 b:∀q,∀d∈s.a q,d.a≠w.a
theorem DR.ok{s s':jv}(x:DR w s s')(ok:DOk aq s)(n:DNw w s):DOk aq s':=by
 refine⟨λq=>?_,λd hd=>?_,λq=>?_⟩;rw[x.a,x.a];cases w.q q with
 |none=>simp
 |some q0=>
  rw[<-au4];refine aLf (ok.c q0) λd hd=>?_;rcases auj.1 hd with h|h;exact n.a _ _ d h;exact n.a _ _ d h
 rw[x.f] at hd;obtain⟨c,h0,rfl⟩:=auR.1 hd;obtain⟨i,j⟩:=n.f c h0;have nm:(w.d c).a=c.a:=by simp_all[l6.d]
 intro e hj;have q:=ok.b c h0 e hj;rw[nm,x.b];have:=aJk (n.b (aq.getD e [])) i;grind[l6.n];rw[x.b];exact aLf (ok.a q) (n.b q)
end
structure Lnk(us:List dx)(nd:List aC):Prop where
 i:∀u∈us,∀v∈us,u.a=v.a->u.c=v.c->u=v
 c:∀u∈us,∀d∈nd,u.a=d.c->u.c≠d.f
 g:∀d∈nd,∀e∈nd,d.c=e.c->d.f=e.f->d=e
 f:∀u∈us,u.f=true->u.d.a=u.b/\u.d∈nd
 b:(∀u∈us,0<=u.a)/\∀d∈nd,0<=d.c
theorem Lnk.ok{w:l6}{n:List dx}{nd:List aC}(L:Lnk n nd)(s:∃u∈n,u.f=true/\u.d=w.D)(m:∀(j:Nat)(a:Int),w.M j a=true <-> (w.D.c=j/\w.D.f=a)\/∃u∈n,u.f=true/\u.d=w.D/\u.a=j/\u.c=a):(∀u∈n,w.LU u)/\∀d∈nd,w.LD d:=by obtain⟨A,y,x,q⟩:=s;have dn:=q▸(L.f A y x).2;refine⟨λu l=>⟨λ⟨h,t⟩=>?_,λ⟨k,e⟩=>⟨(m _ _).2 (.inr ⟨u,l,k,e,?_,rfl⟩),?_⟩⟩,λd hd=>⟨λ⟨h,t⟩=>?_,λh=>⟨(m _ _).2 (.inl ?_),by rw[h]⟩⟩⟩;have z:=L.b.1 u l;rcases(m _ _).1 h with⟨k,e⟩|⟨v,p,k,e,r,o⟩;exact absurd e.symm (L.c u l _ dn zo);have:=L.i v p u l zo o;grind;have z:=L.b.1 u l;omega;rw[<-(L.f u l k).1,e];have z:=L.b.2 d hd;rcases(m _ _).1 h with⟨k,e⟩|⟨v,p,k,e,r,o⟩;exact(L.g _ dn d hd zo e).symm;exact absurd o (L.c v p d hd zo);have z:=L.b.2 d hd;grind
end Yv
namespace Yv
section
variable {R:Ren}(N:aF5 R.b R.d)(d:aHM R){nE fE:List UInt8->Int}
include N
theorem aG0:∀{g a:Nat}{s:List UInt8}{j:Tk}{l:List Tk}{n:Nat},aEP (azS nE fE) g a s j=.b l n->
 (∀p:Nat,a<=p->R.M p=true->∃t∈l,t.a=p/\t.c=1/\t.b=R.b)->(Hz j=true->∃q:Nat,j.d=q/\q<=a/\(R.M q=true->q=a))->∀t∈l,R.M t.a=true->t.c=1
 |0,_,_,_,_,_,h,_,_=>by cases h
 |g+1,a,[],j,l,n,h,w,B=>by grind[aEP,vI]
 |g+1,a,c::s,j,l,n,h,w,B=>by
  have r:(∀t∈l,t.c=1->(a:Int)<t.a)->R.M a=true->False:=λo i=>by grind
  have later:∀{b:Nat},a<b->(R.M a=true->False)->(Hz j=true->∃q:Nat,j.d=q/\q<=b/\(R.M q=true->q=b)):=λC D e=>by grind
  rw[aFu] at h;split at h;have u:=aFf h;have z:=r λt f tk=>by grind
  exact aG0 h (λp x i=>w p zo i) (later zo z);split at h;obtain⟨y,k,o,v⟩:=R3 h;cases v;have u:=aFf o;have F:∀t∈vI j,t.c≠1:=λt f=>by grind[vI]
  have m:∀p:Nat,a+1<=p->R.M p=true->∃t∈y,t.a=p/\t.c=1/\t.b=R.b:=λp x i=>by grind
  intro t f i;rcases auj.1 f with f|f;grind[vI];exact aG0 o m (λe=>absurd e zd) t f i;split at h;rename_i c3;have u:=aFf h;have E:=aHK c3;have z:=r λt f tk=>by grind
  exact aG0 h (λp x i=>w p zo i) (later zo z);split at h;grind;rename_i A;obtain⟨y,k,o,v⟩:=R3 h;cases v;have A:(azS nE fE (c::s)).2.2 =0:=zo;have pos:=aGl (c::s) A;have u:=aFf o;have m:∀p:Nat,a+(azS nE fE (c::s)).2.1 <=p->R.M p=true->∃t∈y,t.a=p/\t.c=1/\t.b=R.b:=λp x i=>by grind
  intro t f i;rcases atZ.1 f with rfl|f;grind;exact aG0 o m (λ_=>⟨a+(azS nE fE (c::s)).2.1,by simp,at2 _,λ_=>rfl⟩) t f i
include d
theorem aJq:∀(n:Nat){a:Nat}{s:List UInt8},s.length<=n->(∀i,i<s.length->R.M ((a+i:Nat):Int)=true->(∃q,s.drop i=R.b++q)/\∀p:Nat,a+i<p->p<a+i+R.b.length->R.M p=false)->R.c (a+s.length:Nat)=R.c a+(spl R 0 a s).length
 |_,a,[],_,_=>by simp[spl]
 |0,_,c::s,h,_=>by grind
 |n+1,a,c::s,h,g=>by
  by_cases m:R.M a=true;obtain⟨⟨q,e⟩,u⟩:=g 0 zm m;rw[axq] at e;have h0:=aHN N d;have w:0<R.b.length:=auA.2 h0;have r:=aui List.length e;simp at r h;have j:=aJq n (a:=a+R.b.length) (s:=q) zo λi hi o=>by obtain⟨⟨q2,k⟩,b⟩:=g (R.b.length+i) qaa qaa;grind[List.drop_drop,List.drop_left]
  rw[e,aHL h0 m,auk,auk,show a+(R.b.length+q.length)=a+R.b.length+q.length by omega,j,d.b a m λi f l=>u i f zo];simp;omega;have t:R.M a=false:=by simpa using m
  simp at h;have j:=aJq n (a:=a+1) (s:=s) h λi hi o=>by obtain⟨⟨q2,k⟩,b⟩:=g (i+1) zn (by rw[<-o];congr 1;omega);exact⟨⟨q2,k⟩,λp f l=>b p zo zo⟩
  have v:=d.c a 1 λi f l=>by rw[show i=a by omega];exact t
  rw[aGS,if_neg m,show a+(c::s).length=a+1+s.length by simp;omega,j,v];simp;omega
end
mutual
def dpT:Tree->Int->Bool
 |.mk q _ _ _ _ ks,m=>decide (q≠0)&&(decide (m=0)||dpL ks (if 0<m- 1 then m- 1 else 0))
def dpL:List Tree->Int->Bool
 |[],_=>false
 |t::ts,m=>dpT t m||dpL ts m
end
mutual
def aG1(L:Int):Tree->Prop
 |.mk q _ _ a _ ks=>(q≠0->a<=L)/\aG2 L ks
def aG2(L:Int):List Tree->Prop
 |[]=>True
 |t::ts=>aG1 L t/\aG2 L ts
end
mutual
theorem aLg:∀(t:Tree)(m e:Int),dpT t m=false->yu t m e=e
 |.mk q _ _ a _ ks,m,e,h=>by unfold dpT at h;unfold yu;by_cases c:q=0;omega;simp only[c,ne_eq,avR,auS,av8,aQe,awn] at h;rw[if_neg c,if_neg h.1];exact aLh ks _ e h.2
theorem aLh:∀(ts:List Tree)(m e:Int),dpL ts m=false->KN ts m e=e
 |[],_,_,_=>rfl
 |t::ts,m,e,h=>by unfold dpL at h;simp at h;unfold KN;rw[aLg t m e h.1,aLh ts m e h.2]
end
mutual
theorem aOx:∀(t:Tree)(m e:Int),yu t m e<=e
 |.mk q _ _ a _ ks,m,e=>by unfold yu;split;omega;refine avU (aHW ks _ _) ?_;omega
theorem aHW:∀(ts:List Tree)(m e:Int),KN ts m e<=e
 |[],_,_=>atY _
 |t::ts,m,e=>by exact avU (aHW ts m _) (aOx t m e)
end
mutual
theorem aLi{L:Int}:∀(t:Tree)(m e:Int),aG1 L t->dpT t m=true->yu t m e<=L
 |.mk q _ _ a _ ks,m,e,b,h=>by unfold dpT at h;unfold aG1 at b;unfold yu;simp only[atW,auU,awq] at h;rw[if_neg h.1];by_cases c:m=0;refine avU (aHW ks _ _) ?_;omega;exact aLj ks _ _ b.2 (h.2.resolve_left c)
theorem aLj{L:Int}:∀(ts:List Tree)(m e:Int),aG2 L ts->dpL ts m=true->KN ts m e<=L
 |[],_,_,_,h=>by cases h
 |t::ts,m,e,a,h=>by unfold dpL at h;simp at h;rcases h with h|h;exact avU (aHW ts m _) (aLi t m e a.1 h);exact aLj ts m _ a.2 h
end
mutual
theorem aLk{R:Ren}:∀(t:Tree)(m:Int),dpT (R.T t) m=dpT t m
 |.mk q _ _ a _ ks,m=>by simp[Ren.T,dpT];rw[aLl ks]
theorem aLl{R:Ren}:∀(ts:List Tree)(m:Int),dpL (R.L ts) m=dpL ts m
 |[],_=>rfl
 |t::ts,m=>by simp[Ren.L,dpL];rw[aLk t,aLl ts]
end
theorem aOy{R:Ren}{t:Tree}{L L':Int}(a:aG1 L t)(h:¬yu t 64 (L+1)<=L):¬yu (R.T t) 64 (L'+1)<=L':=by
 have:dpT t 64=false:=by rw[aP3];exact λq=>h (aLi t 64 _ a q)
 grind[aLg,aLk]
end Yv
namespace Yv
variable {fs:List Tree}
structure aG3(R:Ren)(s:List UInt8)(l:List Tk):Prop where
 a:∀i,i<s.length->R.M (i:Int)=true->(∃q,s.drop i=R.b++q)/\∀p:Nat,i<p->p<i+R.b.length->R.M p=false
 b:∀p:Nat,R.M p=true->∃t∈l,t.a=p/\t.c=1/\t.b=R.b
 z:∀p:Nat,s.length<=p->R.M p=false
section
variable {R:Ren}(N:aF5 R.b R.d)(c:aHM R){nE fE:List UInt8->Int}{s:List UInt8}{l:List Tk}{n:Nat}
include N c
theorem aLm(d:aG3 R s l):R.c s.length=((spl R 0 0 s).length:Int):=by
 have:=aJq N c s.length (a:=0) (s:=s) zl λi hi b=>by rw[aue] at b|-;exact d.a i hi b
 rw[aue] at this;have z:R.c ((0:Nat):Int)=0:=c.z;omega
def aOz(d:aG3 R s l)(h:aER (azS nE fE) s (s.length+1) 0 t0 []=.b l n):aER (azS nE fE) (spl R 0 0 s) ((spl R 0 0 s).length+1) 0 t0 []=.b (l.map R.tk) n:=by rw[aF6] at h|-;obtain⟨f,k,b,e⟩:=R3 h;cases e;rw[axq] at b|-;have y:=aGt N c (a':=0) b c.z (λi hi a=>by rw[aue] at a;exact(d.a i hi a).1) (λp _ a=>d.b p a) (.inl (by rw[aHO N c]));rw[aHO N c] at y;rw[aGR (λs=>aGl s) y _ zl];rfl
theorem aOA(d:aG3 R s l)(v:R.b≠[112,114,105,110,116])(w:R.b≠[112,97,110,105,99])(r:R.d≠[112,114,105,110,116])(u:R.d≠[112,97,110,105,99])
 (h:aER (azS nE fE) s (s.length+1) 0 t0 []=.b l n) (i:List UInt8->List UInt8×Bool):sj (l.map R.tk++[fD (spl R 0 0 s)]) (spl R 0 0 s).length i=(sj (l++[fD s]) s.length i).mp R.T R.c:=by
 have q:l.map R.tk++[fD (spl R 0 0 s)]=(l++[fD s]).map R.tk:=by
  have:fD (spl R 0 0 s)=R.tk (fD s):=by show(⟨0,[],_,_⟩:Tk)=⟨0,R.nm _ [],R.c s.length,R.c s.length⟩;grind[aJj,aLm]
  grind
 have g:∀t∈l++[fD s],R.M t.a=true->t.c=1:=λt b a=>by rcases auj.1 b with b|b;rw[aF6] at h;obtain⟨x,k,j,m⟩:=R3 h;rw[au5] at m;cases m;rw[axq] at j;exact aG0 N j (λp _ a=>d.b p a) (λe=>absurd e zd) t b a;rw[awQ] at b;subst b;have a:R.M (s.length:Int)=true:=a;rw[d.z _ zl] at a;cases a
 have H:aE1 R (l++[fD s]):=⟨c.z,aHN N c,g,v,w,r,u⟩;unfold sj;rw[q,<-aLm N c d];have f:lY ((l++[fD s]).map R.tk)=lY (l++[fD s]):=by unfold lY;rw[avd]
 rw[f];exact aOc H (λop n=>aKS H (aJb H _) (λop hd o n=>aNZ _ op hd o n) _ op n) _ i 0
end
structure W1(Q:Bool->Int->List UInt8->Prop)(t:Tree):Prop where
 w:wfT Q t
 k:t.bi≠2
 l:t.bi=25->t.fg=[]/\t.ib=t.at
def PW(Q:Bool->Int->List UInt8->Prop)(r:PR Tree):Prop:=∀a n,r=.b a n->W1 Q a
def PLn(Q:Bool->Int->List UInt8->Prop)(r:PR (List Tree)):Prop:=∀ts n,r=.b ts n->∀t∈ts,W1 Q t
section
variable {Q:Bool->Int->List UInt8->Prop}
theorem PW.dC{f:Type}{r:PR f}{k:f->Nat->PR Tree}(h:∀a n,r=.b a n->PW Q (k a n)):PW Q (r.dC k):=by
 cases r with
 |b a n=>simp_all
 |d p e=>exact λ_ _ q=>by cases q
 |c=>exact λ_ _ q=>by cases q
theorem PLn.dC{f:Type}{r:PR f}{k:f->Nat->PR (List Tree)}(h:∀a n,r=.b a n->PLn Q (k a n)):PLn Q (r.dC k):=by
 cases r with
 |b a n=>simp_all
 |d p e=>exact λ_ _ q=>by cases q
 |c=>exact λ_ _ q=>by cases q
theorem PW.ok{a:Tree}{n:Nat}(h:W1 Q a):PW Q (.b a n):=λ_ _ q=>by grind
theorem PW.er{p e:Int}:PW Q (.d p e):=λ_ _ q=>by grind
theorem PW.dN:PW Q .c:=λ_ _ q=>by grind
theorem PLn.er{p e:Int}:PLn Q (.d p e):=λ_ _ q=>by grind
theorem aHX:∀{ts:List Tree},(∀t∈ts,W1 Q t)->wfL Q ts
 |[],_=>trivial
 |t::ts,h=>⟨(h t (au0 ..)).w,aHX λx a=>h x (aug _ a)⟩
theorem W1.nd{l:List Tk}{n:Nat}{k f a:Int}{nm:List UInt8}{ks:List Tree}(g:Q (nmK k) a nm)(c:k≠2)(h:k≠5)(d:k≠26/\k≠9)(b:k=25->nm∉K5/\ks=[]/\f=a)(i:∀t∈ks,W1 Q t):W1 Q (aV l n k f a nm ks):=by refine⟨?_,c,λe=>(b e).2⟩;grind[Yv.aV,wfT,aHX]
def W1.VX{l:List Tk}{n:Nat}{k f a:Int}{nm:List UInt8}{x:Tree}(d:Q false a nm)(b:k=26\/k=9)(c:W1 Q x):W1 Q (aV l n k f a nm [x]):=by refine⟨?_,?_,?_⟩;refine⟨λ_=>(by rw[show nmK k=false by rcases b with rfl|rfl<;>rfl];omega),λe=>?_,λ_=>⟨x,rfl,λe=>(c.l e).1⟩,λe=>?_,c.w,auW⟩<;>omega;show k≠2;omega;intro e;have:k=25:=e;omega
def W1.z(h:∀a,Q false a []):W1 Q zT:=⟨by exact⟨λ_=>h 0,λe=>absurd e zm,λe=>absurd e zm,λe=>absurd e zm,auW⟩,by show(0:Int)≠2;simp,λ_=>⟨rfl,rfl⟩⟩
theorem aFV{x:Tree}(h:W1 Q x):∀t∈[x],W1 Q t:=λt a=>by grind
theorem aGw{x y:Tree}(h:W1 Q x)(a:W1 Q y):∀t∈[x,y],W1 Q t:=λt b=>by grind
def aFW:∀t∈([]:List Tree),W1 Q t:=λ_ h=>(awg h).elim
theorem aGe{x:Tree}{ts:List Tree}(h:W1 Q x)(a:∀t∈ts,W1 Q t):∀t∈x::ts,W1 Q t:=λt b=>by grind
theorem W1.nm{x:Tree}(h:W1 Q x):Q (nmK x.bi) x.at x.bj:=by
 cases x with
 |mk k f t a nm ks=>have:=h.w;exact this.1 h.k
structure TkW(Q:Bool->Int->List UInt8->Prop)(l:List Tk):Prop where
 t:∀n,Q false (tk l n).a (tk l n).b
 n:∀b n,(tk l n).c=1->Q b (tk l n).a (tk l n).b
 b:∀n,(tk l n).c=1->(tk l n).b∉K5
 z:∀a,Q false a []
variable {l:List Tk}(G:TkW Q l)
theorem aFB{q:Int}{n:Nat}{t:Tk}{m:Nat}(e:jR l q n=.b t m):t=tk l n/\(tk l n).c=q:=by unfold jR at e;grind
include G
def aOB{n m:Nat}(h:(tk l n).c=1):W1 Q (aV l m 25 (tk l n).a (tk l n).a (tk l n).b []):=.nd (G.n _ n h) zm zm zm (λ_=>⟨G.b n h,rfl,rfl⟩) aFW
def aJr(n:Nat):PW Q (Ct l n):=by unfold Ct;split;exact .ok (.nd (G.t n) zm zm zm (λe=>absurd e zm) aFW);refine .dC λt m e=>?_;obtain⟨rfl,k⟩:=aFB e;split;refine .dC λu o e=>?_;obtain⟨rfl,_⟩:=aFB e;exact .ok (.VX (G.t _) (.inr rfl) (aOB G k));exact .ok (.nd (G.t n) zm zm zm (λe=>absurd e zm) aFW)
def aLn(k:Int)(a:k≠2/\k≠5/\k≠26/\k≠9/\k≠25)(n:Nat):PW Q (En l k n):=by refine .dC λt m e=>.dC λx o b=>?_;obtain⟨rfl,c⟩:=aFB e;exact .ok (.nd (G.n _ _ c) a.1 a.2.1 ⟨a.2.2.1,a.2.2.2.1⟩ (λe=>(a.2.2.2.2 e).elim) (aFV (aJr G _ _ _ b)))
omit G in
theorem aLo{P:Tree->Prop}{right:List UInt8}{c:Nat->PR Tree}{d:Nat->PR Unit}(h:∀n a m,c n=.b a m->P a):∀f n ts m,ug l right c d f n=.b ts m->∀t∈ts,P t
 |0,_,_,_,q=>by cases q
 |f+1,n,ts,m,q=>by unfold ug at q;split at q;grind;obtain⟨t,k,i,q⟩:=R3 q;split at q;grind;obtain⟨_,o,_,q⟩:=R3 q;obtain⟨g,p,e,q⟩:=R3 q;cases q;intro x b;rcases atZ.1 b with rfl|b;grind;exact aLo h f _ _ _ e x b
omit G in
theorem aJs{P:Tree->Prop}{left right:List UInt8}{b:Nat->PR Tree}{c:Nat->PR Unit}(h:∀n a m,b n=.b a m->P a) {op:Int} {f n:Nat} {ts:List Tree} {m:Nat} (q:wS l left right b c op f n=.b ts m):∀t∈ts,P t:=by unfold wS at q;split at q;split at q;grind;obtain⟨d,g,e,q⟩:=R3 q;split at q;cases q;exact aLo h _ _ _ _ e;grind;grind
omit G in
theorem aG4{left right:List UInt8}{a:Nat->PR Tree}{b:Nat->PR Unit}(h:∀n,PW Q (a n)) (op:Int) (f n:Nat):PLn Q (wS l left right a b op f n):=λ_ _ q=>aJs (λn=>h n) q
theorem aLp{k:Int}{n m:Nat}{t:Tree}(h:En l k n=.b t m):t.bi=k:=by obtain⟨_,_,_,h⟩:=R3 h;obtain⟨_,_,_,h⟩:=R3 h;cases h;rfl
section
variable {F:Nat}{ex:Int->Bool->Int->Nat->PR Tree}(E:∀op hd j n,PW Q (ex op hd j n))
include E
def aLq(op:Int){x:Tree}(b:W1 Q x)(n:Nat):PW Q (Cv l F ex op x n):=by refine .dC λts m e=>.ok (.nd (G.z _) zm zm zm (λe=>absurd e zm) (aGe b (aG4 (λn=>?_) _ _ _ _ _ e)));refine .dC λt m e=>.dC λ_ o _=>.dC λy q a=>?_;obtain⟨rfl,_⟩:=aFB e;exact .ok (.nd (G.t _) zm zm zm (λe=>absurd e zm) (aFV (E _ _ _ _ _ _ a)))
omit G in
theorem aLr(op:Int)(n:Nat):PLn Q (Kj l F ex op n):=aG4 (λn=>E _ _ _ n) _ _ _
theorem aOC(op:Int)(hd:Bool)(n:Nat):PW Q (Km l F ex op hd n):=by
 unfold Km;split;rename_i c;split;exact aLq G E _ (.nd (k:=8) (G.t n) zm zm zm (λe=>absurd e zm) aFW) _;have a:o7 (tk l n)=25->(tk l n).c=1:=λe=>by grind[o7]
 have kk:o7 (tk l n)=21\/o7 (tk l n)=22\/o7 (tk l n)=23\/o7 (tk l n)=25\/o7 (tk l n)=24:=by grind[o7]
 refine .ok (.nd ?_ zo zo zo (λe=>⟨G.b n (a e),rfl,rfl⟩) aFW);by_cases e:o7 (tk l n)=25;exact G.n _ n (a e);rw[show nmK (o7 (tk l n))=false by grind[nmK]];exact G.t n;split;refine .dC λts m e=>.ok (.nd (G.t n) zm zm zm (λe=>absurd e zm) (aLr E _ _ _ _ e));unfold NX;split;split;exact .er;refine .dC λx m e=>?_;split;exact .ok (.nd (G.z _) zm zm zm (λe=>absurd e zm) (aFV (E _ _ _ _ _ _ e)));exact .er;exact .er
def aHY(op:Int)(hd:Bool):∀g x n,W1 Q x->PW Q (ye l F ex op hd g x n)
 |0,_,_,_=>.dN
 |g+1,x,n,a=>by unfold ye;split;refine .dC λt m e=>?_;obtain⟨rfl,_⟩:=aFB e;split;exact .dC λy o b=>aHY op hd g y o (aLq G E _ (.VX (G.t _) (.inr rfl) a) _ _ _ b);exact aHY op hd g _ _ (.VX (G.t _) (.inl rfl) a);split;exact .dC λts m e=>aHY op hd g _ _ (.nd (G.z _) zm zm zm (λe=>absurd e zm) (aGe a (aLr E _ _ _ _ e)));exact .ok a
omit G E in
theorem aHZ{op:Int}{hd:Bool}:∀{g x n y m},ye l F ex op hd g x n=.b y m->y.bi=25->y=x
 |0,_,_,_,_,h,_=>by cases h
 |g+1,x,n,y,m,h,k=>by
  have lit:∀{x:Tree}{n:Nat}{y:Tree}{m:Nat},Cv l F ex op x n=.b y m->y.bi=28:=λh=>by obtain⟨_,_,_,h⟩:=R3 h;cases h;rfl
  unfold ye at h;split at h;obtain⟨t,q,_,h⟩:=R3 h;split at h;obtain⟨z,o,e,h⟩:=R3 h;have:=aHZ h k;grind;have:=aHZ h k;rw[this] at k;exact absurd k (by simp:(26:Int)≠25);split at h;obtain⟨ts,o,e,h⟩:=R3 h;have:=aHZ h k;rw[this] at k;exact absurd k (by simp:(27:Int)≠25);grind
omit G E in
theorem aOD{op:Int}{hd:Bool}{n:Nat}{x:Tree}{m:Nat}(h:aEZ l F ex op hd n=.b x m)(k:x.bi=25):x.ib=(tk l n).a:=by obtain⟨y,o,e,h⟩:=R3 h;have:=aHZ h k;subst this;unfold Km at e;split at e;split at e;obtain⟨_,_,_,e⟩:=R3 e;cases e;rfl;cases e;rfl;split at e;obtain⟨_,_,_,e⟩:=R3 e;cases e;rfl;unfold NX at e;split at e;split at e;grind;obtain⟨_,_,_,e⟩:=R3 e;split at e;cases e;rfl;grind;grind
theorem aJt(op:Int)(hd:Bool)(n:Nat):PW Q (aEZ l F ex op hd n):=by exact .dC λx m e=>aHY G E op hd F x m (aOC G E _ _ _ _ _ e)
theorem aLs(op:Int)(hd:Bool):∀g n,PW Q (G8 l F ex op hd g n)
 |0,_=>.dN
 |g+1,n=>by unfold G8;split;exact .dC λx m e=>.ok (.nd (G.t n) zm zm zm (λe=>absurd e zm) (aFV (aLs op hd g _ _ _ e)));grind[aJt]
def aLt(op:Int)(hd:Bool)(j:Int):∀g x n,W1 Q x->PW Q (G9 l ex op hd j g x n)
 |0,_,_,_=>.dN
 |g+1,x,n,a=>by unfold G9;split;exact .dC λy m e=>aLt op hd j g _ _ (.nd (G.t n) zm zm zm (λe=>absurd e zm) (aGw a (E _ _ _ _ _ _ e)));exact .ok a
theorem aJu(op:Int)(hd:Bool){x:Tree}(a:W1 Q x)(b:Bool)(n:Nat):PW Q (uj l ex op hd x b n):=by unfold uj;split;rename_i c;exact .dC λy m e=>.ok (.nd (by have:=a.nm;rw[c.2.1,<-(a.l c.2.1).2] at this;exact this) zm zm zm (λe=>absurd e zm) (aFV (E _ _ _ _ _ _ e)));split;exact .dN;split;exact .dC λy m e=>.ok (.nd (G.z _) zm zm zm (λe=>absurd e zm) (aGw a (E _ _ _ _ _ _ e)));split;exact .ok (.nd (G.z _) zm zm zm (λe=>absurd e zm) (aFV a));exact .er
theorem aOE(op:Int)(n:Nat):∀p m,Ks l F ex op n=.b p m->W1 Q p.1 /\W1 Q p.2.1 /\W1 Q p.2.2 :=by
 intro p m h;have z:=W1.z G.z;obtain⟨r,q,a,h⟩:=R3 h;have f:W1 Q r.1 /\W1 Q r.2.1 :=by split at a;obtain⟨x,q2,b,a⟩:=R3 a;have g:=E _ _ _ _ _ _ b;split at a;grind;obtain⟨i,q3,d,a⟩:=R3 a;cases a;exact⟨aJu G E _ _ g _ _ _ _ d,z⟩;grind
 split at h;grind;obtain⟨_,o,_,h⟩:=R3 h;obtain⟨x,q2,b,h⟩:=R3 h;obtain⟨_,s,_,h⟩:=R3 h;obtain⟨y,v,c,h⟩:=R3 h;cases h;refine⟨f.1,?_,?_⟩;split at b;exact E _ _ _ _ _ _ b;grind;split at c;grind;obtain⟨u,q5,e,c⟩:=R3 c;exact aJu G E _ _ (aJt G E _ _ _ _ _ e) _ _ _ _ c
def aOF(op:Int)(n:Nat):PW Q (Kt l ex op n):=by refine .dC λt m _=>.dC λu o e=>.dC λty q a=>.dC λx r b=>?_;obtain⟨rfl,c⟩:=aFB e;refine .ok (.nd (G.n _ _ c) zm zm zm (λe=>absurd e zm) (aGw ?_ ?_));split at a;cases a;exact .z G.z;exact aJr G _ _ _ a;split at b;exact E _ _ _ _ _ _ b;cases b;exact .z G.z
omit E in
theorem aLu(k:Int)(a:k=17\/k=18)(n:Nat):PW Q (Ht l k n):=by unfold Ht;split;exact .ok (.nd (by rcases a with rfl|rfl<;>exact G.z _) zo zo zo (λe=>by omega) aFW);exact .ok (.nd (by rcases a with rfl|rfl<;>exact G.t _) zo zo zo (λe=>by omega) aFW)
section
variable {st:Int->Nat->PR Tree}(S:∀op n,PW Q (st op n))
include S
omit E in
theorem aG5(op:Int)(n:Nat):PW Q (vE l F st op n):=by exact .dC λts m e=>.ok (.nd (G.z _) zm zm zm (λe=>absurd e zm) (aG4 (λn=>S _ n) _ _ _ _ _ e))
theorem aLv(op:Int):∀g n,PW Q (Hu l F ex st op g n)
 |0,_=>.dN
 |g+1,n=>by refine .dC λt m _=>.dC λc o d=>.dC λb q f=>.dC λx r a=>?_;refine .ok (.nd (G.z _) zm zm zm (λe=>absurd e zm) (aGe (E _ _ _ _ _ _ d) (aGw (aG5 G S _ _ _ _ f) ?_)));split at a;split at a;exact aLv op g _ _ _ a;exact aG5 G S _ _ _ _ a;cases a;exact .z G.z
theorem aLw(op:Int)(n:Nat):PW Q (Hv l F ex st op n):=by
 refine .dC λt m _=>.dC λp o c=>.dC λb q d=>?_;have a:W1 Q p.1 /\W1 Q p.2.1 /\W1 Q p.2.2 :=by split at c;cases c;exact⟨.z G.z,.z G.z,.z G.z⟩;grind[aOE]
 exact .ok (.nd (G.z _) zm zm zm (λe=>absurd e zm) (aGe a.1 (aGe a.2.1 (aGw a.2.2 (aG5 G S _ _ _ _ d)))))
theorem aOG(op:Int)(n:Nat):PW Q (Ku l F ex st op n):=by unfold Ku;split;exact aG5 G S _ _;split;grind[aLv];split;exact aLw G E S _ _;split;exact aOF G E _ _;split;exact aLu G _ (.inl rfl) _;split;exact aLu G _ (.inr rfl) _;split;split;exact .ok (.nd (G.z _) zm zm zm (λe=>absurd e zm) aFW);exact .dC λx m e=>.ok (.nd (G.z _) zm zm zm (λe=>absurd e zm) (aFV (E _ _ _ _ _ _ e)));refine .dC λx m e=>?_;have a:=aJt G E _ _ _ _ _ e;split;rename_i c;exact .dC λy o b=>.ok (.nd (by have:=a.nm;rw[c.1,<-(a.l c.1).2,aOD e c.1] at this;exact this) zm zm zm (λe=>absurd e zm) (aFV (aLw G E S _ _ _ _ b)));grind[aJu]
end
def aLx:∀f op n,PW Q (Hw l F ex f op n)
 |0,_,_=>.dN
 |f+1,op,n=>aOG G E (λop n=>aLx f op n) op n
end
def aJv{F:Nat}:∀f op hd j n,PW Q (zU l F f op hd j n)
 |0,_,_,_,_=>.dN
 |f+1,op,hd,j,n=>.dC λx m e=>aLt G (λop hd j n=>aJv f op hd j n) op hd j F x m (aLs G (λop hd j n=>aJv f op hd j n) _ _ _ _ _ _ e)
structure aEL(Q:Bool->Int->List UInt8->Prop)(t:Tree):Prop where
 w:wfT Q t
 k:t.bi=2\/t.bi=3\/t.bi=5
 f:t.bi=5->t.fg.length=4
 s:t.bi=3->∀x∈t.fg,x.bi=4
 r:t.bi=5->(t.fg.headD zT).bi=0\/∃a b c d e f g h y,y∉K5/\Q false g y/\t.fg.headD zT=.mk 7 a b c d [.mk 8 e f g y h]/\h=[]
theorem aOH(op:Int)(n:Nat):∀r m,Kv l op n=.b r m->W1 Q r/\r.bi=7/\∃a b c d e f g h y,y∉K5/\Q false g y/\r=.mk 7 a b c d [.mk 8 e f g y h]/\h=[]:=by intro r m h;unfold Kv at h;split at h;split at h;grind;obtain⟨t,q,i,h⟩:=R3 h;obtain⟨u,o,p,h⟩:=R3 h;obtain⟨rfl,s⟩:=aFB i;obtain⟨rfl,k⟩:=aFB p;split at h;cases h;exact⟨.nd (G.n _ _ s) zm zm zm (λe=>absurd e zm) (aFV (.nd (k:=8) (G.t _) zm zm zm (λe=>absurd e zm) aFW)),rfl,⟨_,_,_,_,_,_,_,_,_,G.b _ k,G.t _,rfl,rfl⟩⟩;grind;grind
theorem aOI{F:Nat}{st:Int->Nat->PR Tree}(S:∀op n,PW Q (st op n)) (op:Int) (n:Nat):∀t m,Kw l F st op n=.b t m->aEL Q t:=by
 intro t m h;unfold Kw at h;obtain⟨t0,q0,_,h⟩:=R3 h;obtain⟨r,q1,o,h⟩:=R3 h;obtain⟨u,q2,q,h⟩:=R3 h;obtain⟨ps,q3,p,h⟩:=R3 h;obtain⟨ty,q4,k,h⟩:=R3 h;obtain⟨b,q5,s,h⟩:=R3 h;cases h;obtain⟨rfl,v⟩:=aFB q;have wr:W1 Q r/\(r.bi=0\/∃a b c d e f g h y,y∉K5/\Q false g y/\r=.mk 7 a b c d [.mk 8 e f g y h]/\h=[]):=by split at o;grind[aOH];cases o;exact⟨.z G.z,.inl rfl⟩
 have wp:=aG4 (λn=>aLn G 7 zm n) _ _ _ _ _ p;have z:W1 Q ty:=by split at k;cases k;exact .z G.z;exact aJr G _ _ _ k
 have wb:=aG5 G S _ _ _ _ s;have w:W1 Q (aV l q3 6 (tk l q2).a (tk l q2).a [] ps):=.nd (G.z _) zm zm zm (λe=>absurd e zm) wp;refine⟨?_,.inr (.inr rfl),λ_=>rfl,λe=>absurd (show(5:Int)=3 from e) zm,λ_=>wr.2⟩;unfold Yv.aV wfT;refine⟨λ_=>G.n _ _ v,λ_ x i=>?_,λe=>absurd e zm,λe=>absurd e zm,aHX (aGe wr.1 (aGe w (aGw z wb)))⟩;have i:x∈[r]++ps:=i;rcases auj.1 i with i|i;rw[awQ] at i;subst i;rcases wr.2 with h|⟨_,_,_,_,_,_,_,_,_,_,_,h,_⟩;omega;rw[h];exact .inr rfl;exact .inr (aJs (λn a m e=>aLp G e) p x i)
theorem aOJ{F:Nat}(op:Int)(n:Nat):∀t m,Ky l F op n=.b t m->aEL Q t:=by intro t m h;obtain⟨t0,q0,_,h⟩:=R3 h;obtain⟨u,q1,c,h⟩:=R3 h;obtain⟨_,q2,_,h⟩:=R3 h;obtain⟨ts,q3,b,h⟩:=R3 h;cases h;obtain⟨rfl,d⟩:=aFB c;have wp:=aG4 (λn=>aLn G 4 zm n) _ _ _ _ _ b;exact⟨⟨λ_=>G.n _ _ d,λe=>absurd e zm,λe=>absurd e zm,λe=>absurd e zm,aHX wp⟩,.inr (.inl rfl),λe=>absurd (show(3:Int)=5 from e) zm,λ_=>aJs (λn a m e=>aLp G e) b,λe=>absurd (show(3:Int)=5 from e) zm⟩
omit G in
theorem aOK(o:List UInt8->List UInt8×Bool)(n:Nat):∀t m,Ac l o n=.b t m->aEL Q t:=by intro t m h;obtain⟨t0,q0,_,h⟩:=R3 h;split at h;grind;split at h;grind;cases h;exact⟨⟨λe=>(e rfl).elim,λe=>absurd e zm,λe=>absurd e zm,λe=>absurd e zm,auW⟩,.inl rfl,λe=>absurd (show(2:Int)=5 from e) zm,λe=>absurd (show(2:Int)=3 from e) zm,λe=>absurd (show(2:Int)=5 from e) zm⟩
omit G in
theorem aLy(o:List UInt8->List UInt8×Bool):∀g n a ts m,(∀t∈a,aEL Q t)->vH l o g n a=.b ts m->∀t∈ts,aEL Q t
 |0,_,_,_,_,_,h=>by cases h
 |g+1,n,a,ts,m,c,h=>by unfold vH at h;split at h;obtain⟨t,q0,b,h⟩:=R3 h;obtain⟨_,q1,_,h⟩:=R3 h;refine aLy o g _ _ _ _ (λx d=>?_) h;grind[aOK];grind
theorem aLz{F:Nat}{st:Int->Nat->PR Tree}(S:∀op n,PW Q (st op n)):∀g n a ts m,(∀t∈a,aEL Q t)->yp l F st g n a=.b ts m->∀t∈ts,aEL Q t
 |0,_,_,_,_,_,h=>by cases h
 |g+1,n,a,ts,m,c,h=>by unfold yp at h;split at h;obtain⟨t,q0,b,h⟩:=R3 h;obtain⟨_,q1,_,h⟩:=R3 h;refine aLz S g _ _ _ _ (λx d=>?_) h;grind[aOJ,aOI];grind
def aLA(size:Nat)(i:List UInt8->List UInt8×Bool):∀t m,sj l size i=.b t m->t.bi=1/\Q false t.at t.bj/\(∀x∈t.fg,aEL Q x)/\wfT Q t:=by
 intro t m h;obtain⟨_,q0,_,h⟩:=R3 h;obtain⟨u,q1,b,h⟩:=R3 h;obtain⟨_,q2,_,h⟩:=R3 h;obtain⟨is,q3,c,h⟩:=R3 h;obtain⟨ds,q4,d,h⟩:=R3 h;cases h;obtain⟨rfl,_⟩:=aFB b;have k:=aLy (Q:=Q) _ _ _ _ _ _ (λt h=>(awg h).elim) c;have a:=aLz G (λop n=>aLx G (λop hd j n=>aJv G _ op hd j n) _ op n) _ _ _ _ _ k d;have o:∀{ts:List Tree},(∀t∈ts,aEL Q t)->wfL Q ts:=by
  intro ts;induction ts with
  |nil=>intro _;trivial
  |cons t ts g=>exact λh=>⟨(h t (au0 ..)).w,g λx f=>h x (aug _ f)⟩
 exact⟨rfl,G.t _,a,⟨λ_=>G.t _,λe=>absurd e zm,λe=>absurd e zm,λe=>absurd e zm,o a⟩⟩
end
def own(k a:Int)(nm:List UInt8)(kids:List Tree):List (Int×Int×List UInt8):=
 if Az k=true\/k=8\/k=25\/k=17\/k=18 then[(a,0,nm)] else if k=7 then[(a,6,nm)] else if k=11\/k=12 then[(a,7,nm)] else if k=16 then[(a,8,nm)]
 else if k=2 then[(a,1,nm)] else if k=3 then[(a,2,nm)] else if k=4 then[(a,5,nm)] else if k=5 then[(a,if(kids.headD zT).bi=0 then 3 else 4,nm)] else[]
mutual
def st:Tree->List (Int×Int×List UInt8)
 |.mk k _ _ a nm ks=>own k a nm ks++stL ks
def stL:List Tree->List (Int×Int×List UInt8)
 |[]=>[]
 |t::ts=>st t++stL ts
end
theorem aLB{k a:Int}{nm:List UInt8}{ks:List Tree}:∀x∈own k a nm ks,x.1 =a:=by grind[own]
def aOL{k a:Int}{nm:List UInt8}{ks:List Tree}:(own k a nm ks).Pairwise λx y=>x.1 ≠y.1 :=by
 unfold own
 repeat' split
 all_goals simp
theorem aJw{k a:Int}{nm:List UInt8}{ks:List Tree}(b:Az k=false)(c:BG k=false)(d:k≠5):own k a nm ks=[]:=by grind[BG,own]
def Rng(lo hi:Int)(l:List (Int×Int×List UInt8)):Prop:=(∀x∈l,lo<=x.1 /\x.1 <hi)/\l.Pairwise λx y=>x.1 ≠y.1
def Rng.ss{lo md hi:Int}{a b:List (Int×Int×List UInt8)}(x:Rng lo md a)(y:Rng md hi b)(g:lo<=md)(i:md<=hi):Rng lo hi (a++b):=by refine⟨λz f=>?_,au9.2 ⟨x.2,y.2,λp c q d e=>?_⟩⟩;rcases auj.1 f with h|h;have:=x.1 z h;omega;have:=y.1 z h;omega;have:=x.1 p c;have:=y.1 q d;omega
def Rng.aLC{lo md hi:Int}{a b:List (Int×Int×List UInt8)}(x:Rng md hi a)(y:Rng lo md b)(g:lo<=md)(i:md<=hi):Rng lo hi (a++b):=by refine⟨λz f=>?_,au9.2 ⟨x.2,y.2,λp c q d e=>?_⟩⟩;rcases auj.1 f with h|h;have:=x.1 z h;omega;have:=y.1 z h;omega;have:=x.1 p c;have:=y.1 q d;omega
theorem Rng.If{k a:Int}{nm:List UInt8}{ks:List Tree}:Rng a (a+1) (own k a nm ks):=⟨λx b=>by grind[aLB],aOL⟩
def Rng.up{lo md hi:Int}{a:List (Int×Int×List UInt8)}(x:Rng lo md a)(h:md<=hi):Rng lo hi a:=⟨λz b=>by have:=x.1 z b;omega,x.2⟩
def Rng.lo{lo md hi:Int}{a:List (Int×Int×List UInt8)}(x:Rng md hi a)(h:lo<=md):Rng lo hi a:=⟨λz b=>by have:=x.1 z b;omega,x.2⟩
mutual
theorem aH0:∀{t:Tree}{lo hi:Int},gX lo hi t->Rng lo hi (st t)
 |.mk k f d a nm ks,lo,hi,h=>by
  unfold st;unfold gX at h;split at h;have b:=h.1.le;exact Rng.aLC (md:=a) (Rng.If.up zo) (aGx h.1) b zo;rename_i c1;split at h;have c:=h.2.le;exact Rng.ss (md:=a+1) (Rng.If.lo h.1) (aGx h.2) zo c;rename_i c2;split at h
  match ks,h with
  |r::ks,h=>
   have b:=h.1.le;have c:=h.2.le;have x:=Rng.aLC (md:=a) (Rng.If (k:=k) (nm:=nm) (ks:=r::ks)) (aH0 h.1) b zo;unfold stL;rw[<-av7];exact Rng.ss (md:=a+1) x (aGx h.2) zo c
  rename_i c3;rw[aJw qaa qaa c3];exact aGx h.2
theorem aGx:∀{ts:List Tree}{lo hi:Int},gZ lo hi ts->Rng lo hi (stL ts)
 |[],_,_,_=>⟨λ_ h=>(awg h).elim,.nil⟩
 |t::ts,lo,hi,h=>by obtain⟨md,a,b⟩:=h;exact Rng.ss (aH0 a) (aGx b) a.le b.le
end
structure Sit(E:fM)(S:List (Int×Int×List UInt8))(a b:Sc):Prop where
 i:∀u∈b.b,u∈a.b\/u.a=E.j/\(u.c,0,u.b)∈S
 g:∀d∈b.c,d∈a.c\/d.c=E.j/\d.g=E.b.getD E.j []/\(d.f,d.b,d.a)∈S/\(d.b=6\/d.b=7\/d.b=8)
section
variable {E:fM}{S j l:List (Int×Int×List UInt8)}{a b c:Sc}
theorem Sit.cg:Sit E S a a:=⟨λ_ h=>.inl h,λ_ h=>.inl h⟩
def Sit.bc(x:Sit E S a b)(h:∀q∈S,q∈j):Sit E j a b:=⟨λu e=>(x.i u e).imp_right λ⟨p,q⟩=>⟨p,h _ q⟩,λd hd=>(x.g d hd).imp_right λ⟨p,q,r,s⟩=>⟨p,q,h _ r,s⟩⟩
def Sit.ba(x:Sit E S a b)(y:Sit E S b c):Sit E S a c:=⟨λu e=>(y.i u e).elim (x.i u) .inr,λd hd=>(y.g d hd).elim (x.g d) .inr⟩
theorem Sit.IH{d:Int}{nm:List UInt8}{o:Option aC}(h:(d,0,nm)∈S):Sit E S a (lD E d nm o a):=⟨λu f=>by rcases auj.1 f with e|e;grind;grind,λ_ h=>.inl h⟩
theorem Sit.rh{k e:Int}{nm:List UInt8}{m:KM}(f:k=6\/k=7\/k=8)(h:(e,k,nm)∈S):Sit E S a (HJ m (kj E k nm e) (K4 (kj E k nm e) a)):=⟨λu n=>.inl n,λd hd=>by rcases atZ.1 hd with rfl|o;exact .inr ⟨rfl,by unfold kj;grind,h,f⟩;grind⟩
theorem aGf{k f t a:Int}{nm:List UInt8}{ks:List Tree}{x:Int×Int×List UInt8}(h:x∈own k a nm ks):x∈st (.mk k f t a nm ks):=by grind[st]
theorem aFC{k f t a:Int}{nm:List UInt8}{ks:List Tree}{x:Int×Int×List UInt8}(h:x∈stL ks):x∈st (.mk k f t a nm ks):=by grind[st]
theorem aFX{t:Tree}{ts:List Tree}{x:Int×Int×List UInt8}(h:x∈st t):x∈stL (t::ts):=by grind[stL]
theorem aFN{t:Tree}{ts:List Tree}{x:Int×Int×List UInt8}(h:x∈stL ts):x∈stL (t::ts):=by grind[stL]
def Sit.Ps{t:Tree}{s:WS}(h:t.bi=0\/t.bi=7):Sit E (st t) s.a (Yv.tj E t s).a:=by
 cases t with
 |mk k f d a nm ks=>
  unfold Yv.tj;have h:=h;by_cases c:k=0;rw[if_pos (show(Tree.mk k f d a nm ks).bi=0 from c)];exact .cg;have e:=h.resolve_left c;subst e;exact .rh (.inl rfl) (aGf (by exact awQ.2 rfl))
theorem Sit.pre{ms:List KM}{aN:Bool}{ar:KM}{k f t a:Int}{nm:List UInt8}{ks:List Tree}{s:WS}:Sit E (st (.mk k f t a nm ks)) s.a (aE5 E ms aN ar k a nm s).a:=by grind[own,aE5,IH,aGf,cg]
theorem Sit.post{ms:List KM}{aN:Bool}{k f t a:Int}{nm:List UInt8}{ks:List Tree}{s:WS}:Sit E (st (.mk k f t a nm ks)) s.a (aFM E ms aN k a nm ks s).a:=by
 unfold aFM;split;rename_i c;refine .rh (.inr (.inl rfl)) (aGf ?_);unfold own;rw[if_neg (by simp[Az];omega),if_neg zo,if_pos c];grind;split;rename_i c;have o:(a,0,nm)∈own k a nm ks:=by unfold own;rw[if_pos (.inl (by simp[Az];omega))];grind
 grind[IH,aGf,cg];exact .cg
end
mutual
theorem aGy{E:fM}{Q:Bool->Int->List UInt8->Prop}:∀(t:Tree){ms:List KM}{aN:Bool}{ar:KM}{s:WS},wfT Q t->Sit E (st t) s.a (fU E ms aN ar t s).a
 |.mk k f t a nm kids,ms,aN,ar,s,wf=>by
  obtain⟨T,m,U,V,e⟩:=wf;by_cases G:k=5;subst G
  match kids,m,e with
  |[d,.mk A B C D F ps,i,.mk u v w y z g],m,e=>
   obtain⟨v0,e⟩:=e;obtain⟨N,e⟩:=e;obtain⟨O,e⟩:=e;obtain⟨v3,_⟩:=e;have m:∀x∈[d]++ps,x.bi=0\/x.bi=7:=m rfl;have I:=aGy (E:=E) d (ms:=[]) (aN:=false) (ar:=aX) (s:=⟨aX,aX,s.a⟩) v0;have J:=Sit.Ps (E:=E) (s:=⟨aX,aX,(fU E [] false aX d ⟨aX,aX,s.a⟩).a⟩) (m d zm);have a3:=aLD (E:=E) ps (s:=tj E d ⟨aX,aX,(fU E [] false aX d ⟨aX,aX,s.a⟩).a⟩) N.2.2.2.2 λp R=>m p qaa;have a4:=aGy (E:=E) i (ms:=[]) (aN:=false) (ar:=aX) (s:=⟨aX,aX,(oD E ps (tj E d ⟨aX,aX,(fU E [] false aX d ⟨aX,aX,s.a⟩).a⟩)).a⟩) O;have a5:∀(P:WS)(c:Sc),Sit E (stL g) c (jF E [aX] true aX g ⟨P.m,P.b,c⟩).a:=λP c=>aG6 (E:=E) g (ms:=[aX]) (aN:=true) (ar:=aX) (s:=⟨P.m,P.b,c⟩) v3.2.2.2.2;have H:∀q∈st d,q∈st (.mk 5 f t a nm [d,.mk A B C D F ps,i,.mk u v w y z g]):=λq h=>aFC (aFX h);have K:∀q∈stL ps,q∈st (.mk 5 f t a nm [d,.mk A B C D F ps,i,.mk u v w y z g]):=λq h=>aFC (aFN (aFX (aFC h)));have L:∀q∈st i,q∈st (.mk 5 f t a nm [d,.mk A B C D F ps,i,.mk u v w y z g]):=λq h=>aFC (aFN (aFN (aFX h)));have M:∀q∈stL g,q∈st (.mk 5 f t a nm [d,.mk A B C D F ps,i,.mk u v w y z g]):=λq h=>aFC (aFN (aFN (aFN (aFX (aFC h)))));exact(I.bc H).ba ((J.bc H).ba ((a3.bc K).ba ((a4.bc L).ba ((a5 _ _).bc M))))
  |[],_,_=>exact .cg
  |[_],_,_=>exact .cg
  |[_,.mk ..],_,_=>exact .cg
  |[_,.mk ..,_],_,_=>exact .cg
  |_::.mk ..::_::.mk ..::_::_,_,_=>exact .cg
  by_cases o:k=10\/k=15;rw[aHQ o];exact(aG6 kids (ms:=s.m::ms) (aN:=true) (ar:=ar) (s:=⟨aX,s.b,s.a⟩) e).bc λq h=>aFC h;by_cases r:k=16;subst r;rw[aHR];have n:Sit E (st (.mk 16 f t a nm kids)) s.a (Yv.EW (kj E 8 nm a) s).a:=.rh (.inr (.inr rfl)) (aGf (by unfold own;rw[if_neg zd,if_neg zm,if_neg zm,if_pos rfl];grind));exact n.ba ((aG6 kids e).bc λq h=>aFC h);rw[aF8 G o r];exact Sit.pre.ba (((aG6 kids e).bc λq h=>aFC h).ba .post)
theorem aG6{E:fM}{Q:Bool->Int->List UInt8->Prop}:∀(ts:List Tree){ms:List KM}{aN:Bool}{ar:KM}{s:WS},wfL Q ts->Sit E (stL ts) s.a (jF E ms aN ar ts s).a
 |[],_,_,_,s,_=>by rw[aGv];exact .cg
 |t::ts,ms,aN,ar,s,wf=>by unfold wfL at wf;rw[aGu];exact((aGy t wf.1).bc λq h=>aFX h).ba ((aG6 ts wf.2).bc λq h=>aFN h)
theorem aLD{E:fM}{Q:Bool->Int->List UInt8->Prop}:∀(ts:List Tree){s:WS},wfL Q ts->(∀t∈ts,t.bi=0\/t.bi=7)->Sit E (stL ts) s.a (oD E ts s).a
 |[],s,_,_=>by rw[aJm];exact .cg
 |t::ts,s,wf,k=>by unfold wfL at wf;rw[aJl];have d:=aGy (E:=E) t (ms:=[]) (aN:=false) (ar:=aX) (s:=⟨aX,aX,s.a⟩) wf.1;have e:=Sit.Ps (E:=E) (s:=⟨s.m,s.b,(fU E [] false aX t ⟨aX,aX,s.a⟩).a⟩) (k t (au0 ..));have a3:=aLD (E:=E) ts (s:=tj E t ⟨s.m,s.b,(fU E [] false aX t ⟨aX,aX,s.a⟩).a⟩) wf.2 λx h=>k x (aug _ h);exact(d.bc λq h=>aFX h).ba ((e.bc λq h=>aFX h).ba (a3.bc λq h=>aFN h))
end
def aFa(aq:List (List UInt8))(fs:List Tree)(d:aC):Prop:=∃(i:Nat) (t:Tree),fs[i]? =some t/\d.c=i/\d.g=(if d.b=1 then d.a else aq.getD i [])/\(d.f,d.b,d.a)∈st t/\1<=d.b/\d.b<=8
section
variable {aq:List (List UInt8)}
theorem aLE{ic key:List UInt8}{j:Nat}{P:aC->Prop}:∀(ts:List Tree)(s:jv),(∀d∈s.d,P d)->(∀x∈ts,P ⟨5,x.bj,j,x.at,ic⟩)->∀d∈(yL ic key j ts s).d,P d
 |[],_,h,_=>h
 |t::ts,s,h,k=>by refine aLE ts _ (λd hd=>?_) λx a=>k x (aug _ a);grind
theorem aOM{Q:Bool->Int->List UInt8->Prop}{i:Nat}{t x:Tree}(n:fs[i]? =some t)(o:∀q∈st x,q∈st t) (w:aEL Q x) {s:jv} (h:∀d∈s.d,aFa aq fs d):∀d∈(kX (aq.getD i []) i x s).d,aFa aq fs d:=by
 cases x with
 |mk k f b a nm ks=>
  have one:∀{K:Int}{ic:List UInt8},own k a nm ks=[(a,K,nm)]->1<=K->K<=8->ic=(if K=1 then nm else aq.getD i [])->aFa aq fs ⟨K,nm,i,a,ic⟩:=λe v A B=>⟨i,t,n,rfl,B,o _ (aGf qaa),v,A⟩;have cons:∀{m:aC},aFa aq fs m->∀d∈m::s.d,aFa aq fs d:=λh0 d hd=>by grind
  have G:k=2\/k=3\/k=5:=w.k;unfold kX;by_cases c2:k=2;subst c2;exact cons (one qab zm zm rfl);by_cases c3:k=3;subst c3;refine aLE _ _ (cons (one qab zm zm rfl)) λy c=>?_;have g:=w.s rfl y c;cases y with
  |mk H D E p r j=>
   have g:=g;subst g;refine⟨i,t,n,rfl,rfl,o _ (aFC ?_),by grind,by grind⟩;have c:=c;have:∀{ts:List Tree},Tree.mk 4 D E p r j∈ts->(p,5,r)∈stL ts:=by
    intro ts;induction ts with
    |nil=>grind
    |cons z ts C=>
     intro h;rcases atZ.1 h with e|h;rw[<-e];exact aFX (aGf (by unfold own;rw[if_neg zd,if_neg zm,if_neg zm,if_neg zm,if_neg zm,if_neg zm,if_pos rfl];grind));exact aFN (C h)
   exact this c
  have u:k=5:=zo;subst u;have F:own 5 a nm ks=[(a,if(ks.headD zT).bi=0 then 3 else 4,nm)]:=by rfl
  by_cases l:(ks.headD zT).bi=0;rw[if_pos (show((Tree.mk 5 f b a nm ks).fg.headD zT).bi=0 from l)];exact cons (one qaa zm zm rfl);rw[if_neg (show¬((Tree.mk 5 f b a nm ks).fg.headD zT).bi=0 from l)];exact cons (one qaa zm zm rfl)
def aLF{Q:Bool->Int->List UInt8->Prop}{i:Nat}{t:Tree}(c:fs[i]? =some t):∀(ts:List Tree)(s:jv),(∀q∈stL ts,q∈st t)->(∀x∈ts,aEL Q x)->(∀d∈s.d,aFa aq fs d)->∀d∈(tB (aq.getD i []) i ts s).d,aFa aq fs d
 |[],_,_,_,h=>h
 |x::ts,s,b,w,h=>by exact aLF c ts _ (λq a=>b q (aFN a)) (λy e=>w y (aug _ e)) (aOM c (λq a=>b q (aFX a)) (w x (au0 ..)) h)
def aJx{Q:Bool->Int->List UInt8->Prop}:∀(ts:List Tree)(j:Nat)(s:jv),(∀i t,ts[i]? =some t->fs[j+i]? =some t)->(∀t∈ts,∀x∈t.fg,aEL Q x)->(∀d∈s.d,aFa aq fs d)->∀d∈(jG aq ts j s).d,aFa aq fs d
 |[],_,_,_,_,h=>h
 |t::ts,j,s,b,w,h=>by refine aJx ts (j+1) _ (λi x a=>by rw[show j+1+i=j+(i+1) by omega];simp_all) (λx a=>w x (aug _ a)) ?_;refine aLF (b 0 t rfl) t.fg s (λq c=>?_) (w t (au0 ..)) h;cases t;exact aFC c
theorem aJy{Q:Bool->Int->List UInt8->Prop}{bu:List UInt8->List aC}:∀(ts:List Tree)(j:Nat)(s:Sc),(∀i t,ts[i]? =some t->fs[j+i]? =some t)->wfL Q ts->(∀u∈s.b,∃(i:Nat) (t:Tree),fs[i]? =some t/\u.a=i/\(u.c,0,u.b)∈st t)->(∀d∈s.c,aFa aq fs d)->
 (∀u∈(uB fs aq bu ts j s).b,∃(i:Nat) (t:Tree),fs[i]? =some t/\u.a=i/\(u.c,0,u.b)∈st t)/\∀d∈(uB fs aq bu ts j s).c,aFa aq fs d
 |[],_,_,_,_,a,b=>⟨a,b⟩
 |t::ts,j,s,f,w,a,b=>by have y:=aGy (E:=C3 fs aq bu j) t (ms:=[]) (aN:=false) (ar:=aX) (s:=⟨aX,aX,s⟩) w.1;have c:=f 0 t rfl;refine aJy ts (j+1) _ (λi x l=>by rw[show j+1+i=j+(i+1) by omega];simp_all) w.2 (λu g=>?_) λd hd=>?_;rcases y.i u g with h|⟨h,q⟩;grind;exact⟨j,t,c,h,q⟩;rcases y.g d hd with h|⟨h,e,q,k⟩;grind;exact⟨j,t,c,h,by rw[if_neg zo];exact e,q,by omega,by omega⟩
theorem aLG{g:List dx}{nd:List aC}(D:∀t∈fs,∃lo hi,gX lo hi t) (C:∀u∈g,∃(i:Nat) (t:Tree),fs[i]? =some t/\u.a=i/\(u.c,0,u.b)∈st t) (hd:∀d∈nd,aFa aq fs d)
 (uu:∀u∈g,∀v∈g,u.a=v.a->u.c=v.c->u=v) (nm:∀u∈g,u.f=true->u.d.a=u.b/\u.d∈nd):Lnk g nd:=by
 have same:∀{t:Tree},t∈fs->∀x∈st t,∀y∈st t,x.1 =y.1 ->x=y:=λa x E y F e=>by
  obtain⟨lo,hi,o⟩:=D _ a;have p:=(aH0 o).2;by_cases c:x=y;omega;have:∀{l:List (Int×Int×List UInt8)},l.Pairwise (λx y=>x.1 ≠y.1)->x∈l->y∈l->False:=by
   intro l;induction l with
   |nil=>grind
   |cons z l G=>
    grind[List.pairwise_cons]
  grind
 refine⟨uu,λu h d k e m=>?_,λd h w k e m=>?_,nm,λu h=>?_,λd h=>?_⟩;obtain⟨i,t,a,A,r⟩:=C u h;obtain⟨n,t2,b,B,_,s,H,_⟩:=hd d k;have:i=n:=zo;subst this;rw[a] at b;cases b;have:=same (aua a) _ r _ s m;grind;obtain⟨i,t,a,A,j,r,_⟩:=hd d h;obtain⟨n,t2,b,B,f,s,_⟩:=hd w k;have:i=n:=zo;subst this;rw[a] at b;cases b;have q:=same (aua a) _ r _ s m;simp only[avj] at q;cases d;cases w;simp only[] at q A B j f;obtain⟨q1,q2,q3⟩:=q;subst q1 q2 q3;rw[<-f] at j;subst j;simp only[aC.mk.injEq];exact⟨auW,auW,by omega,auW,auW⟩;obtain⟨i,_,_,e,_⟩:=C u h;omega;obtain⟨i,_,_,e,_⟩:=hd d h;omega
end
structure TpI(s:jv):Prop where
 t:∀q,∀d∈s.a q,(d.b=2\/d.b=3)/\d.g=q/\d∈s.d
 n:∀d∈s.d,d.b=2\/d.b=3->d∈s.a d.g
 i:∀d∈s.c,d.b=1
structure DLe(s s':jv):Prop where
 f:∀d∈s.d,d∈s'.d
 g:∀d∈s.c,d∈s'.c
theorem DLe.cg(s:jv):DLe s s:=⟨λ_ h=>h,λ_ h=>h⟩
def DLe.ba{a b c:jv}(x:DLe a b)(y:DLe b c):DLe a c:=⟨λd h=>y.f d (x.f d h),λd h=>y.g d (x.g d h)⟩
def DLe.rg{s s':jv}{a:List UInt8->List aC}{d:aC}{o:Kk->List aC}(b:DLe ⟨a,s.c,d::s.d,o⟩ s'):DLe s s':=⟨λe h=>b.f e (aug _ h),b.g⟩
theorem TpI.rh{s:jv}(x:TpI s){d:aC}{o:Kk->List aC}(f:d.b≠2/\d.b≠3):TpI ⟨s.a,s.c,d::s.d,o⟩:=
 ⟨λq e h=>by obtain⟨a,b,c⟩:=x.t q e h;grind,λe h k=>by rcases atZ.1 h with rfl|h;omega;exact x.n e h k,x.i⟩
theorem TpI.nO{s:jv}(x:TpI s){d:aC}(g:d.b=2\/d.b=3):TpI ⟨vQ s.a d.g (s.a d.g++[d]),s.c,d::s.d,s.b⟩:=by refine⟨λq e h=>?_,λe h k=>?_,x.i⟩;have h:e∈vQ s.a d.g (s.a d.g++[d]) q:=h;unfold vQ at h;split at h;rename_i c;rcases auj.1 h with h|h;obtain⟨a,b,f⟩:=x.t _ e h;grind;grind;obtain⟨a,b,f⟩:=x.t _ e h;grind;show e∈vQ s.a d.g (s.a d.g++[d]) e.g;unfold vQ;rcases atZ.1 h with rfl|h;grind;split;rename_i c;exact aP7 _ (c▸x.n e h k);exact x.n e h k
def aLH{ic key:List UInt8}{j:Nat}:∀(ts:List Tree){s:jv},TpI s->TpI (yL ic key j ts s)/\DLe s (yL ic key j ts s)
 |[],s,x=>⟨x,.cg _⟩
 |t::ts,s,x=>by obtain⟨a,b⟩:=aLH (ic:=ic) (key:=key) (j:=j) ts (x.rh (d:=⟨5,t.bj,j,t.at,ic⟩) (o:=iY s.b (1,key) (s.b (1,key)++[⟨5,t.bj,j,t.at,ic⟩])) ⟨show(5:Int)≠2 by simp,show(5:Int)≠3 by simp⟩);exact⟨a,b.rg⟩
theorem aON{ic:List UInt8}{j:Nat}(t:Tree){s:jv}(x:TpI s):TpI (kX ic j t s)/\DLe s (kX ic j t s)/\(t.bi=2->⟨1,t.bj,j,t.at,t.bj⟩∈(kX ic j t s).c)/\(t.bi=3->⟨2,t.bj,j,t.at,ic⟩∈(kX ic j t s).d):=by unfold kX;by_cases c2:t.bi=2;rw[if_pos c2];have y:=x.rh (d:=⟨1,t.bj,j,t.at,t.bj⟩) (o:=s.b) ⟨show(1:Int)≠2 by simp,show(1:Int)≠3 by simp⟩;refine⟨⟨y.t,y.n,λd h=>?_⟩,⟨λd h=>aug _ h,λd h=>aP7 _ h⟩,λ_=>aP1 _ (awQ.2 rfl),λe=>by omega⟩;rcases auj.1 h with h|h;exact x.i d h;grind;rw[if_neg c2];by_cases c3:t.bi=3;rw[if_pos c3];have y:=x.nO (d:=⟨2,t.bj,j,t.at,ic⟩) (.inl rfl);obtain⟨a,b⟩:=aLH (ic:=ic) (key:=ic++[32]++t.bj) (j:=j) t.fg y;exact⟨a,DLe.rg (d:=⟨2,t.bj,j,t.at,ic⟩) b,λe=>(c2 e).elim,λ_=>b.f _ (au0 ..)⟩;rw[if_neg c3];split;exact⟨x.nO (d:=⟨3,t.bj,j,t.at,ic⟩) (.inr rfl),⟨λd h=>aug _ h,λ_ h=>h⟩,λe=>(c2 e).elim,λe=>(c3 e).elim⟩;exact⟨x.rh (d:=⟨4,t.bj,j,t.at,ic⟩) ⟨show(4:Int)≠2 by simp,show(4:Int)≠3 by simp⟩,⟨λd h=>aug _ h,λ_ h=>h⟩,λe=>(c2 e).elim,λe=>(c3 e).elim⟩
theorem aLI{ic:List UInt8}{j:Nat}:∀(ts:List Tree){s:jv},TpI s->TpI (tB ic j ts s)/\DLe s (tB ic j ts s)/\∀t∈ts,(t.bi=2->⟨1,t.bj,j,t.at,t.bj⟩∈(tB ic j ts s).c)/\(t.bi=3->⟨2,t.bj,j,t.at,ic⟩∈(tB ic j ts s).d)
 |[],s,x=>⟨x,.cg _,λ_ h=>(awg h).elim⟩
 |t::ts,s,x=>by unfold tB;obtain⟨a,b,c,d⟩:=aON (ic:=ic) (j:=j) t x;obtain⟨e,f,g⟩:=aLI (ic:=ic) (j:=j) ts a;refine⟨e,b.ba f,λu i=>?_⟩;rcases atZ.1 i with rfl|i;exact⟨λk=>f.g _ (c k),λk=>f.f _ (d k)⟩;grind
theorem aH1{aq:List (List UInt8)}:∀(ts:List Tree)(j:Nat){s:jv},TpI s->TpI (jG aq ts j s)/\DLe s (jG aq ts j s)/\∀i t,ts[i]? =some t->∀x∈t.fg,(x.bi=2->⟨1,x.bj,(j+i:Nat),x.at,x.bj⟩∈(jG aq ts j s).c)/\(x.bi=3->⟨2,x.bj,(j+i:Nat),x.at,aq.getD (j+i) []⟩∈(jG aq ts j s).d)
 |[],_,s,x=>⟨x,.cg _,λi t h=>by grind⟩
 |t::ts,j,s,x=>by
  unfold jG;obtain⟨a,b,c⟩:=aLI (ic:=aq.getD j []) (j:=j) t.fg x;obtain⟨e,f,g⟩:=aH1 (aq:=aq) ts (j+1) a;refine⟨e,b.ba f,λi u d y l=>?_⟩;cases i with
  |zero=>
   cases d;obtain⟨p,q⟩:=c y l;exact⟨λk=>f.g _ (p k),λk=>f.f _ (q k)⟩
  |succ i=>
   grind
def TpI.z:TpI l9:=⟨λ_ _ h=>(awg h).elim,λ_ h=>(awg h).elim,λ_ h=>(awg h).elim⟩
theorem aLJ{l:List aC}(h:(l.map (·.a)).Nodup){a b:aC}(c:a∈l)(d:b∈l)(e:a.a=b.a):a=b:=by
 induction l with
 |nil=>grind
 |cons x l f=>
  grind
theorem aOO{l:List aC}(h:(l.map (·.a)).Nodup){a:aC}(c:a∈l):uy l a.a=some a:=by
 cases e:uy l a.a with
 |none=>
  have:=aQh.1 e a c;grind
 |some b=>
  have d:=avP e;have nb:=List.find?_some e;grind[aLJ]
section
open Classical
mutual
theorem aH2{Q:Bool->Int->List UInt8->Prop}(up:∀a nm,Q true a nm->Q false a nm):∀(t:Tree),wfT Q t->∀x∈st t,x.2.1 ≠1->Q (decide (x.2.1 ≠0)) x.1 x.2.2
 |.mk k f g a nm ks,w,x,b,d=>by
  unfold wfT at w;unfold st at b;rcases auj.1 b with b|b
  ·have h:=aLB x b;have:x.2.2 =nm/\(k=2->x.2.1 =1)/\(x.2.1 ≠0->k≠2->nmK k=true):=by
    unfold own at b
    repeat' split at b
    all_goals first|exact(awg b).elim|(rw [awQ] at b;subst b;exact⟨rfl,λe=>by grind[Az],λe q=>by first|grind|(simp_all[nmK])⟩)
   by_cases c:x.2.1 =0;grind[nmK];grind
  exact aLK up ks w.2.2.2.2 x b d
theorem aLK{Q:Bool->Int->List UInt8->Prop}(up:∀a nm,Q true a nm->Q false a nm):∀(ts:List Tree),wfL Q ts->∀x∈stL ts,x.2.1 ≠1->Q (decide (x.2.1 ≠0)) x.1 x.2.2
 |[],_,x,b,_=>(awg b).elim
 |t::ts,w,x,b,c=>by rcases auj.1 b with b|b;exact aH2 up t w.1 x b c;exact aLK up ts w.2 x b c
end
def SD(fs:List Tree)(aq:List (List UInt8)):jv:=jG aq fs 0 l9
def SC(fs:List Tree)(aq:List (List UInt8)):Sc:=uB fs aq (SD fs aq).a fs 0 ⟨⟨0,0,0⟩,(SD fs aq).d,[]⟩
structure Wsp(w:l6)(fs:List Tree)(aq:List (List UInt8)):Prop where
 K:∀t∈fs,t.bi=1
 G:∀t∈fs,∀x∈t.fg,aEL (nq w.a) x
 p:wfL (nq w.a) fs
 O:∀t∈fs,∃lo hi,gX lo hi t
 l:DOk aq (SD fs aq)
 r:(SC fs aq).a.e=0
 C:∀t∈fs,∀x∈t.fg,x.bi=2->x.bj≠w.a
 F:∀j,32∉aq.getD j []
 Q:∀u∈(SC fs aq).b,∀v∈(SC fs aq).b,u.a=v.a->u.c=v.c->u=v
 A:∀u∈(SC fs aq).b,u.f=true->u.d.a=u.b/\u.d∈(SC fs aq).c
 D:∃u∈(SC fs aq).b,u.f=true/\u.d=w.D
 n:w.D.b≠1/\w.D.b≠4/\w.D.b≠5
 M:∀(j:Nat)(a:Int),w.M j a=true <-> (w.D.c=j/\w.D.f=a)\/∃u∈(SC fs aq).b,u.f=true/\u.d=w.D/\u.a=j/\u.c=a
 B:w.D.a≠w.a
 I:w.D.a≠[]
 L:w.a≠[]
 J:w.D.a∉K5
 N:w.a∉K5
section
variable {w:l6}{aq:List (List UInt8)}(H:Wsp w fs aq)
theorem aLL{Q:Bool->Int->List UInt8->Prop}{t:Tree}:∀{ts:List Tree},wfL Q ts->t∈ts->wfT Q t
 |x::ts,h,m=>by unfold wfL at h;rcases atZ.1 m with rfl|m;grind;exact aLL h.2 m
include H
theorem Wsp.dst:∀d∈(SD fs aq).d,aFa aq fs d:=aJx fs 0 l9 (λi t h=>by grind) H.G λ_ h=>(awg h).elim
theorem Wsp.QQ:(∀u∈(SC fs aq).b,∃(i:Nat) (t:Tree),fs[i]? =some t/\u.a=i/\(u.c,0,u.b)∈st t)/\∀d∈(SC fs aq).c,aFa aq fs d:=
 aJy fs 0 _ (λi t h=>by grind) H.p (λ_ h=>(awg h).elim) H.dst
def Wsp.lnk:(∀u∈(SC fs aq).b,w.LU u)/\∀d∈(SC fs aq).c,w.LD d:=
 (aLG H.O H.QQ.1 H.QQ.2 H.Q H.A).ok H.D H.M
def Wsp.gd:Gd w (SC fs aq):=⟨H.r,H.lnk.1,H.lnk.2⟩
theorem Wsp.nd:∀d∈(SD fs aq).d,d∈(SC fs aq).c:=λd h=>(aHV (fs:=fs) (aq:=aq) (bu:=(SD fs aq).a) fs 0 ⟨⟨0,0,0⟩,(SD fs aq).d,[]⟩).g d h
def Wsp.ld:∀d∈(SD fs aq).d,w.LD d:=λd h=>H.lnk.2 d (H.nd d h)
def Wsp.ST:∀d∈(SD fs aq).d,d.b≠1->d.a≠w.a:=λd h k=>by obtain⟨i,t,a,_,_,s,_⟩:=H.dst d h;exact aH2 (λ_ _ q=>q) t (aLL H.p (aua a)) _ s k
theorem Wsp.tpi:TpI (SD fs aq):=(aH1 fs 0 .z).1
def Wsp.aJz(h:w.D.b=2\/w.D.b=3):w.D∈(SD fs aq).a w.D.g:=by
 obtain⟨u,c,hi,e⟩:=H.D;have a:=(H.A u c hi).2;rw[e] at a;have key:∀(ts:List Tree)(j:Nat)(s:Sc),wfL (nq w.a) ts->∀d∈(uB fs aq (SD fs aq).a ts j s).c,d.b=2\/d.b=3->d∈s.c:=by
  intro ts;induction ts with
  |nil=>intro _ _ _ d h _;exact h
  |cons t ts f=>
   intro j s wf d h k;have b:=f (j+1) _ wf.2 d h k;rcases(aGy (E:=C3 fs aq (SD fs aq).a j) t (ms:=[]) (aN:=false) (ar:=aX) (s:=⟨aX,aX,s⟩) wf.1).g d b with g|⟨_,_,_,i⟩;omega;omega
 exact H.tpi.n _ (key fs 0 _ H.p _ a h) h
def Wsp.aOP:32∉w.D.g:=by obtain⟨u,b,hi,e⟩:=H.D;have a:=(H.A u b hi).2;rw[e] at a;obtain⟨i,_,_,_,d,_⟩:=H.QQ.2 _ a;rw[if_neg H.n.1] at d;rw[d];exact H.F i
theorem Wsp.imp{i:Nat}{t x:Tree}(c:fs[i]? =some t)(f:x∈t.fg)(b:x.bi=2):(w.R i).nm x.at x.bj=x.bj/\⟨1,x.bj,i,x.at,x.bj⟩∈(SD fs aq).c:=by
 have q:=((aH1 (aq:=aq) fs 0 .z).2.2 i t c x f).1 b;rw[aue] at q;have k:∀d∈(SD fs aq).c,d∈(SD fs aq).d:=by
  have:∀(ts:List Tree)(s:jv)(ic:List UInt8)(j:Nat),(∀d∈s.c,d∈s.d)->∀d∈(tB ic j ts s).c,d∈(tB ic j ts s).d:=by
   intro ts;induction ts with
   |nil=>intro _ _ _ h;exact h
   |cons y ts a=>
    intro s ic j h;refine a _ _ _ ?_;unfold kX;have fl:∀(ks:List Tree)(key:List UInt8)(s:jv),(∀d∈s.c,d∈s.d)->∀d∈(yL ic key j ks s).c,d∈(yL ic key j ks s).d:=by
     intro ks;induction ks with
     |nil=>intro _ _ h;exact h
     |cons z ks g=>grind[yL]
    grind
  have all:∀(ts:List Tree)(j:Nat)(s:jv),(∀d∈s.c,d∈s.d)->∀d∈(jG aq ts j s).c,d∈(jG aq ts j s).d:=by
   intro ts;induction ts with
   |nil=>intro _ _ h;exact h
   |cons y ts a=>grind[jG]
  exact all fs 0 l9 λ_ h=>(awg h).elim
 exact⟨aK' (H.ld _ (k _ q)) λe=>H.n.1 e.symm,q⟩
omit H in
theorem aOQ{E:fM}{a b c e f g:Int}{x y:List UInt8}{s:Sc}(d:y∉K5):(⟨E.j,g,y,(qH E [] y).isSome,(qH E [] y).getD qG⟩:dx)∈(fU E [] false aX (.mk 7 a b c x [.mk 8 e f g y []]) ⟨aX,aX,s⟩).a.b:=by
 rw[aF8 zm zm zm];have p:aE5 E [] false aX 7 c x ⟨aX,aX,s⟩=⟨aX,aX,s⟩:=by rfl
 rw[p,aGu,aGv,aF8 zm zm zm,aGv];have h:aE5 E [] false aX 8 g y ⟨aX,aX,s⟩=⟨aX,aX,lD E g y (qH E [] y) s⟩:=by unfold aE5;rw[if_neg (λq=>absurd q.1 zm),if_pos ⟨.inr rfl,d⟩];rfl
 rw[h];exact aP1 _ (awQ.2 rfl)
end
end
end Yv
