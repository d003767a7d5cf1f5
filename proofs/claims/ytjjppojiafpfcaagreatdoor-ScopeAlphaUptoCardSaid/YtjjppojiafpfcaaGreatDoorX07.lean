/- A part of the proof of 'ScopeAlphaUptoCardSaid'. No condition. -/
import Derived.Test.YtjjppojiafpfcaaGreatDoorX06
import GoSem.PinnedTables
set_option maxHeartbeats 64000000
set_option maxRecDepth 100000
set_option linter.all false
namespace Yv
variable {c0 c1 c2 c6 c7 c8 c9:AV}{f:cN}{fs:List Tree}{h:Hp}{p:Nat}
variable {T:aM->Option CF}
def Ls(fs:List Tree):List (List UInt8):=fs.flatMap λt=>t.fg.map (·.bj)
def H9(fs:List Tree)(Q:SL):Nat:=((Ls fs).filter λs=>decide (s∉cD Q)).length
structure oJ(h:Hp)(sb:Nat)(Q:SL):Prop where
 m:iV h sb Q
 v:∀s w,eV Q s=some w->w=.i 1
theorem alA{fs:List Tree}{Q b:SL}{x:List UInt8}(h:x∈Ls fs)(d:x∉cD Q)(e:x∈cD b)(g:∀s,s∈cD Q->s∈cD b):H9 fs b<H9 fs Q:=by
 unfold H9;have key:∀l:List (List UInt8),(l.filter λs=>decide (s∉cD b)).length<=(l.filter λs=>decide (s∉cD Q)).length/\(x∈l->(l.filter λs=>decide (s∉cD b)).length<(l.filter λs=>decide (s∉cD Q)).length):=by
  intro l;induction l with
  |nil=>grind
  |cons a l i=>
   grind
 grind
section
variable {sb:Nat}{aq:List (List UInt8)}{c:List UInt8}
abbrev Edg:=List (List UInt8×List UInt8)
def aEK(ts:List Tree):List (List UInt8):=(ts.filter λt=>decide (t.bi=2)).map (·.bj)
def aFn(d:List UInt8)(ts:List Tree):Edg:=(aEK ts).map λn=>(d,n)
def aEG:List Tree->List (List UInt8)->Edg
 |t::fs,d::ds=>aFn d t.fg++aEG fs ds
 |_,_=>[]
def aFy(rec:SL->List UInt8->Bool×SL)(d:List UInt8):Edg->SL->Bool×SL
 |[],Q=>(false,Q)
 |(a,b)::g,Q=>if a=d/\b∉cD Q then(match rec Q b with|(true,e)=>(true,e)|(false,e)=>aFy rec d g e) else aFy rec d g Q
def aFG(E:Edg)(c:List UInt8):Nat->SL->List UInt8->Bool×SL
 |0,Q,_=>(false,Q)
 |g+1,Q,a=>if a=c then(true,Q) else aFy (aFG E c g) a E (mA Q a (.i 1))
def alB(T:aM->Option CF)(p sb:Nat)(c0 c1 c2 c6 c7 c8 c9:AV)(f:cN)(fs:List Tree)(aq:List (List UInt8))(c:List UInt8)(m:Nat):Prop:=
 ∀(g:Nat)(Q:SL)(a:List UInt8)(h:Hp)(k:aK->Prop),m<g->H9 fs Q=m->a∈Ls fs->a∉cD Q->oJ h sb Q->h.ab p=.a 57 (bS c0 c1 c2 f c6 c7 c8 c9)->cY h c2 aq->lC 0 h c1 fs->
  (∀(b:Bool) h' d,ah (·=sb) h h'->oJ h' sb d->(∀s,s∈cD Q->s∈cD d)->aFG (aEG fs aq) c g Q a=(b,d)->k (.a (.g b) h'))->aE T (W T) ⟨35⟩ [.a p 0,S a,S c,.j sb] h k
def oJ.bc{h h':Hp}{sb:Nat}{Q:SL}(x:oJ h sb Q)(e:h'.ab sb=h.ab sb):oJ h' sb Q:=⟨x.m.bc e,x.v⟩
theorem oJ.ne{h:Hp}{Q:SL}(x:oJ h sb Q){i el l}(e:h.ab i=.a el l):i≠sb:=by rintro rfl;obtain⟨⟨_,q⟩,_⟩:=x.m;grind
theorem oJ.nr{h:Hp}{Q:SL}(x:oJ h sb Q){i el rw r z t}(e:h.ab i=.b el rw r z t):i≠sb:=by rintro rfl;obtain⟨⟨_,q⟩,_⟩:=x.m;grind
def oJ.nf{h h':Hp}{Q:SL}(x:oJ h sb Q)(g:ah (·=sb) h h'):NF 0 h h':=λi r ff _ e=>by rw[g.f i (Hp.lt e rfl) (x.nr e)];omega
def oJ.wy{h h':Hp}{Q:SL}{v ws}(x:oJ h sb Q)(g:ah (·=sb) h h')(y:cY h v ws):cY h' v ws:=y.bc g λi r t e m=>x.nr e m
theorem alC(HT:aA T)(pK:fs.length=aq.length)(hfl:fs.length<4294967296)(CY:∀t∈fs,t.fg.length<4294967296):∀m,alB T p sb c0 c1 c2 c6 c7 c8 c9 f fs aq c m:=by
 intro m;induction m using Nat.strongRecOn with
 |_ m ih=>
 intro g Q a h k hmg hm alD OZ sq hp hd hc hk;obtain⟨g,rfl⟩:∃U,g=U+1:=⟨g- 1,by omega⟩;rw[aJ HT.t35];by_cases e0:a=c;exact aB e0 (hk true h Q (ah.cg _) sq (λ_ h=>h) (if_pos e0));have hR:aFG (aEG fs aq) c (g+1) Q a=_:=if_neg e0;generalize hRR:aFy (aFG (aEG fs aq) c g) a (aEG fs aq) (mA Q a (.i 1))=R at hR;rw[hR] at hk;have lsb:=sq.m.lt;have lp:=Hp.lt hp rfl;have alE:me (.a .a) h (.i 0) (.j sb) (S a) false=.v (.i 0):=by rw[sq.m.wa,Br.2 OZ];rfl
 obtain⟨o,eo,fo⟩:=sq.m.ti (s:=a) (v:=.i 1);have psb:=sq.ne hp;have g1:ah (·=sb) h (h.dT sb o):=ah.dT (M:=(·=sb)) (ah.cg _) _ (.inr rfl);have sq1:oJ (h.dT sb o) sb (mA Q a (.i 1)):=⟨fo _ (Hp.fp rfl),λs w hw=>by rw[Bq] at hw;split at hw;grind;exact sq.v _ _ hw⟩
 have D:(h.dT sb o).ab p=_:=(g1.f _ lp psb).trans hp;have iu:=sq.wy g1 hd;have y:=hc.nf (sq.nf g1);have Vx:∀s,s∈cD Q->s∈cD (mA Q a (.i 1)):=λs F=>by simp_all[OA]
 have alF:a∈cD (mA Q a (.i 1)):=by simp_all[OA]
 have C7:=D;simp only[bS] at C7;generalize hL:CC.d l35_1=L;simp(disch:=omega) [e0,alE,eo,C7,y.pi];subst hL;have U':∀(ts:List Tree)(rest:Edg)(j i n':Nat)(kv:AV)(l:SL)(d:Hp)(x:Fr)(K:aT->Prop),(hj:j<aq.length)->i+ts.length=n'->n'<4294967296->(∀t∈ts,t.bj∈Ls fs)->aFy (aFG (aEG fs aq) c g) a (aFn aq[j] ts++rest) l=R->(ts≠[]->∃b cap ex r ff,kv=.c b 0 6 n' cap ex/\d.ab b=.b 61 6 r 0 ff/\n'<=r/\∀q,(hq:q<ts.length)->ay 0 d ts[q] (ff (i+q)))->
  oJ d sb l->(∀s,s∈cD Q->s∈cD l)->a∈cD l->d.ab p=.a 57 (bS c0 c1 c2 f c6 c7 c8 c9)->cY d c2 aq->lC 0 d c1 fs->
  an 0 x=.a p 0->an 1 x=S a->an 2 x=S c->an 3 x=.j sb->an 9 x=.i j->an 31 x=kv->an 32 x=.i n'->an 33 x=.i i->
  (∀f' h' u,(∀q,q<=7\/20<=q/\q<=25->an q f'=an q x)->ah (·=sb) d h'->oJ h' sb u->(∀s,s∈cD l->s∈cD u)->aFy (aFG (aEG fs aq) c g) a rest u=R->K (.a 2 f' h' []))->(∀f' h' u,ah (·=sb) d h'->oJ h' sb u->(∀s,s∈cD l->s∈cD u)->an 8 f'=.g true->R=(true,u)->K (.b f' h' []))->W T (.d l35_0) x d [] K:=by
  intro ts rest;induction ts with
  |nil=>
   intro j i n' kv l d x K hj hi gE hU A X G J Aw D iu y f0 f1 f2 f3 f9 f31 f32 f33 k1 k2;subst hi;rw[aP];refine aU f31 f32 f33 ?_;exact k1 _ _ l (λq hq=>by repeat rw[qA,if_neg zo]) (ah.cg _) G (λ_ h=>h) A
  |cons t ts Vy=>
   intro j i n' kv l d x K hj hi gE hU A X G J Aw D iu y f0 f1 f2 f3 f9 f31 f32 f33 k1 k2;obtain⟨b,cap,ex,r,ff,rfl,X,hr,iW⟩:=X zm;simp only[atX] at hi;have Y:i<n':=zo;have aY:(i:Int)<n':=zo;have eJ:=iW 0 zm;simp only[aus,aud] at eJ;obtain⟨kv,jE,I⟩:=eJ.il;have lb:=Hp.lt X rfl;have C7:=D;simp only[bS] at C7;have Vz:=Hp.lt D rfl;have alG:=iu;obtain⟨db,xu,xw,dr,dt,rfl,kY,HW,vS⟩:=alG;have qd:=vS j hj;have eY:(j:Int)<aq.length:=zo;have HX:=Hp.lt kY rfl;have nx:∀(bJ:Fr)(O:Hp)(V:SL),(∀q,q<=7\/q=9\/20<=q/\q<=25\/31<=q/\q<=33->an q bJ=an q x)->ah (·=sb) d O->oJ O sb V->(∀s,s∈cD l->s∈cD V)->aFy (aFG (aEG fs aq) c g) a (aFn aq[j] ts++rest) V=R->W T (.g (z q35 12)) bJ O [] (bF (W T (.d l35_0)) K):=by
    intro bJ O V E g2 s2 P hS2;have e33:=(E 33 zo).trans f33;have nf:=G.nf g2;refine aS e33 Y ?_;refine Vy j (i+1) n' _ V O _ K hj zo gE (λt ht=>hU t qaa) hS2 (λ_=>⟨b,cap,ex,r,ff,rfl,nf _ _ _ (auz _) X,hr,λq hq=>?_⟩) s2 (λs F=>P s (J s F)) (P _ Aw) ((g2.f _ Vz (G.ne D)).trans D) (G.wy g2 iu) (y.nf nf) (au ((E 0 zo).trans f0)) (au ((E 1 zo).trans f1)) (au ((E 2 zo).trans f2)) (au ((E 3 zo).trans f3)) (au ((E 9 zo).trans f9)) (au ((E 31 zo).trans f31)) (au ((E 32 zo).trans f32)) aa (λf' h' u BD U s' Z=>k1 f' h' u (λq hq=>?_) (g2.ba U) s' (λs F=>Z s (P s F))) (λf' h' u U s' Z e8 e9=>k2 f' h' u (g2.ba U) s' (λs F=>Z s (P s F)) e8 e9);have:=iW (q+1) qaa;simp[auu,show i+(q+1)=i+1+q by omega] at this;exact this.nf nf zl
    ·rw[BD q hq]
     repeat rw[qA,if_neg zo]
     grind
   generalize hN:CC.g (z q35 12)=N at nx;have B:ax d ((d.am (.a 61 [.i 0,.i 0,.i 0,.i 0,S [],.h])).dT d.a (.a 61 [.i t.bi,.i t.ib,.i t.toz,.i t.at,S t.bj,kv])):=fZ;have sH:=G.bc (B.f _ G.m.lt id);have hE:∀n,t.bi=2->t.bj=n->aFn aq[j] (t::ts)++rest=(aq[j],n)::(aFn aq[j] ts++rest):=λn e e'=>by grind[aFn,aEK]
   have hE0:t.bi≠2->aFn aq[j] (t::ts)++rest=aFn aq[j] ts++rest:=λe=>by simp[aFn,aEK,e]
   have GS:∀q,q<=7\/q=9\/20<=q/\q<=25\/31<=q/\q<=33->True:=λ_ _=>trivial;rw[aP];show W T aH' x d [] _;unfold aH' zt;rw[hN];by_cases c1:aq[j]=a
   ·by_cases c2:t.bi=2
    ·by_cases c3:t.bj∈cD l
     ·have fC:me (.a .a) ((d.am (.a 61 [.i 0,.i 0,.i 0,.i 0,S [],.h])).dT d.a (.a 61 [.i t.bi,.i t.ib,.i t.toz,.i t.at,S t.bj,kv])) (.i 0) (.j sb) (S t.bj) false=.v (.i 1):=by
       rw[sH.m.wa];cases q:eV l t.bj with
       |none=>grind[Br]
       |some w=>rw[G.v _ _ q];rfl
      rw[c2] at fC;refine kC f0 f1 f2 f3 f9 f31 f32 f33 Y aY X jE (atQ (atQ (atQ (atQ (atQ (atQ (atQ (atQ I.iU C7) kY) qd) hj) eY) c1) c2) fC) ?_;rw[c2] at B sH;rw[hE _ c2 rfl,aFy,if_neg qaa] at A;exact nx _ _ l (λq hq=>by repeat rw[qA,if_neg zo]) (ah.mr B) sH (λ_ h=>h) A
     ·have fC:me (.a .a) ((d.am (.a 61 [.i 0,.i 0,.i 0,.i 0,S [],.h])).dT d.a (.a 61 [.i t.bi,.i t.ib,.i t.toz,.i t.at,S t.bj,kv])) (.i 0) (.j sb) (S t.bj) false=.v (.i 0):=by rw[sH.m.wa,Br.2 c3];rfl
      rw[c2] at fC;refine kC f0 f1 f2 f3 f9 f31 f32 f33 Y aY X jE (atQ (atQ (atQ (atQ (atQ (atQ (atQ (atQ I.iU C7) kY) qd) hj) eY) c1) c2) fC) ?_;rw[c2] at B sH;have xU:=hU t zm;have lm:=alA alD OZ Aw J;rw[hE _ c2 rfl,aFy,if_pos ⟨c1,c3⟩] at A;refine ih (H9 fs l) zo g l t.bj _ _ zo rfl xU c3 sH ((B.f _ Vz id).trans D) (iu.bc (M:=λ_=>False) B λ_ _ _ _=>id) (y.nf (mY B)) λbb O V g2 s2 P Gt=>?_;rw[Gt] at A;have C:ah (·=sb) d O:=(ah.mr B).ba g2;cases bb with
      |true=>
       refine ag ?_;exact k2 _ O V C s2 P aa A.symm
      |false=>
       refine ag ?_;exact nx _ O V (λq hq=>by repeat rw[qA,if_neg zo]) C s2 P A
    ·refine kC f0 f1 f2 f3 f9 f31 f32 f33 Y aY X jE (atQ (atQ (atQ (atQ (atQ (atQ (atQ I.iU C7) kY) qd) hj) eY) c1) c2) ?_;rw[hE0 c2] at A;exact nx _ _ l (λq hq=>by repeat rw[qA,if_neg zo]) (ah.mr B) sH (λ_ h=>h) A
   ·refine kC f0 f1 f2 f3 f9 f31 f32 f33 Y aY X jE (atQ (atQ (atQ (atQ (atQ (atQ I.iU C7) kY) qd) hj) eY) c1) ?_;refine nx _ _ l (λq hq=>by repeat rw[qA,if_neg zo]) (ah.mr B) sH (λ_ h=>h) ?_;by_cases c2:t.bi=2;rw[hE _ c2 rfl,aFy,if_neg λq=>c1 q.1] at A;exact A;rw[hE0 c2] at A;exact A
 have Lc:∀(ts:List Tree)(j:Nat)(l:SL)(d:Hp)(x:Fr)(K:aT->Prop),j+ts.length=fs.length->(∀i(hi:i<ts.length),fs[j+i]? =some ts[i])->aFy (aFG (aEG fs aq) c g) a (aEG ts (aq.drop j)) l=R->oJ d sb l->(∀s,s∈cD Q->s∈cD l)->a∈cD l->d.ab p=.a 57 (bS c0 c1 c2 f c6 c7 c8 c9)->cY d c2 aq->lC 0 d c1 fs->
  an 0 x=.a p 0->an 1 x=S a->an 2 x=S c->an 3 x=.j sb->an 23 x=c1->an 24 x=.i fs.length->an 25 x=.i j->
  (∀f' h' u,ah (·=sb) d h'->oJ h' sb u->(∀s,s∈cD l->s∈cD u)->R=(false,u)->K (.a 0 f' h' []))->(∀f' h' u,ah (·=sb) d h'->oJ h' sb u->(∀s,s∈cD l->s∈cD u)->an 8 f'=.g true->R=(true,u)->K (.b f' h' []))->W T (.d l35_1) x d [] K:=by
  intro ts;induction ts with
  |nil=>
   intro j l d x K hj jh A G J Aw D iu y f0 f1 f2 f3 f23 f24 f25 k1 k2;simp only[aup,aud] at hj;subst hj;rw[aP];refine aU f23 f24 f25 ?_;exact k1 _ _ l (ah.cg _) G (λ_ h=>h) A.symm
  |cons t ts Vy=>
   intro j l d x K hj jh A G J Aw D iu y f0 f1 f2 f3 f23 f24 f25 k1 k2;simp only[atX] at hj;have Y:j<fs.length:=zo;have aY:(j:Int)<fs.length:=zo;have jd:j<aq.length:=zo;have et:fs[j]=t:=by have:=jh 0 zm;simp only[aud,atT Y,aus] at this;exact auQ this
   have tm:t∈fs:=by rw[<-et];exact auy Y
   rw[aut jd,aEG] at A;obtain⟨b,cap,ex,r,ff,rfl,X,hr,iW⟩:=y.ph (by rintro rfl;simp at Y);have eJ:=iW j Y;simp only[aue,et] at eJ;obtain⟨kv,jE,I⟩:=eJ.il;have lb:=Hp.lt X rfl;have jr:j<r:=zo;generalize hL:CC.d l35_0=L;rw[aP];simp(disch:=omega) [f23,f24,f25,aY,X,jE,I.pi];generalize hH:((d.am _).dT _ _:Hp)=H;have B:ax d H:=by rw[<-hH];exact fZ
   clear hH;have sH:=G.bc (B.f _ G.m.lt id);have HZ:=I.nf (mY B);have hcH:=y.nf (mY B);subst hL;refine U' t.fg _ j 0 t.fg.length kv l H _ _ jd zo (CY t tm) (λt' jL=>List.mem_flatMap.2 ⟨t,tm,auR.2 ⟨t',jL,rfl⟩⟩) A HZ.ph sH J Aw ((B.f _ (Hp.lt D rfl) id).trans D) (iu.bc (M:=λ_=>False) B λ_ _ _ _=>id) hcH zA zA zA zA aa aa aa aa (λf' O V E g2 s2 P hS2=>?_) (λf' O V g2 s2 P e8 e9=>?_);have e0:=E 0 zo;have e1:=E 1 zo;have e2:=E 2 zo;have e3:=E 3 zo;have e23:=E 23 zo;have e24:=E 24 zo;have e25:=E 25 zo
   simp(disch:=omega) [f0,f1,f2,f3,f23,f24,f25] at e0 e1 e2 e3 e23 e24 e25;have C:ah (·=sb) d O:=(ah.mr B).ba g2;refine aS e25 Y ?_;refine Vy (j+1) V O _ K zo (λi hi=>?_) hS2 s2 (λs F=>P s (J s F)) (P _ Aw) ((C.f _ (Hp.lt D rfl) (G.ne D)).trans D) (G.wy C iu) (y.nf (G.nf C)) (au e0) (au e1) (au e2) (au e3) (au e23) (au e24) aa (λf' h' u U s' Z eR=>k1 f' h' u (C.ba U) s' (λs F=>Z s (P s F)) eR) (λf' h' u U s' Z e8 e9=>k2 f' h' u (C.ba U) s' (λs F=>Z s (P s F)) e8 e9);have:=jh (i+1) zn;simp only[auu] at this;rw[show j+1+i=j+(i+1) by omega];exact this;refine ag ?_;exact k2 _ O V ((ah.mr B).ba g2) s2 P e8 e9
 refine Lc fs 0 _ _ _ _ zo (λi hi=>by simp[hi]) hRR sq1 Vx alF D iu y aa aa aa aa aa aa aa (λf' h' u U s' Z eR=>?_) (λf' h' u U s' Z e8 e9=>?_);refine ag ?_;exact hk false h' u (g1.ba U) s' (λs F=>Z s (Vx s F)) eR;refine aB e8 ?_;exact hk true h' u (g1.ba U) s' (λs F=>Z s (Vx s F)) e9
end
section
variable {aq:List (List UInt8)}
structure uF(h:Hp)(wb:Nat)(Q:SL)(N:Int):Prop where
 m:iV h wb Q
 v:∀s w,eV Q s=some w->∃c:Int,w=.i c/\1<=c/\c<=N
def uF.bc{h h':Hp}{wb:Nat}{Q:SL}{N:Int}(x:uF h wb Q N)(e:h'.ab wb=h.ab wb):uF h' wb Q N:=⟨x.m.bc e,x.v⟩
def uF.up{h:Hp}{wb:Nat}{Q:SL}{N M:Int}(x:uF h wb Q N)(e:N<=M):uF h wb Q M:=⟨x.m,λs w q=>by obtain⟨c,a,b,d⟩:=x.v s w q;exact⟨c,a,b,by omega⟩⟩
def uF.wa{h:Hp}{wb:Nat}{Q:SL}{N:Int}(x:uF h wb Q N){s:List UInt8}:∃c:Int,me (.a .a) h (.i 0) (.j wb) (S s) false=.v (.i c)/\(eV Q s).getD (.i 0)=.i c/\(s∈cD Q->1<=c/\c<=N)/\(s∉cD Q->c=0):=by
 rw[x.m.wa];cases a:eV Q s with
 |none=>exact⟨0,rfl,rfl,λq=>absurd q (Br.1 a),λ_=>rfl⟩
 |some w=>obtain⟨c,rfl,b,d⟩:=x.v _ _ a;exact⟨c,rfl,rfl,λ_=>⟨b,d⟩,λq=>by rw[Br.2 q] at a;cases a⟩
theorem uF.iL{h:Hp}{wb:Nat}{Q:SL}{N:Int}(x:uF h wb Q N){s:List UInt8}{c:Int}(l:1<=c)(m:c<=N+1):∃o,aFk (.a .a) h (.j wb) (S s) (.i c)=.b undef (h.dT wb o)/\∀h':Hp,h'.ab wb=o->uF h' wb (mA Q s (.i c)) (N+1):=by obtain⟨o,i,j⟩:=x.m.ti (s:=s) (v:=.i c);refine⟨o,i,λh' e=>⟨j h' e,λa w b=>?_⟩⟩;rw[Bq] at b;split at b;grind;obtain⟨d,f,g,k⟩:=x.v _ _ b;exact⟨d,f,g,by omega⟩
structure oK(p:Nat)(c0 c1 c2 c6 c7 c8 c9:AV)(fs:List Tree)(aq:List (List UInt8))(f:cN)(h:Hp):Prop where
 a:h.ab p=.a 57 (bS c0 c1 c2 f c6 c7 c8 c9)
 b:yb h c2 aq
 c:lC 0 h c1 fs
def oK.bc{f f':cN}{h h':Hp}{M:Nat->Prop}(x:oK p c0 c1 c2 c6 c7 c8 c9 fs aq f h)(g:ah M h h')(d:∀i,M i->∀el rw r z t,h.ab i≠.b el rw r z t) (j:h'.ab p=.a 57 (bS c0 c1 c2 f' c6 c7 c8 c9)):oK p c0 c1 c2 c6 c7 c8 c9 fs aq f' h':=
 ⟨j,λne=>(x.b ne).bc g λi r t e m=>d i m _ _ _ _ _ e,x.c.nf (λi r ff _ e=>by rw[g.f i (Hp.lt e rfl) λm=>d i m _ _ _ _ _ e];omega)⟩
def oK.g0{f:cN}{h h':Hp}(x:oK p c0 c1 c2 c6 c7 c8 c9 fs aq f h)(g:ax h h'):oK p c0 c1 c2 c6 c7 c8 c9 fs aq f h':=x.bc g (λ_ m=>m.elim) ((g.f _ (Hp.lt x.a rfl) id).trans x.a)
def aFz(E:Edg)(aq:List (List UInt8))(d:List UInt8)(g:Nat):List (List UInt8)->List (List UInt8)->Prop
 |[],_=>True
 |n::a,q=>(n∉q/\n∈aq/\(aFG E d g [] n).1 =false)/\aFz E aq d g a (n::q)
theorem alH(Z:aA T)(pK:fs.length=aq.length)(hfl:fs.length<4294967296)(CY:∀t∈fs,t.fg.length<4294967296) {j n' wb G:Nat} (hj:j<aq.length) (gE:n'<4294967296) (hG:H9 fs []<G):∀(ts:List Tree)(i:Nat)(kv:AV)(Q:SL)(k:List (List UInt8))(f:cN)(h:Hp)(l:Fr)(K:aT->Prop),i+ts.length=n'->(∀t∈ts,t.bj∈Ls fs)->
 (ts≠[]->∃b cap ex r ff,kv=.c b 0 6 n' cap ex/\h.ab b=.b 61 6 r 0 ff/\n'<=r/\∀q,(u:q<ts.length)->ay 0 h ts[q] (ff (i+q)))->oK p c0 c1 c2 c6 c7 c8 c9 fs aq f h->uF h wb Q i->(∀s,s∈cD Q <-> s∈k)->
 an 0 l=.a p 0->an 2 l=.i j->an 4 l=.j wb->an 36 l=kv->an 37 l=.i n'->an 38 l=.i i->
 (∀f' h' fl,(∀q,q<=2\/7<=q/\q<=12->an q f'=an q l)->ah (λi=>i=p\/i=wb) h h'->oK p c0 c1 c2 c6 c7 c8 c9 fs aq fl h'->(fl.e=0->f.e=0/\aFz (aEG fs aq) aq aq[j] G (aEK ts) k)->(aFz (aEG fs aq) aq aq[j] G (aEK ts) k->fl=f)->K (.a 2 f' h' []))->W T (.d l18_0) l h [] K:=by
 intro ts;induction ts with
 |nil=>
  intro i kv Q k f h l K hi hU R x w B f0 O f4 f36 f37 f38 hk;subst hi;rw[aP];refine aU f36 f37 f38 ?_;exact hk _ _ f (λq u=>by repeat rw[qA,if_neg zo]) (ah.cg _) x (λz=>⟨z,auW⟩) λ_=>rfl
 |cons t ts ih=>
  intro i kv Q k f h l K hi hU R x w B f0 O f4 f36 f37 f38 hk;obtain⟨b,cap,ex,r,ff,rfl,R,hr,iW⟩:=R zm;simp only[atX] at hi;have ao:i<n':=zo;have aY:(i:Int)<n':=zo;have eJ:=iW 0 zm;simp only[aus,aud] at eJ;obtain⟨kv,jE,hkv⟩:=eJ.il;have lb:=Hp.lt R rfl;have VA:p≠wb:=by rintro rfl;obtain⟨⟨_,q⟩,_⟩:=w.m;rw[x.a] at q;grind
  have hMr:∀(X:Hp)(f1:cN)(Q1:SL)(N:Int),oK p c0 c1 c2 c6 c7 c8 c9 fs aq f1 X->uF X wb Q1 N->∀i,(i=p\/i=wb)->∀el rw r z t,X.ab i≠.b el rw r z t:=by rintro X f1 Q1 N x1 w1 i (rfl|rfl) el rw r z t e;rw[x1.a] at e;grind;obtain⟨⟨_,q⟩,_⟩:=w1.m;grind
  have nx:∀(E:Fr)(g:Hp)(n:SL)(I:List (List UInt8))(y:cN)(G1:Prop),(∀q,q<=2\/q=4\/7<=q/\q<=12\/36<=q/\q<=38->an q E=an q l)->ah (λi=>i=p\/i=wb) h g->oK p c0 c1 c2 c6 c7 c8 c9 fs aq y g->uF g wb n (i+1)->(∀s,s∈cD n <-> s∈I)->(aFz (aEG fs aq) aq aq[j] G (aEK (t::ts)) k=(G1/\aFz (aEG fs aq) aq aq[j] G (aEK ts) I))->(y.e=0->f.e=0/\G1)->(G1->y=f)->W T (.g (z q18 17)) E g [] (bF (W T (.d l18_0)) K):=by
   intro E g n I y G1 A g2 J w2 aMY V z1 z2;have e38:=(A 38 zo).trans f38;have nf:NF 0 h g:=λi r ff _ e=>by rw[g2.f i (Hp.lt e rfl) λm=>hMr h f Q _ x w i m _ _ _ _ _ e];omega
   refine aS e38 ao ?_;refine ih (i+1) _ n I y g _ K zo (λt ht=>hU t qaa) (λ_=>⟨b,cap,ex,r,ff,rfl,nf _ _ _ (auz _) R,hr,λq u=>?_⟩) J w2 aMY (au ((A 0 zo).trans f0)) (au ((A 2 zo).trans O)) (au ((A 4 zo).trans f4)) (au ((A 36 zo).trans f36)) (au ((A 37 zo).trans f37)) aa λf' h' fl BD g' x' aMZ aCM=>hk f' h' fl (λq u=>?_) (g2.ba g') x' (λe=>?_) λe=>?_;have:=iW (q+1) qaa;simp[auu,show i+(q+1)=i+1+q by omega] at this;exact this.nf nf zl
   ·rw[BD q u]
    repeat rw[qA,if_neg zo]
    exact A q zo
   rw[V];obtain⟨a,b⟩:=aMZ e;obtain⟨c,d⟩:=z1 a;exact⟨c,d,b⟩;rw[V] at e;exact(aCM e.2).trans (z2 e.1)
  generalize hN:CC.g (z q18 17)=N at nx;generalize OQ:aJG=R4;rw[aP];show W T aH9 l h [] _;unfold aH9 zt;rw[hN,OQ];have L:ax h ((h.am (.a 61 [.i 0,.i 0,.i 0,.i 0,S [],.h])).dT h.a (.a 61 [.i t.bi,.i t.ib,.i t.toz,.i t.at,S t.bj,kv])):=fZ;by_cases ck:t.bi=2
  ·have hU0:=hU t zm;have V:aFz (aEG fs aq) aq aq[j] G (aEK (t::ts)) k=((t.bj∉k/\t.bj∈aq/\(aFG (aEG fs aq) aq[j] G [] t.bj).1 =false)/\aFz (aEG fs aq) aq aq[j] G (aEK ts) (t.bj::k)):=by rw[show aEK (t::ts)=t.bj::aEK ts by simp[aEK,ck]];rfl
   have xA:=x.g0 L;have wA:=w.bc (L.f _ w.m.lt id);have u1:((h.am (.a 61 [.i 0,.i 0,.i 0,.i 0,S [],.h])).dT h.a (.a 61 [.i t.bi,.i t.ib,.i t.toz,.i t.at,S t.bj,kv])).ab h.a=.a 61 [.i t.bi,.i t.ib,.i t.toz,.i t.at,S t.bj,kv]:=Hp.fp rfl;rw[ck] at L xA wA u1;have CJ:∀(E:Fr)(g:Hp)(n:SL)(D:cN),(∀q,q<=2\/q=4\/7<=q/\q<=12\/36<=q/\q<=38->an q E=an q l)->an 6 E=.a h.a 0->ah (λi=>i=p\/i=wb) h g->g.ab h.a=.a 61 [.i 2,.i t.ib,.i t.toz,.i t.at,S t.bj,kv]->oK p c0 c1 c2 c6 c7 c8 c9 fs aq D g->uF g wb n (i+1)->(∀s,s∈cD n <-> s∈t.bj::k)->(D.e=0->f.e=0/\t.bj∉k)->(t.bj∉k->D=f)->
    W T R4 E g [] (bY 3 (bF (W T N) (bF (W T (.d l18_0)) K))):=by
    intro E g n D A f6 g2 un J w2 U d1 d2;have e0:=(A 0 zo).trans f0;have e2:=(A 2 zo).trans O;subst OQ;have eK:=J.a;simp only[bS] at eK;have yM:=Hp.lt eK rfl;have lu:=Hp.lt un rfl;refine cC e0 e2 f6 eK un ?_;refine Ek Z (J.b (Cq hj)) zo ?_;have ER:∀(uk:Fr),(∀q,q<=2\/q=4\/7<=q/\q<=12\/36<=q/\q<=38->an q uk=an q E)->(∀q,q<=2\/q=4\/7<=q/\q<=12\/36<=q/\q<=38->an q uk=an q l):=λuk X q u=>(X q u).trans (A q u);have acz:∀(e:Int)(C:Hp)(Q3:SL)(Ia:cN)(v:Hp),ah (λi=>i=p\/i=wb) h C->oK p c0 c1 c2 c6 c7 c8 c9 fs aq Ia C->uF C wb Q3 (i+1)->ah (·=p) C v->v.ab p=.a 57 (bS c0 c1 c2 (Bp Ia ⟨j,t.at,e⟩) c6 c7 c8 c9)->ah (λi=>i=p\/i=wb) h v/\oK p c0 c1 c2 c6 c7 c8 c9 fs aq (Bp Ia ⟨j,t.at,e⟩) v/\uF v wb Q3 (i+1):=by intro e C Q3 Ia v g3 Y w3 P m7;exact⟨g3.ba (P.bc λ_ _ q=>.inl q),Y.bc P (λi q=>by subst q;exact λ_ _ _ _ _ e=>by rw[Y.a] at e;cases e) m7,w3.bc (P.f _ w3.m.lt (Ne.symm VA))⟩
    by_cases c3:t.bj∈aq
    ·have lN:=J.b (Cq hj);obtain⟨db,xu,xw,dr,dt,VB,kY,HW,vS⟩:=lN;have qd:=vS j hj;have eY:(j:Int)<aq.length:=zo;have HX:=Hp.lt kY rfl;rw[VB] at eK;refine nA c3 e0 e2 f6 eK un kY qd hj eY ?_;have gM:ax g (g.am (.f [] 0)):=aZ;have xM:=J.g0 gM;refine alC Z (sb:=g.a) (fs:=fs) (aq:=aq) (f:=D) (c0:=c0) (c1:=c1) (c2:=c2) (c6:=c6) (c7:=c7) (c8:=c8) (c9:=c9) pK hfl CY (H9 fs []) G [] t.bj _ _ hG rfl hU0 (by simp[cD]) ⟨iV.ow (Hp.bv rfl),λs w hw=>by cases hw⟩ xM.a (xM.b (Cq hj)) xM.c λbb C Q3 g3 s3 _ rT=>?_;have F:ax g C:=ah.na gM g3 λi hi=>by subst hi;exact at2 _
     have Y:=J.g0 F;have w3:=w2.bc (F.f _ w2.m.lt id);have g03:ah (λi=>i=p\/i=wb) h C:=g2.ba (ah.mr F);have un3:=(F.f _ lu id).trans un;cases bb with
     |false=>
      refine ag ?_;exact nx _ C n _ D _ (ER _ λq u=>by repeat rw[qA,if_neg zo]) g03 Y w3 U V (λe=>⟨(d1 e).1,(d1 e).2,c3,by rw[rT]⟩) λq=>d2 q.1
     |true=>
      refine bK e0 e2 f6 un3 ?_;refine ES Z (x:=⟨j,t.at,16⟩) (f:=D) Y.a λv P m7=>?_;obtain⟨a1,a2,a3⟩:=acz 16 C n D v g03 Y w3 P m7;refine ag ?_;exact nx _ v n _ _ _ (ER _ λq u=>by repeat rw[qA,if_neg zo]) a1 a2 a3 U V (λe=>absurd e (acG zm)) λq=>by have:=q.2.2;rw[rT] at this;cases this
    ·refine cC c3 e0 e2 f6 un ?_;refine ES Z (x:=⟨j,t.at,12⟩) (f:=D) J.a λv P m7=>?_;obtain⟨a1,a2,a3⟩:=acz 12 g n D v g2 J w2 P m7;refine ag ?_;exact nx _ v n _ _ _ (ER _ λq u=>by repeat rw[qA,if_neg zo]) a1 a2 a3 U V (λe=>absurd e (acG zm)) λq=>absurd q.2.1 c3
   generalize hH:((h.am (.a 61 [.i 0,.i 0,.i 0,.i 0,S [],.h])).dT h.a (.a 61 [.i 2,.i t.ib,.i t.toz,.i t.at,S t.bj,kv]):Hp)=H at L xA wA u1;obtain⟨c,hc,hcv,hc1,wE⟩:=wA.wa (s:=t.bj);have ec:w64 (c+1)=c+1/\1<=c+1/\c+1<=(i:Int)+1:=by by_cases q:t.bj∈cD Q;have:=hc1 q;exact⟨gf zo zo,by omega,by omega⟩;have:=wE q;subst this;exact⟨rfl,by omega,by omega⟩
   obtain⟨o,eo,fo⟩:=wA.iL (s:=t.bj) ec.2.1 ec.2.2;have w5:=fo (H.dT wb o) (Hp.fp rfl);obtain⟨c5,VD,aBJ,_⟩:=w5.wa (s:=t.bj);rw[Bq,if_pos rfl] at aBJ;have ec5:c+1=c5:=by cases aBJ;rfl
   have U:∀s,s∈cD (mA Q t.bj (.i (c+1))) <-> s∈t.bj::k:=λs=>by rw[OA];have:=B s;have:=B t.bj;grind
   have h15:1<c5 <-> t.bj∈k:=by rw[<-B];by_cases q:t.bj∈cD Q;have:=hc1 q;exact⟨λ_=>q,λ_=>by omega⟩;have:=wE q;exact⟨λ_=>by omega,λe=>absurd e q⟩
   have g5:ah (λi=>i=p\/i=wb) h (H.dT wb o):=ah.dT (ah.mr L) _ (.inr (.inr rfl));have u5:(H.dT wb o).ab h.a=.a 61 [.i 2,.i t.ib,.i t.toz,.i t.at,S t.bj,kv]:=by rw[Hp.fv (by have:=w.m.lt;omega)];exact u1
   have x5:oK p c0 c1 c2 c6 c7 c8 c9 fs aq f (H.dT wb o):=xA.bc (M:=(·=wb)) (ah.dT (M:=(·=wb)) (ah.cg _) _ (.inr rfl)) (λi q=>hMr H f Q _ xA wA i (.inr q)) (by rw[Hp.fv VA];exact xA.a);have lu1:=Hp.lt u1 rfl;have lu5:=Hp.lt u5 rfl;refine kC f0 O f4 f36 f37 f38 ao aY R jE hkv.iU ck (atQ (atQ (atQ (atQ hH hc) eo) VD) u1) ?_;by_cases c6:1<c5
   ·refine cC c6 f0 O u5 VD ?_;refine ES Z (x:=⟨j,t.at,13⟩) (f:=f) x5.a λh6 g6 yH=>?_;refine ag ?_;exact CJ _ h6 _ _ (λq u=>by repeat rw[qA,if_neg zo]) aa (g5.ba (g6.bc λ_ _ q=>.inl q)) ((g6.f _ lu5 (by have:=Hp.lt x.a rfl;omega)).trans u5) (x5.bc g6 (λi q=>by subst q;exact λ_ _ _ _ _ e=>by rw[x5.a] at e;cases e) yH) (w5.bc (g6.f _ w5.m.lt (Ne.symm VA))) U (λe=>absurd e (acG zm)) λq=>absurd (h15.1 c6) q
   ·refine cC c6 f0 O u5 VD ?_;exact CJ _ (H.dT wb o) _ f (λq u=>by repeat rw[qA,if_neg zo]) aa g5 u5 x5 w5 U (λe=>⟨e,λq=>c6 (h15.2 q)⟩) λ_=>rfl
  ·refine pU f0 O f4 f36 f37 f38 ao aY R jE hkv.iU ck ?_;exact nx _ _ Q k f True (λq u=>by repeat rw[qA,if_neg zo]) (ah.mr L) (x.g0 L) ((w.bc (L.f _ w.m.lt id)).up zo) B (by rw[true_and];simp[aEK,ck]) (λe=>⟨e,auW⟩) λ_=>rfl
end
def aGm(fs:List Tree)(aq:List (List UInt8))(j:Nat)(t:Tree):Prop:=t.bj=aq.getD j []/\aFz (aEG fs aq) aq (aq.getD j []) ((Ls fs).length+1) (aEK t.fg) []
def aM0{fs:List Tree}:H9 fs []<(Ls fs).length+1:=Nat.lt_succ_of_le (aQd _ _)
section
variable {k:aK->Prop}{aq:List (List UInt8)}
theorem alI(U:aA T)(pK:fs.length=aq.length)(d:fs.length<4294967296)(CY:∀t∈fs,t.fg.length<4294967296) (x:oK p c0 c1 c2 c6 c7 c8 c9 fs aq f h)
 (I:∀h' fl,ah (·=p) h h'->oK p c0 c1 c2 c6 c7 c8 c9 fs aq fl h'->(fl.e=0->f.e=0/\∀j(hj:j<fs.length),aGm fs aq j fs[j])->((∀j(hj:j<fs.length),aGm fs aq j fs[j])->fl=f)->k (.a (.o []) h')):aE T (W T) ⟨18⟩ [.a p 0] h k:=by
 rw[aJ U.t18];have X:=x.a;simp only[bS] at X;have lp:=Hp.lt X rfl;have key:∀(ts:List Tree)(j:Nat)(f:cN)(a:Hp)(m:Fr)(K:aT->Prop),j+ts.length=fs.length->(∀i(hi:i<ts.length),fs[j+i]? =some ts[i])->oK p c0 c1 c2 c6 c7 c8 c9 fs aq f a->an 0 m=.a p 0->an 10 m=c1->an 11 m=.i fs.length->an 12 m=.i j->
  (∀f' h' fl,ah (·=p) a h'->oK p c0 c1 c2 c6 c7 c8 c9 fs aq fl h'->(fl.e=0->f.e=0/\∀i(hi:i<ts.length),aGm fs aq (j+i) ts[i])->((∀i(hi:i<ts.length),aGm fs aq (j+i) ts[i])->fl=f)->K (.a 0 f' h' []))->W T (.d l18_1) m a [] K:=by
  intro ts;induction ts with
  |nil=>
   intro j f a m K hj jh o f0 f10 f11 f12 I;subst hj;rw[aP];exact aU f10 f11 f12 (I _ _ f (ah.cg _) o (λz=>⟨z,λi hi=>absurd hi zm⟩) λ_=>rfl)
  |cons t ts ih=>
   intro j f a m K hj jh o f0 f10 f11 f12 I;simp only[atX] at hj;have O:j<fs.length:=zo;have aY:(j:Int)<fs.length:=zo;have M:j<aq.length:=zo;have B:(j:Int)<aq.length:=zo;have et:fs[j]=t:=by have:=jh 0 zm;grind
   have tm:t∈fs:=by grind
   obtain⟨b,cap,ex,r,ff,rfl,hb,hr,iW⟩:=o.c.ph qaa;have eJ:=iW j O;simp only[aue,et] at eJ;obtain⟨kv,jE,n⟩:=eJ.il;have lb:=Hp.lt hb rfl;have jr:j<r:=zo;have D:=o.a;simp only[bS] at D;have Vz:=Hp.lt D rfl;have iu:=o.b (Cq M);obtain⟨db,xu,xw,dr,dt,VB,kY,HW,vS⟩:=iu;have qd:=vS j M;have HX:=Hp.lt kY rfl;rw[VB] at D;have ed:aq.getD j []=aq[j]:=by grind
   generalize hL:CC.d l18_0=L;generalize H:aG9=R5;have G:∀(l:Fr)(g:Hp)(N:cN),ah (·=p) a g->oK p c0 (.c b 0 6 fs.length cap ex) c2 c6 c7 c8 c9 fs aq N g->g.ab a.a=.a 61 [.i t.bi,.i t.ib,.i t.toz,.i t.at,S t.bj,kv]->lC 0 g kv t.fg->an 0 l=.a p 0->an 2 l=.i j->an 3 l=.a a.a 0->an 10 l=.c b 0 6 fs.length cap ex->an 11 l=.i fs.length->an 12 l=.i j->(N.e=0->f.e=0/\t.bj=aq[j])->(t.bj=aq[j]->N=f)->
    W T R5 l g [] (bY 1 (bF (W T (.g (z q18 18))) (bF (W T (.d l18_1)) K))):=by
    intro l g N g2 x2 un wW e0 e2 e3 Y Z e12 Bd mC;subst H;unfold aG9 zt;have lu:=Hp.lt un rfl;have F:ax g (g.am (.f [] 0)):=aZ;have xM:=x2.g0 F;have J:=wW.nf (mY F);simp(maxSteps:=400000) (disch:=first|exact bh|fail) [e3,un,J.pi];subst hL;refine alH U pK d CY (j:=j) (n':=t.fg.length) (wb:=g.a) M (CY t tm) aM0 t.fg 0 kv [] [] N _ _ _ zo (λt' jL=>List.mem_flatMap.2 ⟨t,tm,auR.2 ⟨t',jL,rfl⟩⟩) J.ph xM ⟨iV.ow (Hp.bv rfl),λs w hw=>by cases hw⟩ (λ_=>Iff.rfl) (au e0) (au e2) aa aa aa aa λf' h3 Ia P g3 x3 Oc V=>?_;have a0:=P 0 zo;have v:=P 10 zo;have y:=P 11 zo;have A:=P 12 zo
    simp(maxSteps:=400000) (disch:=first|exact bh|fail) [e0,Y,Z,e12] at a0 v y A;have g13:ah (·=p) a h3:=⟨at1 g2.g (at1 F.g g3.g),λi hi hm=>by have hm:=hm;rw[g3.f i (by have:=F.g;omega) zo,F.f i zo id,g2.f i hi hm]⟩
    refine aS A O ?_;refine ih (j+1) Ia h3 _ K zo (λi hi=>?_) x3 (au a0) (au v) (au y) aa λf' h' fl g' x' Q d=>I f' h' fl (g13.ba g') x' (λz=>?_) λhn=>?_;have:=jh (i+1) qaa;grind;obtain⟨z3,w3⟩:=Q z;obtain⟨z2,w2⟩:=Oc z3;obtain⟨z1,w1⟩:=Bd z2;refine⟨z1,λi hi=>?_⟩;cases i with
    |zero=>exact⟨by rw[aud,ed];exact w1,by rw[aud,ed];exact w2⟩
    |succ i=>have:=w3 i (by simpa using hi);rw[show j+(i+1)=j+1+i by omega];exact this
    obtain⟨n0,n1⟩:=hn 0 zm;simp only[aus,aud,ed] at n0 n1;rw[d (λi hi'=>by have:=hn (i+1) (by simpa using hi');rw[show j+1+i=j+(i+1) by omega];exact this),V n1,mC n0]
   rw[aP];show W T ((CC.g (z q18 1)).f ((CC.i (CX.t 13) CC.j (CC.p 0)).f ((CC.m 1 ((CC.g (z q18 2)).f (((CC.h r18_3).f (CC.i (CX.t 26) (CC.h r18_4) CC.j)).f (CC.f (.g (z q18 5)) (.f (.g (z q18 6)) (.m 2 (.d l18_0))))))).f (CC.g (z q18 18))))) m a [] _;have C:=H;unfold aG9 zt at C;rw[C];have E:ax a ((a.am (.a 61 [.i 0,.i 0,.i 0,.i 0,S [],.h])).dT a.a (.a 61 [.i t.bi,.i t.ib,.i t.toz,.i t.at,S t.bj,kv])):=fZ;have u:=o.g0 E;have R:((a.am (.a 61 [.i 0,.i 0,.i 0,.i 0,S [],.h])).dT a.a (.a 61 [.i t.bi,.i t.ib,.i t.toz,.i t.at,S t.bj,kv])).ab a.a=.a 61 [.i t.bi,.i t.ib,.i t.toz,.i t.at,S t.bj,kv]:=Hp.fp rfl;have HZ:=n.nf (mY E);by_cases c:t.bj=aq[j];refine kC f0 f10 f11 f12 O aY hb jE n.iU D kY qd (atQ (atQ M B) c) ?_;rw[c] at E u R;exact G _ _ f (ah.mr E) u (by rw[c];exact R) (HZ.nf (by rw[c];exact NF.cg _)) zA aa aa zA zA zA (λz=>⟨z,c⟩) λ_=>rfl;refine kC f0 f10 f11 f12 O aY hb jE n.iU D kY qd (atQ (atQ M B) c) ?_;refine ES U (x:=⟨j,t.at,9⟩) (f:=f) u.a λh6 g6 yH=>?_;have x6:=u.bc g6 (λi q=>by subst q;exact λ_ _ _ _ _ e=>by rw[u.a] at e;cases e) yH;refine ag ?_;exact G _ h6 _ ((ah.mr E).ba g6) x6 ((g6.f _ (Hp.lt R rfl) zo).trans R) (HZ.nf (λi r ff _ e=>by rw[g6.f i (Hp.lt e rfl) λq=>by rw[q,u.a] at e;cases e];exact e)) zA aa aa zA zA zA (λe=>absurd e (acG zm)) λe=>absurd e c
 generalize hL:CC.d l18_1=L;simp(disch:=omega) [X,x.c.pi];subst hL;refine key fs 0 f h _ _ zo (λi hi=>by simp[hi]) x aa aa aa aa λf' h' fl g' x' Q d=>?_;refine ag ?_;exact I h' fl g' x' (λz=>⟨(Q z).1,λi hi=>by simpa using(Q z).2 i hi⟩) λa=>d (λi hi=>by simpa using a i hi)
end
section
variable {T:aM->Option CF}{O:Orc}
structure Doc where
 b:List UInt8
 a:List UInt8
 c:Int
def Doc.fj(d:Doc):List AV:=[S d.b,S d.a,.i d.c]
def tC(o:AO)(r:Nat)(t:N3 (List AV)):Prop:=(∃fz,o=.b 45 3 r fz t)\/o=.h 3 r t
def vV(h:Hp)(v:AV)(ds:List Doc):Prop:=
 ds=[]/\v=.h\/∃b cap ex r t,v=.c b 0 3 ds.length cap ex/\tC (h.ab b) r t/\ds.length<=r/\∀j,(hj:j<ds.length)->t j=ds[j].fj
def Ax(T:aM->Option CF)(O:Orc)(h:Hp):Prop:=22<=h.a/\∀h':Hp,h.a<=h'.a->(∀i,i<22->h'.ab i=h.ab i)->Cz T O h'/\CA T O h'/\KG T h'/\Od T O h'/\lO (h'.ab 1)
section
variable {h':Hp}{k:aK->Prop}{v:AV}{ds:List Doc}
theorem Ax.bc{M:Nat->Prop}(x:Ax T O h)(g:ah M h h')(b:∀i,M i->22<=i):Ax T O h':=by refine⟨at1 x.1 g.g,λa l e=>x.2 a (at1 g.g l) λi hi=>?_⟩;rw[e i hi,g.f i (by have:=x.1;omega) λm=>by grind]
def Ax.Ib(x:Ax T O h):Cz T O h/\CA T O h/\KG T h/\Od T O h/\lO (h.ab 1):=x.2 h zl λ_ _=>rfl
def tC.lt{r:Nat}{t:N3 (List AV)}{b:Nat}(x:tC (h.ab b) r t):b<h.a:=by rcases x with⟨fz,e⟩|e<;>exact Hp.lt e rfl
def tC.ld{r:Nat}{t:N3 (List AV)}{b j:Nat}{d:Doc}(x:tC (h.ab b) r t)(hj:j<r)(c:t j=d.fj):cellsOf (h.ab b) (j*3) 3=some d.fj:=by have a:j+1<=r:=hj;rcases x with⟨fz,e⟩|e<;>rw[e]<;>simp[cellsOf,dY,a,c,Doc.fj,gK,kH,cond]
def tC.ld0{r:Nat}{t:N3 (List AV)}{b j:Nat}{d:Doc}(x:tC (h.ab b) r t)(hj:j<r)(c:t j=d.fj):cellsOf (h.ab b) (j*3) 1=some [S d.b]:=by have a:j+1<=r:=hj;rcases x with⟨fz,e⟩|e<;>rw[e]<;>simp[cellsOf,dY,a,c,Doc.fj,gK,kH,cond]
def tC.yV{r:Nat}{t:N3 (List AV)}{b j:Nat}{d:Doc}(x:tC (h.ab b) r t)(hj:j<r)(g:t j=d.fj):cellsOf (h.ab b) (j*3+1) 1=some [S d.a]:=by have a:j+1<=r:=hj;have c:(j*3+1)% 3=1:=zo;have f:(j*3+1)/3=j:=zo;rcases x with⟨fz,e⟩|e<;>rw[e]<;>simp[cellsOf,dY,c,f,a,g,Doc.fj,gK,kH,cond]
def vV.bc{M:Nat->Prop}(x:vV h v ds)(g:ah M h h')(f:∀i,M i->∃el l,h.ab i=.a el l):vV h' v ds:=by rcases x with x|⟨b,cap,ex,r,t,c,a,d⟩;exact .inl x;refine .inr ⟨b,cap,ex,r,t,c,?_,d⟩;rw[g.f b a.lt λm=>?_];omega;obtain⟨el,l,e⟩:=f _ m;rw[e] at a;rcases a with⟨_,a⟩|a<;>cases a
def vV.pi(x:vV h v ds){H:Hp}:aEW 1 H v=.v (.i ds.length):=by rcases x with⟨rfl,rfl⟩|⟨b,cap,ex,r,t,rfl,_⟩<;>rfl
theorem acC{el rw r n fz:Nat}{f:N3 (List AV)}(a:0<rw)(hr:n<=r):kZ (.b el rw r fz f) 0 rw n=some (dw f n 0):=by simp only[kZ,tZ,Ef,Ee,vp,axN,axO,aue,ny,hr,auS,avl,cond]
def alK{b cap ex r n:Nat}{Lt:Bool}{t:N3 (List AV)}(a:tC (h.ab b) r t)(hr:n<=r):rL h 3 (.c b 0 3 n cap Lt)=some (dw t n 0):=by rcases a with⟨fz,a⟩|a<;>simp only[rL,a,wo]<;>exact acC zm hr
theorem acD{el rw b cap ex r fz n:Nat}{Lt:Bool}{f:N3 (List AV)}(a:0<rw)(c:h.ab b=.b el rw r fz f)(hr:n<=r):rL h rw (.c b 0 rw n cap Lt)=some (dw f n 0):=by grind[rL,wo,acC]
theorem alL(m:aA T)(hd:vV h v ds)(w:ds.length<1073741824)(f:∀h' v',ax h h'->vV h' v' ds->bQ v'=some [v']->k (.a v' h')):aE T (W T) ⟨13⟩ [v] h k:=by
 rw[aJ m.t13];rcases hd with⟨rfl,rfl⟩|⟨q,cap,ex,r,t,rfl,s,hr,x⟩;simp(disch:=omega) [cJ];exact f _ _ aZ (.inl ⟨rfl,rfl⟩) rfl;have u:=s.lt;simp(disch:=omega) [cJ];generalize g:(h.am _:Hp)=H;have c:∃t,H.ab h.a=.b 45 3 0 0 t:=⟨_,by rw[<-g];exact Hp.bv rfl⟩;have e:ax h H:=by rw[<-g];exact aZ
 obtain⟨t1,c⟩:=c;have l:tC (H.ab q) r t:=by rw[e.f _ u id];omega
 have a:=alK (h:=H) (b:=q) (cap:=cap) (ex:=0) (Lt:=ex) (n:=ds.length) l hr;by_cases h0:ds.length=0;rw[h0] at a;have d:=NK (h:=H) (el:=45) (rw:=3) (bytes:=40) (len:=0) (b:=h.a) (cap:=0) (ex:=true) (y:=.c q 0 3 0 cap ex) a rfl;rw[h0,d];refine ag ?_;exact f _ _ e (.inr ⟨h.a,0,true,0,t1,by grind,.inl ⟨0,c⟩,by omega,λj hj=>by omega⟩) rfl;obtain⟨n,p⟩:∃n,ds.length=n+1:=⟨ds.length- 1,by omega⟩;have d:=G2 (h:=H) (el:=45) (rw:=3) (bytes:=40) (n:=n) (i:=h.a) (len:=0) (l5:=0) (t:=t1) zm c zl a (by simp[lenOf,p]) (rV zo zo);rw[d];refine ag ?_;refine f _ _ (e.am _) (.inr ⟨H.a,n+1,false,n+1,jy fG 0 ([]++dw t ds.length 0),by grind,?_,by omega,λj hj=>?_⟩) rfl;rw[Hp.bv rfl,jJ];exact .inl ⟨0,rfl⟩;have o:j<(dw t ds.length 0).length:=by grind[oZ]
 rw[au5,wO o];have:=vw t ds.length 0 j hj;grind
def uG(lo:Nat)(h:Hp)(v:AV)(ws:List (List UInt8)):Prop:=
 ws=[]/\v=.h\/ws≠[]/\∃q r t,lo<=q/\v=.c q 0 1 ws.length ws.length false/\h.ab q=.b 9 1 r 0 t/\ws.length<=r/\∀j,(hj:j<ws.length)->t j=[S ws[j]]
def uG.vm{lo:Nat}{M:Nat->Prop}{ws}(x:uG lo h v ws)(g:ah M h h')(d:∀i,M i->∀r t,h.ab i≠.b 9 1 r 0 t):uG lo h' v ws:=by rcases x with x|⟨x,q,r,t,e,b,a,c⟩;exact .inl x;exact .inr ⟨x,q,r,t,e,b,by rw[g.f q (Hp.lt a rfl) λm=>d _ m _ _ a];omega,c⟩
def uG.il{lo:Nat}{ws}(x:uG lo h v ws):bQ v=some [v]:=by rcases x with⟨_,rfl⟩|⟨_,q,r,t,_,rfl,_⟩<;>rfl
theorem uG.ss{lo:Nat}{ws:List (List UInt8)}{w:List UInt8}{M:Nat->Prop}{l:Hp}(x:uG lo h v ws)(E:ws.length<1073741824)(g:ah M l h)(D:l.a<=lo)(B:lo<=h.a){t1:N3 (List AV)}(o:t1 0=[S w]){a:Hp}(s:a=h.am (.b 9 1 1 0 t1)):
 ∃v' d,kJ a 9 1 16 v (.c h.a 0 1 1 1 true)=.b v' d/\uG lo d v' (ws++[w])/\ah M l d/\h.a<d.a/\∀i,i<h.a->(∀r t,h.ab i≠.b 9 1 r 0 t)->d.ab i=h.ab i:=by
 have A:a.ab h.a=.b 9 1 1 0 t1:=by simp_all
 have H:a.a=h.a+1:=by simp_all
 have g1:ax h a:=by rw[s];exact aZ
 have b:=wN (h:=a) (rw:=1) (cap:=1) (ex:=true) A zl;rw[o] at b;rcases x with⟨rfl,rfl⟩|⟨C,q,r,t,G,rfl,m,hr,u⟩;have f:=A7 (h:=a) (el:=9) (rw:=1) (bytes:=16) (n:=0) (y:=.c h.a 0 1 1 1 true) b rfl qab;refine⟨_,_,f,.inr ⟨by simp,a.a,1,cx fG 0 [S w],by omega,rfl,by simp,by simp,λj hj=>?_⟩,(g.ba (ah.mr g1)).am _,by simp;omega,λi hi _=>?_⟩;obtain rfl:j=0:=by grind
 simp;grind[Hp.jp];have p:=Hp.lt m rfl;have z:=(g1.f _ p id).trans m;have f:=A8 (h:=a) (el:=9) (rw:=1) (bytes:=16) (n:=0) (i:=q) (len:=ws.length) (l5:=r) (t:=t) (y:=.c h.a 0 1 1 1 true) z hr b rfl (rV zo zo);refine⟨_,_,f,.inr ⟨by simp,a.a,ws.length+1,cx t ws.length [S w],by omega,by simp,?_,by simp,λj hj=>?_⟩,?_,?_,λi hi F=>?_⟩;have e:(a.dT q .c).a=a.a:=Hp.my zo;simp_all;simp at hj;by_cases c:j=ws.length;simp_all;rw[ava zo,dZ,if_neg c,u j zo];exact((g.ba (ah.mr g1)).dT _ (.inl zo)).am _;grind[Hp.ii,Hp.my];grind[Hp.my,Hp.jp,Hp.fv]
end
end
end Yv
namespace Yv
variable {g d:Nat}{B:Nat->AO}{h h':Hp}{f f':Fr}{x y z:AV}{l r:List AV}{o:AO}{L:List Nat}{T:aM->Option CF}
section
variable (g:Nat)(L:List Nat)
def aGc(c:CI):Bool:=okO g L c.b
def aES:CC->Bool
 |.g l=>l.all (aGc g L)
 |.h l=>l.all λd=>aGc g L d.c
 |.f a b=>aES a&&aES b
 |.i x a b=>okX g x&&aES a&&aES b
 |.m _ c=>aES c
 |.d c=>aES c
 |.o c=>aES c
 |_=>true
end
theorem HR.some(le:g<=h.a):∃h',HR g d B h h':=by
 refine⟨⟨λi=>if i<g then mvO g d (h.ab i) else if i<g+d then B i else mvO g d (h.ab (i- d)),h.a+d,h.d,λi hi=>?_⟩,λi=>?_,λi e j=>?_,rfl,le⟩;rw[if_neg zo,if_neg zo];show mvO g d (h.t (i- d))=_;rw[h.b _ zo];rfl
 show(if mvN g d i<g then _ else _)=_;grind[mvN];show(if i<g then _ else _)=_;grind
inductive aFA(g d:Nat)(B:Nat->AO):aT->aT->Prop
 |a {f f':Fr} {h h':Hp}:FR g d f f'->HR g d B h h'->aFA g d B (.c f h []) (.c f' h' [])
 |b (i:Nat) {f f':Fr} {h h':Hp}:FR g d f f'->HR g d B h h'->aFA g d B (.a i f h []) (.a i f' h' [])
 |j (i:Nat) {f f':Fr} {h h':Hp}:FR g d f f'->HR g d B h h'->aFA g d B (.g i f h []) (.g i f' h' [])
 |k {f f':Fr} {h h':Hp}:FR g d f f'->HR g d B h h'->aFA g d B (.b f h []) (.b f' h' [])
 |c (v:AV) {f f':Fr} {h h':Hp}:FR g d f f'->HR g d B h h'->aFA g d B (.d v f h []) (.d (kf g d v) f' h' [])
inductive aFT(g d:Nat)(B:Nat->AO):aK->aK->Prop
 |a (v:AV) {h h':Hp}:HR g d B h h'->aFT g d B (.a v h) (.a (kf g d v) h')
 |b (v:AV) {h h':Hp}:HR g d B h h'->aFT g d B (.b v h) (.b (kf g d v) h')
def gdO(g:Nat):aT->Prop
 |.c _ h ds|.a _ _ h ds|.g _ _ h ds|.b _ h ds|.d _ _ h ds=>ds=[]/\g<=h.a
def gdC(g:Nat):aK->Prop
 |.a _ h|.b _ h=>g<=h.a
def Det(g d:Nat)(B:Nat->AO)(T:aM->Option CF)(c:CC)(f:Fr)(h:Hp)(k:aT->Prop):Prop:=
 ∃o,gdO g o/\k o/\∀f' h',FR g d f f'->HR g d B h h'->∀a,(∀o',aFA g d B o o'->a o')->W T c f' h' [] a
abbrev aFI(g d:Nat)(B:Nat->AO)(T:aM->Option CF)(L:List Nat):fJ:=λc f h ds k=>ds=[]->g<=h.a->aES g L c=true->Det g d B T c f h k
def aFe(F:FR g d f f')(p:Option Nat)(v:AV):FR g d (put p v f) (put p (kf g d v) f'):=by
 cases p with
 |none=>exact F
 |some p=>
  intro q;show cond (Nat.beq q p) _ _=kf g d (cond (Nat.beq q p) _ _);cases Nat.beq q p;exact F q;rfl
def aE4(F:FR g d f f')(q:Option (Nat×Bool)):jO q f'=jO q f:=by
 cases q with
 |none=>rfl
 |some p=>
  obtain⟨p,b⟩:=p;simp[jO,an,F p];cases f p<;>rfl
def aI2(g d:Nat)(B:Nat->AO)(T:aM->Option CF)(L:List Nat)(b:mj):Prop:=
 ∀fn args h(k:aK->Prop),L.contains fn.n=true->g<=h.a->b fn args h k->∃o,gdC g o/\k o/\∀h',HR g d B h h'->∀a,(∀o',aFT g d B o o'->a o')->aE T (W T) fn (R1 g d args) h' a
def aKy(a:g<=h.a){c:CO}(e:okO g L c=true):∃r,aQ c f h=r/\(∀f' h',FR g d f f'->HR g d B h h'->R2 g d B L r (aQ c f' h'))/\∃b,R2 g d B L r b:=by obtain⟨h',H⟩:=HR.some (d:=d) (B:=B) a;exact⟨_,rfl,λf' h' F H=>aI1 H F e,_,aI1 H (f':=λp=>kf g d (f p)) (λ_=>rfl) e⟩
def aGJ{G:mj}(C:aI2 g d B T L G){k:aT->Prop}:∀(l:List CI){f:Fr}{h:Hp},l.all (aGc g L)=true->g<=h.a->qQ G k l [] f h->
 ∃o,gdO g o/\k o/\∀f' h',FR g d f f'->HR g d B h h'->∀m,(∀o',aFA g d B o o'->m o')->qQ (aE T (W T)) m l [] f' h'
 |[],f,h,_,s,w=>⟨.c f h [],⟨rfl,s⟩,w,λ_ _ F H m j=>j _ (.a F H)⟩
 |c::r,f,h,e,s,w=>by
  simp only[aw2,atW] at e;simp only[qQ] at w;cases p:jO c.a f with
  |none=>rw[p] at w;exact w.elim
  |some b=>
   rw[p] at w;cases b with
   |false=>
    obtain⟨o,n,u,t⟩:=aGJ C r e.2 s w;refine⟨o,n,u,λf' h' F H m j=>?_⟩;simp[qQ,aE4 F,p];exact t _ _ (aFe F _ undef) H m j
   |true=>
    obtain⟨q,ev,D,P,hr⟩:=aKy (d:=d) (B:=B) (f:=f) s e.1;simp only[ev] at w;cases hr with
    |v x=>
     obtain⟨o,n,u,t⟩:=aGJ C r e.2 s w;refine⟨o,n,u,λf' h' F H m j=>?_⟩;simp only[qQ,aE4 F,p];have q:=D f' h' F H;generalize aQ c.b f' h'=r2 at q;cases q;exact t _ _ (aFe F _ x) H m j
    |i x hr=>
     obtain⟨o,n,u,t⟩:=aGJ C r e.2 hr.b w;refine⟨o,n,u,λf' h' F H m j=>?_⟩;simp only[qQ,aE4 F,p];have q:=D f' h' F H;generalize aQ c.b f' h'=r2 at q;cases q;rename_i A;exact t _ _ (aFe F _ x) A m j
    |c fn a N=>
     obtain⟨O,K,J,M⟩:=C _ _ _ _ N s w;cases O with
     |a v I=>
      obtain⟨o,n,u,t⟩:=aGJ C r e.2 K J;refine⟨o,n,u,λf' h' F H m j=>?_⟩;simp only[qQ,aE4 F,p];have q:=D f' h' F H;generalize aQ c.b f' h'=r2 at q;cases q;refine M h' H _ λo' E=>?_;cases E with
      |a _ A=>exact t _ _ (aFe F _ v) A m j
     |b v I=>
      refine⟨.d v f I [],⟨rfl,K⟩,J,λf' h' F H m j=>?_⟩;simp only[qQ,aE4 F,p];have q:=D f' h' F H;generalize aQ c.b f' h'=r2 at q;cases q;refine M h' H _ λo' E=>?_;cases E with
      |b _ A=>exact j _ (.c v F A)
    |f v=>
     refine⟨.d v f h [],⟨rfl,s⟩,w,λf' h' F H m j=>?_⟩;simp only[qQ,aE4 F,p];have q:=D f' h' F H;generalize aQ c.b f' h'=r2 at q;cases q;exact j _ (.c v F H)
    |b=>exact w.elim
end Yv
namespace Yv
variable {T:aM->Option CF}
section
variable {g d:Nat}{B:Nat->AO}{h h':Hp}{f f':Fr}{x y z:AV}{l r:List AV}{o:AO}{L:List Nat}{T:aM->Option CF}
theorem FR.eq(F:FR g d f f'):f'=λp=>kf g d (f p):=funext F
def mvP(g d:Nat)(p:Pd):Pd:=⟨p.c,λq=>kf g d (p.f q),kf g d p.x,p.a⟩
theorem aFp(n:Nat):∀a:List Pd,mN n (a.map (mvP g d))=(mN n a).map (mvP g d)
 |[]=>rfl
 |p::a=>by simp[List.map,mN,aFp n a];grind[mvP]
theorem aFi{n:Nat}{p:Pd}:∀{a:List Pd},p∈mN n a->p∈a
 |q::a,e=>by simp only[mN] at e;cases c:Nat.ble n q.a<;>rw[c] at e;exact aug _ (aFi e);rcases atZ.1 e with rfl|e;grind;exact aug _ (aFi e)
theorem aGp(H:HR g d B h h'):∀{b:List Pd},(∀p∈b,aGc g L p.c=true)->AS h b=true->AS h' (b.map (mvP g d))=true
 |[],_,_=>rfl
 |p::b,e,a=>by
  simp[AS,atW] at a;simp[List.map,AS,atW];refine⟨?_,aGp H (λq i=>e q (aug _ i)) a.2⟩;have c:=a.1;unfold Gf at c|-;have q:=aI1 H (f:=p.f) (f':=λq=>kf g d (p.f q)) (λ_=>rfl) (e p (au0 ..));show(match aQ p.c.b (λq=>kf g d (p.f q)) h' with|.v y=>fP y (kf g d p.x)|_=>false)=true;generalize aQ p.c.b p.f h=j at q c;generalize aQ p.c.b (λq=>kf g d (p.f q)) h'=r2 at q;cases q<;>first|exact(Bool.noConfusion c)|skip
  grind[RL,Eh]
def aKz{c:CO}(F:FR g d f f')(e:okO g L c=true){i:Nat}(q:sF c f=some i):sF c f'=some (mvN g d i):=by cases c<;>simp only[sF,reduceCtorEq] at q;rename_i n a v;simp[okO,atW] at e;simp[sF,s9 F e.1];cases b:a.ab f<;>rw[b] at q<;>simp at q;subst q;rfl
theorem aFJ{a:List Pd}{n:Nat}{k:List Pd->Prop}:qR a n h k <-> (AS h (mN n a)=true/\k (mN n a)):=by unfold qR;cases AS h (mN n a);exact⟨λh=>h.elim,λh=>Bool.noConfusion h.1⟩;grind
def aFq{V:mj}(C:aI2 g d B T L V){k:aT->Prop}{fm:Fr}:∀(l:List DI){n:Nat}{P:List Pd}{f:Fr}{h:Hp},(l.all λc=>aGc g L c.c)=true->(∀p∈P,aGc g L p.c=true)->g<=h.a->cE V k fm [] l n P f h->
 ∃o,gdO g o/\k o/\∀m f' h',FR g d fm m->FR g d f f'->HR g d B h h'->∀t,(∀o',aFA g d B o o'->t o')->cE (aE T (W T)) t m [] l n (P.map (mvP g d)) f' h'
 |[],_,_,f,h,_,_,K,w=>⟨.c f h [],⟨rfl,K⟩,w,λ_ _ _ _ F H t s=>s _ (.a F H)⟩
 |c::r,n,P,f,h,e,I,K,w=>by
  simp only[aw2,atW] at e;obtain⟨q,ev,M,r',hr⟩:=aKy (d:=d) (B:=B) (f:=f) K e.1;unfold cE at w;cases E:c.k with
  |d=>
   simp only[E] at w;cases G:jO c.c.a f with
   |none=>rw[G] at w;exact w.elim
   |some b=>
    rw[G] at w;cases b with
    |false=>
     obtain⟨o,n,D,A⟩:=aFq C r e.2 I K w;refine⟨o,n,D,λm f' h' Fm F H t s=>?_⟩;unfold cE;simp[E,aE4 F,G];exact A _ _ _ Fm (aFe F _ undef) H t s
    |true=>
     simp only[ev] at w;cases hr<;>first|exact w.elim|skip
     rename_i x;obtain⟨o,n,D,A⟩:=aFq C r e.2 I K w;refine⟨o,n,D,λm f' h' Fm F H t s=>?_⟩;unfold cE;simp only[E,aE4 F,G];have q:=M f' h' F H;generalize aQ c.c.b f' h'=r2 at q;cases q;exact A _ _ _ Fm (aFe F _ x) H t s
  |f=>
   simp only[E] at w;cases G:jO c.c.a f with
   |none=>rw[G] at w;exact w.elim
   |some b=>
    rw[G] at w;cases b with
    |false=>
     obtain⟨o,n,D,A⟩:=aFq C r e.2 I K w;refine⟨o,n,D,λm f' h' Fm F H t s=>?_⟩;unfold cE;simp only[E,aE4 F,G];exact A _ _ _ Fm (aFe F _ undef) H t s
    |true=>
     simp only[ev] at w;cases hr<;>first|exact w.elim|skip
     rename_i x;have ep2:∀p∈(⟨c.c,f,x,c.a⟩::P:List Pd),aGc g L p.c=true:=by intro p u;rcases atZ.1 u with rfl|u;exact e.1;exact I p u
     obtain⟨o,n,D,A⟩:=aFq C r e.2 ep2 K w;refine⟨o,n,D,λm f' h' Fm F H t s=>?_⟩;unfold cE;simp only[E,aE4 F,G];have q:=M f' h' F H;generalize aQ c.c.b f' h'=r2 at q;cases q;have q2:=A _ _ _ Fm (aFe F c.c.c x) H t s;rw[F.eq] at q2|-;exact q2
  |g=>
   simp only[E] at w;cases G:jO c.c.a f with
   |none=>rw[G] at w;exact w.elim
   |some b=>
    rw[G] at w;cases b with
    |false=>
     obtain⟨o,n,D,A⟩:=aFq C r e.2 (λp u=>I p (aFi u)) K w;refine⟨o,n,D,λm f' h' Fm F H t s=>?_⟩;unfold cE;simp only[E,aE4 F,G];rw[aFp];exact A _ _ _ Fm (aFe F _ undef) H t s
    |true=>
     simp only[ev] at w;cases hr with
     |v x=>
      simp only[tO] at w;obtain⟨N,w⟩:=aFJ.1 w;obtain⟨o,n,D,A⟩:=aFq C r e.2 (λp u=>I p (aFi u)) K w;refine⟨o,n,D,λm f' h' Fm F H t s=>?_⟩;unfold cE;simp only[E,aE4 F,G];have q:=M f' h' F H;generalize aQ c.c.b f' h'=r2 at q;cases q;simp only[tO];refine aFJ.2 ⟨?_,?_⟩;rw[aFp];exact aGp H (λp u=>I p (aFi u)) N;rw[aFp];exact A _ _ _ Fm (aFe F _ x) H t s
     |i x hr=>
      simp only[tO] at w;obtain⟨N,w⟩:=aFJ.1 w;obtain⟨o,n,D,A⟩:=aFq C r e.2 (λp u=>I p (aFi u)) hr.b w;refine⟨o,n,D,λm f' h' Fm F H t s=>?_⟩;unfold cE;simp only[E,aE4 F,G];have q:=M f' h' F H;generalize aQ c.c.b f' h'=r2 at q;cases q;rename_i J;simp only[tO];refine aFJ.2 ⟨?_,?_⟩;rw[aFp];exact aGp J (λp u=>I p (aFi u)) N;rw[aFp];exact A _ _ _ Fm (aFe F _ x) J t s
     |c fn a hL=>
      obtain⟨o1,Z,Q,rI⟩:=C _ _ _ _ hL K w;cases o1 with
      |a v O=>
       obtain⟨N,Q⟩:=aFJ.1 Q;obtain⟨o,n,D,A⟩:=aFq C r e.2 (λp u=>I p (aFi u)) Z Q;refine⟨o,n,D,λm f' h' Fm F H t s=>?_⟩;unfold cE;simp only[E,aE4 F,G];have q:=M f' h' F H;generalize aQ c.c.b f' h'=r2 at q;cases q;refine rI h' H _ λo' S=>?_;cases S with
       |a _ J=>
        refine aFJ.2 ⟨?_,?_⟩;rw[aFp];exact aGp J (λp u=>I p (aFi u)) N;rw[aFp];exact A _ _ _ Fm (aFe F _ v) J t s
      |b v O=>
       refine⟨.d v fm O [],⟨rfl,Z⟩,Q,λm f' h' Fm F H t s=>?_⟩;unfold cE;simp only[E,aE4 F,G];have q:=M f' h' F H;generalize aQ c.c.b f' h'=r2 at q;cases q;refine rI h' H _ λo' S=>?_;cases S with
       |b _ J=>exact s _ (.c v Fm J)
     |f v=>
      refine⟨.d v fm h [],⟨rfl,K⟩,w,λm f' h' Fm F H t s=>?_⟩;unfold cE;simp only[E,aE4 F,G];have q:=M f' h' F H;generalize aQ c.c.b f' h'=r2 at q;cases q;exact s _ (.c v Fm H)
     |b=>exact w.elim
  |b=>
   simp only[E,ev] at w;cases hr<;>first|exact w.elim|skip
   rename_i x O Y hr;obtain⟨N,w⟩:=aFJ.1 w;obtain⟨o,n,D,A⟩:=aFq C r e.2 (λp u=>I p (aFi u)) hr.b w;refine⟨o,n,D,λm f' h' Fm F H t s=>?_⟩;unfold cE;simp only[E];have q:=M f' h' F H;generalize aQ c.c.b f' h'=r2 at q;cases q;rename_i J;refine aFJ.2 ⟨?_,?_⟩;rw[aFp];exact aGp J (λp u=>I p (aFi u)) N;rw[aFp];exact A _ _ _ Fm (aFe F _ x) J t s
  |c=>
   simp only[E] at w;cases r with
   |nil=>exact w.elim
   |cons c2 r2=>
    simp only[] at w;have X:=e.2;simp only[aw2,atW] at X;cases R:sF c.c.b f with
    |none=>rw[R] at w;exact w.elim
    |some i=>
     cases U:sF c2.c.b f with
     |none=>rw[R,U] at w;exact w.elim
     |some j=>
      simp only[R,U] at w;cases b:Nat.beq i j with
      |true=>rw[b] at w;exact w.elim
      |false=>
       simp only[b,cond,ev] at w;cases hr<;>first|exact w.elim|skip
       rename_i x O Y hr;obtain⟨o,n,D,A⟩:=aFq C (c2::r2) e.2 I hr.b w;refine⟨o,n,D,λm f' h' Fm F H t s=>?_⟩;unfold cE;simp only[E,aKz F e.1 R,aKz F X.1 U,aHr,b,cond];have q:=M f' h' F H;generalize aQ c.c.b f' h'=r2 at q;cases q;rename_i J;exact A _ _ _ Fm F J t s
  |a=>
   simp only[E,ev] at w;cases hr<;>first|exact w.elim|skip
   rename_i x O Y hr;obtain⟨N,w⟩:=aFJ.1 w;obtain⟨o,n,D,A⟩:=aFq C r e.2 (λp u=>I p (aFi u)) hr.b w;refine⟨o,n,D,λm f' h' Fm F H t s=>?_⟩;unfold cE;simp only[E];have q:=M f' h' F H;generalize aQ c.c.b f' h'=r2 at q;cases q;rename_i J;refine aFJ.2 ⟨?_,?_⟩;rw[aFp];exact aGp J (λp u=>I p (aFi u)) N;rw[aFp];exact A _ _ _ Fm F J t s
def aNM(l:List AV):FR g d (nQ l) (nQ (R1 g d l)):=by intro p;unfold nQ;rw[aKh,auh];cases l[p]? <;>rfl
def aNN(H:HR g d B h h')(F:FR g d f f')(r:CR):R2 g d B L (Jh h f r) (Jh h' f' r):=by
 cases r with
 |a p=>exact .v' (F p)
 |b n a p=>
  simp;rw[show an p f'=kf g d (an p f) from F p];simp_all[aEz,aKs,aKr]
def aKA(H:HR g d B h h')(F:FR g d f f'):∀{rs:List CR}{l:List AV},DN h f rs=some l->DN h' f' rs=some (R1 g d l)
 |[],l,e=>by cases e;rfl
 |r::rs,l,e=>by simp only[DN] at e|-;have q:=aNN (L:=[]) H F r;generalize Jh h f r=b at q e;generalize Jh h' f' r=r2 at q;cases q<;>simp only[reduceCtorEq] at e;cases a:DN h f rs<;>simp only[a,reduceCtorEq,atU] at e;subst e;simp[aKA H F a];rfl
def aKB(i:g<=h.a){rs:List CR}{k:aK->Prop}(w:wz h f rs k):∃o,gdC g o/\k o/\∀f' h',FR g d f f'->HR g d B h h'->∀c,(∀o',aFT g d B o o'->c o')->wz h' f' rs c:=by
 unfold wz at w;cases e:DN h f rs with
 |none=>rw[e] at w;exact w.elim
 |some l=>
  rw[e] at w;have wX:∀v,(∀h'(c:aK->Prop),c (.a (kf g d v) h')->(match(some (R1 g d l):Option (List AV)) with|some [v]=>c (.a v h')|some l=>c (.a (.o l) h')|none=>jX.lh "results"))->k (.a v h)->∃o,gdC g o/\k o/\∀f' h',FR g d f f'->HR g d B h h'->∀c,(∀o',aFT g d B o o'->c o')->wz h' f' rs c:=λv m w=>
   ⟨.a v h,i,w,λf' h' F H c j=>by unfold wz;rw[aKA H F e];exact m _ _ (j _ (.a v H))⟩
  match l,w,wX with
  |[],w,wX=>exact wX (.o []) (λ_ _ q=>q) w
  |[v],w,wX=>exact wX v (λ_ _ q=>q) w
  |a::b::l,w,wX=>exact wX (.o (a::b::l)) (λ_ _ q=>q) w
def OkT(g:Nat)(T:aM->Option CF)(L:List Nat):Prop:=∀fn c,L.contains fn.n=true->T fn=some c->c.b=fn.n/\aES g L c.a=true
theorem aI3(O:OkT g T L):aI2 g d B T L (aE T (aFI g d B T L)):=by
 intro fn args h k D E w;unfold aE at w;cases e:T fn with
 |none=>rw[e] at w;exact w.elim
 |some c=>
  simp only[e] at w;cases b:Nat.beq c.b fn.n with
  |false=>rw[(O fn c D e).1,av1] at b;grind
  |true=>
   simp only[b,cond] at w;obtain⟨o,n,u,G⟩:=w rfl E (O fn c D e).2;have C:∀j,gdC g j->k j->(∀o' h' i,aFA g d B o o'->(∀o',aFT g d B j o'->i o')->finish T (W T) c.c i o')->∃o,gdC g o/\k o/\∀h',HR g d B h h'->∀i,(∀o',aFT g d B o o'->i o')->aE T (W T) fn (R1 g d args) h' i:=λj g2 t s=>
    ⟨j,g2,t,λh' H i p=>by unfold aE;simp only[e,b,cond];exact G _ _ (aNM args) H _ λo' m=>s o' h' i m p⟩
   cases o with
   |c A q ds=>
    obtain⟨rfl,n⟩:=n;obtain⟨j,g2,t,s⟩:=aKB n (show wz q A c.c k from u);exact C j g2 t λo' _ i m p=>by cases m with|a F H=>exact s _ _ F H i p
   |b A q ds=>
    obtain⟨rfl,n⟩:=n;obtain⟨j,g2,t,s⟩:=aKB n (show wz q A c.c k from u);exact C j g2 t λo' _ i m p=>by cases m with|k F H=>exact s _ _ F H i p
   |d v A q ds=>
    obtain⟨rfl,n⟩:=n;exact C (.b v q) n u λo' _ i m p=>by cases m with|c _ F H=>exact p _ (.b v H)
   |a=>exact u.elim
   |g=>exact u.elim
def aI4{i:Nat}:∀{c m:CC},aES g L c=true->xO i c=some m->aES g L m=true
 |.f a b,m,e,q=>by
  simp[aES,atW] at e;simp[xO] at q;cases k:xO i a with
  |none=>rw[k] at q;exact aI4 e.2 q
  |some r=>
   rw[k] at q;cases q;simp[aES,atW];exact⟨aI4 e.1 k,e.2⟩
 |.n j,m,e,q=>by simp only[xO] at q;cases k:Nat.beq j i<;>rw[k] at q<;>cases q;rfl
 |.j,_,_,q|.g _,_,_,q|.h _,_,_,q|.i ..,_,_,q|.m ..,_,_,q|.d _,_,_,q|.p _,_,_,q|.q _,_,_,q|.o _,_,_,q|.k,_,_,q=>by cases q
def aHE(g d:Nat)(B:Nat->AO)(o:aT)(k:aT->Prop)(K:(aT->Prop)->aT->Prop):Prop:=
 ∃a,gdO g a/\k a/\∀o',aFA g d B o o'->∀b,(∀o',aFA g d B a o'->b o')->K b o'
theorem aKC{c:CC}(ok:aES g L c=true){k:aT->Prop}:∀(n:Nat)(o:aT),gdO g o->pH (aFI g d B T L) c k n o->aHE g d B o k λs o'=>pH (W T) c s n o'
 |0,o,n,w=>by
  cases o with
  |g=>exact w.elim
  |c=>exact⟨_,n,w,λo' p s q=>by have:=q _ p;cases p;simp_all⟩
  |a=>exact⟨_,n,w,λo' p s q=>by have:=q _ p;cases p;simp_all⟩
  |b=>exact⟨_,n,w,λo' p s q=>by have:=q _ p;cases p;simp_all⟩
  |d=>exact⟨_,n,w,λo' p s q=>by have:=q _ p;cases p;simp_all⟩
 |m+1,o,n,w=>by
  cases o with
  |g i f h ds=>
   obtain⟨rfl,n⟩:=n;simp at w;cases e:xO i c with
   |none=>
    rw[e] at w;exact⟨.g i f h [],⟨rfl,n⟩,w,λo' p s q=>by have:=q _ p;cases p;simp_all⟩
   |some E=>
    rw[e] at w;obtain⟨C,v,t,G⟩:=w rfl n (aI4 ok e);obtain⟨D,A,u,I⟩:=aKC ok m C v t;exact⟨D,A,u,λo' p s q=>by
     cases p with
     |j _ F H=>
      grind[pH]⟩
  |c=>exact⟨_,n,w,λo' p s q=>by have:=q _ p;cases p;simp_all⟩
  |a=>exact⟨_,n,w,λo' p s q=>by have:=q _ p;cases p;simp_all⟩
  |b=>exact⟨_,n,w,λo' p s q=>by have:=q _ p;cases p;simp_all⟩
  |d=>exact⟨_,n,w,λo' p s q=>by have:=q _ p;cases p;simp_all⟩
def aKD{b:CC}(ok:aES g L b=true){k:aT->Prop}(o:aT)(n:gdO g o)(w:bF (aFI g d B T L b) k o):aHE g d B o k λj o'=>bF (W T b) j o':=by
 cases o with
 |c f h ds=>
  obtain⟨rfl,n⟩:=n;obtain⟨q,p,m,s⟩:=(show aFI g d B T L b f h [] k from w) rfl n ok;exact⟨q,p,m,λo' e j i=>by cases e with|a F H=>simp_all⟩
 |g=>exact⟨_,n,w,λo' e j i=>by have:=i _ e;cases e;simp_all⟩
 |a=>exact⟨_,n,w,λo' e j i=>by have:=i _ e;cases e;simp_all⟩
 |b=>exact⟨_,n,w,λo' e j i=>by have:=i _ e;cases e;simp_all⟩
 |d=>exact⟨_,n,w,λo' e j i=>by have:=i _ e;cases e;simp_all⟩
def aNO{i:Nat}{k:aT->Prop}(o:aT)(n:gdO g o)(w:bY i k o):aHE g d B o k λq o'=>bY i q o':=by
 cases o with
 |a j f h ds=>
  obtain⟨rfl,n⟩:=n;simp only[bY] at w;cases e:Nat.beq j i with
  |true=>
   rw[e] at w;exact⟨.c f h [],⟨rfl,n⟩,w,λo' m q p=>by cases m with|b _ F H=>simp only[bY,e];exact p _ (.a F H)⟩
  |false=>
   rw[e] at w;exact⟨.a j f h [],⟨rfl,n⟩,w,λo' m q p=>by cases m with|b _ F H=>simp only[bY,e];exact p _ (.b _ F H)⟩
 |c=>exact⟨_,n,w,λo' m q p=>by have:=p _ m;cases m;simp_all⟩
 |g=>exact⟨_,n,w,λo' m q p=>by have:=p _ m;cases m;simp_all⟩
 |b=>exact⟨_,n,w,λo' m q p=>by have:=p _ m;cases m;simp_all⟩
 |d=>exact⟨_,n,w,λo' m q p=>by have:=p _ m;cases m;simp_all⟩
theorem aNP(O:OkT g T L){c:CC}{f:Fr}{h:Hp}{ds:List Df}{k:aT->Prop}(w:W T c f h ds k):aFI g d B T L c f h ds k:=by
 refine w (aFI g d B T L) λc f h ds k w hd A ok=>?_;subst hd;have C:∀{a:CC}{K:aT->Prop}{K':(aT->Prop)->aT->Prop},aFI g d B T L a f h [] K->aES g L a=true->(∀o,gdO g o->K o->aHE g d B o k K')->(∀f' h' u,W T a f' h' [] (K' u)->W T c f' h' [] u)->Det g d B T c f h k:=λ{a K K'} X G N P=>by obtain⟨o,n,D,E⟩:=X rfl A G;obtain⟨V,U,S,M⟩:=N o n D;exact⟨V,U,S,λf' h' F H u v=>P _ _ _ (E f' h' F H _ λo' J=>M o' J u v)⟩
 cases c with
 |j=>exact⟨.c f h [],⟨rfl,A⟩,w,λf' h' F H u v=>by rw[Qq];exact v _ (.a F H)⟩
 |g l=>
  obtain⟨o,n,D,E⟩:=aGJ (aI3 O) l ok A w;exact⟨o,n,D,λf' h' F H u v=>by rw[ae1];grind⟩
 |h l=>
  have I:∀(l:List DI){f f':Fr},FR g d f f'->FR g d (ku l f) (ku l f'):=by
   intro l;induction l with
   |nil=>exact λF=>F
   |cons c l R=>exact λF=>R (aFe F _ .B)
  obtain⟨o,n,D,E⟩:=aFq (aI3 O) l ok (λp Q=>(awg Q).elim) A w;exact⟨o,n,D,λf' h' F H u v=>by simp_all⟩
 |f a b=>
  simp[aES,atW] at ok;exact C (K':=λu=>bF (W T b) u) w ok.1 (λo n=>aKD ok.2 o n) λf' h' u q=>by rw[Gi];exact q
 |i x a b=>
  simp[aES,atW] at ok;simp only[step] at w;cases e:x.ab f<;>rw[e] at w<;>try exact w.elim
  rename_i t;have ex:∀f',FR g d f f'->x.ab f'=.g t:=λf' F=>by rw[s9 F ok.1.1,e];rfl
  cases t with
  |true=>
   obtain⟨o,n,D,E⟩:=(show aFI g d B T L a f h [] k from w) rfl A ok.1.2;exact⟨o,n,D,λf' h' F H u v=>by rw[ae6,ex f' F];grind⟩
  |false=>
   obtain⟨o,n,D,E⟩:=(show aFI g d B T L b f h [] k from w) rfl A ok.2;exact⟨o,n,D,λf' h' F H u v=>by rw[ae6,ex f' F];grind⟩
 |m i c=>
  exact C (K':=λu=>bY i u) w ok (λo n=>aNO o n) λf' h' u q=>by rw[ae2];exact q
 |d c=>
  exact C (K':=λu=>bF (W T (.d c)) u) w ok (λo n=>aKD (b:=.d c) ok o n) λf' h' u q=>by rw[aP];exact q
 |p i=>exact⟨.a i f h [],⟨rfl,A⟩,w,λf' h' F H u v=>by rw[ae3];exact v _ (.b _ F H)⟩
 |q i=>exact⟨.g i f h [],⟨rfl,A⟩,w,λf' h' F H u v=>by rw[ae4];exact v _ (.j _ F H)⟩
 |n i=>exact⟨.c f h [],⟨rfl,A⟩,w,λf' h' F H u v=>by rw[Xg];exact v _ (.a F H)⟩
 |o c=>
  exact C (K':=λu=>pH (W T) c u 8) w ok (λo n=>aKC (c:=c) (show aES g L c=true from ok) 8 o n) λf' h' u q=>by rw[Qr];exact q
 |k=>exact⟨.b f h [],⟨rfl,A⟩,w,λf' h' F H u v=>by rw[ae5];exact v _ (.k F H)⟩
 |r s=>exact w.elim
def aNQ(O:OkT g T L):AT (W T) (aFI g d B T L):=λc f h ds k i w le hd a ok=>by obtain⟨o,n,e,b⟩:=aNP (d:=d) (B:=B) O w hd a ok;exact⟨o,n,le o e,b⟩
def aKE(O:OkT g T L){fn:aM}{args:List AV}{K:aK->Prop}(b:L.contains fn.n=true)(c:g<=h.a)(w:aE T (W T) fn args h K):
 ∃o,gdC g o/\K o/\∀h',HR g d B h h'->∀a,(∀o',aFT g d B o o'->a o')->aE T (W T) fn (R1 g d args) h' a:=
 aI3 O fn args h K b c (Jj _ _ (aNQ O) _ _ _ _ _ w λ_=>id)
theorem aGK(i:Nat):mvN g 0 i=i:=by grind[mvN]
mutual
theorem aI5:∀v:AV,kf g 0 v=v
 |.a i o=>by simp only[kf,aGK]
 |.c i ..=>by simp only[kf,aGK]
 |.j i=>by simp only[kf,aGK]
 |.r fn a b=>by simp only[kf];rw[aGq a,aGq b]
 |.q t v=>by simp[kf];rw[aI5 v]
 |.p l=>by simp[kf];rw[aGq l]
 |.o l=>by simp[kf];rw[aGq l]
 |.B|.g _|.i _|.s _|.d ..|.w ..|.y ..|.u|.h|.A|.C|.x|.D|.F _|.G _=>rfl
theorem aGq:∀l:List AV,R1 g 0 l=l
 |[]=>rfl
 |x::l=>by simp only[R1];rw[aI5 x,aGq l]
end
def OkG(g:Nat)(h:Hp):Prop:=∀i,i<g->h.ab i=.c\/∃rw c t,h.ab i=.h rw c t/\∀j,aE8 g (t j)=true
def OkG.mv(q:OkG g h){i:Nat}(hi:i<g):mvO g d (h.ab i)=h.ab i:=by rcases q i hi with e|⟨a,c,t,e,ok⟩;rw[e];rfl;rw[e];show AO.h a c (mvT g d t)=_;simp_all[mvT,funext,aFo]
def aE9(g:Nat)(h:Hp):Hp:=⟨λi=>if i<g then h.t i else .g,g,h.d,λi hi=>if_neg zo⟩
theorem aGL{i:Nat}(hi:i<g):(aE9 g h).ab i=h.ab i:=if_pos hi
theorem OkG.cut(q:OkG g h):OkG g (aE9 g h):=λi hi=>by rcases q i hi with e|⟨a,c,t,e,ok⟩;grind[aGL];grind[aGL]
def OkG.hr(q:OkG g h)(b:g<=h'.a)(a:∀i,i<g->h'.ab i=h.ab i):HR g (h'.a- g) h'.ab (aE9 g h) h':=by refine⟨λi=>?_,λi _ _=>rfl,show h'.a=g+(h'.a- g) by omega,at2 _⟩;by_cases c:i<g;rw[q.cut.mv c,aGL c];simp_all[mvN];have:(aE9 g h).ab i=.g:=if_neg c;rw[this];unfold mvN;rw[if_neg c];exact h'.b _ zo
def aNR(O:OkT g T L){fn:aM}{args:List AV}(t:L.contains fn.n=true)(q:OkG g h)(I:aE8 g args=true){P:AV->Prop}
 (w:aE T (W T) fn args (aE9 g h) λo=>∃v e,o=.a v e/\P v/\∀i,i<g->e.ab i=h.ab i):
 ∃v,P v/\∀h',(∀i,i<g->h'.ab i=h.ab i)->g<=h'.a->∀j:aK->Prop,(∀b,h'.a<=b.a->(∀i,i<h'.a->b.ab i=h'.ab i)->j (.a (kf g (h'.a- g) v) b))->aE T (W T) fn args h' j:=by
 obtain⟨o,n,⟨v,e,rfl,J,G⟩,F⟩:=aKE (d:=0) (B:=λ_=>.c) O t zl w;refine⟨v,J,λh' s D j E=>?_⟩;have A:HR g 0 (λ_=>.c) (aE9 g h) (aE9 g h):=⟨λi=>by rw[aGK];by_cases c:i<g;exact(q.cut.mv c).symm;have:(aE9 g h).ab i=.g:=if_neg c;rw[this];rfl,λi e b=>by omega,rfl,at2 _⟩
 have u:=F _ A (λo=>aFT g 0 (λ_=>.c) (.a v e) o) λ_=>id;rw[aGq] at u;obtain⟨N,M,r2,b⟩:=aKE (d:=h'.a- g) (B:=h'.ab) O t zl u;have H:=q.hr D s;have m:=b h' H j;rw[aFo _ I] at m;refine m λo' C=>?_;cases r2 with
 |a _ R=>
  cases C with
  |a _ S=>
   rename_i m K;rw[aI5];refine E _ (by have:=S.f;have:=S.b;omega) λi hi=>?_;by_cases c:i<g;have k:=S.a i;have p:=R.a i;rw[aGK] at p;unfold mvN at k;rw[if_pos c] at k;rw[k,p,G i c,q.mv c,q.mv c,s i c];exact S.c i zo zo
end
section
variable {T:aM->Option CF}{h:Hp}
def dtL:List Nat:=[23,24,40,41,49,72,73,78,83,84,85,90,107,108,115,116,117,118,119,120,121,122,133,140,141,142,143,144,145,163,166,167,168,169,170,171,189,190,191,192,193,194,195,203,204,205,206,207,209,210,211,212,213,215,216,217,218,219,220,221,222,223,224,225,226,227,228,229,230,231,232,233,234,235,236,237,238,239,240,241,242,243,244,245]
def aI6(b:OkT 22 T dtL)(q:OkG 22 h){n:Nat}(f:dtL.contains n=true){s:List UInt8}{P:AV->Prop}(w:∀k:aK->Prop,(∀v h',ax (aE9 22 h) h'->P v->k (.a v h'))->aE T (W T) ⟨n⟩ [S s] (aE9 22 h) k):
 ∃v,P v/\∀h',(∀i,i<22->h'.ab i=h.ab i)->22<=h'.a->∀k:aK->Prop,(∀a,ax h' a->k (.a (kf 22 (h'.a- 22) v) a))->aE T (W T) ⟨n⟩ [S s] h' k:=by
 obtain⟨v,m,j⟩:=aNR (fn:=⟨n⟩) b f q (args:=[S s]) rfl (P:=P) (w _ λv h' g p=>⟨v,h',rfl,p,λi hi=>(g.f i hi id).trans (aGL hi)⟩);exact⟨v,m,λh' e n k d=>j h' e n k λa l c=>d a ⟨l,λi hi _=>c i hi⟩⟩
theorem amB(j:uU T)(p:OkT 22 T dtL)(q:OkG 22 h)(L:xo h)(C:ry h 5)(D:ry h 6)(G:aFQ (h.ab 3))(H:Bj (h.ab 4))(g1:lO (h.ab 1)):∃O:Orc,(∀s,s.length=1/\dU s=1->O.a s=0)/\Ax T O h:=by
 have B:∀i,i<22->(aE9 22 h).ab i=h.ab i:=λi hi=>aGL hi;have E:ry (aE9 22 h) 5:=⟨(by show(5:Nat)<22;simp),by exact C.2⟩;have y:ry (aE9 22 h) 6:=⟨(by show(6:Nat)<22;simp),by exact D.2⟩;have A:=L.kp (λi hi=>B i zo) zl;have c3:aFQ ((aE9 22 h).ab 3):=by grind
 have F:Bj ((aE9 22 h).ab 4):=by grind
 have u:∀s:List UInt8,∃e:Int,(s.length=1/\dU s=1->e=0)/\(s.length<1073741824->∀h',(∀i,i<22->h'.ab i=h.ab i)->22<=h'.a->∀k:aK->Prop,(∀v b,ax h' b->k (.a (.o [v,.i e]) b))->aE T (W T) ⟨83⟩ [S s] h' k):=λs=>by by_cases c:s.length<1073741824;obtain⟨_,⟨v,e,rfl,t⟩,o⟩:=aI6 (n:=83) (s:=s) p q qab (P:=λx=>∃v e,x=.o [v,.i e]/\(s.length=1/\dU s=1->e=0)) λk a=>aiT j.h y c λv e h' g t=>a _ h' g ⟨v,e,rfl,t⟩;exact⟨e,t,λ_ h' m n k a=>o h' m n k λb g=>a _ b g⟩;exact⟨0,λ_=>rfl,λd=>absurd d c⟩
 have z:∀s:List UInt8,∃e:Int,s.length<1073741824->∀h',(∀i,i<22->h'.ab i=h.ab i)->22<=h'.a->∀k:aK->Prop,(∀v b,ax h' b->k (.a (.o [v,.i e]) b))->aE T (W T) ⟨84⟩ [S s] h' k:=λs=>by by_cases c:s.length<1073741824;obtain⟨_,⟨v,e,rfl⟩,o⟩:=aI6 (n:=84) (s:=s) p q qab (P:=λx=>∃v e,x=.o [v,.i e]) λk a=>ak2 j A E y c λv e h' g=>a _ h' g ⟨v,e,rfl⟩;exact⟨e,λ_ h' m n k a=>o h' m n k λb g=>a _ b g⟩;exact⟨0,λd=>absurd d c⟩
 have w:∀s:List UInt8,∃r:List UInt8×Int,s.length<1073741824->r.1.length<1073741824/\∀h',(∀i,i<22->h'.ab i=h.ab i)->22<=h'.a->∀k:aK->Prop,(∀b,ax h' b->k (.a (.o [S r.1,.i r.2]) b))->aE T (W T) ⟨90⟩ [S s] h' k:=λs=>by by_cases c:s.length<1073741824;obtain⟨_,⟨v,e,rfl,f⟩,o⟩:=aI6 (n:=90) (s:=s) p q qab (P:=λx=>∃v e,x=.o [S v,.i e]/\v.length<1073741824) λk a=>aBt j.h (λh' g=>aiK j.h (by rw[g.f 3 (by show(3:Nat)<22;simp) id];omega) (by rw[g.f 4 (by show(4:Nat)<22;simp) id];omega)) c λv e h' g f=>a _ h' g ⟨v,e,rfl,f⟩;exact⟨(v,e),λ_=>⟨f,λh' m n k a=>o h' m n k λb g=>a b g⟩⟩;exact⟨([],0),λd=>absurd d c⟩
 refine⟨⟨λs=>Classical.choose (u s),λs=>Classical.choose (z s),λs=>Classical.choose (w s)⟩,λs=>(aP4 (u s)).1,L.n,λh' l e=>?_⟩;have n:=at1 L.n l;exact⟨λs k f a=>(aP4 (u s)).2 f h' e n k a,λs k f a=>(aP4 (z s)) f h' e n k a,aiB j.h qaa qaa,λs k f a=>(aP4 (w s) f).2 h' e n k λb g=>a b g (aP4 (w s) f).1,by grind⟩
end
end Yv
namespace Yv
open Go.Proofs
noncomputable section
def wK{l m:List CF}(h:jP l)(g:jP m):jP (l++m):=by unfold jP at*;rw[au4,au4,h,g]
def Zy:List CF:=[cf3,cf4,cf5,cf6,cf7,cf8,cf9,cf10,cf11,cf12,cf13,cf14,cf15,cf16,cf17,cf18]
def gb0:jP Zy:=by unfold jP;kernel_rfl
def Zz:List CF:=[cf19,cf20,cf22,cf23,cf24,cf25,cf26,cf27,cf28,cf29,cf30,cf31,cf32,cf33,cf34,cf35]
def J7:jP Zz:=by unfold jP;kernel_rfl
def ZA:List CF:=[cf36,cf37,cf39,cf40,cf41,cf42,cf43,cf46,cf47,cf48,cf49,cf50,cf51,cf52,cf53,cf54]
def gb2:jP ZA:=by unfold jP;kernel_rfl
def ZB:List CF:=[cf55,cf56,cf57,cf58,cf59,cf60,cf61,cf62,cf63,cf64,cf65,cf66,cf67,cf68,cf69,cf70]
def S8:jP ZB:=by unfold jP;kernel_rfl
def ZC:List CF:=[cf71,cf72,cf73,cf74,cf77,cf78,cf79,cf80,cf81,cf82,cf83,cf84,cf85,cf86,cf87,cf88]
def gb4:jP ZC:=by unfold jP;kernel_rfl
def ZD:List CF:=[cf89,cf90,cf91,cf92,cf93,cf94,cf95,cf96,cf97,cf98,cf99,cf100,cf102,cf103,cf104,cf105]
def gb5:jP ZD:=by unfold jP;kernel_rfl
def ZE:List CF:=[cf110,cf112,cf113,cf114,cf115,cf116,cf117,cf118,cf119,cf120,cf121,cf122,cf123,cf124,cf125,cf126]
def gb6:jP ZE:=by unfold jP;kernel_rfl
def ZF:List CF:=[cf127,cf128,cf131,cf132,cf137,cf138,cf140,cf141,cf142,cf143,cf144,cf145,cf146,cf147,cf148,cf149]
def gb7:jP ZF:=by unfold jP;kernel_rfl
def ZG:List CF:=[cf150,cf151,cf152,cf153,cf163,cf164,cf166,cf167,cf168,cf171,cf173,cf174,cf175,cf176,cf177,cf178]
def gb8:jP ZG:=by unfold jP;kernel_rfl
def ZH:List CF:=[cf179,cf180,cf181,cf182,cf189,cf191,cf195,cf196,cf197,cf198,cf199,cf200,cf204,cf205,cf211,cf212]
def gb9:jP ZH:=by unfold jP;kernel_rfl
def ZI:List CF:=[cf213,cf215,cf216,cf221,cf222,cf223,cf224,cf225,cf227,cf228,cf229,cf230,cf235,cf236,cf237,cf238]
def agW:jP ZI:=by unfold jP;kernel_rfl
def ZJ:List CF:=[cf242,cf243]
def agX:jP ZJ:=by unfold jP;kernel_rfl
def aNS:List CF:=Zy++(Zz++(ZA++(ZB++(ZC++(ZD++(ZE++(ZF++(ZG++(ZH++(ZI++(ZJ)))))))))))
def agZ:List (Nat×CF):=(21,cf21)::(101,cf101)::(44,cf44)::aNS.map λc=>(c.b,c)
def J8(i:aM):Option CF:=(agZ.find? λp=>p.1 ==i.n).map (·.2)
def ag0:aA J8:=by constructor<;>first|rfl|exact⟨rfl,rfl,rfl,rfl⟩
def ZL:uU J8:=⟨ag0,rfl,rfl⟩
def ZM:Ed Tryz.prog J8:=by
 intro i c h;obtain⟨p,b,rfl⟩:=au'.1 h;have d:=List.find?_some b;have f:p.1 =i.n:=by simpa using d
 rw[<-f];have a:=avP b;simp only[agZ,atZ] at a;rcases a with rfl|rfl|rfl|a;exact⟨λe=>qaw,λ_=>aMM⟩;exact⟨λe=>qaw,λ_=>aMU⟩;exact⟨λe=>qaw,λ_=>aMW⟩;obtain⟨c,g,rfl⟩:=auR.1 a;exact⟨λ_=>agV (wK gb0 (wK J7 (wK gb2 (wK S8 (wK gb4 (wK gb5 (wK gb6 (wK gb7 (wK gb8 (wK gb9 (wK agW (agX)))))))))))) c g,λn=>absurd rfl n⟩
def aNT:(agZ.all λp=> !(dtL.contains p.1)||(p.2.b==p.1 &&aES 22 dtL p.2.a))=true:=zk
def aKF:OkT 22 J8 dtL:=by
 intro i c hi h;obtain⟨p,b,rfl⟩:=au'.1 h;have d:=List.find?_some b;have e:p.1 =i.n:=by simpa using d
 have a:=auO.1 aNT p (avP b);rw[e,hi] at a;simpa using a
end
end Yv
namespace Yv
variable {O:Orc}{c0 c6 c7 c8 c9 v:AV}{fb i j m p:Nat}{h:Hp}{op:Int}
variable {T:aM->Option CF}
section
open Go (IntKind)
open Go.Pinned (utf8FirstZ pow10Rows cheatRows)
def Wg(i:Nat):List AV:=[.s (if i=9\/i=10\/i=11\/i=12\/i=13\/i=32 then 1 else 0)]
def adB(i:Nat):List AV:=[.s (utf8FirstZ.getD i 0)]
def adC:List (Nat×Nat):=[(128,191),(160,191),(128,159),(144,191),(128,143)]
def adD(i:Nat):List AV:=[.s (adC.getD i (0,0)).1,.s (adC.getD i (0,0)).2]
def adE(i:Nat):List AV:=[.i (pw i)]
def Wh(i:Nat):List AV:=[.d .u64 (pow10Rows.getD i (0,0)).1,.d .u64 (pow10Rows.getD i (0,0)).2]
def Wi(i:Nat):List AV:=[.i (cheatRows.getD i (0,[])).1,S (cheatRows.getD i (0,[])).2]
def amC:aFQ (.h 1 256 adB):=by
 refine⟨_,rfl,λi hi=>?_⟩;have:∀i,i<256->utf8FirstZ.getD i 0=aEv i:=by decide+kernel
 rw[<-this i hi];rfl
def amD:Bj (.h 2 16 adD):=by
 refine⟨_,rfl,λi hi=>?_⟩;have:∀i,i<16->adC.getD i (0,0)=aFc i:=by decide+kernel
 rw[<-this i hi];rfl
theorem amE:lO (.h 1 256 Wg):=by
 refine⟨_,rfl,λc=>?_⟩;have:∀i,i<256->(if i=9\/i=10\/i=11\/i=12\/i=13\/i=32 then 1 else 0)=(if Go.Lib.isSp (UInt8.ofNat i)=true then 1 else 0):=by decide+kernel
 have h:=this c.toNat c.toNat_lt;grind[UInt8.ofNat_toNat,Wg]
def adF(s:Nat):Bool:=let C:=(cheatRows.getD s (0,[])).2
 decide (∀i,i<C.length->48<=Cn C i/\Cn C i<=57)&&decide (0<C.length/\C.length<100)&&decide (V (Cn C) C.length=5^s)&&decide (48<Cn C (C.length- 1))&&decide (((cheatRows.getD s (0,[])).1 :Int)=(s:Int)+1- C.length)&&decide (Cn C 0≠48)
def amF:∀s,s<61->s=0\/adF s=true:=by decide+kernel
def adG{l5 k:Nat}{t:Nat->List AV}{x y:AV}(a:k<l5)(c:t k=[x,y]):cellsOf (.h 2 l5 t) (k*2) 1=some [x]:=by have b:k+1<=l5:=a;simp_all[cellsOf,dY]
def adH{l5 k:Nat}{t:Nat->List AV}{x y:AV}(a:k<l5)(d:t k=[x,y]):cellsOf (.h 2 l5 t) (k*2+1) 1=some [y]:=by have b:k+1<=l5:=a;have c:(k*2+1)/2=k:=zo;simp_all[cellsOf,dY]
end
theorem aBF{f:cN}{m:KM}{d:aC}(h:(UM f m d).e=0):f.e=0:=by grind[UM,acG]
theorem aBG(d:aC)(s:WS)(h:(HK d s).a.a.e=0):s.a.a.e=0:=aBF (f:=s.a.a) h
def aCL(d:aC)(s:WS)(h:(EW d s).a.a.e=0):s.a.a.e=0:=aBF (f:=s.a.a) h
theorem aBH{E:fM}{t:Tree}{s:WS}(h:(tj E t s).a.a.e=0):s.a.a.e=0:=by grind[tj,aBG]
mutual
theorem fzE(E:fM):∀(t:Tree)(ms:List KM)(aN:Bool)(ar:KM)(s:WS),(fU E ms aN ar t s).a.a.e=0->s.a.a.e=0
 |.mk kind _ _ a nm kids,ms,aN,ar,s=>by unfold fU;split;split;rename_i i _ _ _ _ _ ps j _ _ _ _ _ c;intro h;have g:=fzL E c [aX] true aX _ h;have f:=fzE E j [] false aX _ g;have d:=aBH (fzP E ps _ f);exact fzE E i [] false aX ⟨aX,aX,s.a⟩ d;omega;split;exact fzL E kids (s.m::ms) true ar ⟨aX,s.b,s.a⟩;split;exact λh=>aCL _ _ (fzL E kids ms aN (rA ar nm (kj E 8 nm a)) (EW (kj E 8 nm a) s) h);have k:∀b:WS,(b.a.a.e=0->s.a.a.e=0)->(jF E ms aN ar kids b).a.a.e=0->s.a.a.e=0:=λb h e=>h (fzL E kids _ _ _ _ e);grind[lD,aBG]
theorem fzL(E:fM):∀(t:List Tree)(ms:List KM)(aN:Bool)(ar:KM)(s:WS),(jF E ms aN ar t s).a.a.e=0->s.a.a.e=0
 |[],_,_,_,_=>id
 |t::ts,ms,aN,ar,s=>by exact λh=>fzE E t _ _ _ _ (fzL E ts _ _ _ _ h)
theorem fzP(E:fM):∀(t:List Tree)(s:WS),(oD E t s).a.a.e=0->s.a.a.e=0
 |[],_=>id
 |t::ts,s=>by exact λh=>fzE E t _ _ _ ⟨aX,aX,s.a⟩ (show(WS.a ⟨s.m,s.b,(fU E [] false aX t ⟨aX,aX,s.a⟩).a⟩).a.e=0 from aBH (fzP E ts _ h))
end
def aBI{fs aq bu}:∀(ts:List Tree)(j:Nat)(s:Sc),(uB fs aq bu ts j s).a.e=0->s.a.e=0
 |[],_,_=>id
 |t::ts,j,s=>λh=>fzE (C3 fs aq bu j) t [] false aX ⟨aX,aX,s⟩ (aBI ts (j+1) _ h)
section
variable {T:aM->Option CF}
variable {c1:AV}{f:cN}{g:List Doc}{o:Hp}
theorem uG.wy{lo:Nat}{h:Hp}{v:AV}{ws:List (List UInt8)}(x:uG lo h v ws)(d:ws≠[]):∃q r t,lo<=q/\v=.c q 0 1 ws.length ws.length false/\h.ab q=.b 9 1 r 0 t:=by rcases x with⟨rfl,_⟩|⟨_,q,r,t,a,b,c,_⟩;grind;grind
def ayN(s p:List UInt8):Int:=match qo .c [S s,S p] with|.v (.i r)=>r|_=>0
def aCN(a:aA T){h:Hp}{k:aK->Prop}{s p:List UInt8}(b:k (.a (.i (ayN s p)) h)):aE T (W T) ⟨15⟩ [S s,S p] h k:=by rw[aJ a.t15];refine ag ?_;rw[aJ a.t28];have e:qo .c [S s,S p]=.v (.i (ayN s p)):=rfl;simp_all
def azr(g:List Doc):Prop:=∃m,∃(a:m+1<g.length),0<=ayN (g[m]'(aP9 a)).b g[m+1].b
theorem alM(HT:aA T)(hd:vV o v g)(hl:g.length<1073741824)(hu:∀d∈g,d.b.length<1073741824) (hg:Ax T O o) (G:o.ab fb=.a 29 [.i 0,.i 0,.i 0]) (p19:22<=p) (hfp:fb≠p) (O0:∃el l,o.ab p=.a el l):∀(n j:Nat)(ws:List (List UInt8))(c2:AV)(s:Hp)(w:Fr)(K:aT->Prop),j+n=g.length->ws.length=j->
 (∀i(hi:i<j)(hi':i<g.length),rZ g[i].b=some (ws.getD i []))->(∀m(k:m+1<g.length),m+1<j->¬0<=ayN (g[m]'(aP9 k)).b g[m+1].b)->ah (·=p) o s->uG o.a s c2 ws->s.ab p=.a 57 (bS c0 c1 c2 f c6 c7 c8 c9)->an 0 w=v->an 3 w=.a fb 0->an 4 w=.a p 0->an 23 w=v->an 24 w=.i g.length->an 25 w=.i j->
 (∀f' h',an 2 f'=.u->an 3 f'=.a fb 0->h'.ab fb=.a 29 [.i 0,.i 0,.i 2]->ah (λi=>i=p\/i=fb) o h'->(azr g\/∃d∈g,rZ d.b=none)->K (.b f' h' []))->
 (∀f' h' E X,an 0 f'=v->an 3 f'=.a fb 0->an 4 f'=.a p 0->ah (·=p) o h'->uG o.a h' E X->X.length=g.length->(∀i(hi:i<g.length),rZ g[i].b=some (X.getD i []))->¬azr g->h'.ab p=.a 57 (bS c0 c1 E f c6 c7 c8 c9)->K (.a 0 f' h' []))->
 W T (.d l6_2) w s [] K:=by
 intro n;induction n with
 |zero=>
  intro j ws c2 s w K hj hw og R g1 hs P f0 f3 f4 f23 f24 f25 V hk;subst hj;rw[aP];refine aU f23 f24 f25 ?_;exact hk _ _ c2 ws zA zA zA g1 hs hw (λi hi=>og i hi hi) (λ⟨m,k,q⟩=>R m k k q) P
 |succ n ih=>
  intro j ws c2 s w K hj hw og R g1 hs P f0 f3 f4 f23 f24 f25 V hk;have D:j<g.length:=zo;have aY:(j:Int)<g.length:=zo;have wI:=g1.g;have J7:=hg.bc g1 (λi m=>by omega);have lp:=Hp.lt P rfl;have lfb:=Hp.lt G rfl;have Y:=(g1.f _ lfb hfp).trans G;have dj:=P;simp only[bS] at dj;have iu:=hd.bc g1 (λi m=>by grind);obtain⟨b,cap,ex,r,t,rfl,hb,hr,ht⟩:∃b cap ex r t,v=.c b 0 3 g.length cap ex/\tC (s.ab b) r t/\g.length<=r/\∀j,(hj:j<g.length)->t j=g[j].fj:=by rcases iu with⟨rfl,_⟩|x;grind;omega
  have lb:=hb.lt;have jr:j<r:=zo;have jH:=ht j D;have Ic:=hb.ld jr jH;rw[aP];generalize hL:CC.d l6_2=L;generalize hD6:Qz=D6;refine nA f0 f3 f4 f23 f24 f25 D aY Ic Doc.fj.eq_1 ?_;have l1:(g[j]).b.length<1073741824:=hu _ (auy D);generalize N:(((s.am _).dT _ _):Hp)=H;have u1:H.ab s.a=.a 45 [S g[j].b,S g[j].a,.i g[j].c]:=by rw[<-N];simp
  have gH:ax s H:=by rw[<-N];exact aZ
  have nH:H.a=s.a+1:=by rw[<-N];simp
  clear N;refine ajN HT l1 (J7.bc gH (λ_ m=>m.elim)).Ib.2.2.2.2 λJ g2=>?_;have h:=gH.ba g2;have n2:=g2.g;have u2:=(g2.f _ zo id).trans u1;have eK:=(h.f _ lp id).trans dj;have fX:tC (J.ab b) r t:=by rw[h.f _ lb id];omega
  have mC:=(h.f _ zo id).trans Y;have A:∀(a:Fr)(M:Hp),ah (·=p) o M->M.ab fb=.a 29 [.i 0,.i 0,.i 0]->an 3 a=.a fb 0->(azr g\/∃d∈g,rZ d.b=none)->an 53 a=.g true->W T (CC.i (CX.t 53) ((CC.g (z q6 7)).f CC.k) CC.j) a M [] (bF (W T (CC.g (z q6 8))) (bY 1 (bF (W T (CC.g (z q6 9))) (bF (W T L) K)))):=by intro a M S8 u I Ie B;refine aU B I u ?_;exact V _ _ aa (au I) aa ((S8.bc λ_ _ q=>.inl q).dT _ (.inr (.inr rfl))) Ie
  have eT:∀(d:List UInt8)(a:Fr),rZ g[j].b=some d->(∀m(k:m+1<g.length),m+1=j->¬0<=ayN (g[m]'(aP9 k)).b g[m+1].b)->an 0 a=.c b 0 3 g.length cap ex->an 3 a=.a fb 0->an 4 a=.a p 0->an 7 a=S d->an 23 a=.c b 0 3 g.length cap ex->an 24 a=.i g.length->an 25 a=.i j->an 53 a=.g false->W T (CC.i (CX.t 53) ((CC.g (z q6 7)).f CC.k) CC.j) a J [] (bF (W T (CC.g (z q6 8))) (bY 1 (bF (W T (CC.g (z q6 9))) (bF (W T L) K)))):=by
   intro d a C hoj e0 I e4 e7 e23 e24 e25 B;have yM:=Hp.lt eK rfl;have mX:=hs.vm h (λ_ m=>m.elim);have Ig:=g1.ba (ah.mr h);refine bK B e4 eK e7 ?_;generalize Ae:(J.am _:Hp)=H1;obtain⟨t1,E4,VH⟩:∃t1:N3 (List AV),t1 0=[S d]/\H1=J.am (.b 9 1 1 0 t1):=⟨_,by simp,Ae.symm⟩;obtain⟨v',H',ea,fW,g',lt',Z⟩:=mX.ss zo Ig zl Ig.g E4 VH;have lB:=(Z _ yM (λ_ _ q=>by grind)).trans eK;have lpH:=Hp.lt lB rfl;rw[ea];refine bK lB fW.il e25 D ?_;subst hL;generalize oF:(H'.dT p _:Hp)=U;have u3:U.ab p=.a 57 [c0,c1,v',.i f.b,.i f.a,.i f.e,c6,c7,c8,c9]:=by rw[<-oF];simp
   have g3:ah (·=p) H' U:=by rw[<-oF];exact ah.dT (ah.cg _) _ (.inr rfl)
   have hs3:=fW.vm g3 (λi m r t q=>by grind);refine ih (j+1) (ws++[d]) v' U _ K zo qaa (λi hi hi'=>?_) (λm k q=>if c:m+1=j then hoj m k c else R m k zo) (g'.ba g3) hs3 u3 (au e0) (au I) (au e4) (au e23) (au e24) aa V hk;by_cases c:i=j;grind;grind
  unfold Qz zt;generalize hCb:CC.i (CX.t 53) ((CC.g (z q6 7)).f CC.k) CC.j=Cb;rw[hCb] at A eT;generalize ju:CC.h r6_6=Dr;cases C:rZ g[j].b with
  |none=>
   refine aB C ?_;subst ju;rw[lI,aEE];simp only[ku,GX];simp;exact A _ _ (g1.ba (ah.mr h)) mC zA (.inr ⟨_,auy D,C⟩) aa
  |some d=>
   refine aB C ?_;subst ju;rw[lI,aEE];simp only[ku,GX];by_cases j0:j=0;subst j0;simp;exact eT d _ C (λm k q=>by omega) zA zA zA aa zA zA zA aa;obtain⟨m,k⟩:∃m,j=m+1:=⟨j- 1,by omega⟩;have j1:0<j:=zo;have ej:(j:Int)- 1=m:=zo;have nW:m<g.length:=zo;have Hg:(m:Int)<g.length:=zo;have yl:m<r:=zo;have htm:=ht m nW;have alP:=fX.ld0 yl htm;refine iR j1 ej f0 Hg alP u2 Doc.fj.eq_1 ?_;refine aCN HT ?_;have eo:0<=ayN g[m].b g[j].b->azr g:=λq=>⟨m,by omega,by
    have e:g[m+1]'zo=g[j]:=by simp[k]
    rw[e];exact q⟩
   have F:∀y(Q:y+1<g.length),y+1=j->ayN (g[y]'(aP9 Q)).b g[y+1].b=ayN g[m].b g[j].b:=λy Q q=>by obtain rfl:y=m:=zo;simp[k]
   generalize ayN g[m].b g[j].b=c at eo F|-;refine ag ?_;by_cases c0:0<=c;exact A _ _ (g1.ba (ah.mr h)) mC zA (.inl (eo c0)) (au c0);exact eT d _ C (λy Q q=>by rw[F y Q q];exact c0) zA zA zA aa zA zA zA (au c0)
end
def uI(lo p:Nat)(h:Hp)(v:AV)(ts:List Tree):Prop:=
 ts=[]/\v=.h\/ts≠[]/\∃q r t,lo<=q/\v=.c q 0 6 ts.length ts.length false/\h.ab q=.b 61 6 r 0 t/\ts.length<=r/\∀j,(hj:j<ts.length)->∃a,a.a<=q/\ah (·=p) a h/\ay 0 a ts[j] (t j)/\∀r t,a.ab p≠.b 61 6 r 0 t
section
variable {h':Hp}{lo:Nat}{ts:List Tree}{t:Tree}
theorem uI.vm(x:uI lo p h v ts)(g:ah (·=p) h h')(s:∀r t,h.ab p≠.b 61 6 r 0 t):uI lo p h' v ts:=by rcases x with x|⟨x,q,r,f,o,e,i,k,l⟩;exact .inl x;refine .inr ⟨x,q,r,f,o,e,?_,k,λj hj=>?_⟩;rw[g.f q (Hp.lt i rfl) λm=>by grind];omega;obtain⟨n,a,b,c,d⟩:=l j hj;exact⟨n,a,b.ba g,c,d⟩
def uI.il(x:uI lo p h v ts):bQ v=some [v]:=by rcases x with⟨_,rfl⟩|⟨_,q,r,t,_,rfl,_⟩<;>rfl
def uI.pi(x:uI lo p h v ts){H:Hp}:aEW 1 H v=.v (.i ts.length):=by rcases x with⟨rfl,rfl⟩|⟨_,q,r,t,_,rfl,_⟩<;>rfl
theorem nfp(g:ah (·=p) h h')(a:∀r t,h.ab p≠.b 61 6 r 0 t):NF 0 h h':=λi r f _ e=>by rw[g.f i (Hp.lt e rfl) λm=>by grind];omega
theorem uI.fg(x:uI lo p h v ts):lC 0 h v ts:=by rcases x with x|⟨x,q,r,f,m,e,g,i,k⟩;exact .inl x;refine .inr ⟨x,q,_,_,r,f,e,g,i,λj hj=>?_⟩;obtain⟨l,a,b,c,d⟩:=k j hj;exact c.nf (nfp b d) zl
theorem uI.ss{A:Hp}{F:Nat}{row:List AV}(x:uI lo p A v ts)(E:ah (·=p) A h)(V:∀r t,A.ab p≠.b 61 6 r 0 t) (l2:A.a<=F) (nd:ay F h t row) (Y:ts.length<1073741824) (U:lo<=h.a) (lp:p<h.a) (O:∀r t,h.ab p≠.b 61 6 r 0 t) {t1:N3 (List AV)} {d:Hp} (M:d=h.am (.b 61 6 1 0 t1)):
 ∃q r f l,kJ d 61 6 72 v (.c h.a 0 6 1 1 true)=.b (.c q 0 6 (ts.length+1) (ts.length+1) false) l/\q=d.a/\l.a=q+1/\l.ab q=.b 61 6 r 0 f/\ts.length<r/\f ts.length=t1 0/\(∀i,i<h.a->(∀r t,h.ab i≠.b 61 6 r 0 t)->l.ab i=h.ab i)/\
  (∀z:Hp,z.a<=lo->ah (·=p) z h->ah (·=p) z l)/\
  ∀o:Hp,o.ab q=.b 61 6 r 0 (cx f ts.length row)->ah (λi=>i=p\/i=q) l o->uI lo p o (.c q 0 6 (ts.length+1) (ts.length+1) false) (ts++[t]):=by
 have S:d.ab h.a=.b 61 6 1 0 t1:=by simp_all
 have xp:d.a=h.a+1:=by simp_all
 have g1:ax h d:=by rw[M];exact aZ
 have nP:=E.g;have u:=wN (h:=d) (rw:=6) (cap:=1) (ex:=true) S zl;rcases x with⟨rfl,rfl⟩|⟨W,q,r,f,lq,rfl,I,hr,P⟩;have C:=A7 (h:=d) (el:=61) (rw:=6) (bytes:=72) (n:=0) (y:=.c h.a 0 6 1 1 true) u rfl qab;refine⟨_,1,cx fG 0 (t1 0),_,C,rfl,rfl,by simp,by simp,by simp,λi hi _=>?_,λz K g=>(g.ba (ah.mr g1)).am _,λo B w=>?_⟩;grind[Hp.jp];refine .inr ⟨by simp,d.a,1,_,by omega,rfl,B,by simp,λj hj=>?_⟩;obtain rfl:j=0:=by grind
 refine⟨d,by omega,?_,by simpa using nd.nf (mY g1|>.bc (auz _)) (auz _),λr t=>by simp_all⟩;have s:ah (·=p) d (d.am (jJ 61 6 (0+1) [t1 0])):=(ah.cg _).am _;exact⟨at1 s.g w.g,λi hi H=>by rw[w.f i qay zo];simp_all⟩;have G:=Hp.lt I rfl;have Q:=(E.f _ G λm=>by grind).trans I;have R:=(g1.f _ zo id).trans Q;have C:=A8 (h:=d) (el:=61) (rw:=6) (bytes:=72) (n:=0) (i:=q) (len:=ts.length) (l5:=r) (t:=f) (y:=.c h.a 0 6 1 1 true) R hr u rfl (rV zo zo);have e:(d.dT q .c).a=d.a:=Hp.my zo;refine⟨_,ts.length+1,cx f ts.length (t1 0),_,C,rfl,by simp[e],?_,by simp,by simp,λi hi Z=>?_,λz K g=>((g.ba (ah.mr g1)).dT _ (.inl zo)).am _,λo B w=>?_⟩;simp_all;grind[Hp.jp,Hp.fv];refine .inr ⟨by simp,d.a,ts.length+1,_,by omega,by simp,B,by simp,λj hj=>?_⟩;have J:∀{k:Hp},k.a<=d.a->ah (·=p) k (d.dT q .c)->ah (·=p) k o:=λ{k} lM D=>by have s:ah (·=p) k ((d.dT q .c).am (.b 61 6 (ts.length+(0+1)) 0 (jy f ts.length [t1 0]))):=D.am _;exact⟨at1 s.g w.g,λi hi H=>by rw[w.f i qay zo];exact s.f i hi H⟩
 simp at hj;by_cases c:j=ts.length;subst c;refine⟨d.dT q .c,by omega,J zo (ah.cg _),?_,λr t e=>by by_cases c:p=q;grind;simp_all⟩
 have nf:NF F h (d.dT q .c):=λi r f li N=>by rw[Hp.fv zo,g1.f i (Hp.lt N rfl) id];omega
 simpa using nd.nf nf (auz _);obtain⟨k,a,b,X,L⟩:=P j zo;have D:=((b.ba E).ba (ah.mr g1)).dT (i:=q) .c (.inl a);refine⟨k,by omega,J zo D,?_,L⟩;rw[ava zo,dZ,if_neg c,dZ,if_neg c];omega
end
section
variable {T:aM->Option CF}
structure O3(O:Orc)(s:List UInt8):Prop where
 b:s.length<16777216
 f:∀l n,aE0 O s=.b l n->fc (l++[fD s])/\(∀n,n<(l++[fD s]).length->(tk (l++[fD s]) n).b.length<1073741824)/\l.length<1073741824
 d:∀p e,aE0 O s=.d p e->e≠0
 g:∀l n t m,aE0 O s=.b l n->sj (l++[fD s]) s.length (aET O)=.b t m->rY t
 c:Al O s≠.c
 a:∀p e,Al O s=.d p e->e≠0
def pB:PR Tree->Tree
 |.b t _=>t
 |_=>zT
def acE(i:Nat)(f:cN):PR Tree->cN
 |.d p e=>Bp f ⟨i,p,e⟩
 |_=>f
def yP:List (PR Tree)->Nat->cN->cN
 |[],_,f=>f
 |r::rs,i,f=>yP rs (i+1) (acE i f r)
section
variable {c2:AV}{h:List Doc}{k:Hp}
theorem alQ(HT:aA T)(hd:vV k v h)(hl:h.length<1073741824)(ok:∀d∈h,O3 O d.a) (hg:Ax T O k) (p19:22<=p) (O0:∃el l,k.ab p=.a el l):∀(ds:List Doc)(j:Nat)(ts:List Tree)(f:cN)(c1:AV)(n:Hp)(s:Fr)(K:aT->Prop),j+ds.length=h.length->(∀i(hi:i<ds.length),h[j+i]? =some ds[i])->ts.length=j->
 ah (·=p) k n->uI k.a p n c1 ts->n.ab p=.a 57 (bS c0 c1 c2 f c6 c7 c8 c9)->an 3 s=.a fb 0->an 4 s=.a p 0->an 66 s=v->an 67 s=.i h.length->an 68 s=.i j->
 (∀f' h' o rs,an 3 f'=.a fb 0->an 4 f'=.a p 0->ah (·=p) k h'->rs.length=ds.length->(∀i(hi:i<rs.length)(hi':i<ds.length),rs[i]=Al O ds[i].a)->uI k.a p h' o (ts++rs.map pB)->h'.ab p=.a 57 (bS c0 o c2 (yP rs j f) c6 c7 c8 c9)->K (.a 2 f' h' []))->
 W T (.d l6_1) s n [] K:=by
 intro ds;induction ds with
 |nil=>
  intro j ts f c1 n s K hj og Q g1 hF F f3 f4 f66 f67 f68 hk;subst hj;rw[aP];refine aU f66 f67 f68 ?_;exact hk _ _ c1 [] zA zA g1 rfl (λi hi=>by grind) qaa F
 |cons d ds ih=>
  intro j ts f c1 n s K hj og Q g1 hF F f3 f4 f66 f67 f68 hk;simp only[atX] at hj;have ao:j<h.length:=zo;have aY:(j:Int)<h.length:=zo;have ed:h[j]=d:=by have:=og 0 zm;grind
  have dm:d∈h:=by grind
  have tok:=ok d dm;have wI:=g1.g;have J7:=hg.bc g1 (λi m=>by omega);have lp:=Hp.lt F rfl;have dj:=F;simp only[bS] at dj;have iu:=hd.bc g1 (λi m=>by grind);obtain⟨b,cap,ex,r,t,rfl,hb,hr,ht⟩:∃b cap ex r t,v=.c b 0 3 h.length cap ex/\tC (n.ab b) r t/\h.length<=r/\∀j,(hj:j<h.length)->t j=h[j].fj:=by rcases iu with⟨rfl,_⟩|x;grind;omega
  have lb:=hb.lt;have jr:j<r:=zo;have jH:=ht j ao;rw[ed] at jH;have Ic:=hb.ld jr jH;rw[aP];show W T QA s n [] _;unfold QA zt;generalize hL:CC.d l6_1=L;generalize ju:CC.h r6_16=Dr;refine mz f3 f4 f66 f67 f68 ao aY Ic Doc.fj.eq_1 ?_;generalize P:(((n.am _).dT _ _):Hp)=H;have u1:H.ab n.a=.a 45 [S d.b,S d.a,.i d.c]:=by rw[<-P];simp
  have E:ax n H:=by rw[<-P];exact aZ
  have nH:H.a=n.a+1:=by rw[<-P];simp
  clear P;have G:=J7.bc E (λ_ m=>m.elim);refine ajY HT (λh' g=>(G.bc g λ_ m=>m.elim).Ib.1) (λh' g=>(G.bc g λ_ m=>m.elim).Ib.2.1) (λh' g=>(G.bc g λ_ m=>m.elim).Ib.2.2.1) (λh' g=>(G.bc g λ_ m=>m.elim).Ib.2.2.2.1) tok.b G.Ib.2.2.2.2 tok.f tok.d tok.g ?_;have jK:=tok.c;have jC:=tok.a;generalize epr:Al O d.a=R at jK jC|-;have pr:=epr.symm;have rest:∀(u:Fr)(a:Hp)(nb:Nat)(tr:Tree)(row:List AV)(I:cN),ah (·=p) H a->a.ab p=.a 57 (bS c0 c1 c2 I c6 c7 c8 c9)->a.ab nb=.a 61 row->ay H.a a tr row->pB R=tr->acE j f R=I->an 3 u=.a fb 0->an 4 u=.a p 0->an 11 u=.a nb 0->an 66 u=.c b 0 3 h.length cap ex->an 67 u=.i h.length->an 68 u=.i j->
   W T Dr u a [] (bY 3 (bF (W T (CC.g (z q6 17))) (bF (W T L) K))):=by
   intro u a nb tr row I g2 eK B nd hR hfl e3 e4 Z e66 e67 e68;have n2:=g2.g;have yM:=Hp.lt eK rfl;have lnb:=Hp.lt B rfl;obtain⟨kv,rfl,M⟩:=nd.il;have V:=eK;simp only[bS] at V;have X:ah (·=p) k a:=(g1.ba (ah.mr E)).ba g2;have O2:∀r t,n.ab p≠.b 61 6 r 0 t:=λr t q=>by grind
   subst ju;rw[lI,aEE];simp only[ku,GX,GY];generalize U:a.am (.b 61 6 1 0 (cx (cx fG 0 [.i 0,.i 0,.i 0,.i 0,S [],.h]) 0 [.i 0,.i 0,.i 0,.i 0,S [],.h]))=H1;obtain⟨q,r',ff,H',ea,eq,nH',hq,qY,Y,C5,J,b8⟩:=hF.ss ((ah.mr E).ba g2) O2 zo nd zo zo yM (λr t q=>by grind) U.symm;simp(disch:=omega) [e4,Z,V,B,hF.pi,Q];have VK:ts.length<r':=qY;have eqp:q≠p:=by grind
   have lB:=(C5 p yM (λr t q=>by grind)).trans V;have lq:=Hp.lt hq rfl;have lpH:=Hp.lt lB rfl;have jr2:j<r':=zo;have jj:j<ts.length+1:=zo;have jj':(j:Int)<(ts.length:Int)+1:=zo;rw[Q] at Y;simp at Y;rw[U,ea];simp(disch:=first|exact bh|fail) [eqp,hq,lB,e68,Y,BQ];generalize N:((H'.dT q _).dT p _:Hp)=D;have u5:D.ab p=.a 57 (bS c0 (.c q 0 6 (ts.length+1) (ts.length+1) false) c2 I c6 c7 c8 c9):=by rw[<-N];simp(maxSteps:=400000) (disch:=first|exact bh|fail) [bS]
   have uq:D.ab q=.b 61 6 r' 0 (cx ff ts.length [.i tr.bi,.i tr.ib,.i tr.toz,.i tr.at,S tr.bj,kv]):=by rw[<-N,Q];simp(maxSteps:=400000) (disch:=first|exact bh|fail)
   have g5:ah (λi=>i=p\/i=q) H' D:=by rw[<-N];exact((ah.cg _).dT _ (.inr (.inr rfl))).dT _ (.inr (.inl rfl))
   clear N;have gB5:ah (·=p) k D:=⟨at1 (J k zl X).g g5.g,λi hi hm=>by
    have Ci:i≠q:=by have:=X.g;have:H1.a=a.a+1:=by rw[<-U];rfl
                    omega
    have gx:=J k zl X;rw[g5.f i (by have:=gx.g;omega) zo,gx.f i hi hm]⟩
   subst hL;refine ih (j+1) (ts++[tr]) I _ D _ K zo (λi hi=>?_) qaa gB5 (b8 D uq g5) u5 qae qae qae qae qab λf' h' o rs a3 a4 ga gO hpr hFi hpp=>hk f' h' o (R::rs) a3 a4 ga qaa (λi hi hi'=>?_) qaa (by rw[yP,hfl];omega);have:=og (i+1) qaa;grind;grind
  cases R with
  |c=>exact(jK rfl).elim
  |d q e=>
   have e0:=jC q e rfl;intro a g2;have n2:=g2.g;refine aU e0 f3 f4 ?_;generalize A:(((a.am _).dT _ _):Hp)=C;have B:C.ab a.a=.a 61 vh:=by rw[<-A];simp(disch:=omega)
   have y:ax a C:=by rw[<-A];exact aZ
   clear A;have w:=(E.ba g2).ba y;have kF:=(w.f _ lp id).trans F;refine ES HT (x:=⟨j,q,e⟩) kF λh4 g4 m7=>?_;have n3:=y.g;have w4:=(g4.f _ (Hp.lt B rfl) (by have:=E.g;omega)).trans B;have hz:ay H.a h4 zT vh:=⟨_,rfl,rfl⟩;refine ag ?_;exact rest _ h4 a.a zT _ _ ((ah.mr (g2.ba y)).ba g4) m7 w4 hz rfl rfl zA zA aa zA zA zA
  |b tr m=>
   intro a row g2 nd;have n2:=g2.g;obtain⟨kv,rfl,M⟩:=nd.il;refine aU f3 f4 M.iU ?_;generalize A:(((a.am _).dT _ _):Hp)=C;have B:C.ab a.a=.a 61 [.i tr.bi,.i tr.ib,.i tr.toz,.i tr.at,S tr.bj,kv]:=by rw[<-A];simp(disch:=omega)
   have y:ax a C:=by rw[<-A];exact aZ
   clear A;have w:=(E.ba g2).ba y;have kF:=(w.f _ lp id).trans F;exact rest _ C a.a tr _ f (ah.mr (g2.ba y)) kF B (nd.nf (mY y|>.bc (auz _)) zl) rfl rfl zA zA aa zA zA zA
end
end
structure Fm(h h':Hp):Prop where
 f:h.a<=h'.a
 d:∀i,i<h.a->¬rF (h.ab i)->h'.ab i=h.ab i
theorem Fm.ba{a b c:Hp}(x:Fm a b)(y:Fm b c):Fm a c:=⟨at1 x.f y.f,λi hi g=>by have e:=x.d i hi g;rw[y.d i (aur hi x.f) qaa,e]⟩
def Fm.of{a b:Hp}(x:ax a b):Fm a b:=⟨x.g,λi hi _=>x.f i hi id⟩
def Ih(fs:List Tree)(aq:List (List UInt8)):Prop:=∀j(hj:j<fs.length),aGm fs aq j fs[j]
def Lv(fs:List Tree)(aq:List (List UInt8)):Prop:=(∀q,(((jG aq fs 0 l9).b (1,q)++(jG aq fs 0 l9).b (2,q)).map (·.a)).Nodup)/\(∀d∈(jG aq fs 0 l9).c,ayH aq (jG aq fs 0 l9).a d)/\∀q,(((jG aq fs 0 l9).a q).map (·.a)).Nodup
def BF:PR Tree->Prop
 |.b _ _=>True
 |_=>False
structure O5(fs:List Tree)(aq:List (List UInt8)):Prop where
 w:∀t∈fs,fh false t/\rY t
 d:∀t∈fs,∀t'∈t.fg,yN t'
 a:(jG aq fs 0 l9).d.length<536870912
 b:∀fl,(uB fs aq (jG aq fs 0 l9).a fs 0 ⟨fl,(jG aq fs 0 l9).d,[]⟩).b.length<1073741824
def vW:cN:=⟨0,0,0⟩
def Lw(fs:List Tree)(aq:List (List UInt8))(f:cN):Sc:=uB fs aq (jG aq fs 0 l9).a fs 0 ⟨f,(jG aq fs 0 l9).d,[]⟩
def VL(rs:List (PR Tree))(aq:List (List UInt8))(f:cN):Prop:=
 f=yP rs 0 vW\/(∀r∈rs,BF r)/\(Ih (rs.map pB) aq->Lv (rs.map pB) aq->f=(Lw (rs.map pB) aq vW).a)
def acF(rs:List (PR Tree))(aq:List (List UInt8))(s:Sc):Prop:=
 (∀r∈rs,BF r)/\Ih (rs.map pB) aq/\Lv (rs.map pB) aq/\s=Lw (rs.map pB) aq vW
structure Ay(O:Orc)(docs:List Doc)(rs:List (PR Tree))(aq:List (List UInt8)):Prop where
 a:rs.length=docs.length
 b:aq.length=docs.length
 r:∀i(hi:i<rs.length)(hi':i<docs.length),rs[i]=Al O docs[i].a
 d:∀i(hi:i<docs.length),rZ docs[i].b=some (aq.getD i [])
 c:¬azr docs
theorem acH:∀(rs:List (PR Tree))(i:Nat)(f:cN),(∀r∈rs,∀p e,r=.d p e->e≠0)->f.e≠0->(yP rs i f).e≠0
 |[],_,_,_,h=>h
 |r::rs,i,f,hr,h=>by
  refine acH rs (i+1) _ (λr a=>hr r qaa) ?_;cases r with
  |d p e=>exact acG (hr _ zm p e rfl)
  |_=>exact h
theorem acI:∀(rs:List (PR Tree))(i:Nat)(f:cN),(∀r∈rs,r≠.c)->(∀r∈rs,∀p e,r=.d p e->e≠0)->(yP rs i f).e=0->(∀r∈rs,BF r)/\yP rs i f=f
 |[],_,_,_,_,_=>⟨λ_ h=>qaa,rfl⟩
 |r::rs,i,f,j,hr,h=>by
  cases r with
  |c=>grind
  |d p e=>exact absurd h (acH rs (i+1) _ (λr g=>hr r qaa) (acG (hr _ zm p e rfl)))
  |b t n=>
   obtain⟨a,b⟩:=acI rs (i+1) f (λr g=>j r qaa) (λr g=>hr r qaa) h;exact⟨λr g=>(atZ.1 g).elim (λe=>by subst e;exact trivial) (a r),b⟩
theorem alR{u d:List UInt8}(h:rZ u=some d):d.length<=u.length:=by grind[rZ,abw]
theorem uG.z{lo:Nat}{h:Hp}{v:AV}{ws:List (List UInt8)}(x:uG lo h v ws):yb h v ws:=λne=>by rcases x with⟨q,_⟩|⟨_,q,r,t,_,e,a,hr,b⟩;grind;exact⟨q,_,_,r,t,e,a,hr,b⟩
theorem alS{ts:List Tree}(h:∀t∈ts,rY t):aEU ts:=by
 induction ts with
 |nil=>trivial
 |cons t ts a=>exact⟨h t zm,a λt b=>h t qaa⟩
section
variable {T:aM->Option CF}
theorem lX.ow{h:Hp}{i aD:Nat}(e:h.ab i=.f [] aD):lX h i []:=⟨[],aD,e,by simp[vO],λd v hd=>(by simp[Ak] at hd),λd hd=>qaa⟩
section
variable {k:aK->Prop}{j:List Doc}
def vV.zl{h h':Hp}{v:AV}{ds:List Doc}(x:vV h v ds)(e:∀b r t,b<h.a->tC (h.ab b) r t->h'.ab b=h.ab b):vV h' v ds:=by rcases x with x|⟨b,cap,ex,r,t,c,a,d⟩;exact .inl x;exact .inr ⟨b,cap,ex,r,t,c,by rw[e b r t a.lt a];omega,d⟩
structure TyP(j:List Doc)(rs:List (PR Tree))(aq:List (List UInt8))(p aG tb:Nat)(c0 c1 c2 c8:AV)(h:Hp):Prop where
 c:HP p aG tb c0 c1 c2 c8 (rs.map pB) aq (jG aq (rs.map pB) 0 l9).a h
 b:∀q,(((jG aq (rs.map pB) 0 l9).a q).map (·.a)).Nodup
 a:vV h c0 j
theorem acJ(G:aA T)(hd:vV h v j)(hl:j.length<1073741824)(hu:∀d∈j,d.b.length<1073741824) (ok:∀d∈j,O3 O d.a) (hg:Ax T O h)
 (pr:∀rs aq,Ay O j rs aq->(∀r∈rs,BF r)->O5 (rs.map pB) aq)
 (hA:∀h',Fm h h'->(azr j\/∃d∈j,rZ d.b=none)->k (.a (.o [.u,.p [.i 0,.i 0,.i 2]]) h'))
 (hB:∀rs aq f h',Ay O j rs aq->VL rs aq f->f.e≠0->Fm h h'->k (.a (.o [.u,.p f.fj]) h'))
 (hC:∀rs aq s h' p aG tb c0 c1 c2 c8,Ay O j rs aq->acF rs aq s->s.a.e=0->Fm h h'->uC p aG tb c0 c1 c2 c8 h' s->TyP j rs aq p aG tb c0 c1 c2 c8 h'->k (.a (.o [.a p 0,.p [.i 0,.i 0,.i 0]]) h')):aE T (W T) ⟨6⟩ [v] h k:=by
 rw[aJ G.t6];generalize pY:QE=T2;refine ag ?_;have gA:ax h (h.am (.a 29 [.i 0,.i 0,.i 0])):=aZ;have nH:=hg.1;refine alL G (hd.bc gA (λ_ m=>m.elim)) hl λl v2 g2 lN ev2=>?_;have n2:=g2.g;simp only[Hp.ii] at n2;have ufb:l.ab h.a=.a 29 [.i 0,.i 0,.i 0]:=(g2.f _ zm id).trans (Hp.bv rfl);have g02:=gA.ba g2;refine aB ev2 ?_;generalize I:((((l.am _).am _).am _).am _:Hp)=A;have VM:ax l A:=by rw[<-I];exact aZ
 have nHB:A.a=l.a+1+1+1+1:=by rw[<-I];rfl
 have um1:A.ab l.a=.f [] 0:=by rw[<-I];simp(disch:=first|exact bh|fail)
 have um2:A.ab (l.a+1)=.f [] 0:=by rw[<-I];simp
 have um3:A.ab (l.a+1+1)=.f [] 0:=by rw[<-I];simp
 have up:A.ab (l.a+1+1+1)=.a 57 (bS v2 .h .h vW (.j l.a) (.j (l.a+1)) (.j (l.a+1+1)) .h):=by rw[<-I];simp(disch:=first|exact bh|fail) [bS,vW]
 clear I;have U:=g02.ba VM;have hgB:=hg.bc U (λ_ m=>m.elim);have R:A.ab h.a=.a 29 [.i 0,.i 0,.i 0]:=(VM.f _ zo id).trans ufb;have hdB:=lN.bc VM (λ_ m=>m.elim);generalize hp:l.a+1+1+1=p at*;generalize hnm:l.a=aG at*;generalize K3:aG+1=tb at*;generalize OY:tb+1=pb at*;have O0:∀el rw r fz t,A.ab p≠.b el rw r fz t:=λ_ _ _ _ _ e=>by grind
 have O6:h.a≠p:=zo;have b8:∀(u:Fr)(h':Hp)(c0 c1 c2 c6 c7 c8 c9:AV)(f:cN)(x0 x1 x2:AV),h'.ab p=.a 57 (bS c0 c1 c2 f c6 c7 c8 c9)->h'.ab h.a=.a 29 [x0,x1,x2]->an 3 u=.a h.a 0->an 4 u=.a p 0->
  (f.e≠0->∀l,ah (·=h.a) h' l->k (.a (.o [.u,.p f.fj]) l))->(f.e=0->∀l,ah (·=h.a) h' l->k (.a (.o [.a p 0,.p [.i 0,.i 0,.i 0]]) l))->W T QB u h' [] (finish T (W T) [CR.a 2,CR.b 3 true 3] k):=by
  intro u h' c0 c1 c2 c6 c7 c8 c9 f x0 x1 x2 B BD C E D k2;simp[bS] at B;by_cases e0:f.e=0;exact cC C E B e0 BD (k2 e0 _ (ah.dT (M:=(·=h.a)) (ah.cg _) _ (.inr rfl)));exact cC C E B e0 BD (D e0 _ (ah.dT (M:=(·=h.a)) (ah.cg _) _ (.inr rfl)))
 have VN:∀{M:Nat->Prop}(h':Hp),ah M A h'->(∀i,M i->h.a<=i)->Fm h h':=λ{M} h' g hM=>⟨at1 U.g g.g,λi hi _=>by have:=U.g;rw[g.f i zo λm=>by grind,U.f i hi id]⟩
 have qw:=hd.bc U (λ_ m=>m.elim);subst pY;unfold QE zt;generalize rq:aH8=T3;simp(disch:=omega) [qw.pi];refine alM G (p:=p) (fb:=h.a) qw hl hu hgB R zo O6 ⟨_,_,up⟩ j.length 0 [] .h A _ _ zo rfl (λi hi=>by omega) (λm hm q=>by omega) (ah.cg _) (.inl ⟨rfl,rfl⟩) up aa aa aa aa aa aa (λf' h' e2 C ef gb Ie=>?_) λf3 h3 c2 aq a0 a3 a4 g3 sg mT vg Di kF=>?_;refine aU e2 C ef ?_;grind;subst rq;unfold aH8 zt;generalize qE:QC=T4;simp(disch:=omega) [a0,qw.pi];have alT:∀el rw r fz t,h3.ab p≠.b el rw r fz t:=λ_ _ _ _ _ e=>by grind
 refine alQ G (p:=p) (fb:=h.a) (qw.bc g3 λi m=>by grind) hl ok (hgB.bc g3 λi m=>by omega) zo ⟨_,_,kF⟩ j 0 [] vW .h h3 _ _ zo (λi hi=>by grind) rfl (ah.cg _) (.inl ⟨rfl,rfl⟩) kF (au a3) (au a4) aa aa aa λf4 h4 c1 rs b3 b4 g34 Cl Bg hF m7=>?_;refine ag ?_;have g4:=g3.ba g34;have sz4:yb h4 c2 aq:=λne=>(sg.z ne).bc g34 λi r t e m=>by grind
 have Lx:Ay O j rs aq:=⟨Cl,mT,Bg,vg,Di⟩;rw[au5] at hF;have uf4:h4.ab h.a=.a 29 [.i 0,.i 0,.i 0]:=(g4.f _ zo O6).trans R;generalize Aw:yP rs 0 vW=J at m7;have lp4:=Hp.lt m7 rfl;have lf4:=Hp.lt uf4 rfl;have alU:=m7;simp only[bS] at alU;subst qE;unfold QC zt;generalize F:CC.d l6_0=L;generalize hT5:QB=T5 at b8|-;refine aB b4 ?_;generalize Ap:(h4.am _:Hp)=S;have Y:ax h4 S:=by rw[<-Ap];exact aZ
 obtain⟨ft,u5,O7,O8⟩:∃ft,S.ab h4.a=.b 1 1 2 0 ft/\ft 0=[.r ⟨18⟩ [.a p 0] []]/\ft 1=[.r ⟨19⟩ [.a p 0] []]:=⟨_,by rw[<-Ap];exact Hp.bv rfl,by simp,by simp⟩;clear Ap;have up5:=(Y.f _ lp4 id).trans m7;have uf5:=(Y.f _ lf4 id).trans uf4;have VO:=up5;simp only[bS] at VO;have lH5:=Hp.lt u5 rfl;have X:∀(u:Fr)(h':Hp)(d0 d1 d2 d6 d7 d8 d9:AV)(fl:cN),h'.ab p=.a 57 (bS d0 d1 d2 fl d6 d7 d8 d9)->h'.ab h.a=.a 29 [.i 0,.i 0,.i 0]->an 3 u=.a h.a 0->an 4 u=.a p 0->an 106 u=.i 2->an 107 u=.i 2->
  (fl.e≠0->∀l,ah (·=h.a) h' l->k (.a (.o [.u,.p fl.fj]) l))->(fl.e=0->∀l,ah (·=h.a) h' l->k (.a (.o [.a p 0,.p [.i 0,.i 0,.i 0]]) l))->W T L u h' [] (bY 4 (bF (W T T5) (finish T (W T) [CR.a 2,CR.b 3 true 3] k))):=by
  intro u h' d0 d1 d2 d6 d7 d8 d9 fl B BD C E n y D k2;subst F;rw[aP];refine aS n y ?_;exact b8 _ h' d0 d1 d2 d6 d7 d8 d9 fl _ _ _ B BD (au C) (au E) D k2
 have fm2:∀h' l,ah (·=p) S h'->ah (·=h.a) h' l->Fm h l:=λh' l K g2=>VN (M:=λi=>i=p\/i=h.a) _ ((((g4.ba (ah.mr Y)).ba K).bc λ_ _ q=>.inl q).ba (g2.bc λ_ _ q=>.inr q)) λi m=>zo;have nof:∀r∈rs,r≠.c/\∀q e,r=.d q e->e≠0:=λr hr=>by obtain⟨i,hi,rfl⟩:=avC hr;have hi':i<j.length:=zo;have e:=Bg i hi hi';have tok:=ok _ (auy hi');rw[e];exact⟨tok.c,tok.a⟩
 have alV:J.e=0->(∀r∈rs,BF r)/\J=vW:=λe=>by grind[acI]
 have VP:(rs.map pB).length=aq.length:=by grind
 have wX:∀(u:Fr)(h':Hp)(fl:cN),ah (·=p) S h'->oK p v2 c1 c2 (.j aG) (.j tb) (.j pb) .h (rs.map pB) aq fl h'->an 3 u=.a h.a 0->an 4 u=.a p 0->an 105 u=.c h4.a 0 1 2 2 true->an 106 u=.i 2->an 107 u=.i 1->(fl.e=0->J.e=0)->(fl.e≠0->VL rs aq fl)->(fl.e=0->Ih (rs.map pB) aq/\fl=vW)->(J.e=0->(∀r∈rs,BF r))->W T L u h' [] (bY 4 (bF (W T T5) (finish T (W T) [CR.a 2,CR.b 3 true 3] k))):=by
  intro u h' fl K x' C E H n y q1 q2 q3 q4;have B:=x'.a;have VQ:=B;simp only[bS] at VQ;have lp':=Hp.lt B rfl;have yw:=K.g;have uf':=(K.f _ zo O6).trans uf5;have u5':=(K.f _ lH5 zo).trans u5;by_cases x:fl.e=0;have D:=q4 (q1 x);have P:=pr rs aq Lx D;subst F;rw[aP];show W T Gk _ _ [] _;generalize F:CC.d l6_0=L at X|-;refine nA u5' O7 O8 VQ C E H n y x ?_;rw[aJ G.t19];refine ag ?_;have V:ah (·=p) A h':=(g4.ba (ah.mr Y)).ba K;have m1:h'.ab aG=.f [] 0:=(V.f _ zo zo).trans um1;have m2:h'.ab tb=.f [] 0:=(V.f _ zo zo).trans um2;have m3:h'.ab pb=.f [] 0:=(V.f _ zo zo).trans um3;refine alz G B (lX.ow m1) (iV.ow m2) (iV.ow m3) zo x'.b x'.c VP zo (λd hd=>?_) (alS λt ht=>(P.w t ht).2) P.d P.a λh7 f3 g7 hp7 N alW tl7 so Oc=>?_;obtain⟨i,hi,rfl⟩:=avC hd;have:=vg i zo;have:=alR this;grind;refine ag ?_;have k7:∀i o,h'.ab i=o->i≠p->jN o=false->(∀m v,o≠.f m v)->¬rF o->h7.ab i=o:=λi o e ne hn hm h3=>by rw[g7.d i (Hp.lt e hn) qaa (by rw[e];exact h3)];exact e
  have kf7:lC 0 h7 c1 (rs.map pB):=x'.c.nf λi r f _ e=>k7 i _ e (by rintro rfl;rw[B] at e;cases e) rfl (λ_ _ q=>by cases q) (λ⟨_,_,q⟩=>by cases q);have ds7:yb h7 c2 aq:=λne=>by obtain⟨b,cap,ex,r,t,e,hb,hw⟩:=x'.b ne;exact⟨b,cap,ex,r,t,e,k7 b _ hb (by rintro rfl;rw[B] at hb;cases hb) rfl (λ_ _ q=>by cases q) (λ⟨_,_,q⟩=>by cases q),hw⟩
  have pr7:HP p aG tb v2 c1 c2 (.j pb) (rs.map pB) aq (jG aq (rs.map pB) 0 l9).a h7:=⟨alW,tl7,kf7,ds7,VP,by simp;omega⟩;refine aki G (s:=⟨f3,(jG aq (rs.map pB) 0 l9).d,[]⟩) pr7 ⟨⟨_,hp7,.inl ⟨rfl,rfl⟩⟩,N,by omega⟩ P.w (P.b f3) λh8 Z Ly=>?_;obtain⟨vn,Pa,_⟩:=Ly.b;have VR:h7.ab h.a=.a 29 [.i 0,.i 0,.i 0]:=k7 _ _ uf' O6 rfl (λ_ _ q=>by cases q) (λ⟨_,_,q⟩=>by cases q);have Q:h8.ab h.a=.a 29 [.i 0,.i 0,.i 0]:=(Z.ab _ (Hp.lt VR rfl) zo (by rw[VR];rintro⟨_,_,q⟩;cases q)).trans VR;have fm8:∀l,ah (·=h.a) h8 l->Fm h l:=λl g2=>by have a:=VN h' V λi m=>zo;have n0:=a.f;have n7:=g7.f;have n8:=Z.d;have n0B:=U.g;refine⟨by have:=g2.g;omega,λi hi h34=>?_⟩;have x1:=a.d i hi h34;have x2:=(g7.d i zo (by rintro(c|c|c|c)<;>omega) (by rw[x1];exact h34)).trans x1;have x3:=(Z.f i zo zo λc=>by omega).trans x2;exact(g2.f i zo zo).trans x3
  refine aB y ?_;refine X _ h8 _ _ _ _ _ _ _ _ Pa Q (au C) (au E) (au n) aa (λen l g2=>?_) λez l g2=>?_;refine hB rs aq _ l Lx (.inr ⟨D,λ_ c=>?_⟩) en (fm8 l g2);rw[(so c.1 c.2.1 c.2.2).trans (q3 x).2];rfl;have lp8:=Hp.lt Pa rfl;obtain⟨_,w1,w2,w3⟩:=Oc (aBI _ _ _ ez);refine hC rs aq _ l p aG tb _ _ _ _ Lx ⟨D,(q3 x).1,⟨w2,w3,w1⟩,by rw[(so w2 w3 w1).trans (q3 x).2];rfl⟩ ez (fm8 l g2) ⟨⟨vn,(g2.f _ lp8 zo).trans Pa,?_⟩,Ly.a.bc (g2.f _ Ly.a.lt zo),Ly.c⟩ ⟨(pr7.bc Z λi m=>?_).bc (M:=(·=h.a)) ⟨g2.g,λi hi m _=>g2.f i hi m⟩ λi m=>?_,w1,hdB.zl λb r t lb e=>?_⟩;obtain⟨v9,VS,nm9⟩:=Ly.b;have ev:v9=vn:=by rw[Pa] at VS;simp[bS] at VS;exact VS.symm
  subst ev;exact nm9.bc λq hq hh=>g2.f q hq (by rintro rfl;obtain⟨_,_,q⟩:=hh;rw[Q] at q;cases q);rcases m with rfl|rfl;exact⟨by omega,λ_ _ _ _ q=>by rw[hp7] at q;cases q⟩;obtain⟨L,aD,q,_⟩:=N;exact⟨by omega,λ_ _ _ _ q'=>by rw[q] at q';cases q'⟩;subst m;exact⟨by omega,λ_ _ _ _ q=>by rw[Q] at q;cases q⟩;have l1:=V.g;have l7:=g7.f;have l8:=Z.d;have n1:b≠p:=by rintro rfl;rw[up] at e;rcases e with⟨_,e⟩|e<;>cases e
  have n2:b≠h.a:=by rintro rfl;rw[R] at e;rcases e with⟨_,e⟩|e<;>cases e
  have nm:∀m v,A.ab b≠.f m v:=λm v q=>by rw[q] at e;rcases e with⟨_,e⟩|e<;>cases e
  have x:=V.f b lb n1;have e7:=k7 b _ x n1 (by rcases e with⟨_,e⟩|e<;>rw[e]<;>rfl) nm (λ⟨_,_,q⟩=>by rw[q] at e;rcases e with⟨_,e⟩|e<;>cases e);have e8:=Z.ab b zo (by rintro(q|q);exact n1 q;subst q;obtain⟨L,aD,w,_⟩:=N;rw[e7] at w;exact nm _ _ w) (by rw[e7];rintro⟨_,_,q⟩;rw[q] at e;rcases e with⟨_,e⟩|e<;>cases e);exact(g2.f b zo n2).trans (e8.trans e7);subst F;rw[aP];show W T Gk _ _ [] _;generalize F:CC.d l6_0=L at X|-;refine nA u5' O7 O8 VQ C E H n y x ?_;refine X _ h' _ _ _ _ _ _ _ fl B uf' (au C) (au E) (au n) aa (λ_ l g2=>hB rs aq fl l Lx (q2 x) x (fm2 h' l K g2)) λe=>absurd e x
 have imA:oK p v2 c1 c2 (.j aG) (.j tb) (.j pb) .h (rs.map pB) aq J S:=⟨up5,λne=>(sz4 ne).bc Y λ_ _ _ _ m=>m,hF.fg.nf (mY Y)⟩;by_cases x:J.e=0;obtain⟨D,k2⟩:=alV x;have P:=pr rs aq Lx D;subst F;rw[aP];show W T Gk _ _ [] _;generalize F:CC.d l6_0=L at X wX|-;refine iR u5 O7 O8 VO b3 b4 x ?_;refine alI G VP zn (λt ht=>(Aq (P.w t ht).2).1) imA λh6 fl g6 im6 hz hfl=>?_;refine ag ?_;refine wX _ h6 fl g6 im6 (au b3) (au b4) aa aa aa (λ_=>x) (λen=>.inr ⟨D,λc _=>absurd (by rw[hfl c,k2];rfl) en⟩) (λz=>⟨(hz z).2,by rw[hfl (hz z).2,k2]⟩) (λ_=>D);subst F;rw[aP];show W T Gk _ _ [] _;generalize F:CC.d l6_0=L at X wX|-;refine iR u5 O7 O8 VO b3 b4 x ?_;refine wX _ S J (ah.cg _) imA (au b3) (au b4) aa aa aa (λe=>absurd e x) (λ_=>.inl Aw.symm) (λe=>absurd e x) (λe=>absurd e x)
end
end
def nJ(lo:Int):List Tk->Int->Prop
 |[],hi=>lo<=hi
 |t::l,hi=>lo<=t.a/\nJ (t.a+if t.c=7 then 0 else 1) l hi
def nJ.ss{l m:List Tk}{lo md hi:Int}(x:nJ lo l md)(y:nJ md m hi):nJ lo (l++m) hi:=by
 induction l generalizing lo with
 |nil=>
  cases m with
  |nil=>exact avU x y
  |cons t m=>exact⟨avU x y.1,y.2⟩
 |cons t l a=>exact⟨x.1,a x.2⟩
def nJ.le{l:List Tk}{lo hi:Int}(x:nJ lo l hi):lo<=hi:=by
 induction l generalizing lo with
 |nil=>exact x
 |cons t l a=>have:=a x.2;have:=x.1;omega
theorem nJ.up{l:List Tk}{lo hi a:Int}(x:nJ lo l hi)(h:hi<=a):nJ lo l a:=by have:=x.ss (m:=[]) (hi:=a) h;grind
def C8(s:List UInt8):PR (List Tk)->Prop
 |.b l _=>nJ 0 l s.length/\(∀t∈l,t.c≠0/\t.b.length<=s.length)/\l.length<=s.length+1
 |.d _ e=>e≠0
 |.c=>False
theorem aNU{nE fE:List UInt8->Int}{s:List UInt8}(a:s≠[])(h:(azS nE fE s).2.2 =0):0<(azS nE fE s).2.1 /\(azS nE fE s).2.1 <=s.length/\(azS nE fE s).1 ≠0:=by refine⟨aGl s h,aHl a,?_⟩;grind[azS]
theorem amb{s:List UInt8}{c:UInt8}(h:w9 s [47,47]=true)(b:c≠47):0<(iz s c).1.length/\(iz s c).1.length<=s.length:=by
 have e:s.take 2=[47,47]:=by simpa[w9] using h
 unfold iz;split
 match s,e with
 |a::s,e=>
  grind
 grind
structure VW(s:List UInt8)(a:Nat)(cM:Tk)(bf:List Tk):Prop where
 f:nJ 0 bf a
 g:Hz cM=true->nJ 0 bf cM.d/\cM.d<=a
 i:∀t∈bf,t.c≠0/\t.b.length<=s.length
 d:bf.length<=a
theorem VW.acR{s:List UInt8}{a:Nat}{e:Tk}{j:List Tk}(x:VW s a e j){b:Nat}(l:a<=b):nJ 0 (j++vI e) b/\(∀t∈j++vI e,t.c≠0/\t.b.length<=s.length)/\(j++vI e).length<=a+1:=by unfold vI;split<;>rename_i c;have:=x.g c;refine⟨this.1.ss ⟨atY _,?_⟩,λt k=>?_,?_⟩;show e.d+(if(7:Int)=7 then 0 else 1)<=b;omega;rcases auj.1 k with h|h;exact x.i t h;grind;have:=x.d;grind;rw[av5];exact⟨x.f.up zo,x.i,by have:=x.d;omega⟩
theorem acS:Hz t0=false:=by rfl
theorem Lz(O:Orc)(s:List UInt8):∀(g a:Nat)(f:Tk)(d:List Tk),s.length<a+g->a<=s.length->VW s a f d->C8 s (aER (azS O.a O.b) s g a f d)
 |0,a,_,_,k,j,_=>zo
 |g+1,a,f,d,k,j,x=>by
  unfold aER;by_cases c:a<s.length;rw[if_pos c];have dn:s.drop a≠[]:=λe=>by have:=aui List.length e;grind
  by_cases c1:s.getD a 0∈[32,9,13];rw[if_pos c1];exact Lz O s g (a+1) f d zo zo ⟨x.f.up zo,λe=>⟨(x.g e).1,by have:=(x.g e).2;omega⟩,x.i,by have:=x.d;omega⟩;rw[if_neg c1];by_cases c2:s.getD a 0=10;rw[if_pos c2];have:=x.acR (b:=a+1) zo;exact Lz O s g (a+1) t0 _ zo zo ⟨this.1,λe=>(by grind[acS]),this.2.1,this.2.2⟩;rw[if_neg c2];by_cases c3:w9 (s.drop a) [47,47]=true;rw[if_pos c3];have:=amb (c:=10) c3 zm;simp at this;exact Lz O s g _ f d zo zo ⟨x.f.up zo,λe=>⟨(x.g e).1,by have:=(x.g e).2;omega⟩,x.i,by have:=x.d;omega⟩;rw[if_neg c3];by_cases i:(azS O.a O.b (s.drop a)).2.2 ≠0;rw[if_pos i];exact i;rw[if_neg i];have:=aNU dn (by simpa using i);generalize azS O.a O.b (s.drop a)=q at this|-;simp at this;have m:nJ 0 (d++[⟨q.1,(s.drop a).take q.2.1,a,a+q.2.1⟩]) (a+q.2.1 :Nat):=x.f.ss ⟨atY _,by show(a:Int)+(if q.1 =7 then 0 else 1)<=_;omega⟩;refine Lz O s g _ _ _ zo zo ⟨m,λ_=>⟨by grind,by simp⟩,λt l=>?_,by have:=x.d;grind⟩;rcases auj.1 l with h|h;exact x.i t h;grind;rw[if_neg c];have:=x.acR (b:=s.length) j;exact⟨this.1,this.2.1,by omega⟩
theorem Pn(O:Orc)(s:List UInt8):C8 s (aE0 O s):=by unfold aE0;split;simp[C8];split;simp[C8];exact Lz O s _ 0 t0 [] zo zo ⟨by simp[nJ],λe=>(by grind[acS]),λt h=>by grind,by simp⟩
def Az(k:Int):Bool:=decide (k=26)||decide (k=9)
def BG(k:Int):Bool:=decide (k=16)||decide (k=11)||decide (k=12)||decide (k=7)||decide (k=25)||decide (k=8)||decide (k=17)||decide (k=18)||decide (k=2)||decide (k=3)||decide (k=4)
mutual
def gX(lo hi:Int):Tree->Prop
 |.mk kind _ _ a _ kids=>
  if Az kind=true then gZ lo a kids/\a+1<=hi
  else if BG kind=true then lo<=a/\gZ (a+1) hi kids
  else if kind=5 then(match kids with|[]=>False|r::ks=>gX lo a r/\gZ (a+1) hi ks)
  else(kind=0\/a<hi)/\gZ lo hi kids
def gZ(lo hi:Int):List Tree->Prop
 |[]=>lo<=hi
 |t::ts=>∃md,gX lo md t/\gZ md hi ts
end
mutual
def m8(N:Nat):Tree->Prop
 |.mk _ _ _ _ _ ks=>ks.length<=N/\kP N ks
def kP(N:Nat):List Tree->Prop
 |[]=>True
 |t::ts=>m8 N t/\kP N ts
end
mutual
theorem gX.le:∀{t:Tree}{lo hi:Int},gX lo hi t->lo<=hi
 |.mk kind _ _ a _ kids,lo,hi,h=>by
  unfold gX at h;split at h;have:=gZ.le h.1;omega;split at h;have:=gZ.le h.2;omega;split at h;split at h;exact h.elim;have:=gX.le h.1;have:=gZ.le h.2;omega
  exact gZ.le h.2
theorem gZ.le:∀{ts:List Tree}{lo hi:Int},gZ lo hi ts->lo<=hi
 |[],_,_,h=>h
 |t::ts,_,_,h=>by obtain⟨md,a,c⟩:=h;exact avU (gX.le a) (gZ.le c)
end
mutual
theorem gX.up:∀{t:Tree}{lo hi kg c:Int},gX lo hi t->kg<=lo->hi<=c->gX kg c t
 |.mk kind _ _ a _ kids,lo,hi,kg,c,h,d,e=>by
  unfold gX at h|-;split at h<;>rename_i c1;rw[if_pos c1];exact⟨gZ.up h.1 d (atY _),by omega⟩;rw[if_neg c1];split at h<;>rename_i c2;rw[if_pos c2];exact⟨by omega,gZ.up h.2 (atY _) e⟩;rw[if_neg c2];split at h<;>rename_i c3;rw[if_pos c3]
  match kids,h with
  |r::ks,h=>exact⟨gX.up h.1 d (atY _),gZ.up h.2 (atY _) e⟩
  rw[if_neg c3];exact⟨by omega,gZ.up h.2 d e⟩
theorem gZ.up:∀{ts:List Tree}{lo hi kg c:Int},gZ lo hi ts->kg<=lo->hi<=c->gZ kg c ts
 |[],lo,hi,kg,c,h,d,e=>by have h:lo<=hi:=h;show kg<=c;omega
 |t::ts,_,_,_,_,h,d,e=>by obtain⟨md,a,b⟩:=h;exact⟨md,gX.up a d (atY _),gZ.up b (atY _) e⟩
end
def gZ.rg{lo md hi:Int}{t ts}(x:gX lo md t)(y:gZ md hi ts):gZ lo hi (t::ts):=⟨md,x,y⟩
def gZ.kw{lo hi:Int}{t}(x:gX lo hi t):gZ lo hi [t]:=⟨hi,x,atY _⟩
def gZ.ss{lo md hi:Int}:∀{ts c:List Tree},gZ lo md ts->gZ md hi c->gZ lo hi (ts++c)
 |[],_,x,y=>gZ.up y x (atY _)
 |t::ts,_,x,y=>by obtain⟨m,a,b⟩:=x;exact⟨m,a,gZ.ss b y⟩
def gX.hd{lo hi k f t a:Int}{nm ks}(c:BG k=true)(d:lo<=a)(e:gZ (a+1) hi ks):gX lo hi (.mk k f t a nm ks):=by
 unfold gX;have:¬Az k=true:=by simp[BG] at c;simp[Az];omega
 rw[if_neg this,if_pos c];exact⟨d,e⟩
def gX.VX{lo hi k f t a:Int}{nm ks}(e:Az k=true)(c:gZ lo a ks)(d:a+1<=hi):gX lo hi (.mk k f t a nm ks):=by unfold gX;rw[if_pos e];exact⟨c,d⟩
def gX.yr{lo hi k f t a:Int}{nm ks}(g:Az k=false)(c:(BG k||decide (k=5))=false)(d:a<hi)(e:gZ lo hi ks):gX lo hi (.mk k f t a nm ks):=by simp only[aQe,awn] at c;unfold gX;rw[g,c.1,if_neg zd,if_neg zd,if_neg c.2];exact⟨.inr d,e⟩
def gX.fn{lo hi f t a:Int}{nm r ks}(c:gX lo a r)(d:gZ (a+1) hi ks):gX lo hi (.mk 5 f t a nm (r::ks)):=by unfold gX;rw[if_neg zd,if_neg zd,if_pos rfl];exact⟨c,d⟩
def VY{lo hi:Int}(h:lo<=hi):gX lo hi zT:=by exact⟨.inl rfl,h⟩
structure TkG(l:List Tk):Prop where
 b:fc l
 d:∀n,n+1<l.length->(tk l n).a+(if(tk l n).c=7 then 0 else 1)<=(tk l (n+1)).a
section
variable {l:List Tk}{n:Nat}
def TkG.le1(g:TkG l)(h:n+1<l.length):(tk l n).a<=(tk l (n+1)).a:=by have:=g.d n h;omega
theorem TkG.le(g:TkG l)(h:i<=j)(hj:j<l.length):(tk l i).a<=(tk l j).a:=by
 induction j with
 |zero=>grind
 |succ j a=>
  rcases avh i (j+1) with c|c;exact avU (a zo zo) (g.le1 hj);grind
def TkG.lt(g:TkG l)(h:i<j)(hj:j<l.length)(c:(tk l i).c≠7):(tk l i).a+1<=(tk l j).a:=by have a:=g.d i zo;have:=g.le (i:=i+1) (j:=j) h hj;omega
def VZ{t:Tk}{ws}(h:bD t ws=true):t.c≠0/\t.c≠7/\t.c≠1:=by simp[bD] at h;omega
def RG{p:Type}(l:List Tk)(n:Nat)(Q:p->Nat->Prop):PR p->Prop
 |.b a m=>n<=m/\m<l.length/\Q a m
 |.d _ e=>e≠0
 |.c=>False
variable {p s:Type}{Q:p->Nat->Prop}{u:s->Nat->Prop}{r:PR p}
theorem RG.dC{n0:Nat}{f:p->Nat->PR s}(h:RG l n Q r)(e:∀a m,n<=m->m<l.length->Q a m->RG l n0 u (f a m)):RG l n0 u (r.dC f):=by
 cases r with
 |b a m=>exact e a m h.1 h.2.1 h.2.2
 |d=>exact h
 |c=>exact h
def RG.bc{R:p->Nat->Prop}(h:RG l m Q r)(e:n<=m)(f:∀a o,m<=o->o<l.length->Q a o->R a o):RG l n R r:=by
 cases r with
 |b a m=>exact⟨at1 e h.1,h.2.1,f _ _ h.1 h.2.1 h.2.2⟩
 |d=>exact h
 |c=>exact h
structure oM(l:List Tk)(b:Bool)(n m:Nat)(t:Tree):Prop where
 a:gX (tk l n).a (tk l m).a t
 c:fh b t
 d:m8 (l.length+4) t
 f:t.ib<(tk l m).a
 g:t.bi=25->t.ib=t.at
def TG(l:List Tk)(b:Bool)(n:Nat):PR Tree->Prop:=RG l n λt m=>n<m/\oM l b n m t
variable {b:Bool}
def aFr(g:TkG l){q:Int}(c:q≠0)(a:n<l.length):RG l n (λt m=>m=n+1/\t=tk l n/\(tk l n).c=q) (jR l q n):=by unfold jR;split;exact⟨by omega,g.b n a zo,rfl,rfl,by omega⟩;simp[RG]
def AA(g:TkG l){x}(a:n<l.length):RG l n (λt m=>m=n+1/\t=tk l n/\bD (tk l n) [x]=true) (lR l x n):=by unfold lR;split<;>rename_i c;exact⟨by omega,g.b n a (VZ c).1,rfl,rfl,c⟩;simp[RG]
def mD(g:TkG l){ws}(h:bD (tk l n) ws=true)(d:n<l.length):n+1<l.length/\∀j,n<j->j<l.length->(tk l n).a+1<=(tk l j).a:=
 ⟨g.b n d (VZ h).1,λ_ a c=>g.lt a c (VZ h).2.1⟩
end
mutual
theorem C9:∀{t:Tree},fh false t->fh true t
 |.mk kind _ _ _ _ kids,h=>by unfold fh at h|-;split at h<;>rename_i c;grind;rw[if_neg c];split at h<;>rename_i c2;grind;rw[if_neg c2];exact⟨λ_=>rfl,h.2.1,acT h.2.2⟩
theorem acT:∀{ts:List Tree},aEu false ts->aEu true ts
 |[],_=>trivial
 |_::_,h=>⟨C9 h.1,acT h.2⟩
end
theorem acU:∀{b:Bool}(t:Tree),fh b t->Aa t≠none
 |b,.mk kind _ _ _ _ kids,h=>by
  by_cases c:kind=26;subst c;unfold fh at h
  match kids,h with
  |[],h=>grind
  |t::ts,h=>
   have:=acU t h.2.2.1;unfold Aa;grind
  unfold Aa;grind
def oM.t{l n m t}(x:oM l false n m t):oM l true n m t:=⟨x.a,C9 x.c,x.d,x.f,x.g⟩
theorem qe{b:Bool}{k f t a:Int}{nm ks}(e:k≠5)(c:k≠10)(d:k≠15)(g:(k=16\/k=11\/k=12)->b=true)(o:(k=26\/k=9)->ks≠[])(h:aEu b ks):fh b (.mk k f t a nm ks):=by unfold fh;grind
def V0{b:Bool}:fh b zT:=by simp[zT,fh,aEu]
def V2{N}:m8 N zT:=by simp[zT,m8,kP]
section
variable {l:List Tk}{n:Nat}
theorem jU{k f a:Int}{nm ks}:(aV l n k f a nm ks).ib=f:=rfl
theorem aI7{k f t a:Int}{nm ks}:(Tree.mk k f t a nm ks).ib=f:=rfl
theorem TkG.st(g:TkG l){t:Tk}{q:Int}(hj:i<j)(a:j<l.length)(c:(tk l i).c=q)(e:q≠7):(tk l i).a+1<=(tk l j).a:=g.lt hj a zo
theorem V3(g:TkG l)(k:n<l.length):TG l false n (Ct l n):=by unfold Ct;split<;>rename_i c;have⟨a,d⟩:=mD g c k;have f:=d (n+1) zo a;refine⟨by omega,a,by omega,.hd qab (atY _) f,by simp[aV,fh,aEu],by simp[aV,m8,kP],by grind[jU],λe=>by rfl⟩;refine(aFr g zm k).dC λt m _ h ⟨q,r,w⟩=>?_;subst q r;have f:=g.lt (i:=n) (j:=n+1) zo h zo;split<;>rename_i c2;have⟨a,d⟩:=mD g c2 h;refine(aFr g zm a).dC λt o _ p ⟨s,u,x⟩=>?_;subst s u;have y:=d (n+1+1) zo a;have v:=g.lt (i:=n+1+1) (j:=n+1+1+1) zo p zo;refine⟨by omega,p,by omega,.VX qab (.kw (.hd qab (atY _) ?_)) v,by simp[aV,fh,aEu],by simp[aV,m8,kP],?_,λe=>by grind[aV,Tree.bi]⟩;show(tk l n).a+1<=(tk l (n+1+1)).a;omega;grind[jU];exact⟨by omega,h,by omega,.hd qab (atY _) f,by simp[aV,fh,aEu],by simp[aV,m8,kP],by grind[jU],λe=>by rfl⟩
theorem acV(g:TkG l){k:Int}(a:k=4\/k=7)(p:n<l.length):TG l false n (En l k n):=by refine(aFr g zm p).dC λt m _ c ⟨f,h,q⟩=>?_;subst f h;have r:=g.lt (i:=n) (j:=n+1) zo c zo;refine(V3 g c).dC λx o _ d ⟨s,x⟩=>?_;have u:=g.le (i:=n+1) (j:=o) zo d;refine⟨by omega,d,by omega,?_,?_,⟨by simp,x.d,auW⟩,by grind[jU],λe=>by rfl⟩;rcases a with rfl|rfl;exact .hd qab (atY _) (.kw (x.a.up zo zo));exact .hd qab (atY _) (.kw (x.a.up zo zo));rcases a with rfl|rfl<;>simp[aV,fh,aEu,x.c]
structure V4(l:List Tk)(b:Bool)(n m:Nat)(ts:List Tree):Prop where
 d:gZ (tk l n).a (tk l m).a ts
 c:aEu b ts
 f:kP (l.length+4) ts
 a:ts.length<=m- n
variable {b:Bool}
theorem acW(g:TkG l){right:List UInt8}{k:Nat->PR Tree}{c:Nat->PR Unit}{n0:Nat}(hr:∀n,n0<=n->n<l.length->TG l b n (k n)) (d:∀n,n0<=n->n<l.length->RG l n (λ_ _=>True) (c n)):∀(f n:Nat),n0<=n->n<l.length->l.length<=n+f->RG l n (λts m=>V4 l b n m ts) (ug l right k c f n)
 |0,n,_,a,p=>zo
 |f+1,n,h0,a,p=>by unfold ug;split;exact⟨at2 _,a,atY _,auW,auW,auz _⟩;refine(hr n h0 a).dC λt m _ e ⟨u,x⟩=>?_;split;exact⟨by omega,e,.kw x.a,⟨x.c,auW⟩,⟨x.d,auW⟩,by grind⟩;refine(d m zo e).dC λ_ o r h _=>?_;refine(acW g hr d f o zo h zo).dC λts q v s y=>?_;have:=g.le (i:=m) (j:=o) r h;exact⟨by omega,s,.rg x.a (y.d.up this (atY _)),⟨x.c,y.c⟩,⟨x.d,y.f⟩,by have:=y.a;grind⟩
def LA(g:TkG l){left right:List UInt8}{h:Nat->PR Tree}{d:Nat->PR Unit}{op:Int}{f:Nat}(hr:∀m,n<m->m<l.length->TG l b m (h m)) (r:∀m,n<m->m<l.length->RG l m (λ_ _=>True) (d m)) (k:n<l.length) (t:l.length<=n+f):
 RG l n (λts m=>n+1<m/\(∀j,n<j->j<l.length->(tk l n).a+1<=(tk l j).a)/\V4 l b (n+1) m ts) (wS l left right h d op f n):=by
 unfold wS;split<;>rename_i c;have⟨o,p⟩:=mD g c k;split;simp[RG];refine(acW g (n0:=n+1) (λm a b=>hr m zo b) (λm a b=>r m zo b) f (n+1) zo o zo).dC λts m u s x=>?_;split<;>rename_i c2;have⟨e,q⟩:=mD g c2 s;have:=q (m+1) zo e;exact⟨by omega,e,by omega,p,x.d.up (atY _) zo,x.c,x.f,by have:=x.a;omega⟩;simp[RG];simp[RG]
def V5(g:TkG l){right:List UInt8}(a:n<l.length):RG l n (λ_ _=>True) (Cu l right n):=by refine(AA g a).dC λ_ m _ c ⟨e,_⟩=>?_;split;simp[RG];exact⟨by omega,c,auW⟩
def Fg(g:TkG l)(a:n<l.length):RG l n (λ_ m=>n<m) (mU l n):=by exact(aFr g zm a).dC λ_ m _ c ⟨e,_⟩=>⟨by omega,c,by omega⟩
section
variable {F:Nat}{ex:Int->Bool->Int->Nat->PR Tree}{hd:Bool}
def tF(l:List Tk)(ex:Int->Bool->Int->Nat->PR Tree)(n0:Nat):Prop:=∀op hd a n,0<=a->n0<n->n<l.length->TG l false n (ex op hd a n)
def tF.up{n0 a:Nat}(x:tF l ex n0)(h:n0<=a):tF l ex a:=λop hd c n h0 e d=>x op hd c n h0 zo d
def acX(g:TkG l)(e:tF l ex n)(c:n<l.length)(d:l.length<=n+F):
 RG l n (λts m=>n+1<m/\(∀j,n<j->j<l.length->(tk l n).a+1<=(tk l j).a)/\V4 l false (n+1) m ts) (Kj l F ex op n):=
 LA g (λm a b=>e _ _ _ m zm a b) (λm _ b=>V5 g b) c d
theorem amc(g:TkG l)(r:tF l ex n)(h:n<l.length):TG l false n (Kl l ex op hd n):=by refine(aFr g zm h).dC λt m _ p ⟨d,f,s⟩=>?_;subst d f;refine(AA g p).dC λ_ o _ a ⟨u,_⟩=>?_;refine(r _ _ _ o zm zo a).dC λx q _ c ⟨v,x⟩=>?_;have w:=g.lt (i:=n) (j:=q) zo c zo;have k:=g.le (i:=n) (j:=o) zo a;exact⟨by omega,c,by omega,.yr qab qab zo (.kw (x.a.up k (atY _))),by simp[aV,fh,aEu,x.c],⟨by simp,x.d,auW⟩,by grind[jU],λe=>by rfl⟩
theorem acY(g:TkG l){sZ:Tree}{n0:Nat}(c:oM l false n0 n sZ)(h0:n0<=n)(p:tF l ex n)(f:n<l.length)(o:l.length<=n+F):RG l n (λt m=>n<m/\oM l false n0 m t) (Cv l F ex op sZ n):=by refine(LA g (b:=false) (λm a b=>amc g (p.up zo) b) (λm _ b=>V5 g b) f o).dC λts m _ d ⟨q,h,x⟩=>?_;have r:=h m zo d;have k:=g.le (i:=n) (j:=n+1) zo zo;have s:=x.a;have u:=c.f;exact⟨by omega,d,by omega,.yr qab qab zo (.rg c.a (x.d.up k (atY _))),qe zm zm zm zm zm ⟨c.c,x.c⟩,⟨by grind,c.d,x.f⟩,by grind[jU],λe=>by grind[aV,Tree.bi]⟩
theorem amd(g:TkG l)(q:tF l ex n)(h:n<l.length):TG l false n (NX l ex op n):=by unfold NX;split<;>rename_i c;have⟨d,f⟩:=mD g c h;split;simp[RG,TG];refine(q _ _ _ (n+1) zm zo d).dC λx m _ p ⟨r,x⟩=>?_;split<;>rename_i c2;have⟨a,o⟩:=mD g c2 p;have s:=o (m+1) zo a;have t:=f (m+1) zo a;have k:=f (n+1) zo d;exact⟨by omega,a,by omega,.yr qab qab zo (.kw (x.a.up zo zo)),by simp[aV,fh,aEu,x.c],⟨by simp,x.d,auW⟩,by grind[jU],λe=>by rfl⟩;simp[RG];simp[RG,TG]
theorem ame{t:Tk}(h:o7 t≠0):t.c≠0/\t.c≠7/\(o7 t=21\/o7 t=22\/o7 t=23\/o7 t=25\/o7 t=24):=by grind[o7]
theorem amf(g:TkG l)(h:tF l ex n)(d:n<l.length)(y:l.length<=n+F):TG l false n (Km l F ex op hd n):=by unfold Km;split<;>rename_i c;have⟨p,q,kk⟩:=ame c;have f:=g.b n d p;have a:=g.lt (i:=n) (j:=n+1) zo f q;split;refine(acY g (sZ:=aV l (n+1) 8 (tk l n).a (tk l n).a (tk l n).b []) (n:=n+1) (n0:=n) ⟨.hd qab (atY _) a,by simp[aV,fh,aEu],by simp[aV,m8,kP],by grind[jU],λe=>by rfl⟩ zo (h.up zo) f zo).bc zo λt m _ _ x=>⟨by omega,x.2⟩;refine⟨by omega,f,by omega,?_,?_,by simp[aV,m8,kP],by grind[jU],λ_=>rfl⟩;rcases kk with e|e|e|e|e<;>rw[e];exact .yr qab qab zo qaj;exact .yr qab qab zo qaj;exact .yr qab qab zo qaj;exact .hd qab (atY _) a;exact .yr qab qab zo qaj;rcases kk with e|e|e|e|e<;>rw[e]<;>simp[aV,fh,aEu];split<;>rename_i c2;have⟨a,k⟩:=mD g c2 d;refine(acX g (h.up zo) a zo).dC λts m _ o ⟨r,s,x⟩=>?_;have u:=k m zo o;have v:=k (n+1+1) zo zo;have w:=x.a;exact⟨by omega,o,by omega,.yr qab qab zo (x.d.up zo (atY _)),qe zm zm zm zm zm x.c,⟨by omega,x.f⟩,by grind[jU],λe=>by rfl⟩;exact amd g h d
theorem Pp(g:TkG l){n0:Nat}:∀(f:Nat)(x:Tree)(n:Nat),n0<n->tF l ex n0->n<l.length->l.length<=n+f->l.length<=n+F->oM l false n0 n x->RG l n (λt m=>oM l false n0 m t) (ye l F ex op hd f x n)
 |0,x,n,_,_,p,v,_,_=>zo
 |f+1,x,n,h0,k,p,v,H,a=>by unfold ye;split<;>rename_i c;have⟨q,w⟩:=mD g c p;refine(aFr g zm q).dC λt m _ d ⟨r,s,E⟩=>?_;subst r s;have z:=w (n+1) zo q;have h:=g.lt (i:=n+1) (j:=n+1+1) zo d zo;have A:=a.f;split;exact(acY g (sZ:=aV l (n+1+1) 9 x.ib (tk l (n+1)).a (tk l (n+1)).b [x]) (n0:=n0) ⟨.VX qab (.kw (a.a.up (atY _) zo)) h,by simp[aV,fh,aEu,a.c],⟨by simp,a.d,auW⟩,by grind[jU],λe=>by grind[aV,Tree.bi]⟩ zo (k.up zo) d zo).dC λy o _ C ⟨B,D⟩=>((Pp g f y o zo k C zo zo D).bc zo λ_ _ _ _ x=>x);exact(Pp g f _ (n+1+1) zo k d zo zo ⟨.VX qab (.kw (a.a.up (atY _) zo)) h,by simp[fh,aEu,a.c],⟨by simp,a.d,auW⟩,by grind[aI7],λe=>by grind[Tree.bi]⟩).bc zo λ_ _ _ _ x=>x;split;refine(acX g (k.up zo) p zo).dC λts m _ d ⟨z,h,y⟩=>?_;have A:=h m zo d;have B:=h (n+1) zo zo;have G:=y.a;have u:=a.f;exact(Pp g f _ m zo k d zo zo ⟨.yr qab qab zo (.rg a.a (y.d.up zo (atY _))),qe zm zm zm zm zm ⟨a.c,y.c⟩,⟨by grind,a.d,y.f⟩,by grind[aI7],λe=>by grind[Tree.bi]⟩).bc zo λ_ _ _ _ x=>x;exact⟨at2 _,p,a⟩
theorem V6(g:TkG l)(a:tF l ex n)(c:n<l.length)(e:l.length<=n+F):TG l false n (aEZ l F ex op hd n):=by exact(amf g a c e).dC λx m _ f ⟨d,x⟩=>((Pp g F _ m d a f zo zo x).bc zo λ_ _ h _ y=>⟨by omega,y⟩)
theorem acZ(g:TkG l):∀(f n:Nat),tF l ex n->n<l.length->l.length<=n+f->l.length<=n+F->TG l false n (G8 l F ex op hd f n)
 |0,n,_,a,o,_=>zo
 |f+1,n,p,a,o,t=>by unfold G8;split<;>rename_i c;have⟨d,h⟩:=mD g c a;refine(acZ g f (n+1) (p.up zo) d zo zo).dC λx m _ k ⟨q,x⟩=>?_;have r:=h m zo k;have s:=h (n+1) zo d;exact⟨by omega,k,by omega,.yr qab qab zo (.kw (x.a.up zo (atY _))),by simp[aV,fh,aEu,x.c],⟨by simp,x.d,auW⟩,by grind[jU],λe=>by rfl⟩;grind[V6]
theorem amg{t:Tk}{a:Int}(h0:0<=a)(h:a<Bb t):t.c≠0/\t.c≠7:=by grind[Bb]
theorem ac0(g:TkG l){h:Int}(o:0<=h){n0:Nat}(q:tF l ex n0):∀(f:Nat)(x:Tree)(n:Nat),n0<n->n<l.length->l.length<=n+f->oM l false n0 n x->RG l n (λt m=>oM l false n0 m t) (G9 l ex op hd h f x n)
 |0,x,n,_,d,r,_=>zo
 |f+1,x,n,h0,d,r,a=>by unfold G9;split<;>rename_i c;have⟨u,v⟩:=amg o c;have k:=g.b n d u;refine(q _ _ _ (n+1) zo zo k).dC λy m _ p ⟨w,y⟩=>?_;have z:=g.lt (i:=n) (j:=m) zo p v;have s:=g.le (i:=n) (j:=n+1) zo k;have A:=a.f;exact(ac0 g o q f _ m zo p zo ⟨.yr qab qab zo (.rg a.a (.kw (y.a.up s (atY _)))),qe zm zm zm zm zm ⟨a.c,y.c,auW⟩,⟨by simp,a.d,y.d,auW⟩,by grind[aI7],λe=>by grind[Tree.bi]⟩).bc zo λ_ _ _ _ x=>x;exact⟨at2 _,d,a⟩
end
def ac1(g:TkG l){F:Nat}(q:l.length<=F):∀(f:Nat)(op:Int)(hd:Bool)(d:Int)(n:Nat),0<=d->n<l.length->l.length<=n+f->TG l false n (zU l F f op hd d n)
 |0,_,_,_,n,_,e,o=>zo
 |f+1,op,hd,d,n,h0,e,o=>by have k:tF l (zU l F f) n:=λop hd d m a b c=>ac1 g q f op hd d m a c zo;exact(acZ g F n k e zo zo).dC λx m _ r ⟨p,x⟩=>((ac0 g h0 k F _ m p r zo x).bc zo λ_ _ h _ y=>⟨by omega,y⟩)
end
section
variable {l:List Tk}{n:Nat}{F:Nat}{ex:Int->Bool->Int->Nat->PR Tree}{st:Int->Nat->PR Tree}{hd:Bool}{b:Bool}
theorem ac2{k f t a:Int}{nm ks}(c:k=10\/k=15)(h:aEu true ks):fh true (.mk k f t a nm ks):=by unfold fh;grind
def ac3:∀{t:Tree}{lo hi:Int},t.bi=25->gX lo hi t->lo<=t.at/\t.at+1<=hi
 |.mk k _ _ a _ ks,lo,hi,e,h=>by have e:=e;subst e;unfold gX at h;rw[if_neg zd,if_pos zd] at h;exact⟨h.1,h.2.le⟩
theorem V7(g:TkG l){n0:Nat}(o:tF l ex n0)(h0:n0<n)(k:n<l.length){x:Tree}{p:Bool}(a:oM l false n0 n x):RG l n (λt m=>oM l true n0 m t) (uj l ex op hd x p n):=by have v:=a.f;unfold uj;split<;>rename_i c;have⟨d,f⟩:=mD g c.2.2 k;refine(o _ _ _ (n+1) zm zo d).dC λy m _ h ⟨q,y⟩=>?_;have⟨s,u⟩:=ac3 c.2.1 a.a;have e:=a.g c.2.1;have r:=f (n+1) zo d;exact⟨by omega,h,.hd qab zo (.kw (y.a.up zo (atY _))),qe zm zm zm zm zm ⟨C9 y.c,auW⟩,⟨by simp,y.d,auW⟩,by grind[jU],λe=>by rfl⟩;split;rename_i e;exact absurd e (acU x a.c);split<;>rename_i c2;have⟨d,f⟩:=mD g c2.2 k;refine(o _ _ _ (n+1) zm zo d).dC λy m _ h ⟨q,y⟩=>?_;have r:=f (n+1) zo d;have w:=f m zo h;exact⟨by omega,h,.yr qab qab zo (.rg a.a (.kw (y.a.up zo (atY _)))),qe zm zm zm zm zm ⟨C9 a.c,C9 y.c,auW⟩,⟨by simp,a.d,y.d,auW⟩,by grind[jU],λe=>by grind[aV,Tree.bi]⟩;split;exact⟨at2 _,k,.yr qab qab zo (.kw a.a),qe zm zm zm zm zm ⟨C9 a.c,auW⟩,⟨by simp,a.d,auW⟩,by grind[jU],λe=>by rfl⟩;simp[RG]
def BH(l:List Tk)(ex:Int->Bool->Int->Nat->PR Tree):Prop:=∀op hd a n,0<=a->n<l.length->TG l false n (ex op hd a n)
def BH.g(x:BH l ex)(n0:Nat):tF l ex n0:=λop hd d n a _ c=>x op hd d n a c
structure sx(l:List Tk)(lo hi:Int)(t:Tree):Prop where
 a:gX lo hi t
 b:fh true t
 c:m8 (l.length+4) t
def sx.z{lo hi:Int}(h:lo<=hi):sx l lo hi zT:=⟨VY h,V0,V2⟩
def oM.o{t:Tree}(x:oM l true n m t):sx l (tk l n).a (tk l m).a t:=⟨x.a,x.c,x.d⟩
def sx.up{lo hi kg d:Int}{t:Tree}(x:sx l lo hi t)(e:kg<=lo)(f:hi<=d):sx l kg d t:=⟨x.a.up e f,x.b,x.c⟩
def ac4(l:List Tk)(n:Nat)(p:Tree×Tree×Tree)(m:Nat):Prop:=∃a b,sx l (tk l n).a a p.1 /\sx l a b p.2.1 /\sx l b (tk l m).a p.2.2
theorem RG.Id{c:Prop}[Decidable c]{r s:PR Tree}{Q:Tree->Nat->Prop}(a:c->RG l n Q r)(d:¬c->RG l n Q s):RG l n Q (if c then r else s):=by grind
theorem amh(g:TkG l)(d:BH l ex)(f:n<l.length)(J:l.length<=n+F):RG l n (ac4 l n) (Ks l F ex op n):=by refine RG.dC (Q:=λ(r:Tree×Tree×Bool) m=>sx l (tk l n).a (tk l m).a r.1 /\sx l (tk l n).a (tk l m).a r.2.1) (n:=n) ?_ λr m h a ⟨q1,q2⟩=>?_;split;refine(d _ _ _ n zm f).dC λx m _ a ⟨h,x⟩=>?_;split;exact⟨by omega,a,.z (g.le zo a),x.t.o⟩;exact(V7 g (d.g n) h a x).dC λi o t c y=>⟨by omega,c,y.o,.z (g.le zo c)⟩;exact⟨at2 _,f,.z (atY _),.z (atY _)⟩;split;exact⟨by omega,a,(tk l n).a,(tk l m).a,.z (atY _),q2,.z (atY _)⟩;refine(Fg g a).dC λ_ o _ c t=>?_;refine RG.dC (Q:=λx q=>sx l (tk l o).a (tk l q).a x) (n:=o) ?_ λx q G A D=>?_;exact RG.Id (λ_=>((d _ _ _ o zm c).bc zl λ_ _ _ _ x=>x.2.t.o)) λ_=>⟨at2 _,c,.z (atY _)⟩;refine(Fg g A).dC λ_ s _ e H=>?_;refine RG.dC (Q:=λx q=>sx l (tk l s).a (tk l q).a x) (n:=s) ?_ λz v I C E=>?_;exact RG.Id (λ_=>⟨at2 _,e,.z (atY _)⟩) λ_=>((V6 g (d.g s) e zo).dC λy u _ B ⟨w,y⟩=>((V7 g (d.g s) w B y).bc zo λ_ _ _ _ x=>x.o));have k:=g.le (i:=m) (j:=o) zo c;have p:=g.le (i:=q) (j:=s) zo e;exact⟨by omega,C,(tk l m).a,(tk l q).a,q1,D.up k (atY _),E.up p (atY _)⟩
theorem ami(g:TkG l)(z:BH l ex)(p:n<l.length):TG l true n (Kt l ex op n):=by refine(AA g p).dC λt m _ s ⟨a,d,y⟩=>?_;subst a d;refine(aFr g (q:=1) zm s).dC λu o _ f ⟨a,d,A⟩=>?_;subst a d;have⟨_,w⟩:=mD g y p;have a3:=w (n+1) zo s;have a4:=g.lt (i:=n+1) (j:=n+1+1) zo f zo;refine RG.dC (Q:=λx q=>sx l (tk l (n+1+1)).a (tk l q).a x) (n:=n+1+1) ?_ λty q B v h=>?_;exact RG.Id (λ_=>⟨at2 _,f,.z (atY _)⟩) λ_=>((V3 g f).bc zl λ_ _ _ _ x=>x.2.t.o);refine RG.dC (Q:=λx r=>sx l (tk l q).a (tk l r).a x) (n:=q) ?_ λe r C hr k=>?_;split<;>rename_i c;have⟨c1,c2⟩:=mD g c v;have c3:=c2 (q+1) zo c1;exact(z _ _ _ (q+1) zm c1).bc zo λ_ _ _ _ x=>x.2.t.o.up zo (atY _);exact⟨at2 _,v,.z (atY _)⟩;exact⟨by omega,hr,by omega,.hd qab zo (.rg (h.a.up zo (atY _)) (.kw k.a)),qe zm zm zm zm zm ⟨h.b,k.b,auW⟩,⟨by simp,h.c,k.c,auW⟩,by grind[jU],λe=>by grind[aV,Tree.bi]⟩
theorem ac5(g:TkG l){k:Int}(q:k=17\/k=18){ws}(c:bD (tk l n) ws=true)(h:n<l.length):TG l true n (Ht l k n):=by
 have⟨a,o⟩:=mD g c h;have f:=o (n+1) zo a;have hh:BG k=true:=by rcases q with rfl|rfl<;>decide
 unfold Ht;split<;>rename_i c2;exact⟨by omega,a,by omega,.hd hh (atY _) f,qe zo zo zo zo zo trivial,by simp[aV,m8,kP],by grind[jU],λe=>by rfl⟩;have d:=g.b (n+1) a zo;have p:=g.lt (i:=n+1) (j:=n+1+1) zo d zo;exact⟨by omega,d,by omega,.hd hh zo p,qe zo zo zo zo zo trivial,by simp[aV,m8,kP],by grind[jU],λe=>by grind[aV,Tree.bi]⟩
def BI(l:List Tk)(st:Int->Nat->PR Tree)(n0:Nat):Prop:=∀op n,n0<n->n<l.length->TG l true n (st op n)
def BI.up{n0 a:Nat}(x:BI l st n0)(h:n0<=a):BI l st a:=λop n d c=>x op n zo c
theorem ac6(g:TkG l)(k:BI l st n)(f:n<l.length)(h:l.length<=n+F):RG l n (λt m=>n<m/\oM l true n m t/\aEu true t.fg) (vE l F st op n):=by refine(LA g (b:=true) (λm a b=>k _ m a b) (λm _ b=>(Fg g b).bc zl λ_ _ _ _ _=>trivial) f h).dC λts m _ d ⟨o,c,x⟩=>?_;have p:=c m zo d;have q:=c (n+1) zo zo;have r:=x.a;exact⟨by omega,d,by omega,⟨.yr qab qab zo (x.d.up zo (atY _)),ac2 (.inl rfl) x.c,⟨by omega,x.f⟩,by grind[jU],λe=>by rfl⟩,x.c⟩
def Pq(g:TkG l)(d:BI l st n)(a:n<l.length)(c:l.length<=n+F):TG l true n (vE l F st op n):=(ac6 g d a c).bc zl λ_ _ _ _ x=>⟨x.1,x.2.1⟩
theorem ac7(g:TkG l)(u:BH l ex):∀(f n:Nat),BI l st n->n<l.length->l.length<=n+f->l.length<=n+F->TG l true n (Hu l F ex st op f n)
 |0,n,_,h,B,_=>zo
 |f+1,n,k,h,B,L=>by refine(AA g h).dC λt m _ p ⟨y,z,A⟩=>?_;subst y z;have⟨_,v⟩:=mD g A h;have a3:=v (n+1) zo p;refine(u _ _ _ (n+1) zm p).dC λc o _ C ⟨I,c⟩=>?_;refine(Pq g (k.up zo) C zo).dC λa q _ s ⟨J,a⟩=>?_;refine RG.dC (Q:=λx r=>sx l (tk l q).a (tk l r).a x) (n:=q) ?_ λe r K hr d=>?_;split<;>rename_i c2;have⟨c3,w⟩:=mD g c2 s;have H:=w (q+1) zo c3;split;exact(ac7 g u f (q+1) (k.up zo) c3 zo zo).bc zo λ_ _ _ _ x=>x.2.o.up zo (atY _);exact(Pq g (k.up zo) c3 zo).bc zo λ_ _ _ _ x=>x.2.o.up zo (atY _);exact⟨at2 _,s,.z (atY _)⟩;have D:=a.a.le;have E:=d.a.le;have G:=c.a.le;exact⟨by omega,hr,by omega,.yr qab qab zo (.rg (c.a.up zo (atY _)) (.rg a.a (.kw d.a))),qe zm zm zm zm zm ⟨C9 c.c,a.c,d.b,auW⟩,⟨by simp,c.d,a.d,d.c,auW⟩,by grind[jU],λe=>by rfl⟩
theorem ac8(g:TkG l)(H:BH l ex)(y:BI l st n)(h:n<l.length)(G:l.length<=n+F):TG l true n (Hv l F ex st op n):=by refine(AA g h).dC λt m _ k ⟨s,u,v⟩=>?_;subst s u;have⟨_,r⟩:=mD g v h;have a3:=r (n+1) zo k;refine RG.dC (Q:=ac4 l (n+1)) (n:=n+1) ?_ λp o E w ⟨a,b,d,f,z3⟩=>?_;split;exact⟨at2 _,k,_,_,.z (atY _),.z (atY _),.z (atY _)⟩;grind[amh];refine(Pq g (y.up zo) w zo).dC λc q _ x ⟨D,c⟩=>?_;have z:=c.a.le;have A:=d.a.le;have B:=f.a.le;have C:=z3.a.le;exact⟨by omega,x,by omega,.yr qab qab zo (.rg (d.a.up zo (atY _)) (.rg f.a (.rg z3.a (.kw c.a)))),ac2 (.inr rfl) ⟨d.b,f.b,z3.b,c.c,auW⟩,⟨by simp,d.c,f.c,z3.c,c.d,auW⟩,by grind[jU],λe=>by rfl⟩
theorem amj(g:TkG l)(d:BH l ex)(r:BI l st n)(a:n<l.length)(p:l.length<=n+F):TG l true n (Ku l F ex st op n):=by refine RG.Id (λ_=>Pq g r a p) λ_=>?_;refine RG.Id (λ_=>ac7 g d F n r a p p) λ_=>?_;refine RG.Id (λ_=>ac8 g d r a p) λ_=>?_;refine RG.Id (λ_=>ami g d a) λ_=>?_;refine RG.Id (λc=>ac5 g (.inl rfl) c a) λ_=>?_;refine RG.Id (λc=>ac5 g (.inr rfl) c a) λ_=>?_;refine RG.Id (λc=>?_) λ_=>?_;have⟨f,k⟩:=mD g c a;have t:=k (n+1) zo f;refine RG.Id (λ_=>?_) λ_=>?_;exact⟨by omega,f,by omega,.yr qab qab zo qaj,qe zm zm zm zm zm trivial,by simp[aV,m8,kP],by grind[jU],λe=>by rfl⟩;refine(d _ _ _ (n+1) zm f).dC λx m _ q ⟨s,x⟩=>?_;have u:=k m zo q;exact⟨by omega,q,by omega,.yr qab qab zo (.kw (x.a.up zo (atY _))),qe zm zm zm zm zm ⟨C9 x.c,auW⟩,⟨by simp,x.d,auW⟩,by grind[jU],λe=>by rfl⟩;refine(V6 g (d.g n) a p).dC λx m _ q ⟨f,x⟩=>?_;split<;>rename_i c;have⟨k,s⟩:=mD g c.2 q;have t:=s (m+1) zo k;have⟨u,a3⟩:=ac3 c.1 x.a;exact(ac8 g d (r.up zo) k zo).dC λy o _ v ⟨w,y⟩=>(⟨by omega,v,by omega,.hd qab (atY _) (.kw (y.a.up zo (atY _))),qe zm zm zm zm zm ⟨y.c,auW⟩,⟨by simp,y.d,auW⟩,by grind[jU],λe=>by rfl⟩);exact(V7 g (d.g n) f q x).bc zo λ_ _ h _ y=>⟨by omega,y⟩
def ac9(g:TkG l)(e:BH l ex)(k:l.length<=F):∀(f:Nat)(op:Int)(n:Nat),n<l.length->l.length<=n+f->TG l true n (Hw l F ex f op n)
 |0,_,n,d,h=>zo
 |f+1,op,n,d,h=>by exact amj g e (λop m a c=>ac9 g e k f op m c zo) d zo
end
section
variable {l:List Tk}{n:Nat}{F:Nat}{ex:Int->Bool->Int->Nat->PR Tree}{st:Int->Nat->PR Tree}
theorem RG.ada{a:Type}{c:Prop}[Decidable c]{r s:PR a}{Q:a->Nat->Prop}(b:c->RG l n Q r)(d:¬c->RG l n Q s):RG l n Q (if c then r else s):=by grind
def aGM(l:List Tk):Prop:=∀n,(tk l n).b.length<4294967296
theorem amk(g:TkG l)(v:aGM l)(p:n<l.length):RG l n (λt m=>n<m/\oM l false n m t/\t.fg≠[]/\(t.fg.headD zT).bj.length<4294967296) (Kv l op n):=by unfold Kv;split<;>rename_i c;have⟨d,r⟩:=mD g c p;have w:=r (n+1) zo d;split;simp[RG];refine(aFr g (q:=1) zm d).dC λt m _ h ⟨a,b,y⟩=>?_;subst a b;refine(aFr g (q:=1) zm h).dC λu o _ k ⟨a,b,z⟩=>?_;subst a b;have x:=g.lt (i:=n+1) (j:=n+1+1) zo h zo;have a3:=g.lt (i:=n+1+1) (j:=n+1+1+1) zo k zo;split<;>rename_i c2;have⟨f,s⟩:=mD g c2 k;have a4:=s (n+1+1+1+1) zo f;exact⟨by omega,f,by omega,⟨.hd qab zo (.kw (.hd qab zo (by show(tk l (n+1+1)).a+1<=(tk l (n+1+1+1+1)).a;omega))),qe zm zm zm zm zm ⟨qe zm zm zm zm zm trivial,auW⟩,⟨by simp,⟨by simp,auW⟩,auW⟩,by grind[jU],λe=>by rfl⟩,by simp[aV,Tree.fg],v _⟩;simp[RG];simp[RG]
theorem aml{b:Bool}{f t a:Int}{nm}{g h:Tree}{ps e:List Tree}{k o p q y1 y2 y3 y4 c d}(h0:fh false g)(r:aEu false ps)(s:fh false h)(u:aEu true e):fh b (.mk 5 f t a nm [g,.mk k o p q c ps,h,.mk y1 y2 y3 y4 d e]):=by unfold fh;grind
def Tree.eta(t:Tree):t=.mk t.bi t.ib t.toz t.at t.bj t.fg:=by cases t;rfl
theorem amm(g:TkG l)(D:aGM l)(G:BI l st n)(y:n<l.length)(V:l.length<=n+F):RG l n (λt m=>n<m/\oM l false n m t/\yN t) (Kw l F st op n):=by refine(AA g y).dC λt m _ k ⟨c,d,C⟩=>?_;subst c d;have⟨_,p⟩:=mD g C y;have M:=p (n+1) zo k;refine RG.dC (Q:=λx o=>gX (tk l (n+1)).a (tk l o).a x/\fh false x/\m8 (l.length+4) x/\(x.bi≠0->x.fg≠[]/\(x.fg.headD zT).bj.length<4294967296)) (n:=n+1) ?_ λr o R E ⟨J,r2,K,L⟩=>?_;split;exact(amk g D k).bc zl λ_ _ _ _ x=>⟨x.2.1.a,x.2.1.c,x.2.1.d,λ_=>x.2.2⟩;exact⟨at2 _,k,VY (atY _),V0,V2,λh=>absurd rfl h⟩;refine(aFr g (q:=1) zm E).dC λu q _ A ⟨c,d,P⟩=>?_;subst c d;have N:=g.lt (i:=o) (j:=o+1) zo A zo;refine(LA g (b:=false) (λm _ b=>acV g (.inr rfl) b) (λm _ b=>V5 g b) A zo).dC λps s _ f ⟨S,z,x⟩=>?_;have a3:=z s zo f;have a4:=z (o+1+1) zo zo;have W:=x.a;refine RG.dC (Q:=λx v=>gX (tk l s).a (tk l v).a x/\fh false x/\m8 (l.length+4) x) (n:=s) ?_ λty v T H ⟨t1,t2,t3⟩=>?_;exact RG.Id (λ_=>⟨at2 _,f,VY (atY _),V0,V2⟩) λ_=>((V3 g f).bc zl λ_ _ _ _ x=>⟨x.2.a,x.2.c,x.2.d⟩);refine(ac6 g (G.up zo) H zo).dC λbT w _ I ⟨U,a,B⟩=>?_;have p:=a.a.le;have O:=t1.le;refine⟨by omega,I,by omega,⟨.fn (J.up zo (atY _)) (.rg (md:=(tk l s).a) (.yr qab qab zo (x.d.up zo (atY _))) (.rg t1 (.kw a.a))),?_,⟨by simp,K,⟨by omega,x.f⟩,t3,a.d,auW⟩,by grind[jU],λe=>by grind[aV,Tree.bi]⟩,.inr (.inr ⟨by simp[aV,Tree.bi],by simp[aV,Tree.fg],L⟩)⟩;rw[Tree.eta bT];exact aml r2 x.c t2 B
theorem amn(g:TkG l)(y:aGM l)(f:n<l.length)(E:l.length<=n+F):RG l n (λt m=>n<m/\oM l false n m t/\yN t) (Ky l F op n):=by refine(AA g f).dC λt m _ k ⟨a,c,w⟩=>?_;subst a c;refine(aFr g (q:=1) zm k).dC λu o _ p ⟨a,c,B⟩=>?_;subst a c;refine(AA g p).dC λ_ q _ r ⟨a,_,C⟩=>?_;subst a;have⟨_,v⟩:=mD g w f;have z:=v (n+1) zo k;have A:=g.lt (i:=n+1) (j:=n+1+1) zo p zo;refine(LA g (b:=false) (λm _ b=>acV g (.inl rfl) b) (λm _ b=>(Fg g b).bc zl λ_ _ _ _ _=>trivial) r zo).dC λps s _ d ⟨D,h,x⟩=>?_;have a3:=h s zo d;have a4:=h (n+1+1+1+1) zo zo;have a5:=g.le (i:=n+1+1) (j:=n+1+1+1) zo r;have G:=x.a;exact⟨by omega,d,by omega,⟨.hd qab zo (x.d.up zo (atY _)),qe zm zm zm zm zm x.c,⟨by omega,x.f⟩,by grind[jU],λe=>by grind[aV,Tree.bi]⟩,.inr (.inl ⟨rfl,y _⟩)⟩
theorem amo(g:TkG l){o}(a:n<l.length):RG l n (λt m=>n<m/\oM l false n m t/\yN t) (Ac l o n):=by refine(AA g a).dC λt m _ d ⟨h,k,p⟩=>?_;subst h k;have⟨_,f⟩:=mD g p a;have q:=f (n+1) zo d;split<;>rename_i c;simp[RG];split;simp[RG];have b:=g.b (n+1) d zo;have r:=g.lt (i:=n+1) (j:=n+1+1) zo b zo;exact⟨by omega,b,by omega,⟨.hd qab zo (by show _<=(tk l (n+1+1)).a;omega),qe zm zm zm zm zm trivial,by simp[aV,m8,kP],by grind[jU],λe=>by grind[aV,Tree.bi]⟩,.inl rfl⟩
structure Fh(l:List Tk)(n0 n:Nat)(ts:List Tree):Prop where
 b:gZ (tk l n0).a (tk l n).a ts
 f:aEu false ts
 j:kP (l.length+4) ts
 a:ts.length<=n
 d:∀t∈ts,yN t
def adb{b:Bool}:∀{ts a:List Tree},aEu b ts->aEu b a->aEu b (ts++a)
 |[],_,_,h=>h
 |_::_,_,h,c=>⟨h.1,adb h.2 c⟩
def ade{N:Nat}:∀{ts a:List Tree},kP N ts->kP N a->kP N (ts++a)
 |[],_,_,h=>h
 |_::_,_,h,b=>⟨h.1,ade h.2 b⟩
theorem Fh.add{n0:Nat}{ts:List Tree}{t:Tree}(g:TkG l)(x:Fh l n0 n ts)(y:oM l false n m t)(h:yN t)(k:n<m)(d:m<=i)(hi:i<l.length):Fh l n0 i (ts++[t]):=
 ⟨x.b.ss (.kw (y.a.up (atY _) (g.le d hi))),adb x.f ⟨y.c,auW⟩,ade x.j ⟨y.d,auW⟩,by have:=x.a;grind,λu e=>by rcases auj.1 e with c|c;exact x.d u c;grind⟩
def adf(g:TkG l){n0:Nat}(o:List UInt8->List UInt8×Bool):∀(f n:Nat)(a:List Tree),n<l.length->l.length<=n+f->Fh l n0 n a->RG l n (λts m=>Fh l n0 m ts) (vH l o f n a)
 |0,n,_,b,d,_=>zo
 |f+1,n,a,b,d,x=>by exact RG.ada (λ_=>((amo g b).dC λt m _ h ⟨e,y,hd⟩=>((Fg g h).dC λ_ q _ c k=>((adf g o f q _ c zo (x.add g y hd e zo c)).bc zo λ_ _ _ _ x=>x)))) λ_=>⟨at2 _,b,x⟩
def adg(g:TkG l)(d:aGM l)(h:∀op n,n<l.length->TG l true n (st op n)) (p:l.length<=F) {n0:Nat}:∀(f:Nat)(n:Nat)(b:List Tree),n<l.length->l.length<=n+f->Fh l n0 n b->RG l n (λts m=>Fh l n0 m ts) (yp l F st f n b)
 |0,n,_,a,k,_=>zo
 |f+1,n,b,a,k,x=>by exact RG.ada (λ_=>(RG.dC (Q:=λt m=>n<m/\oM l false n m t/\yN t) (n:=n) (RG.Id (λ_=>amn g d a zo) λ_=>amm g d (λop m _ c=>h op m c) a zo) λt m _ r ⟨o,y,hd⟩=>((Fg g r).dC λ_ q _ e s=>((adg g d h p f q _ e zo (x.add g y hd o zo e)).bc zo λ_ _ _ _ x=>x)))) λ_=>⟨at2 _,a,x⟩
structure rG(N:Nat)(lo hi:Int)(t:Tree):Prop where
 b:t.bi=1
 g:t.at<hi
 c:gZ lo hi t.fg
 i:aEu false t.fg
 f:kP N t.fg
 a:t.fg.length<=N
 d:∀t'∈t.fg,yN t'
 j:gZ (t.at+1) hi t.fg
theorem amq(g:TkG l)(p:aGM l)(z:∀op n,n<l.length->TG l true n (st op n)) (k:l.length<=F) {b:Int} {o} (f:0<l.length):RG l 0 (λt m=>rG (l.length+4) (tk l 0).a (tk l m).a t) (Ad l F st b o 0):=by refine(AA g f).dC λt m _ w ⟨d,a,B⟩=>?_;refine(aFr g (q:=1) zm w).dC λu q _ c ⟨d,a,C⟩=>?_;refine(Fg g c).dC λ_ r _ hr D=>?_;refine(adf g (n0:=r) o F r [] hr zo ⟨atY _,auW,auW,auz _,λ_ h=>by grind⟩).dC λis s _ e x=>?_;refine(adg g p z k F s is e zo x).dC λds v _ A y=>?_;have:=g.le (i:=0) (j:=r) zo hr;have c1:=y.b.le;have c2:=g.le (i:=q) (j:=r) zo hr;have c3:=g.lt (i:=m) (j:=q) zo c zo;exact⟨by omega,A,rfl,by rw[a];show(tk l m).a<_;omega,y.b.up this (atY _),y.f,y.j,by have:=y.a;show ds.length<=_;omega,y.d,y.b.up (by rw[a];show(tk l m).a+1<=_;omega) (atY _)⟩
end
def nJ.ut{e:Tk}:∀{l:List Tk}{lo:Int},nJ lo l e.a->lo<=(tk (l++[e]) 0).a
 |[],_,h=>h
 |_::_,_,h=>h.1
theorem nJ.ab{e:Tk}:∀{l:List Tk}{lo:Int},nJ lo l e.a->∀n,n+1<(l++[e]).length->(tk (l++[e]) n).a+(if(tk (l++[e]) n).c=7 then 0 else 1)<=(tk (l++[e]) (n+1)).a
 |[],_,_,n,a=>by grind
 |t::l,_,h,0,_=>h.2.ut
 |t::l,_,h,n+1,a=>h.2.ab n qaa
theorem adh{l:List Tk}{n:Nat}(h:n<l.length):tk l n∈l:=by grind[tk]
theorem adi{l:List Tk}{n:Nat}(h:l.length<=n):tk l n=⟨0,[],0,0⟩:=by grind[tk]
section
variable {s:List UInt8}{l:List Tk}{n:Nat}
theorem adj(h:C8 s (.b l n)):fc (l++[fD s]):=by intro n b a;grind[tk,fD]
def amr(h:C8 s (.b l n)):TkG (l++[fD s]):=⟨adj h,λn a=>(show nJ 0 l (fD s).a from h.1).ab n a⟩
theorem adk(h:C8 s (.b l n))(m:Nat):(tk (l++[fD s]) m).b.length<=s.length:=by rcases avh m (l++[fD s]).length with c|c;rcases auj.1 (adh c) with q|q;exact(h.2.1 _ q).2;grind[fD];rw[adi c];simp
mutual
theorem m8.up{N M:Nat}(h:N<=M):∀{t:Tree},m8 N t->m8 M t
 |.mk _ _ _ _ _ ks,x=>⟨at1 x.1 h,kP.up h x.2⟩
theorem kP.up{N M:Nat}(h:N<=M):∀{ts:List Tree},kP N ts->kP M ts
 |[],_=>trivial
 |_::_,x=>⟨m8.up h x.1,kP.up h x.2⟩
end
theorem adl(h:C8 s (.b l n))(u:s.length<16777216)(f:List UInt8->List UInt8×Bool):RG (l++[fD s]) 0 (λt _=>rG (s.length+6) 0 s.length t) (sj (l++[fD s]) s.length f):=by
 have g:=amr h;have q:=h.2.2;have o:(l++[fD s]).length=l.length+1:=by simp
 have k:=(show nJ 0 l (fD s).a from h.1).ut;have v:(tk (l++[fD s]) l.length).a=s.length:=by simp[tk,fD]
 generalize p:l++[fD s]=L at*;have e:BH L (zU L (lY L) (lY L)):=λop hd c n a b=>ac1 g qap _ op hd c n a b qap;have d:=λop n b=>ac9 (F:=lY L) g e qap (lY L) op n b qap;refine(amq g (λm=>?_) d qap zo).bc zl λt m _ r x=>?_;grind[adk];have:=g.le (i:=m) (j:=l.length) zo zo;exact⟨x.b,by have:=x.g;omega,x.c.up k zo,x.i,x.f.up zo,by have:=x.a;omega,x.d,x.j.up (atY _) zo⟩
end
def Pr(s:List UInt8):PR Tree->Prop
 |.b t _=>rG (s.length+6) 0 s.length t
 |.d _ e=>e≠0
 |.c=>False
def V8(O:Orc)(s:List UInt8)(a:s.length<16777216):Pr s (Al O s):=by
 have h:=Pn O s;unfold Al;revert h;generalize aE0 O s=r;intro h;cases r with
 |d=>exact h
 |c=>exact h
 |b l n=>
  have t:=adl h a (aET O);show Pr s ((sj (l++[fD s]) s.length (aET O)).dC _);revert t;generalize sj (l++[fD s]) s.length (aET O)=r;intro t;cases r with
  |d=>exact t
  |c=>exact t
  |b t m=>
   show Pr s (if _ then _ else _);split;simp[Pr];exact t.2.2
mutual
theorem m8.t{N:Nat}(h:N<4294967296):∀{t:Tree},m8 N t->rY t
 |.mk _ _ _ _ _ ks,x=>⟨auD x.1 h,kP.t h x.2⟩
theorem kP.t{N:Nat}(h:N<4294967296):∀{ts:List Tree},kP N ts->aEU ts
 |[],_=>trivial
 |_::_,x=>⟨m8.t h x.1,kP.t h x.2⟩
end
def rG.PH{N:Nat}{lo hi:Int}{t:Tree}(x:rG N lo hi t)(h:N<4294967296):rY t:=by rw[Tree.eta t];exact⟨auD x.a h,x.f.t h⟩
def rG.fh{N:Nat}{lo hi:Int}{t:Tree}(x:rG N lo hi t):Yv.fh false t:=by rw[Tree.eta t,x.b];exact qe zm zm zm zm zm x.i
theorem adn(O:Orc)(s:List UInt8)(i:s.length<16777216):O3 O s where
 b:=i
 f l n e:=by have h:=Pn O s;rw[e] at h;exact⟨adj h,λm _=>by grind[adk],by have:=h.2.2;omega⟩
 d p e h:=by have:=Pn O s;rw[h] at this;exact this
 g l n t m e h:=by have g:=Pn O s;rw[e] at g;have:=adl g i (aET O);rw[h] at this;exact this.2.2.PH zo
 c h:=by have:=V8 O s i;rw[h] at this;exact this
 a p e h:=by have:=V8 O s i;rw[h] at this;exact this
structure C'(Pd:aC->Prop)(u:dx)(nd:List aC):Prop where
 h:u.f=false->u.d=qG
 c:u.f=true->u.d.a=u.b
 b:u.f=true->u.d∈nd
 g:u.f=true->u.d.b=7\/u.d.b=6\/u.d.b=8->u.d.c=u.a/\u.d.f<u.c
 f:u.f=true->u.d.b=1->u.d.c=u.a
 a:u.f=true->u.d.b≠5/\u.d.b≠4
 i:u.f=true->u.d.b=2->Pd u.d
section
variable {Pd:aC->Prop}
variable {E:fM}{nd v j:List aC}{c A lo md hi:Int}{m ar:KM}{ms:List KM}{aN:Bool}{s s' l:WS}{nm:List UInt8}{o:Option aC}
def qJ(E:fM)(nd:List aC)(c:Int)(m:KM):Prop:=∀s d,m s=some d->d.a=s/\(d.b=6\/d.b=7\/d.b=8)/\d.c=E.j/\d.f<c/\d∈nd
theorem qJ.up(x:qJ E nd c m)(h:c<=A)(k:∀d∈nd,d∈v):qJ E v A m:=λs d e=>by obtain⟨a,b,f,g,i⟩:=x s d e;grind
def qJ.z:qJ E nd c aX:=λs d e=>by cases e
def tG(Pd:aC->Prop)(E:fM)(nd:List aC)(lo:Int):List dx->Int->Prop
 |[],hi=>lo<=hi
 |u::a,hi=>lo<=u.c/\u.a=E.j/\C' Pd u nd/\tG Pd E nd (u.c+1) a hi
def C'.up{u:dx}(x:C' Pd u nd)(k:∀d∈nd,d∈v):C' Pd u v:=⟨x.h,x.c,λe=>k _ (x.b e),x.g,x.f,x.a,x.i⟩
def tG.ss:∀{d vs:List dx}{lo:Int},tG Pd E nd lo d md->tG Pd E nd md vs hi->tG Pd E nd lo (d++vs) hi
 |[],[],_,a,b=>avU a b
 |[],_::_,_,a,b=>⟨avU a b.1,b.2⟩
 |_::_,_,_,a,b=>⟨a.1,a.2.1,a.2.2.1,a.2.2.2.ss b⟩
def tG.up(b:∀d∈nd,d∈v):∀{e:List dx}{lo:Int},tG Pd E nd lo e hi->tG Pd E v lo e hi
 |[],_,a=>a
 |_::_,_,a=>⟨a.1,a.2.1,a.2.2.1.up b,a.2.2.2.up b⟩
theorem tG.pi:∀{b:List dx}{lo:Int},tG Pd E nd lo b hi->lo+b.length<=hi
 |[],_,a=>by have a:_<=hi:=a;grind
 |_::_,_,a=>by have:=a.2.2.2.pi;have:=a.1;grind
structure WG(Pd:aC->Prop)(E:fM)(lo hi:Int)(s s':WS):Prop where
 f:lo<=hi
 c:∀d∈s.a.c,d∈s'.a.c
 m:qJ E s'.a.c hi s'.m
 g:qJ E s'.a.c hi s'.b
 i:∃new,s'.a.b=s.a.b++new/\tG Pd E s'.a.c lo new hi
structure xz(E:fM)(j:List aC)(ms:List KM)(ar:KM)(lo:Int)(s:WS):Prop where
 a:∀d∈j,d∈s.a.c
 f:∀m∈ms,qJ E s.a.c lo m
 c:qJ E s.a.c lo ar
 m:qJ E s.a.c lo s.m
 b:qJ E s.a.c lo s.b
def xz.km(x:xz E j ms ar lo s)(w:WG Pd E lo hi s s'):xz E j ms ar hi s':=
 ⟨λd h=>w.c d (x.a d h),λm h=>(x.f m h).up w.f w.c,x.c.up w.f w.c,w.m,w.g⟩
theorem WG.ba(a:WG Pd E lo md s s')(b:WG Pd E md hi s' l):WG Pd E lo hi s l:=by obtain⟨e,q,n⟩:=a.i;obtain⟨k,r,p⟩:=b.i;exact⟨avU a.f b.f,λd h=>b.c d (a.c d h),b.m,b.g,e++k,by grind,(n.up b.c).ss p⟩
def xz.rp(x:xz E j ms ar lo s)(h:lo<=hi):WG Pd E lo hi s s:=⟨h,λ_ h=>h,x.m.up h λ_ h=>h,x.b.up h λ_ h=>h,[],by simp,h⟩
structure Pt(Pd:aC->Prop)(E:fM)(j:List aC):Prop where
 b:∀q,∀d∈E.a q,(d.b=2\/d.b=3)/\d∈j
 a:∀x∈(E.f.getD E.j zT).fg,x.bi=2->⟨1,x.bj,E.j,x.at,x.bj⟩∈j
 p:∀q,∀d∈E.a q,Pd d
def Ij(Pd:aC->Prop)(E:fM)(nd:List aC)(c:Int)(nm:List UInt8)(o:Option aC):Prop:=∀d,o=some d->d.a=nm/\d∈nd/\(d.b=7\/d.b=6\/d.b=8->d.c=E.j/\d.f<c)/\(d.b=1->d.c=E.j)/\d.b≠5/\d.b≠4/\(d.b=2->Pd d)
theorem qJ.jk(x:qJ E nd c m):Ij Pd E nd c nm (m nm):=λd e=>by obtain⟨a,b,f,g,i⟩:=x nm d e;grind
theorem ado:∀{ms:List KM},(∀m∈ms,qJ E nd c m)->Ij Pd E nd c nm (aEC ms nm)
 |[],_=>λd e=>by simp[aEC] at e
 |m::ms,h=>by unfold aEC;have a:=(h m zm).jk (Pd:=Pd) (nm:=nm);split<;>rename_i e;grind;exact ado λm b=>h m qaa
theorem adp(t:Pt Pd E j)(g:∀d∈j,d∈nd) {q:List UInt8}:Ij Pd E nd c nm (uy (E.a q) nm):=λd e=>by unfold uy at e;have f:=avP e;obtain⟨a,b⟩:=t.b q d f;exact⟨by grind,g d b,λ_=>by omega,λ_=>by omega,by omega,by omega,λ_=>t.p q d f⟩
theorem ams(t:Pt Pd E j)(g:∀d∈j,d∈nd) (i:∀m∈ms,qJ E nd c m):Ij Pd E nd c nm (qH E ms nm):=by unfold qH EU;have a:=ado (Pd:=Pd) (nm:=nm) i;split<;>rename_i e;grind;split<;>rename_i b;have h:=avP b;have f:=List.find?_some b;simp at f;have:=g _ (t.a _ h f.1);intro d e;grind;exact adp t g
def V9(x:xz E j ms ar lo s){a:Int}(n:lo<=a)(p:a+1<=hi)(r:Ij Pd E s.a.c a nm o):WG Pd E lo hi s ⟨s.m,s.b,lD E a nm o s.a⟩:=by
 have k:lo<=hi:=zo;refine⟨k,λ_ h=>h,x.m.up k λ_ h=>h,x.b.up k λ_ h=>h,_,rfl,n,rfl,?_,p⟩;cases o with
 |none=>exact⟨λ_=>rfl,nofun,nofun,nofun,nofun,nofun,nofun⟩
 |some d=>
  obtain⟨a,b,c,e,f,g,i⟩:=r d rfl;exact⟨nofun,λ_=>a,λ_=>b,λ_=>c,λ_=>e,λ_=>⟨f,g⟩,λ_=>i⟩
theorem Wa(x:qJ E nd c m){d:aC}(k:d.b=6\/d.b=7\/d.b=8)(n:d.c=E.j)(p:d.f<c):qJ E (d::nd) c (rA m d.a d):=λs e h=>by unfold rA at h;split at h<;>rename_i q;grind;obtain⟨a,b,f,g,i⟩:=x s e h;grind
def adq(x:xz E j ms ar lo s){d:aC}(hh:lo<=hi)(a:d.b=6\/d.b=7\/d.b=8)(b:d.c=E.j)(e:d.f<hi):WG Pd E lo hi s (HK d s):=
 ⟨hh,λ_ h=>.tail _ h,Wa (x.m.up hh λ_ h=>h) a b e,x.b.up hh λ_ h=>.tail _ h,[],by simp[HK,HJ,K4],hh⟩
def amt(x:xz E j ms ar lo s){d:aC}(hh:lo<=hi)(a:d.b=6\/d.b=7\/d.b=8)(b:d.c=E.j)(e:d.f<hi):WG Pd E lo hi s (EW d s):=
 ⟨hh,λ_ h=>.tail _ h,x.m.up hh λ_ h=>.tail _ h,Wa (x.b.up hh λ_ h=>h) a b e,[],by simp[EW,HJ,K4],hh⟩
def Pu(Pd:aC->Prop)(E:fM)(j:List aC)(t:Tree):Prop:=∀lo hi aN ms ar s,gX lo hi t->xz E j ms ar lo s->WG Pd E lo hi s (fU E ms aN ar t s)
theorem Fi:∀{ts:List Tree}{lo:Int}{s:WS},(∀t∈ts,Pu Pd E j t)->gZ lo hi ts->xz E j ms ar lo s->WG Pd E lo hi s (jF E ms aN ar ts s)
 |[],_,_,_,o,x=>by exact x.rp o
 |t::ts,_,_,h,⟨md,b,d⟩,x=>by have a:=h t zm _ _ aN ms ar _ b x;exact a.ba (Fi (λt e=>h t qaa) d (x.km a))
def amu:∀{t:Tree}{lo hi:Int},t.bi≠0->gX lo hi t->t.at<hi
 |.mk k _ _ a _ ks,lo,hi,e,h=>by have e:k≠0:=e;unfold gX at h;show a<hi;split at h;omega;split at h;have:=h.2.le;omega;split at h;split at h;exact h.elim;have:=h.2.le;omega;omega
theorem adr:∀{ts:List Tree}{lo:Int}{s:WS},(∀t∈ts,Pu Pd E j t)->gZ lo hi ts->xz E j [] aX lo s->WG Pd E lo hi s (oD E ts s)
 |[],_,_,_,o,x=>by exact x.rp o
 |t::ts,lo,s,h,⟨md,d,e⟩,x=>by
  have a:=h t zm _ _ false [] aX ⟨aX,aX,s.a⟩ d ⟨x.a,x.f,x.c,.z,.z⟩;have b:WG Pd E lo md s ⟨s.m,s.b,(fU E [] false aX t ⟨aX,aX,s.a⟩).a⟩:=⟨a.f,a.c,x.m.up a.f a.c,x.b.up a.f a.c,a.i⟩;have y:=x.km b;have c:WG Pd E lo md s (tj E t ⟨s.m,s.b,(fU E [] false aX t ⟨aX,aX,s.a⟩).a⟩):=by unfold tj;split<;>rename_i q;omega;exact b.ba (adq y (atY _) (.inl rfl) rfl (amu q d))
  exact c.ba (adr (λt f=>h t qaa) e (x.km c))
def ads:∀{t:Tree}{lo hi:Int},gX lo hi t->gZ lo hi t.fg
 |.mk k _ _ a _ ks,lo,hi,h=>by
  unfold gX at h;show gZ lo hi ks;split at h;exact h.1.up (atY _) zo;split at h;exact h.2.up zo (atY _);split at h
  match ks,h with
  |r::ks,h=>exact⟨a,h.1,h.2.up zo (atY _)⟩
  exact h.2
theorem adt(t:Pt Pd E j):∀(n:Nat)(x:Tree),sizeOf x<n->Pu Pd E j x
 |0,x,h=>zo
 |n+1,x,hn=>by
  intro lo hi aN ms ar s o p;have F:=adt t n;have g:∀t'∈x.fg,Pu Pd E j t':=λt' h=>F t' (by have:=HN h;omega);have o':=o;rw[Tree.eta x] at o';unfold gX at o';by_cases H:x.bi=5;have ol:=ads o;by_cases q:∃r i w B,x.fg=[r,i,w,B];obtain⟨r,i,w,B,q⟩:=q;rw[ab3 H q];rw[q] at ol;obtain⟨m1,N,m2,O,m3,S,K,T,I⟩:=ol;have L:i∈x.fg:=by grind
  have M:B∈x.fg:=by grind
  have a:=adr (ts:=r::i.fg) (s:=⟨aX,aX,s.a⟩) (λt' h=>by rcases atZ.1 h with e|e;rw[e];exact g r qaa;exact F t' (by have:=OJ L e;omega)) (.rg N (ads O)) ⟨p.a,λ_ h=>qaa,.z,.z,.z⟩
  generalize oD E (r::i.fg) ⟨aX,aX,s.a⟩=P at a|-;have b:=g w qaa _ _ false [] aX ⟨aX,aX,P.a⟩ S ⟨λd h=>a.c d (p.a d h),λ_ h=>qaa,.z,.z,.z⟩;generalize fU E [] false aX w ⟨aX,aX,P.a⟩=Q at b|-;have c:=Fi (ms:=[aX]) (ar:=aX) (aN:=true) (s:=⟨P.m,P.b,Q.a⟩) (ts:=B.fg) (λt' e=>F t' (by have:=OJ M e;omega)) (ads T) ⟨λd h=>b.c d (a.c d (p.a d h)),λm h=>(by simp at h;subst h;exact .z),.z,a.m.up b.f b.c,a.g.up b.f b.c⟩;generalize jF E [aX] true aX B.fg ⟨P.m,P.b,Q.a⟩=R at c|-;have le:lo<=hi:=by have:=a.f;have:=b.f;have:=c.f;have I:K<=hi:=I;omega
  have nd:∀d∈s.a.c,d∈R.a.c:=λd h=>c.c d (b.c d (a.c d h));obtain⟨U,C,X⟩:=a.i;obtain⟨V,J,Y⟩:=b.i;obtain⟨W,Z,v3⟩:=c.i;refine⟨le,nd,p.m.up le nd,p.b.up le nd,U++(V++(W++[])),?_,(X.up λd h=>c.c d (b.c d h)).ss ((Y.up c.c).ss (v3.ss (md:=K) (vs:=[]) I))⟩;grind;have e:fU E ms aN ar x s=s:=by rw[Tree.eta x];simp_all[fU]
  rw[e];exact p.rp o.le;by_cases D:x.bi=10\/x.bi=15;rw[abZ D];have i:Az x.bi=false:=by rcases D with e|e<;>rw[e]<;>decide
  have w:BG x.bi=false:=by rcases D with e|e<;>rw[e]<;>decide
  rw[if_neg qaa,if_neg qaa,if_neg H] at o';have a:=Fi (aN:=true) (ms:=s.m::ms) (ar:=ar) (s:=⟨aX,s.b,s.a⟩) g o'.2 ⟨p.a,λm h=>by rcases atZ.1 h with e|e;rw[e];exact p.m;exact p.f m e,p.c,.z,p.b⟩
  exact⟨a.f,a.c,p.m.up a.f a.c,a.g,a.i⟩;by_cases G:x.bi=16;rw[ab0 G];rw[G,if_neg zd,if_pos qab] at o';have a:=amt (Pd:=Pd) (hi:=x.at+1) (d:=kj E 8 x.bj x.at) p zo (.inr (.inr rfl)) rfl (by simp[kj];omega);have y:=p.km a;have u:qJ E (EW (kj E 8 x.bj x.at) s).a.c (x.at+1) (rA ar x.bj (kj E 8 x.bj x.at)):=Wa (d:=kj E 8 x.bj x.at) (p.c.up zo λ_ h=>h) (.inr (.inr rfl)) rfl (by simp[kj];omega);exact a.ba (Fi g o'.2 ⟨y.a,y.f,u,y.m,y.b⟩);rw[abV H D G];have pl:∀{c:Int}{s:WS},xz E j ms ar c s->∀nm,Ij Pd E s.a.c c nm (qH E (rC aN ms s.m) nm):=λy nm=>by refine ams t y.a λm h=>?_;unfold rC at h;split at h;rcases atZ.1 h with e|e;rw[e];exact y.m;exact y.f m e;grind
  split at o'<;>rename_i c1;have C:oH E ms aN ar x.bi x.at x.bj s=s:=by simp[Az] at c1;unfold oH;grind
  rw[C];have a:=Fi (aN:=aN) g o'.1 p;have y:=p.km a;refine a.ba ?_;have k:x.at<=hi:=zo;unfold qI;rw[if_neg (by simp[Az] at c1;omega)];split;split;split;split;split;exact V9 y (atY _) o'.2 (adp t y.a);exact y.rp k;exact y.rp k;exact y.rp k;exact y.rp k;exact y.rp k;split at o'<;>rename_i c2;have a:WG Pd E lo (x.at+1) s (oH E ms aN ar x.bi x.at x.bj s):=by
   unfold oH;split;exact V9 p o'.1 (atY _) (p.c.up o'.1 λ_ h=>h).jk;split;exact V9 p o'.1 (atY _) λd e=>by obtain⟨a,b,c,f⟩:=pl p _ d e;grind
   exact p.rp zo
  have y:=p.km a;have b:=Fi (aN:=aN) g o'.2 y;have z:=y.km b;refine a.ba (b.ba ?_);generalize jF E ms aN ar x.fg (oH E ms aN ar x.bi x.at x.bj s)=l at z|-;unfold qI;split;exact adq z (atY _) (.inr (.inl rfl)) rfl (by simp only[kj];have:=o'.2.le;omega);rw[if_neg (by simp[Az] at c1;omega)];exact z.rp (atY _);have C:oH E ms aN ar x.bi x.at x.bj s=s:=by simp[BG] at c2;unfold oH;rw[if_neg zo,if_neg zo]
  rw[C];have a:=Fi (aN:=aN) g o'.2 p;have J:∀l,qI E ms aN x.bi x.at x.bj x.fg l=l:=λl=>by simp[BG] at c2;simp[Az] at c1;unfold qI;rw[if_neg zo,if_neg zo]
  rw[J];exact a
end
end Yv
