/- A part of the proof of 'ScopeOwnUptoCardSaid'. No condition. -/
import Derived.Test.YtpllhjebgjcigaaGreatDoorX13
import Derived.Orders
import Derived.OpenShut
import Derived.LaidSub
import Derived.MakeChecks
import Derived.Deep.Slices
import Derived.Test.YtpllhjebgjcigaaGreatDoorRows
import Derived.ProofKit
import Derived.LaidMore
import Derived.Carry
set_option maxHeartbeats 16000000
set_option maxRecDepth 100000
set_option linter.all false
namespace Yv
open Go
structure Rc where
 d:DI
 f:Fr
 x:AV
def eI(c:CI)(p:Nat):Bool:=match c.dst with|some q=>Qe q p|none=>false
theorem xE{c:CI}{p:Nat}:eI c p=true <-> c.dst=some p:=by
 unfold eI;cases c.dst with
 |none=>simp
 |some q=>simp[Wp]
theorem aeb{c:CI}{d:Option Nat}(h:c.dst=d.map gz){p:Nat}:eI c p=true <-> ∃t,d=some t/\gz t=p:=by rw[xE,h];cases d<;>simp
def val:List Rc->Fr->Nat->AV
 |[],f0,p=>J p f0
 |r::T,f0,p=>cond (eI r.d.c p) r.x (val T f0 p)
def mF(listed:Array Bool):List Rc->Fr->Nat->AV
 |[],f0,p=>J p f0
 |r::T,f0,p=>cond (eI r.d.c p&&listed.getD r.d.i false) r.x (mF listed T f0 p)
def PO(f0:Fr):List Rc->Prop
 |[]=>True
 |r::T=>(∀p,J p r.f=val T f0 p)/\PO f0 T
theorem PS(d:Option Nat)(x:AV)(f:Fr)(c:CI)(hc:c.dst=d)(p:Nat):J p (put d x f)=cond (eI c p) x (J p f):=by
 classical
 subst hc;cases hd:c.dst with
 |none=>
  have:eI c p=false:=by unfold eI;rw[hd]
  rw[this];rfl
 |some q=>
  simp only[put,tS]
  by_cases e:p=q
  subst e;rw[atV rfl,xE.2 hd];rfl;rw[atS e];have:eI c p=false:=by
   cases h:eI c p with
   |false=>rfl
   |true=>rw[xE,hd] at h;cases h;exact absurd rfl e
  rw[this];rfl
structure uK(B:List Nat)(q r:DI):Prop where
 atu:pG B r.i q.i=false
 ap:pG B q.i r.i=true\/F5 q.c r.c=true
 ne:q.i≠r.i
 evr:qO q.k=true->kK r.k=false->(zb q.k&&tM r.k&&Nat.beq q.hi r.hi)=false->pG B q.i r.i=true
 LN:DE q.k=true->qO r.k=true->(r.hi=q.hi\/zb r.k=true\/tM r.k=true)->pG B q.i r.i=true
 ll:kK q.k=true->kK r.k=true->F5 q.c r.c=true
theorem anF{B:List Nat}{q r:DI}(h:Qi B q r=true):uK B q r:=by simp only[Qi,atW,avT,awq] at h;obtain⟨⟨⟨⟨⟨h1,h2⟩,h3⟩,h4⟩,h5⟩,h6⟩:=h;refine⟨h1,h2,λe=>?_,λe1 e2 e3=>?_,λe1 e2 e3=>?_,λe1 e2=>by rw[e1,e2] at h6;simpa using h6⟩;rw[e] at h3;simp at h3;rcases h4 with((h4|h4)|h4)|h4;rw[e1] at h4;cases h4;rw[e2] at h4;cases h4;rw[h4.1.1,h4.1.2,h4.2] at e3;exact absurd e3 zd;exact h4;rcases h5 with h5|h5;rw[e1,e2] at h5;rcases e3 with e3|e3|e3;rw[e3] at h5;simp at h5;rw[e3] at h5;simp at h5;rw[e3] at h5;simp at h5;exact h5
theorem aec{B:List Nat}:∀{l:List DI},Mv B l=true->l.Pairwise (uK B)
 |[],_=>.nil
 |q::l,h=>by simp only[Mv,atW] at h;exact .cons (λr hr=>anF (auO.1 h.1 r hr)) (aec h.2)
theorem WE{d:Option Nat}{l:List Nat}(h:I3 d l=true):∀p,d=some p->p∉l:=by rintro p rfl hm;simp only[I3,avT] at h;rw[am8.2 hm] at h;cases h
theorem BK{x y:CI}(h:F5 x y=true){p:Nat}:(eI x p=true->p∉xN y)/\(eI y p=true->p∉xN x)/\¬(eI x p=true/\eI y p=true):=by simp only[F5,atW] at h;refine⟨λe=>WE h.1.1 p (xE.1 e),λe=>WE h.1.2 p (xE.1 e),λ⟨e1,e2⟩=>?_⟩;have:=WE h.2 p (xE.1 e1);rw[xE.1 e2] at this;simp at this
theorem WH{n:Nat}{p:Pd}:∀{l:List Pd},p∈l->n<=p.hi->p∈mN n l
 |[],h,_=>by cases h
 |q::l,h,hn=>by simp only[mN];rcases atZ.1 h with rfl|h;rw[awz hn];simp;have:=WH h hn;cases Nat.ble n q.hi<;>simp[this]
theorem Iq{h:Hp}{p:Pd}:∀{l:List Pd},AS h l=true->p∈l->aQ p.c.op p.f h=.v p.x
 |[],_,hm=>by cases hm
 |q::l,ha,hm=>by simp only[AS,atW] at ha;rcases atZ.1 hm with rfl|hm;have:=ha.1;unfold Gf at this;split at this;rename_i y hy;rw[hy,RL _ _ this];cases this;exact Iq ha.2 hm
theorem LO{pd:List Pd}{n:Nat}{h:Hp}{k:List Pd->Prop}{oo:aK}(hd:Dn (qR pd n h k) oo):AS h (mN n pd)=true/\Dn (k (mN n pd)) oo:=by
 unfold qR at hd;cases ha:AS h (mN n pd) with
 |false=>rw[ha] at hd;exact hd.bad.elim
 |true=>rw[ha] at hd;exact⟨rfl,hd⟩
theorem Dd:∀{l:List DI}{n:Nat},qp n l=true->∀d∈l,qO d.k=true->n<=d.hi
 |[],_,_,_,hm,_=>by cases hm
 |q::l,n,h,d,hm,he=>by simp only[qp] at h;rcases atZ.1 hm with rfl|hm;cases hk:d.k<;>rw[hk] at h he<;>simp only[qO,at3] at he<;>simp only[atW] at h;exact avp (at7 h.1).symm;exact avp (at7 h.1).symm;exact avp (at7 h.1.1).symm;exact avp (at7 h.1).symm;cases hk:q.k<;>rw[hk] at h<;>simp only[atW] at h;exact Dd h d hm he;exact Dd h.2 d hm he;exact aw0 (Dd h.2 d hm he);exact aw0 (Dd h.2 d hm he);exact Dd h.2 d hm he;exact aw0 (Dd h.2 d hm he)
structure Stat(P:Program)(nt:Nat)(aF:Array Oper)(B:List Nat)(E:List DI):Prop where
 xF:DD B 0 aF.toList=true
 pw:E.Pairwise (uK B)
 kinds:∀d∈E,I5 d=true
 cov:∀i,i<aF.size->∃d∈E,d.i=i
 De:∀d∈E,∃o,aF[d.i]? =some o/\kq P nt aF o=some d.c
structure Pre(P:Program)(b:kB)(nt:Nat)(B:List Nat)(E:List DI)(f0:Fr)(ds:List Df)(listed:Array Bool)(n:Nat)(rest:List DI)(rv:List Rc)(pd:List Pd)(f:Fr)(h hw:Hp)(gI:Bool)(bo:Nat->Nat)
 (φ:aH) (a:Act) (w:World):Prop where
 split:E=(rv.reverse.map (·.d))++rest
 BL:PO f0 rv
 sA:∀p,J p f=val rv f0 p
 Dg:∀p,(∀d∈rest,kK d.k=true->listed.getD d.i false=true->eI d.c p=false)->aj φ (mF listed rv f0 p) (a.tmps.getD p Go.undef)
 wv:∀r∈rv,qO r.d.k=true->listed.getD r.d.i false=true
 Ir:∀r∈rv,listed.getD r.d.i false=false->(jO r.d.c.guard r.f=some false/\r.x=undef)\/
  (jO r.d.c.guard r.f=some true/\aQ r.d.c.op r.f hw=.v r.x/\(AN r.d.c.op=true\/(DE r.d.k=true/\(⟨r.d.c,r.f,r.x,r.d.hi⟩:Pd)∈pd/\n<=r.d.hi)))
 AE:∀d∈rest,listed.getD d.i false=true->kK d.k=true\/(tM d.k=true/\gI=true)
 Fv:∀d∈rest,kK d.k=true->listed.getD d.i false=true->∃o k v,F3 d.c.op=some (o,k)/\Fs φ hw w b.w.heap.size (bo d.i) o k v/\∀p,d.c.dst=some p->a.tmps.getD p Go.undef=v
 Is:∀d∈rest,∀e∈rest,kK d.k=true->kK e.k=true->listed.getD d.i false=true->listed.getD e.i false=true->d.i≠e.i->bo d.i≠bo e.i
 xG:(gI=false/\hw=h)\/(gI=true/\∃d e r' h1 h2 mZ,rest=d::e::r'/\zb d.k=true/\tM e.k=true/\listed.getD e.i false=true/\listed.getD d.i false=false/\
  aQ d.c.op f h=.vh undef h1/\aQ e.c.op f h1=.vh undef h2/\aQ d.c.op f hw=.vh undef mZ/\∀k,mZ.get k=h2.get k)
 num:qp n rest=true
 r:R φ hw w
 st:eS b.φ b.h b.w φ w hw
 df:Cm φ ds a.defers
 sz:nt<=a.tmps.size
 g:jq φ P
section
variable{P:Program}{b:kB}{nt:Nat}{B:List Nat}{aF:Array Oper}{E:List DI}{f0:Fr}{ds:List Df}{listed:Array Bool}{n:Nat}{rest:List DI}{rv:List Rc}{pd:List Pd}{f:Fr}{h hw:Hp}{gI:Bool}{bo:Nat->Nat}{φ:aH}{a:Act}{w:World}
theorem aed{N T:List Rc}{p:Nat}(hN:∀r∈N,eI r.d.c p=true->listed.getD r.d.i false=false) (hT:∀r∈T,eI r.d.c p=true->listed.getD r.d.i false=true):mF listed (N++T) f0 p=val T f0 p:=by
 induction N with
 |nil=>
  simp only[au5]
  induction T with
  |nil=>rfl
  |cons r T ih=>
   simp only[mF,val];cases hd:eI r.d.c p with
   |false=>simp only[axr,cond];exact ih λs hs=>hT s (aug _ hs)
   |true=>rw[hT r au0 hd];rfl
 |cons r N ih=>
  simp only[auY,mF];cases hd:eI r.d.c p with
  |false=>simp only[axr,cond];exact ih λs hs=>hN s (aug _ hs)
  |true=>rw[hN r au0 hd];simp only[av8,cond];exact ih λs hs=>hN s (aug _ hs)
theorem LQ{xI:Array Bool}{p:Nat}:∀{rv:List Rc},(∀r∈rv,eI r.d.c p=true->xI.getD r.d.i false=listed.getD r.d.i false)->mF xI rv f0 p=mF listed rv f0 p
 |[],_=>rfl
 |r::T,h=>by
  simp only[mF];rw[LQ λs hs=>h s (aug _ hs)];cases hd:eI r.d.c p with
  |false=>rfl
  |true=>rw[h r au0 hd]
theorem aee(S:Stat P nt aF B E)(hc:sy aF listed)(pre:Pre P b nt B E f0 ds listed n rest rv pd f h hw gI bo φ a w){q:DI}{oq:Oper}(hq:aF[q.i]? =some oq)(dy:listed.getD q.i false=false)
 (fe:∀e∈oq.after,Region.binds .any e=true->listed.getD e.on false=true) {N T:List Rc} (qf:rv=N++T) (hT:∀t∈T,uK B t.d q) (hN:∀t∈N,t.d=q\/uK B q t.d)
 (hl:∀d∈rest,kK d.k=true->listed.getD d.i false=true->uK B q d) {fq:Fr} (hf:∀p,J p fq=val T f0 p):xC φ fq a.tmps q.c:=by
 intro p hp;have LS:∀i,pG B i q.i=true->listed.getD i false=true:=λi ho=>yR S.xF hc q.i i oq hq fe ho;have Fw:∀d:DI,d∈E->listed.getD d.i false=true->pG B q.i d.i=true->False:=λd hd hl ho=>by obtain⟨o,qy,_⟩:=S.De d hd;have:=yR S.xF hc d.i q.i o qy (hc d.i o qy hl) ho;rw[dy] at this;cases this
 have RH:∀t∈rv,t.d∈E:=λt ht=>by rw[pre.split];exact auj.2 (.inl (auR.2 ⟨t,avq.2 ht,rfl⟩))
 have hs:=pre.Dg p λd hd hk Ic=>by
  cases hi:eI d.c p with
  |false=>rfl
  |true=>
   exfalso;rcases(hl d hd hk Ic).ap with ho|tu;exact Fw d (by rw[pre.split];exact auj.2 (.inr hd)) Ic ho;exact(BK tu).2.1 hi hp
 rw[qf,aed] at hs;rw[hf];exact hs;intro t ht hi;cases ao:listed.getD t.d.i false with
 |false=>rfl
 |true=>
  exfalso;rcases hN t ht with e|rel;rw[e,dy] at ao;cases ao;rcases rel.ap with ho|tu;exact Fw t.d (RH t (by rw[qf];exact auj.2 (.inl ht))) ao ho;exact(BK tu).2.1 hi hp
 intro t ht hi;rcases(hT t ht).ap with ho|tu;exact LS _ ho;exact absurd hp ((BK tu).1 hi)
end
theorem jw{listed:Array Bool}{i j:Nat}(hi:i<listed.size):(listed.setIfInBounds i true).getD j false=if j=i then true else listed.getD j false:=by
 by_cases e:j=i
 subst e;simp[hi];rw[atS e];exact getD_set_ne false (Ne.symm e)
theorem Fx{a:Act}{nt:Nat}{c:CI}{d:Option Nat}(cP:nt<=a.tmps.size)(hd:∀t,d=some t->t<nt/\t<512) (hc:c.dst=d.map gz) (v:Value) (p:Nat):
 (a.put d v).tmps.getD p Go.undef=cond (eI c p) v (a.tmps.getD p Go.undef):=by
 cases d with
 |none=>
  have:eI c p=false:=by unfold eI;rw[hc];rfl
  rw[this];rfl
 |some t=>
  obtain⟨h1,h2⟩:=hd t rfl
  by_cases e:eI c p=true
  obtain⟨t',jL,hs⟩:=(aeb hc).1 e;cases jL;rw[e,<-hs,am6 h2];simp only[Act.put,cond];have:t<a.tmps.size:=aur h1 cP;simp[this];have e':eI c p=false:=by simpa using e
  rw[e'];simp only[Act.put,cond];have bg:t≠p:=λh=>e ((aeb hc).2 ⟨t,rfl,by rw[h,am7]⟩);simp only[av2];rw[avS bg]
section
variable{P:Program}{b:kB}{nt:Nat}{B:List Nat}{aF:Array Oper}{E:List DI}{f0:Fr}{ds:List Df}{listed:Array Bool}{n:Nat}{rest:List DI}{rv:List Rc}{pd:List Pd}{f:Fr}{h hw:Hp}{gI:Bool}{bo:Nat->Nat}{φ:aH}{a:Act}{w:World}
theorem Pre.mem(pre:Pre P b nt B E f0 ds listed n rest rv pd f h hw gI bo φ a w){t:Rc}(ht:t∈rv):t.d∈E:=by rw[pre.split];exact auj.2 (.inl (auR.2 ⟨t,avq.2 ht,rfl⟩))
theorem Pre.nM(pre:Pre P b nt B E f0 ds listed n rest rv pd f h hw gI bo φ a w){d:DI}(hd:d∈rest):d∈E:=by rw[pre.split];exact auj.2 (.inr hd)
theorem Pre.uL(S:Stat P nt aF B E)(pre:Pre P b nt B E f0 ds listed n rest rv pd f h hw gI bo φ a w){t:Rc}(ht:t∈rv){d:DI}(hd:d∈rest):uK B t.d d:=by have:=S.pw;rw[pre.split,au9] at this;exact this.2.2 t.d (auR.2 ⟨t,avq.2 ht,rfl⟩) d hd
theorem Pre.aef(S:Stat P nt aF B E)(pre:Pre P b nt B E f0 ds listed n rest rv pd f h hw gI bo φ a w){N T:List Rc}{r:Rc}(qf:rv=N++r::T):(∀t∈T,uK B t.d r.d)/\∀t∈N,uK B r.d t.d:=by have:=S.pw;rw[pre.split,au9] at this;have h1:=this.1;rw[qf,List.reverse_append,List.reverse_cons,au4,au4,au9,au9] at h1;obtain⟨⟨_,_,q1⟩,_,q2⟩:=h1;refine⟨λt ht=>q1 t.d (auR.2 ⟨t,avq.2 ht,rfl⟩) r.d zm,λt ht=>q2 r.d zm t.d (auR.2 ⟨t,avq.2 ht,rfl⟩)⟩
theorem Pre.oP(S:Stat P nt aF B E)(pre:Pre P b nt B E f0 ds listed n rest rv pd f h hw gI bo φ a w){d:DI}{l:List DI}(hr:rest=d::l):∀e∈l,uK B d e:=by have:=S.pw;rw[pre.split,au9,hr,avx] at this;exact this.2.1.1
theorem aeg(S:Stat P nt aF B E)(gw:listed.size=aF.size)(hc:sy aF listed)(pre:Pre P b nt B E f0 ds listed n rest rv pd f h hw gI bo φ a w){N T:List Rc}{r:Rc}(qf:rv=N++r::T)
 (dy:listed.getD r.d.i false=false) {o:Oper} (ho:aF[r.d.i]? =some o) (eO:kq P nt aF o=some r.d.c)
 {v:Value} (hv:aj φ r.x v) {w':World} (sm:sL w w'):Pre P b nt B E f0 ds (listed.setIfInBounds r.d.i true) n rest rv pd f h hw gI bo φ (a.put o.dst v) w':=by
 have ao:r.d.i<listed.size:=by rw[gw];exact(auc.1 ho).1
 obtain⟨jZ,fK,_,_⟩:=wJ eO;have hr:r∈rv:=by rw[qf];simp
 obtain⟨oP,PT⟩:=pre.aef S qf;have Fw:∀d:DI,d∈E->listed.getD d.i false=true->pG B r.d.i d.i=true->False:=λd hd hl ho=>by obtain⟨o',qy,_⟩:=S.De d hd;have:=yR S.xF hc d.i r.d.i o' qy (hc d.i o' qy hl) ho;rw[dy] at this;cases this
 have bg:∀d∈rest,d.i≠r.d.i:=λd hd e=>(pre.uL S hr hd).ne e.symm;have hL:∀d∈rest,(listed.setIfInBounds r.d.i true).getD d.i false=listed.getD d.i false:=λd hd=>by rw[jw ao,atS (bg d hd)]
 refine⟨pre.split,pre.BL,pre.sA,λp hp=>?_,λt ht he=>?_,λt ht hu=>?_,λd hd hl=>?_,λd hd hk hl=>?_,λd hd e he h1 h2 h3 h4=>?_,?_,pre.num,pre.r.same sm,pre.st.trans (eS.same sm),?_,by rw[MY];exact pre.sz,pre.g⟩;have dj:∀d∈rest,kK d.k=true->listed.getD d.i false=true->eI d.c p=false:=λd hd hk hl=>hp d hd hk (by rw[hL d hd];exact hl);rw[Fx pre.sz jZ fK];cases hi:eI r.d.c p with
 |true=>
  simp only[cond];have e:mF (listed.setIfInBounds r.d.i true) rv f0 p=r.x:=by
   rw[qf];have:∀M:List Rc,(∀t∈M,t∈N)->mF (listed.setIfInBounds r.d.i true) (M++r::T) f0 p=r.x:=by
    intro M
    induction M with
    |nil=>
     intro _;simp only[au5,mF,hi,jw ao,auo,avl,cond]
    |cons t M ih=>
     intro hM;have htN:=hM t au0;simp only[auY,mF];have hfalse:(eI t.d.c p&&(listed.setIfInBounds r.d.i true).getD t.d.i false)=false:=by
      cases hd:eI t.d.c p with
      |false=>rfl
      |true=>
       have rel:=PT t htN;rw[jw ao,atS (Ne.symm rel.ne)];cases aY:listed.getD t.d.i false with
       |false=>rfl
       |true=>
        exfalso;rcases rel.ap with rI|tu;exact Fw t.d (pre.mem (by rw[qf];simp[htN])) aY rI;exact(_root_.Yv.BK tu).2.2 ⟨hi,hd⟩
     rw[hfalse];exact ih λs hs=>hM s (aug _ hs)
   exact this N λ_ h=>h
  rw[e];exact hv
 |false=>
  simp only[cond];rw[LQ (listed:=listed) λt ht hd=>by
   rw[jw ao,atS];intro e;have htr:t.d.c=r.d.c:=by rw[qf] at ht;rcases auj.1 ht with h1|h1;exact absurd e.symm (PT t h1).ne;rcases atZ.1 h1 with h2|h2;rw[h2];exact absurd e (oP t h2).ne
   rw[htr,hi] at hd;cases hd]
  exact pre.Dg p dj
 rw[jw ao];split;rfl;exact pre.wv t ht he;rw[jw ao] at hu;split at hu;cases hu;exact pre.Ir t ht hu;rw[hL d hd] at hl;exact pre.AE d hd hl;rw[hL d hd] at hl;obtain⟨ob,k,u,h1,h2,h3⟩:=pre.Fv d hd hk hl;refine⟨ob,k,u,h1,h2.step (eS.same sm),λp hp=>?_⟩;rw[Fx pre.sz jZ fK];cases hi:eI r.d.c p with
 |false=>exact h3 p hp
 |true=>
  exfalso;rcases(pre.uL S hr hd).ap with rI|tu;exact Fw d (pre.nM hd) hl rI;exact(_root_.Yv.BK tu).2.2 ⟨hi,xE.2 hp⟩
 rw[hL d hd] at h3;rw[hL e he] at h4;exact pre.Is d hd e he h1 h2 h3 h4;rcases pre.xG with h1|⟨h1,d,e,r',g1,g2,mZ,e1,e2,e3,e4,e5,e6⟩;exact .inl h1;refine .inr ⟨h1,d,e,r',g1,g2,mZ,e1,e2,e3,?_,?_,e6⟩;rw[hL e (by rw[e1];simp)];exact e4;rw[hL d (by rw[e1];simp)];exact e5;rw[MZ];exact pre.df
theorem anG(O:mS P)(S:Stat P nt aF B E)(gw:listed.size=aF.size)(hc:sy aF listed)(pre:Pre P b nt B E f0 ds listed n rest rv pd f h hw gI bo φ a w){N T:List Rc}{r:Rc}(qf:rv=N++r::T)
 (dy:listed.getD r.d.i false=false) {o:Oper} (ho:aF[r.d.i]? =some o) (eO:kq P nt aF o=some r.d.c) (fe:∀e∈o.after,Region.binds .any e=true->listed.getD e.on false=true)
 {K:Act->World->Prop} {Q:Exit->Act->World->Prop}
 (hK:∀a' w',Pre P b nt B E f0 ds (listed.setIfInBounds r.d.i true) n rest rv pd f h hw gI bo φ a' w'->K a' w'):wpOp P aF Q r.d.i K a w:=by
 have hr:r∈rv:=by rw[qf];simp
 obtain⟨oP,PT⟩:=pre.aef S qf;have hlooks:xC φ r.f a.tmps r.d.c:=by
  refine aee S hc pre ho dy fe (N:=N++[r]) (T:=T) (by rw[qf];simp) oP (λt ht=>?_) (λd hd hk hl=>pre.uL S hr hd) (λp=>?_);rcases auj.1 ht with h1|h1;exact .inr (PT t h1);simp at h1;exact .inl (by rw[h1]);have:∀M:List Rc,PO f0 (M++r::T)->∀p,J p r.f=val T f0 p:=by
   intro M
   induction M with
   |nil=>exact λh=>h.1
   |cons t M ih=>exact λh=>ih h.2
  exact this N (by rw[<-qf];exact pre.BL) p
 unfold wpOp;simp only[ho];rcases pre.Ir r hr dy with⟨hg,hx⟩|⟨hg,dJ,_⟩;have mZ:=Ws pre.sz eO hlooks hg;rw[atS (by rw[mZ];simp)];exact hK _ _ (aeg S gw hc pre qf dy ho eO (by rw[hx];exact DX) (.refl w));have mZ:=Ws pre.sz eO hlooks hg;rw[atV mZ];refine .inl ?_;have eT:=Wq O pre.r pre.g eO hlooks;rw[dJ] at eT;obtain⟨nx,v,w',vl,hn,k8,sm⟩:=eT;unfold Oper.wp;rw[vl];have hk:=hK _ _ (aeg S gw hc pre qf dy ho eO k8 sm);rcases hn with rfl|⟨rfl,rfl⟩;rw[Oper.upon_value];exact hk;rw[Oper.upon_skip];exact hk
end
section
variable{P:Program}{b:kB}{nt:Nat}{B:List Nat}{aF:Array Oper}{E:List DI}{f0:Fr}{ds:List Df}{listed:Array Bool}{n:Nat}{rest:List DI}{rv:List Rc}{pd:List Pd}{f:Fr}{h hw:Hp}{gI:Bool}{bo:Nat->Nat}{φ:aH}{a:Act}{w:World}
theorem WI{xI:Array Bool}{p:Nat}:∀{M:List Rc},(∀r∈M,eI r.d.c p=false)->mF xI (M++rv) f0 p=mF xI rv f0 p
 |[],_=>rfl
 |r::M,h=>by simp only[auY,mF];rw[h r au0];simp only[axr,cond];exact WI λs hs=>h s (aug _ hs)
theorem PU(pre:Pre P b nt B E f0 ds listed n rest rv pd f h hw gI bo φ a w){L1 l:List DI}(bO:rest=L1++l){M:List Rc}(hM:M.reverse.map (·.d)=L1){xI:Array Bool}
 (hMl:∀r∈M,xI.getD r.d.i false=true) (hL:∀d∈l,xI.getD d.i false=listed.getD d.i false) (hV:∀r∈rv,xI.getD r.d.i false=listed.getD r.d.i false)
 {f':Fr} {n':Nat} {gC:List Pd} {h':Hp} {ψ:aH} {a':Act} {w':World}
 (hRv:PO f0 (M++rv)) (hf:∀p,J p f'=val (M++rv) f0 p)
 (oz:∀p:Nat,(∀r∈M,eI r.d.c p=false)->a'.tmps.getD p Go.undef=a.tmps.getD p Go.undef)
 (mX:∀p:Nat,(∃r∈M,eI r.d.c p=true)->aj ψ (mF xI (M++rv) f0 p) (a'.tmps.getD p Go.undef))
 (le:φ.le ψ)
 (hu:∀r∈rv,listed.getD r.d.i false=false->aQ r.d.c.op r.f hw=.v r.x->(AN r.d.c.op=true\/(DE r.d.k=true/\(⟨r.d.c,r.f,r.x,r.d.hi⟩:Pd)∈pd/\n<=r.d.hi))->
  aQ r.d.c.op r.f h'=.v r.x/\(AN r.d.c.op=true\/(DE r.d.k=true/\(⟨r.d.c,r.f,r.x,r.d.hi⟩:Pd)∈gC/\n'<=r.d.hi)))
 (anH:∀d∈l,listed.getD d.i false=true->kK d.k=true)
 (hP:∀d∈l,kK d.k=true->listed.getD d.i false=true->∀o k v,Fs φ hw w b.w.heap.size (bo d.i) o k v->Fs ψ h' w' b.w.heap.size (bo d.i) o k v)
 (tu:∀r∈M,∀d∈l,kK d.k=true->listed.getD d.i false=true->∀p,¬(eI r.d.c p=true/\eI d.c p=true))
 (anI:qp n' l=true) (r':R ψ h' w') (eW:eS b.φ b.h b.w ψ w' h') (df':Cm ψ ds a'.defers) (sz':nt<=a'.tmps.size):
 Pre P b nt B E f0 ds xI n' l (M++rv) gC f' h' h' false bo ψ a' w':=by
 have hMd:∀d∈L1,∃r∈M,r.d=d:=λd hd=>by rw[<-hM] at hd;obtain⟨r,hr,e⟩:=auR.1 hd;exact⟨r,avq.1 hr,e⟩
 refine⟨?_,hRv,hf,λp hp=>?_,λr hr he=>?_,λr hr dy=>?_,λd hd hl=>?_,λd hd hk hl=>?_,λd hd e he h1 h2 h3 h4=>?_,.inl ⟨rfl,rfl⟩,anI,r',eW,df',sz',pre.g.mono le⟩;rw[pre.split,bO,<-hM];simp
 by_cases hw:∃r∈M,eI r.d.c p=true
 exact mX p hw;have jK:∀r∈M,eI r.d.c p=false:=λr hr=>by
  cases hi:eI r.d.c p with
  |false=>rfl
  |true=>exact absurd ⟨r,hr,hi⟩ hw
 rw[WI jK,oz p jK,LQ (listed:=listed) λr hr _=>hV r hr];refine nS le _ _ (pre.Dg p λd hd hk hl=>?_);rw[bO] at hd;rcases auj.1 hd with hd|hd;obtain⟨r,hr,e⟩:=hMd d hd;rw[<-e];exact jK r hr;exact hp d hd hk (by rw[hL d hd];exact hl);rcases auj.1 hr with hr|hr;exact hMl r hr;rw[hV r hr];exact pre.wv r hr he;rcases auj.1 hr with hr|hr;rw[hMl r hr] at dy;cases dy;rw[hV r hr] at dy;rcases pre.Ir r hr dy with hg|⟨hg,he,hx⟩;exact .inl hg;exact .inr ⟨hg,hu r hr dy he hx⟩;rw[hL d hd] at hl;exact .inl (anH d hd hl);rw[hL d hd] at hl;obtain⟨o,k,v,q1,q2,q3⟩:=pre.Fv d (by rw[bO];exact auj.2 (.inr hd)) hk hl;refine⟨o,k,v,q1,hP d hd hk hl o k v q2,λp hp=>?_⟩;rw[oz p λr hr=>?_];exact q3 p hp;cases hi:eI r.d.c p with
 |false=>rfl
 |true=>exact absurd ⟨hi,xE.2 hp⟩ (tu r hr d hd hk hl p)
 rw[hL d hd] at h3;rw[hL e he] at h4;exact pre.Is d (by rw[bO];exact auj.2 (.inr hd)) e (by rw[bO];exact auj.2 (.inr he)) h1 h2 h3 h4
theorem PV(pre:Pre P b nt B E f0 ds listed n rest rv pd f h hw false bo φ a w){d:DI}{l:List DI}(bO:rest=d::l)(hk:qO d.k=false){x:AV}{gC:List Pd}(anJ:∀p∈pd,p∈gC)
 (hx:(jO d.c.guard f=some false/\x=undef)\/(jO d.c.guard f=some true/\aQ d.c.op f h=.v x/\(AN d.c.op=true\/(DE d.k=true/\(⟨d.c,f,x,d.hi⟩:Pd)∈gC/\n<=d.hi)))):
 Pre P b nt B E f0 ds listed n l (⟨d,f,x⟩::rv) gC (put d.c.dst x f) h hw false bo φ a w:=by
 have rJ:hw=h:=by rcases pre.xG with h1|h1;exact h1.2;cases h1.1
 have dy:listed.getD d.i false=false:=by
  cases hl:listed.getD d.i false with
  |false=>rfl
  |true=>
   rcases pre.AE d (by rw[bO];simp) hl with h1|h1;cases hd:d.k<;>rw[hd] at h1 hk<;>simp[kK,qO] at h1 hk;cases h1.2
 have gD:∀e∈l,e∈rest:=λe he=>by rw[bO];exact aug _ he
 refine⟨?_,⟨pre.sA,pre.BL⟩,λp=>?_,λp hp=>?_,λr hr he=>?_,λr hr hu=>?_,λe he hl=>pre.AE e (gD e he) hl,λe he h1 h2=>pre.Fv e (gD e he) h1 h2,
  λe he e' qK h1 h2 h3 h4=>pre.Is e (gD e he) e' (gD e' qK) h1 h2 h3 h4,.inl ⟨rfl,rJ⟩,?_,pre.r,pre.st,pre.df,pre.sz,pre.g⟩
 rw[pre.split,bO];simp;rw[PS d.c.dst x f d.c rfl p];simp only[val];rw[pre.sA p];have e:mF listed (⟨d,f,x⟩::rv) f0 p=mF listed rv f0 p:=by simp only[mF,dy,Bool.and_false,cond]
 rw[e];refine pre.Dg p λe he fL hl=>?_;rw[bO] at he;rcases atZ.1 he with rfl|he;rw[dy] at hl;cases hl;exact hp e he fL hl;rcases atZ.1 hr with rfl|hr;rw[hk] at he;cases he;exact pre.wv r hr he;rcases atZ.1 hr with rfl|hr;rw[rJ];exact hx;rcases pre.Ir r hr hu with hg|⟨hg,he,hx⟩;exact .inl hg;refine .inr ⟨hg,he,?_⟩;rcases hx with hx|⟨mV,kT,yq⟩;exact .inl hx;exact .inr ⟨mV,anJ _ kT,yq⟩;have:=pre.num;rw[bO] at this;simp only[qp] at this;cases hd:d.k<;>rw[hd] at this hk<;>simp only[qO,axD] at hk;exact this;simp only[atW] at this;exact this.2
theorem anK(S:Stat P nt aF B E)(pre:Pre P b nt B E f0 ds listed n rest rv pd f h hw false bo φ a w)(hc:sy aF listed){d:DI}{l:List DI}(bO:rest=d::l)(hk:kK d.k=true)(hl:listed.getD d.i false=true)
 {x:AV} {h':Hp} (dJ:aQ d.c.op f h=.vh x h') (jD:AS h' (mN (n+1) pd)=true):
 ∃χ,Pre P b nt B E f0 ds listed (n+1) l (⟨d,f,x⟩::rv) (mN (n+1) pd) (put d.c.dst x f) h' h' false bo χ a w:=by
 have rJ:hw=h:=by rcases pre.xG with h1|h1;exact h1.2;cases h1.1
 subst rJ;have hd:d∈rest:=by rw[bO];simp
 obtain⟨o,k,v,q1,q2,q3⟩:=pre.Fv d hd hk hl;obtain⟨anL,PJ,hko⟩:=ad0 q1;rw[anL] at dJ;unfold alloc at dJ;have hn:jN (hw.get hw.nx)=true:=hw.fresh;simp only[OR.vh.injEq] at dJ;obtain⟨rfl,rfl⟩:=dJ;obtain⟨χ,r',le,k8,aeh⟩:=ane pre.r hn PJ hko q2;have oP:=pre.oP S bO;have fe:∀r∈rv,listed.getD r.d.i false=false->DE r.d.k=true->d.hi=r.d.hi->False:=λr hr dy fe he=>by
  have rel:=pre.uL S hr hd;have WJ:qO d.k=true:=by cases pR:d.k<;>rw[pR] at hk<;>simp[kK] at hk;rfl
  have ho:=rel.LN fe WJ (.inl he);obtain⟨od,qy,_⟩:=S.De d (pre.nM hd);have:=yR S.xF hc d.i r.d.i od qy (hc d.i od qy hl) ho;rw[dy] at this;cases this
 have jM:=pre.num;rw[bO] at jM;simp only[qp] at jM;have pR:d.k=.late:=by cases pR:d.k<;>rw[pR] at hk<;>first|rfl|(simp[kK] at hk)
 rw[pR] at jM;simp only[atW] at jM;have pT:d.hi=n:=at7 jM.1;refine⟨χ,PU pre (L1:=[d]) (l:=l) bO (M:=[⟨d,f,k hw.nx⟩]) zm (λr hr=>by simp at hr;rw[hr];exact hl) (λ_ _=>rfl) (λ_ _=>rfl) ⟨pre.sA,pre.BL⟩ (λp=>?_) (λ_ _=>rfl) (λp hp=>?_) le
  (λr hr dy he hx=>?_) (λe he dA=>?_) (λe he gy dA o' k' v' hp=>?_) (λr hr e he gy dA p=>?_) jM.2 r' ?_ (pre.df.mono le) pre.sz⟩
 rw[PS d.c.dst (k hw.nx) f d.c rfl p];simp only[avO,val];rw[pre.sA p];obtain⟨r,hr,hi⟩:=hp;simp at hr;subst hr;simp only[avO,mF,hi,hl,avl,cond];rw[q3 p (xE.1 hi)];exact k8;rcases hx with hx|⟨mV,kT,yq⟩;exact⟨by rw[LG hx r.f _ hw];exact he,.inl hx⟩;have ao:n+1<=r.d.hi:=by rcases avh n r.d.hi with h1|h1;exact h1;exact(fe r hr dy mV zo).elim
 have hm:=WH kT ao;exact⟨Iq jD hm,.inr ⟨mV,hm,ao⟩⟩;rcases pre.AE e qaz dA with h1|h1;exact h1;cases h1.2;obtain⟨ψ,z,p0,p1,p2,p3,p4,p5⟩:=hp;refine⟨ψ,z,p0,p1,p2,p3,p4,λi hi e'=>?_⟩;rcases aeh i hi with⟨h1,h2⟩|h1;rw[h2] at e';exact p5 i h1 e';rw[h1] at e';exact pre.Is d hd e qaz hk gy hl dA (oP e he).ne e';simp at hr;subst hr;rintro⟨h1,h2⟩;exact(_root_.Yv.BK ((oP e he).ll hk gy)).2.2 ⟨h1,h2⟩;refine⟨pre.st.le.trans le,pre.st.size,pre.st.frame,λi hi=>?_,pre.st.os,pre.st.output,pre.st.tape⟩;rcases aeh i hi with⟨h1,h2⟩|h1;rw[h2];exact pre.st.xT i h1;right;rw[h1];obtain⟨ψ,z,p0,p1,p2,p3,p4,p5⟩:=q2;exact p3
end
theorem aei{α:Type}{R:α->α->Prop}{g:α->Nat}(hR:∀x y,R x y->g x≠g y):∀{l:List α},l.Pairwise R->∀{x y:α},x∈l->y∈l->g x=g y->x=y
 |[],_,_,_,hx,_,_=>by cases hx
 |z::l,hp,x,y,hx,hy,e=>by rw[avx] at hp;rcases atZ.1 hx with h1|h1<;>rcases atZ.1 hy with h2|h2;rw[h1,h2];rw[h1] at e;exact absurd e (hR _ _ (hp.1 y h2));rw[h2] at e;exact absurd e.symm (hR _ _ (hp.1 x h1));exact aei hR hp.2 h1 h2 e
theorem aej{α:Type}{R:α->α->Prop}:∀{l:List α},l.Pairwise R->∀{x y:α},x∈l->y∈l->x≠y->R x y\/R y x
 |[],_,_,_,hx,_,_=>by cases hx
 |z::l,hp,x,y,hx,hy,e=>by rw[avx] at hp;rcases atZ.1 hx with h1|h1<;>rcases atZ.1 hy with h2|h2;exact absurd (h1.trans h2.symm) e;rw[h1];exact .inl (hp.1 y h2);rw[h2];exact .inr (hp.1 x h1);exact aej hp.2 h1 h2 e
section
variable{P:Program}{b:kB}{nt:Nat}{B:List Nat}{aF:Array Oper}{E:List DI}{f0:Fr}{ds:List Df}{listed:Array Bool}{n:Nat}{rest:List DI}{rv:List Rc}{pd:List Pd}{f:Fr}{h hw:Hp}{gI:Bool}{bo:Nat->Nat}{φ:aH}{a:Act}{w:World}
theorem aek(S:Stat P nt aF B E)(hc:sy aF listed){cf:mj}{kp:aT->Prop}{fm:Fr}{oo:aK}:∀(rest:List DI){n:Nat}{rv:List Rc}{pd:List Pd}{f:Fr}{h hw:Hp}{φ:aH},
 Pre P b nt B E f0 ds listed n rest rv pd f h hw gI bo φ a w->Dn (cE cf kp fm ds rest n pd f h) oo->
 ∃Fy n' tJ gC f' h' mZ zO,Pre P b nt B E f0 ds listed n' Fy tJ gC f' h' mZ gI bo zO a w/\Dn (cE cf kp fm ds Fy n' gC f' h') oo/\∀d l,Fy=d::l->qO d.k=true/\listed.getD d.i false=false:=by
 intro rest
 induction rest with
 |nil=>exact λ{n rv pd f h hw φ} pre hd=>⟨[],n,rv,pd,f,h,hw,φ,pre,hd,λd l e=>by cases e⟩
 |cons d l ih=>
  intro n rv pd f h hw φ pre hd;have LU:qO d.k=true->listed.getD d.i false=false->∃Fy n' tJ gC f' h' mZ zO,Pre P b nt B E f0 ds listed n' Fy tJ gC f' h' mZ gI bo zO a w/\Dn (cE cf kp fm ds Fy n' gC f' h') oo/\∀d l,Fy=d::l->qO d.k=true/\listed.getD d.i false=false:=
   λh1 h2=>⟨d::l,n,rv,pd,f,h,hw,φ,pre,hd,λd' l' e=>by cases e;exact⟨h1,h2⟩⟩
  cases gI with
  |true=>
   rcases pre.xG with h1|⟨_,d',e,r',h1,h2,mZ,e1,e2,e3,e4,e5,_⟩;cases h1.1;cases e1;refine LU ?_ e5;cases hk:d.k<;>rw[hk] at e2<;>simp[zb] at e2;rfl
  |false=>
   have rJ:hw=h:=by rcases pre.xG with h1|h1;exact h1.2;cases h1.1
   have dy:kK d.k=false->listed.getD d.i false=false:=λhk=>by
    cases hl:listed.getD d.i false with
    |false=>rfl
    |true=>
     rcases pre.AE d zm hl with h1|h1;rw[hk] at h1;cases h1;cases h1.2
   have sB:=S.kinds d (pre.nM zm);cases hk:d.k with
   |v7=>
    simp only[cE,hk] at hd;unfold I5 at sB;rw[hk] at sB;cases hg:jO d.c.guard f with
    |none=>rw[hg] at hd;exact hd.bad.elim
    |some t=>
     rw[hg] at hd;cases t with
     |false=>
      simp only at hd;exact ih (PV pre rfl qae (λ_ h=>h) (.inl ⟨hg,rfl⟩)) hd
     |true=>
      simp only at hd;cases dJ:aQ d.c.op f h with
      |v x=>
       rw[dJ] at hd;exact ih (PV pre rfl qae (λ_ h=>h) (.inr ⟨hg,dJ,.inl sB⟩)) hd
      |_=>rw[dJ] at hd;exact hd.bad.elim
   |rd=>
    simp only[cE,hk] at hd;have jM:=pre.num;simp only[qp,hk,atW] at jM;cases hg:jO d.c.guard f with
    |none=>rw[hg] at hd;exact hd.bad.elim
    |some t=>
     rw[hg] at hd;cases t with
     |false=>
      simp only at hd;exact ih (PV pre rfl qae (λ_ h=>h) (.inl ⟨hg,rfl⟩)) hd
     |true=>
      simp only at hd;cases dJ:aQ d.c.op f h with
      |v x=>
       rw[dJ] at hd;exact ih (PV pre rfl qae (λ_ h=>aug _ h) (.inr ⟨hg,dJ,.inr ⟨by rw[hk];rfl,au0,au1 jM.1⟩⟩)) hd
      |_=>rw[dJ] at hd;exact hd.bad.elim
   |late=>
    cases hl:listed.getD d.i false with
    |false=>exact LU qae hl
    |true=>
     simp only[cE,hk] at hd;cases dJ:aQ d.c.op f h with
     |vh x h'=>
      rw[dJ] at hd;obtain⟨jD,bC⟩:=LO hd;obtain⟨χ,rK⟩:=anK S pre hc rfl qae hl dJ jD;exact ih rK bC
     |_=>rw[dJ] at hd;exact hd.bad.elim
   |ev=>exact LU qae (dy qae)
   |fst=>exact LU qae (dy qae)
   |snd=>exact LU qae (dy qae)
theorem Pre.uniq(S:Stat P nt aF B E){d e:DI}(hd:d∈E)(he:e∈E)(h:d.i=e.i):d=e:=aei (λ_ _ r=>r.ne) S.pw hd he h
theorem ael(O:mS P)(S:Stat P nt aF B E)(gw:listed.size=aF.size)(pre:Pre P b nt B E f0 ds listed n rest rv pd f h hw gI bo φ a w){d:DI}(hd:d∈rest)(hk:kK d.k=true)
 (dy:listed.getD d.i false=false) {o:Oper} (ho:aF[d.i]? =some o) (eO:kq P nt aF o=some d.c) {K:Act->World->Prop} {Q:Exit->Act->World->Prop}
 (hK:∀WL a' w',Pre P b nt B E f0 ds (listed.setIfInBounds d.i true) n rest rv pd f h hw gI WL φ a' w'->K a' w'):wpOp P aF Q d.i K a w:=by
 have ao:d.i<listed.size:=by rw[gw];exact(auc.1 ho).1
 obtain⟨jZ,fK,_,Co⟩:=wJ eO;have sB:=S.kinds d (pre.nM hd);have pR:d.k=.late:=by cases pR:d.k<;>rw[pR] at hk<;>first|rfl|(simp[kK] at hk)
 unfold I5 at sB;rw[pR] at sB;simp only[atW] at sB;obtain⟨q,hq⟩:=awk.1 sB.1;obtain⟨ob,k⟩:=q;have qz:Region.wanted o (yielded aF a.tmps)=true:=by rcases Co with⟨h1,_⟩|⟨j,bb,t,_,_,_,_,h2⟩;simp[Region.wanted,h1];have:=sB.2;unfold B0 at this;rw[h2] at this;cases this
 obtain⟨nx,v,w',vl,hn,WN,ψ,z,c1,c2,c3,c4⟩:=anc (a:=a) (w:=w) O pre.g eO hq;have WO:∀e∈E,e.i=d.i->e=d:=λe he h=>Pre.uniq S he (pre.nM hd) h;have Fz:∀r∈rv,(listed.setIfInBounds d.i true).getD r.d.i false=listed.getD r.d.i false:=λr hr=>by rw[jw ao,atS (pre.uL S hr hd).ne]
 have anM:∀e∈rest,kK e.k=true->e.i≠d.i->∀p,¬(eI d.c p=true/\eI e.c p=true):=λe he gy bg p=>by
  have hpw:rest.Pairwise (uK B):=by have:=S.pw;rw[pre.split,au9] at this;exact this.2.1
  rcases aej hpw he hd (λh=>bg (by rw[h])) with r|r;rintro⟨h1,h2⟩;exact(_root_.Yv.BK (r.ll gy hk)).2.2 ⟨h2,h1⟩;exact(_root_.Yv.BK (r.ll hk gy)).2.2
 have anN:Pre P b nt B E f0 ds (listed.setIfInBounds d.i true) n rest rv pd f h hw gI (λi=>if i=d.i then ψ.aL z else bo i) φ (a.put o.dst v) w':=by
  refine⟨pre.split,pre.BL,pre.sA,λp hp=>?_,λr hr he=>by rw[Fz r hr];exact pre.wv r hr he,λr hr hu=>pre.Ir r hr (by rw[<-Fz r hr];exact hu),λe he hl=>?_,λe he gy hl=>?_,λe he e' qK h1 h2 h3 h4 h5=>?_,?_,pre.num,
   pre.r.ext WN,pre.st.trans (eS.ext WN),by rw[MZ];exact pre.df,by rw[MY];exact pre.sz,pre.g⟩
  have jK:eI d.c p=false:=hp d hd hk (by rw[jw ao,atV rfl]);rw[Fx pre.sz jZ fK,jK,LQ (listed:=listed) λr hr _=>Fz r hr];exact pre.Dg p λe he gy hl=>hp e he gy (by rw[jw ao];split<;>first|rfl|exact hl);rw[jw ao] at hl;split at hl;rename_i e1;rw[WO e (pre.nM he) e1];exact .inl hk;exact pre.AE e he hl
  by_cases e1:e.i=d.i
  have:=WO e (pre.nM he) e1;subst this;refine⟨ob,k,v,hq,?_,λp hp=>?_⟩;rw[atV rfl];refine⟨ψ,z,rfl,c1,c2,at1 pre.st.size c3,c4,λi hi e'=>?_⟩;have:=pre.r.lt i hi;omega;rw[Fx pre.sz jZ fK,xE.2 hp];rfl;rw[jw ao,atS e1] at hl;obtain⟨o',k',v',q1,q2,q3⟩:=pre.Fv e he gy hl;refine⟨o',k',v',q1,?_,λp hp=>?_⟩;rw[atS e1];exact q2.step (eS.ext WN);rw[Fx pre.sz jZ fK];cases hi:eI d.c p with
  |false=>exact q3 p hp
  |true=>exact absurd ⟨hi,xE.2 hp⟩ (anM e he gy e1 p)
  have iI:∀x∈rest,kK x.k=true->(listed.setIfInBounds d.i true).getD x.i false=true->x.i≠d.i->bo x.i<w.heap.size:=λx hx hxk Dh bg=>by rw[jw ao,atS bg] at Dh;obtain⟨_,_,_,_,⟨_,_,_,_,_,_,g4,_⟩,_⟩:=pre.Fv x hx hxk Dh;exact g4
  by_cases e1:e.i=d.i<;>by_cases e2:e'.i=d.i
  exact absurd (e1.trans e2.symm) h5;rw[atV e1,atS e2];have:=iI e' qK h2 h4 e2;omega;rw[atS e1,atV e2];have:=iI e he h1 h3 e1;omega;rw[atS e1,atS e2];rw[jw ao,atS e1] at h3;rw[jw ao,atS e2] at h4;exact pre.Is e he e' qK h1 h2 h3 h4 h5;rcases pre.xG with h1|⟨h1,d',e,r',g1,g2,mZ,e1,e2,e3,e4,e5,e6⟩;exact .inl h1;refine .inr ⟨h1,d',e,r',g1,g2,mZ,e1,e2,e3,?_,?_,e6⟩;rw[jw ao];split<;>first|rfl|exact e4
  rw[jw ao,atS];exact e5;intro e';have:=WO d' (pre.nM (by rw[e1];simp)) e';rw[this,pR] at e2;cases e2
 unfold wpOp;simp only[ho];rw[atV qz];refine .inl ?_;unfold Oper.wp;rw[vl];have hk:=hK _ _ _ anN;rcases hn with rfl|⟨rfl,rfl⟩;rw[Oper.upon_value];exact hk;rw[Oper.upon_skip];exact hk
end
theorem anO(i:Nat):Nat.beq i i=true:=av1 i
theorem aem{p q:Nat->Bool}{i:Nat}(hp:p i=true)(hq:q i=false)(WQ:∀j,j≠i->q j=p j):∀{l:List Nat},l.Nodup->i∈l->(l.filter q).length+1=(l.filter p).length
 |[],_,h=>by cases h
 |x::l,hn,h=>by
  rw[au6] at hn
  by_cases e:x=i
  subst e;have:l.filter q=l.filter p:=awY λy hy=>WQ y λe=>hn.1 (e▸hy);simp[hp,hq,this];have hm:i∈l:=by rcases atZ.1 h with h|h;·exact absurd h.symm e
                                                                                                       exact h
  have ih:=aem hp hq WQ hn.2 hm;simp only[awB,WQ x e];cases p x<;>simp<;>omega
section
variable{P:Program}{b:kB}{nt:Nat}{B:List Nat}{aF:Array Oper}{E:List DI}{f0:Fr}{ds:List Df}{listed:Array Bool}{n:Nat}{rest:List DI}{rv:List Rc}{pd:List Pd}{f:Fr}{h hw:Hp}{gI:Bool}{bo:Nat->Nat}{φ ψ:aH}{a:Act}{w:World}
theorem Pre.LV(pre:Pre P b nt B E f0 ds listed n rest rv pd f h hw false bo φ a w):hw=h:=by rcases pre.xG with h1|h1;exact h1.2;cases h1.1
theorem LW(S:Stat P nt aF B E)(hc:sy aF listed)(pre:Pre P b nt B E f0 ds listed n rest rv pd f h hw gI bo φ a w){d:DI}(hd:d∈rest)(dy:listed.getD d.i false=false)
 {o:Oper} (ho:aF[d.i]? =some o) (fe:∀e∈o.after,Region.binds .any e=true->listed.getD e.on false=true) (hl:∀e∈rest,kK e.k=true->listed.getD e.i false=true->uK B d e):xC φ f a.tmps d.c:=
 aee S hc pre ho dy fe (N:=[]) (T:=rv) rfl (λ_ ht=>pre.uL S ht hd) (λ_ ht=>by cases ht) hl pre.sA
theorem LX(S:Stat P nt aF B E)(gw:listed.size=aF.size)(hc:sy aF listed)(pre:Pre P b nt B E f0 ds listed n rest rv pd f h hw false bo φ a w){d:DI}{l:List DI}(bO:rest=d::l)
 (hk:d.k=.ev\/d.k=.snd) (dy:listed.getD d.i false=false) {o:Oper} (ho:aF[d.i]? =some o) (eO:kq P nt aF o=some d.c) (fe:∀e∈o.after,Region.binds .any e=true->listed.getD e.on false=true)
 {x:AV} {v:Value} {h':Hp} {w':World} (hx:aj ψ x v) (r':R ψ h' w') (eW:eS φ h w ψ w' h') (jD:∀p∈mN (n+1) pd,aQ p.c.op p.f h=.v p.x->aQ p.c.op p.f h'=.v p.x):
 Pre P b nt B E f0 ds (listed.setIfInBounds d.i true) (n+1) l (⟨d,f,x⟩::rv) (mN (n+1) pd) (put d.c.dst x f) h' h' false bo ψ (a.put o.dst v) w':=by
 have rJ:=pre.LV;subst rJ;have ao:d.i<listed.size:=by rw[gw];exact(auc.1 ho).1
 obtain⟨jZ,fK,_,_⟩:=wJ eO;have hd:d∈rest:=by rw[bO];simp
 have oP:=pre.oP S bO;have WJ:qO d.k=true:=by rcases hk with e|e<;>rw[e]<;>rfl
 have jM:=pre.num;rw[bO] at jM;simp only[qp] at jM;have jB:d.hi=n/\qp (n+1) l=true:=by rcases hk with e|e<;>rw[e] at jM<;>simp only[atW] at jM<;>exact⟨at7 jM.1,jM.2⟩
 have Fw:∀e∈E,listed.getD e.i false=true->pG B d.i e.i=true->False:=λe he hl rI=>by obtain⟨oe,qy,_⟩:=S.De e he;have:=yR S.xF hc e.i d.i oe qy (hc e.i oe qy hl) rI;rw[dy] at this;cases this
 refine PU pre (L1:=[d]) (l:=l) bO (M:=[⟨d,f,x⟩]) zm (λr hr=>by simp at hr;rw[hr,jw ao,atV rfl]) (λe he=>by rw[jw ao,atS (Ne.symm (oP e he).ne)])
  (λr hr=>by rw[jw ao,atS (pre.uL S hr hd).ne]) ⟨pre.sA,pre.BL⟩ (λp=>?_) (λp hp=>?_) (λp hp=>?_) eW.le (λr hr hu he kN=>?_) (λe he dA=>?_) (λe he gy dA o' k' v' hp=>hp.step eW) (λr hr e he gy dA p=>?_)
  jB.2 r' (pre.st.trans eW) (by rw[MZ];exact pre.df.mono eW.le) (by rw[MY];exact pre.sz)
 rw[PS d.c.dst x f d.c rfl p];simp only[avO,val];rw[pre.sA p];rw[Fx pre.sz jZ fK,hp ⟨d,f,x⟩ zm];rfl;obtain⟨r,hr,hi⟩:=hp;simp at hr;subst hr;rw[Fx pre.sz jZ fK];simp only[avO,mF];rw[jw ao,atV rfl,hi];exact hx;rcases kN with kN|⟨mV,kT,yq⟩;exact⟨by rw[LG kN r.f _ hw];exact he,.inl kN⟩;have aY:n+1<=r.d.hi:=by rcases avh n r.d.hi with h1|h1;exact h1;exfalso;have rI:=(pre.uL S hr hd).LN mV WJ (.inl zo);have:=yR S.xF hc d.i r.d.i o ho fe rI;rw[hu] at this;cases this
 have hm:=WH kT aY;exact⟨jD _ hm he,.inr ⟨mV,hm,aY⟩⟩;rcases pre.AE e qaz dA with h1|h1;exact h1;cases h1.2;simp at hr;subst hr;rintro⟨h1,h2⟩;rcases(oP e he).ap with rI|tu;exact Fw e (pre.nM qaz) dA rI;exact(_root_.Yv.BK tu).2.2 ⟨h1,h2⟩
def PW(E:List DI)(f0 fm:Fr):Prop:=∀p:Nat,J p fm=.any\/(J p fm=J p f0/\∀d∈E,eI d.c p=false)
theorem aen:∀(E:List DI)(f0:Fr),PW E f0 (ku E f0)
 |[],f0=>λp=>.inr ⟨rfl,λd hd=>by cases hd⟩
 |d::E,f0=>λp=>by
  simp only[ku];rcases aen E (put d.c.dst .any f0) p with h1|⟨h1,h2⟩;exact .inl h1;rw[PS d.c.dst .any f0 d.c rfl p] at h1;cases hi:eI d.c p with
  |true=>rw[hi] at h1;exact .inl h1
  |false=>
   rw[hi] at h1;refine .inr ⟨h1,λe he=>?_⟩;rcases atZ.1 he with rfl|he;exact hi;exact h2 e he
theorem aeo{fm:Fr}(hm:PW E f0 fm)(pre:Pre P b nt B E f0 ds listed n rest rv pd f h hw gI bo φ a w)(le:φ.le ψ):iq ψ fm a.tmps:=by
 refine⟨λt=>?_⟩;rcases hm (gz t) with h1|⟨h1,h2⟩;rw[h1];simp only[aj];have hs:=pre.Dg (gz t) λd hd _ _=>h2 d (pre.nM hd);have e:mF listed rv f0 (gz t)=J (gz t) f0:=by
  have:∀r∈rv,eI r.d.c (gz t)=false:=λr hr=>h2 r.d (pre.mem hr);clear hs
  induction rv with
  |nil=>rfl
  |cons r T _=>
   have:=WI (M:=r::T) (rv:=[]) (xI:=listed) (f0:=f0) this;simpa[mF] using this
 rw[e] at hs;rw[h1];exact nS le _ _ hs
variable{cf:mj}{kp:aT->Prop}{fm:Fr}{oo:aK}
theorem anP(C:zN P cf)(O:mS P)(S:Stat P nt aF B E)(hm:PW E f0 fm)(gw:listed.size=aF.size)(hc:sy aF listed)(pre:Pre P b nt B E f0 ds listed n rest rv pd f h hw false bo φ a w){d:DI}{l:List DI}(bO:rest=d::l)
 (hk:d.k=.ev) (dy:listed.getD d.i false=false) {o:Oper} (ho:aF[d.i]? =some o) (eO:kq P nt aF o=some d.c) (fe:∀e∈o.after,Region.binds .any e=true->listed.getD e.on false=true)
 (hd:Dn (cE cf kp fm ds rest n pd f h) oo) {K:Act->World->Prop}
 (hK:∀tJ gC f' h' ψ a' w',Pre P b nt B E f0 ds (listed.setIfInBounds d.i true) (n+1) l tJ gC f' h' h' false bo ψ a' w'->Dn (cE cf kp fm ds l (n+1) gC f' h') oo->K a' w'):
 wpOp P aF (oa P b nt kp oo) d.i K a w:=by
 have rJ:=pre.LV;subst rJ;have pD:d∈rest:=by rw[bO];simp
 have hlooks:xC φ f a.tmps d.c:=LW S hc pre pD dy ho fe λe he gy dA=>by rw[bO] at he;rcases atZ.1 he with rfl|he;rw[hk] at gy;cases gy;exact pre.oP S bO e he
 obtain⟨jZ,fK,_,_⟩:=wJ eO;rw[bO] at hd;simp only[cE,hk] at hd;unfold wpOp;simp only[ho];cases hg:jO d.c.guard f with
 |none=>rw[hg] at hd;exact hd.bad.elim
 |some t=>
  rw[hg] at hd;have qz:=Ws pre.sz eO hlooks hg;cases t with
  |false=>
   rw[atS (by rw[qz];simp)];exact hK _ _ _ _ _ _ _ (LX S gw hc pre bO (.inl hk) dy ho eO fe DX pre.r (.refl φ hw w) λ_ _ h=>h) hd
  |true=>
   rw[atV qz];refine .inl ?_;simp only at hd;have eT:=Wq O pre.r pre.g eO hlooks;unfold Oper.wp;generalize vl:(execOp a.eval o).run P w=jk at eT⊢;cases dJ:aQ d.c.op f hw with
   |v x=>
    rw[dJ] at hd eT;obtain⟨nx,v,w',rfl,hn,hx,sm⟩:=eT;simp only[tO] at hd;obtain⟨jD,bC⟩:=LO hd;have fL:=hK _ _ _ _ _ _ _ (LX S gw hc pre bO (.inl hk) dy ho eO fe hx (pre.r.same sm) (eS.same sm) λp hp _=>Iq jD hp) bC;rcases hn with rfl|⟨rfl,rfl⟩;rw[Oper.upon_value];exact fL;rw[Oper.upon_skip];exact fL
   |vh x h'=>
    rw[dJ] at hd eT;obtain⟨nx,v,w',uM,rfl,hn,r',eW,hx⟩:=eT;simp only[tO] at hd;obtain⟨jD,bC⟩:=LO hd;have fL:=hK _ _ _ _ _ _ _ (LX S gw hc pre bO (.inl hk) dy ho eO fe hx r' eW λp hp _=>Iq jD hp) bC;rcases hn with rfl|⟨rfl,rfl⟩;rw[Oper.upon_value];exact fL;rw[Oper.upon_skip];exact fL
   |call g args=>
    rw[dJ] at hd eT;obtain⟨vs,w',rfl,sm,A4⟩:=eT;simp only[tO] at hd;obtain⟨Ec,SX⟩:=C g args hw _ oo φ w' vs hd (pre.r.same sm) pre.g A4;rw[Ec vs w',Oper.upon_enter];refine SX.mono λe SP he=>?_;obtain⟨co,pT,J6⟩:=he;cases co with
    |ret v h'=>
     obtain⟨uM,u,rfl,hx,r',eW⟩:=J6;simp only at pT;obtain⟨jD,bC⟩:=LO pT;exact hK _ _ _ _ _ _ _ (LX S gw hc pre bO (.inl hk) dy ho eO fe hx r' ((eS.same sm).trans eW) λp hp _=>Iq jD hp) bC
    |bn v h'=>
     obtain⟨uM,u,rfl,hx,r',eW⟩:=J6;have It:=(eS.same (φ:=φ) (h:=hw) sm).trans eW;exact⟨.bn v fm h' ds,pT,u,uM,rfl,hx,⟨r',pre.st.trans It,aeo hm pre It.le,pre.df.mono It.le,pre.sz,pre.g.mono It.le⟩⟩
   |bn x=>
    rw[dJ] at hd eT;obtain⟨v,w',rfl,sm,hx⟩:=eT;simp only[tO] at hd;rw[Oper.upon_panic];exact⟨.bn x fm hw ds,hd,v,φ,rfl,hx,⟨pre.r.same sm,pre.st.trans (eS.same sm),aeo hm pre (.refl φ),pre.df,pre.sz,pre.g⟩⟩
   |_=>rw[dJ] at hd;exact hd.bad.elim
end
section
variable{P:Program}{b:kB}{nt:Nat}{B:List Nat}{aF:Array Oper}{E:List DI}{f0:Fr}{ds:List Df}{listed:Array Bool}{n:Nat}{rest:List DI}{rv:List Rc}{pd:List Pd}{f:Fr}{h hw:Hp}{gI:Bool}{bo:Nat->Nat}{φ ψ:aH}{a:Act}{w:World}
variable{cf:mj}{kp:aT->Prop}{fm:Fr}{oo:aK}
theorem WR{d:DI}{r:List DI}(hk:d.k=.fst)(hd:Dn (cE cf kp fm ds (d::r) n pd f h) oo):∃e r' i j x1 h1,r=e::r'/\sF d.c.op f=some i/\sF e.c.op f=some j/\i≠j/\aQ d.c.op f h=.vh x1 h1/\Dn (cE cf kp fm ds r n pd f h1) oo:=by
 simp only[cE,hk] at hd;cases r with
 |nil=>exact hd.bad.elim
 |cons e r'=>
  simp only at hd;cases h1:sF d.c.op f with
  |none=>rw[h1] at hd;exact hd.bad.elim
  |some i=>
   cases h2:sF e.c.op f with
   |none=>rw[h1,h2] at hd;exact hd.bad.elim
   |some j=>
    rw[h1,h2] at hd;simp only at hd;cases hq:Nat.beq i j with
    |true=>rw[hq] at hd;exact hd.bad.elim
    |false=>
     rw[hq] at hd;simp only[cond] at hd;cases dJ:aQ d.c.op f h with
     |vh x h'=>
      rw[dJ] at hd;exact⟨e,r',i,j,x,h',rfl,by first|exact h1|rfl,by first|exact h2|rfl,(λhe=>by rw[he,anO] at hq;cases hq),by first|exact dJ|rfl,hd⟩
     |_=>rw[dJ] at hd;exact hd.bad.elim
theorem WT{d:DI}{r:List DI}(hk:d.k=.snd)(hd:Dn (cE cf kp fm ds (d::r) n pd f h) oo):∃x1 h1,aQ d.c.op f h=.vh x1 h1/\AS h1 (mN (n+1) pd)=true/\Dn (cE cf kp fm ds r (n+1) (mN (n+1) pd) f h1) oo:=by
 simp only[cE,hk] at hd;cases dJ:aQ d.c.op f h with
 |vh x h'=>
  rw[dJ] at hd;obtain⟨jD,bC⟩:=LO hd;exact⟨x,h',rfl,jD,bC⟩
 |_=>rw[dJ] at hd;exact hd.bad.elim
theorem LY(S:Stat P nt aF B E){d:DI}(hd:d∈E)(hk:d.k=.fst\/d.k=.snd){o:Oper}(eO:kq P nt aF o=some d.c):o.dst=none/\d.c.dst=none/\∀tmps,Region.wanted o (yielded aF tmps)=true:=by
 have sB:=S.kinds d hd;unfold I5 at sB;have h2:Mu d.c.op=true/\B0 d.c=true/\I4 d.c.dst=true:=by rcases hk with e|e<;>rw[e] at sB<;>simp only[atW] at sB<;>exact⟨sB.1.1,sB.1.2,sB.2⟩
 obtain⟨jZ,fK,_,Co⟩:=wJ eO;have hcn:d.c.dst=none:=by
  have:=h2.2.2;unfold I4 at this;cases hx:d.c.dst with
  |none=>rfl
  |some p=>rw[hx] at this;cases this
 refine⟨?_,hcn,λtmps=>?_⟩;rw[hcn] at fK;cases hx:o.dst with
 |none=>rfl
 |some t=>rw[hx] at fK;cases fK
 rcases Co with⟨h1,_⟩|⟨j,bb,t,_,_,_,_,h3⟩;simp[Region.wanted,h1];have:=h2.2.1;unfold B0 at this;rw[h3] at this;cases this
theorem PX{d:DI}{x:AV}{T:List Rc}(h:d.c.dst=none)(g:Fr)(p:Nat):val (⟨d,g,x⟩::T) f0 p=val T f0 p:=by
 have:eI d.c p=false:=by unfold eI;rw[h]
 simp only[val,this,cond]
theorem Iu{c:CI}(h:c.dst=none)(p:Nat):eI c p=false:=by unfold eI;rw[h]
theorem PY(O:mS P)(pre:Pre P b nt B E f0 ds listed n rest rv pd f h hw gI bo φ a w){d:DI}{o:Oper}(eO:kq P nt aF o=some d.c)(jZ:o.dst=none)(hl:xC φ f a.tmps d.c){x:AV}{h':Hp}(dJ:aQ d.c.op f hw=.vh x h')
 {K:Act->World->Prop} {Q:Exit->Act->World->Prop} (hK:∀ψ w',R ψ h' w'->eS φ hw w ψ w' h'->K a w'):o.wp P a w K Q:=by
 have eT:=Wq O pre.r pre.g eO hl;unfold Oper.wp;generalize vl:(execOp a.eval o).run P w=jk at eT⊢;rw[dJ] at eT;obtain⟨nx,v,w',uM,rfl,hn,r',eW,hx⟩:=eT;have hk:=hK uM w' r' eW;have e:∀v,a.put o.dst v=a:=λv=>by rw[jZ];rfl
 rcases hn with rfl|⟨rfl,rfl⟩;rw[Oper.upon_value,e];exact hk;rw[Oper.upon_skip,e];exact hk
theorem anQ(O:mS P)(S:Stat P nt aF B E)(gw:listed.size=aF.size)(hc:sy aF listed)(pre:Pre P b nt B E f0 ds listed n rest rv pd f h hw false bo φ a w){d:DI}{l:List DI}(bO:rest=d::l)
 (hk:d.k=.fst) (dy:listed.getD d.i false=false) {o:Oper} (ho:aF[d.i]? =some o) (eO:kq P nt aF o=some d.c) (fe:∀e∈o.after,Region.binds .any e=true->listed.getD e.on false=true)
 (hd:Dn (cE cf kp fm ds rest n pd f h) oo) {K:Act->World->Prop}
 (hK:∀tJ h' ψ a' w',Pre P b nt B E f0 ds (listed.setIfInBounds d.i true) n l tJ pd f h' h' false bo ψ a' w'->Dn (cE cf kp fm ds l n pd f h') oo->K a' w'):
 wpOp P aF (oa P b nt kp oo) d.i K a w:=by
 have rJ:=pre.LV;subst rJ;have pD:d∈rest:=by rw[bO];simp
 have ao:d.i<listed.size:=by rw[gw];exact(auc.1 ho).1
 have oP:=pre.oP S bO;have hlooks:xC φ f a.tmps d.c:=LW S hc pre pD dy ho fe λe he gy dA=>by rw[bO] at he;rcases atZ.1 he with rfl|he;rw[hk] at gy;cases gy;exact oP e he
 obtain⟨Di,fK,qz⟩:=LY S (pre.nM pD) (.inl hk) eO;rw[bO] at hd;obtain⟨e,r',i,j,x1,h1,_,_,_,_,dJ,bC⟩:=WR hk hd;have jM:=pre.num;rw[bO] at jM;simp only[qp,hk,atW] at jM;unfold wpOp;simp only[ho];rw[atV (qz _)];refine .inl (PY O pre eO Di hlooks dJ λuM w' r' eW=>hK ([⟨d,f,undef⟩]++rv) _ uM a w' ?_ bC);refine PU pre (L1:=[d]) (l:=l) bO (M:=[⟨d,f,undef⟩]) zm (λr hr=>by simp at hr;rw[hr,jw ao,atV rfl]) (λe he=>by rw[jw ao,atS (Ne.symm (oP e he).ne)])
  (λr hr=>by rw[jw ao,atS (pre.uL S hr pD).ne]) ⟨pre.sA,pre.BL⟩ (λp=>?_) (λp hp=>rfl) (λp hp=>?_) eW.le (λr hr hu he kN=>?_) (λe he dA=>?_) (λe he gy dA o' k' v' hp=>hp.step eW) (λr hr e he gy dA p=>?_)
  jM.2 r' (pre.st.trans eW) (pre.df.mono eW.le) pre.sz
 rw[avO,PX fK];exact pre.sA p;obtain⟨r,hr,hi⟩:=hp;simp at hr;subst hr;rw[Iu fK] at hi;cases hi;rcases kN with kN|⟨mV,kT,yq⟩;exact⟨by rw[LG kN r.f _ hw];exact he,.inl kN⟩;exfalso;have rI:=(pre.uL S hr pD).LN mV qae (.inr (.inl qae));have:=yR S.xF hc d.i r.d.i o ho fe rI;rw[hu] at this;cases this;rcases pre.AE e qaz dA with h1|h1;exact h1;cases h1.2;simp at hr;subst hr;rw[Iu fK];simp
theorem anR(O:mS P)(S:Stat P nt aF B E)(gw:listed.size=aF.size)(hc:sy aF listed)(pre:Pre P b nt B E f0 ds listed n rest rv pd f h hw false bo φ a w){d:DI}{l:List DI}(bO:rest=d::l)
 (hk:d.k=.snd) (dy:listed.getD d.i false=false) {o:Oper} (ho:aF[d.i]? =some o) (eO:kq P nt aF o=some d.c) (fe:∀e∈o.after,Region.binds .any e=true->listed.getD e.on false=true)
 (hd:Dn (cE cf kp fm ds rest n pd f h) oo) {K:Act->World->Prop}
 (hK:∀tJ gC f' h' ψ a' w',Pre P b nt B E f0 ds (listed.setIfInBounds d.i true) (n+1) l tJ gC f' h' h' false bo ψ a' w'->Dn (cE cf kp fm ds l (n+1) gC f' h') oo->K a' w'):
 wpOp P aF (oa P b nt kp oo) d.i K a w:=by
 have rJ:=pre.LV;subst rJ;have pD:d∈rest:=by rw[bO];simp
 have hlooks:xC φ f a.tmps d.c:=LW S hc pre pD dy ho fe λe he gy dA=>by rw[bO] at he;rcases atZ.1 he with rfl|he;rw[hk] at gy;cases gy;exact pre.oP S bO e he
 obtain⟨Di,fK,qz⟩:=LY S (pre.nM pD) (.inr hk) eO;rw[bO] at hd;obtain⟨x1,h1,dJ,jD,bC⟩:=WT hk hd;unfold wpOp;simp only[ho];rw[atV (qz _)];refine .inl (PY O pre eO Di hlooks dJ λuM w' r' eW=>?_);have:=LX S gw hc pre bO (.inr hk) dy ho eO fe (x:=undef) (v:=Go.undef) DX r' eW λp hp _=>Iq jD hp;rw[fK] at this;rw[Di] at this;exact hK _ _ _ _ _ _ _ this bC
theorem anS(O:mS P)(S:Stat P nt aF B E)(gw:listed.size=aF.size)(hc:sy aF listed)(pre:Pre P b nt B E f0 ds listed n rest rv pd f h hw false bo φ a w){d e:DI}{l:List DI}(bO:rest=d::e::l)
 (hk:d.k=.fst) (gy:e.k=.snd) (anT:listed.getD d.i false=false) (dy:listed.getD e.i false=false) {o:Oper} (ho:aF[e.i]? =some o) (eO:kq P nt aF o=some e.c) (fe:∀x∈o.after,Region.binds .any x=true->listed.getD x.on false=true)
 (hd:Dn (cE cf kp fm ds rest n pd f h) oo) {K:Act->World->Prop}
 (hK:∀mZ ψ a' w',Pre P b nt B E f0 ds (listed.setIfInBounds e.i true) n rest rv pd f h mZ true bo ψ a' w'->K a' w'):
 wpOp P aF (oa P b nt kp oo) e.i K a w:=by
 have rJ:=pre.LV;subst rJ;have zM:e∈rest:=by rw[bO];simp
 have pD:d∈rest:=by rw[bO];simp
 have ao:e.i<listed.size:=by rw[gw];exact(auc.1 ho).1
 have PZ:=pre.oP S bO;have aep:∀x∈l,uK B e x:=by have:=S.pw;rw[pre.split,au9,bO,avx,avx] at this;exact this.2.1.2.1
 have hlooks:xC φ f a.tmps e.c:=LW S hc pre zM dy ho fe λx hx qL CN=>by rw[bO] at hx;rcases atZ.1 hx with rfl|hx;rw[hk] at qL;cases qL;rcases atZ.1 hx with rfl|hx;rw[gy] at qL;cases qL;exact aep x hx
 obtain⟨Di,fK,qz⟩:=LY S (pre.nM zM) (.inr gy) eO;rw[bO] at hd;obtain⟨e',l',i,j,x1,h1,qK,hi,hj,DV,LZ,bC⟩:=WR hk hd;cases qK;obtain⟨x2,h2,L5,jD,lN⟩:=WT gy bC;obtain⟨rfl,rfl,g,hg,g',NQ,ij⟩:=anf hi hj DV LZ L5;have hL:∀x∈E,x≠e->(listed.setIfInBounds e.i true).getD x.i false=listed.getD x.i false:=λx hx bg=>by rw[jw ao,atS λh=>bg (Pre.uniq S hx (pre.nM zM) h)]
 have Fz:∀r∈rv,(listed.setIfInBounds e.i true).getD r.d.i false=listed.getD r.d.i false:=λr hr=>by rw[jw ao,atS (pre.uL S hr zM).ne]
 have P0:∀x∈rest,kK x.k=true->(listed.setIfInBounds e.i true).getD x.i false=listed.getD x.i false:=λx hx qL=>hL x (pre.nM hx) λh=>by rw[h,gy] at qL;cases qL
 unfold wpOp;simp only[ho];rw[atV (qz _)];refine .inl (PY O pre eO Di hlooks hg λuM w' r' eW=>hK g uM a w' ?_);refine⟨pre.split,pre.BL,pre.sA,λp hp=>?_,λr hr he=>by rw[Fz r hr];exact pre.wv r hr he,λr hr hu=>?_,λx hx hl=>?_,λx hx qL hl=>?_,λx hx y hy h1 h2 h3 h4 h5=>?_,
  .inr ⟨rfl,d,e,l,h1,h2,g',bO,by rw[hk];rfl,by rw[gy];rfl,by rw[jw ao,atV rfl],?_,LZ,L5,NQ,ij⟩,pre.num,r',pre.st.trans eW,pre.df.mono eW.le,pre.sz,pre.g.mono eW.le⟩
 rw[LQ (listed:=listed) λr hr _=>Fz r hr];exact nS eW.le _ _ (pre.Dg p λx hx qL hl=>hp x hx qL (by rw[P0 x hx qL];exact hl));rw[Fz r hr] at hu;rcases pre.Ir r hr hu with hg|⟨hg,he,hx⟩;exact .inl hg;rcases hx with hx|⟨mV,kT,yq⟩;exact .inr ⟨hg,by rw[LG hx r.f _ hw];exact he,.inl hx⟩;exfalso;have rI:=(pre.uL S hr zM).LN mV (by rw[gy];rfl) (.inr (.inr (by rw[gy];rfl)));have:=yR S.xF hc e.i r.d.i o ho fe rI;rw[hu] at this;cases this
 by_cases yS:x=e
 subst yS;exact .inr ⟨by rw[gy];rfl,rfl⟩;rw[hL x (pre.nM hx) yS] at hl;rcases pre.AE x hx hl with h1|h1;exact .inl h1;cases h1.2;rw[P0 x hx qL] at hl;obtain⟨o',k',v',q1,q2,q3⟩:=pre.Fv x hx qL hl;exact⟨o',k',v',q1,q2.step eW,q3⟩;rw[P0 x hx h1] at h3;rw[P0 y hy h2] at h4;exact pre.Is x hx y hy h1 h2 h3 h4 h5;rw[hL d (pre.nM pD) λh=>by rw[h,gy] at hk;cases hk];exact anT
theorem anU(O:mS P)(S:Stat P nt aF B E)(gw:listed.size=aF.size)(hc:sy aF listed)(pre:Pre P b nt B E f0 ds listed n rest rv pd f h hw true bo φ a w){d:DI}{l:List DI}(bO:rest=d::l)
 (dy:listed.getD d.i false=false) {o:Oper} (ho:aF[d.i]? =some o) (eO:kq P nt aF o=some d.c) (fe:∀x∈o.after,Region.binds .any x=true->listed.getD x.on false=true)
 (hd:Dn (cE cf kp fm ds rest n pd f h) oo) {K:Act->World->Prop}
 (hK:∀l' tJ gC f' h' ψ a' w',Pre P b nt B E f0 ds (listed.setIfInBounds d.i true) (n+1) l' tJ gC f' h' h' false bo ψ a' w'->Dn (cE cf kp fm ds l' (n+1) gC f' h') oo->K a' w'):
 wpOp P aF (oa P b nt kp oo) d.i K a w:=by
 rcases pre.xG with h1|⟨_,d',e,r',h1,h2,mZ,e1,e2,e3,e4,e5,e6,e7,e8,e9⟩;cases h1.1;have P1:d'=d/\e::r'=l:=by rw[bO] at e1;cases e1;exact⟨rfl,rfl⟩
 obtain⟨rfl,rfl⟩:=P1;have hk:d'.k=.fst:=by cases pR:d'.k<;>rw[pR] at e2<;>first|rfl|(simp[zb] at e2)
 have gy:e.k=.snd:=by cases pR:e.k<;>rw[pR] at e3<;>first|rfl|(simp[tM] at e3)
 have zM:e∈rest:=by rw[bO];simp
 have pD:d'∈rest:=by rw[bO];simp
 have ao:d'.i<listed.size:=by rw[gw];exact(auc.1 ho).1
 have PZ:=pre.oP S bO;have aep:∀x∈r',uK B e x:=by have:=S.pw;rw[pre.split,au9,bO,avx,avx] at this;exact this.2.1.2.1
 have hlooks:xC φ f a.tmps d'.c:=LW S hc pre pD dy ho fe λx hx qL CN=>by rw[bO] at hx;rcases atZ.1 hx with rfl|hx;rw[hk] at qL;cases qL;exact PZ x hx
 obtain⟨Di,fK,qz⟩:=LY S (pre.nM pD) (.inl hk) eO;obtain⟨oe,LJ,anV⟩:=S.De e (pre.nM zM);obtain⟨_,WU,_⟩:=LY S (pre.nM zM) (.inr gy) anV;rw[bO] at hd;obtain⟨_,_,_,_,x1,h1',qK,_,_,_,LZ,bC⟩:=WR hk hd;cases qK;rw[e6] at LZ;cases LZ;obtain⟨x2,h2',L5,jD,lN⟩:=WT gy bC;rw[e7] at L5;cases L5;have jM:=pre.num;rw[bO] at jM;simp only[qp,hk,gy,atW] at jM;unfold wpOp;simp only[ho];rw[atV (qz _)];refine .inl (PY O pre eO Di hlooks e8 λuM w' rr It=>hK _ ([⟨e,f,undef⟩,⟨d',f,undef⟩]++rv) _ _ _ uM a w' ?_ lN);have rr':R uM h2 w':=rr.Wx λk=>(e9 k).symm;have P2:eS φ hw w uM w' h2:=It.Wx λk=>(e9 k).symm;refine PU pre (L1:=[d',e]) (l:=r') (by rw[bO];rfl) (M:=[⟨e,f,undef⟩,⟨d',f,undef⟩]) zm (λr hr=>?_) (λx hx=>by rw[jw ao,atS (Ne.symm (PZ x (aug _ hx)).ne)])
  (λr hr=>by rw[jw ao,atS (pre.uL S hr pD).ne]) ⟨λp=>by show J p f=val (⟨d',f,undef⟩::rv) f0 p;rw[PX fK];exact pre.sA p,pre.sA,pre.BL⟩ (λp=>?_) (λp hp=>rfl) (λp hp=>?_) P2.le (λr hr hu he kN=>?_) (λx hx CN=>?_) (λx hx qL CN o' k' v' hp=>hp.step P2) (λr hr x hx qL CN p=>?_)
  jM.2.2 rr' (pre.st.trans P2) (pre.df.mono P2.le) pre.sz
 simp only[atZ,awg,axx] at hr;rcases hr with rfl|rfl;rw[jw ao];split<;>first|rfl|exact e4
 rw[jw ao,atV rfl];show J p f=val (⟨e,f,undef⟩::⟨d',f,undef⟩::rv) f0 p;rw[PX WU,PX fK];exact pre.sA p;obtain⟨r,hr,hi⟩:=hp;simp only[atZ,awg,axx] at hr;rcases hr with rfl|rfl;rw[Iu WU] at hi;cases hi;rw[Iu fK] at hi;cases hi;rcases kN with kN|⟨mV,kT,yq⟩;exact⟨by rw[LG kN r.f _ hw];exact he,.inl kN⟩;exfalso;have rI:=(pre.uL S hr pD).LN mV qae (.inr (.inl qae));have:=yR S.xF hc d'.i r.d.i o ho fe rI;rw[hu] at this;cases this;rcases pre.AE x (by rw[bO];exact aug _ (aug _ hx)) CN with h1|h1;exact h1;exfalso;have yS:x.k=.snd:=by cases pR:x.k<;>rw[pR] at h1<;>first|rfl|(simp[tM] at h1)
 have anW:=PZ x (aug _ hx);have Cg:=Dd jM.2.2 x hx (by rw[yS];rfl);have pT:d'.hi=n:=at7 jM.1.1;have LS:=anW.evr qae (by rw[yS];rfl) (by
  rw[hk,yS];simp only[zb,tM,av8];cases hb:Nat.beq d'.hi x.hi with
  |false=>rfl
  |true=>have:=at7 hb;omega)
 obtain⟨ox,hox,_⟩:=S.De x (pre.nM (by rw[bO];exact aug _ (aug _ hx)));have:=yR S.xF hc x.i d'.i ox hox (hc x.i ox hox CN) LS;rw[dy] at this;cases this;simp only[atZ,awg,axx] at hr;rcases hr with rfl|rfl;rw[Iu WU];simp;rw[Iu fK];simp
end
theorem WV(B:List Nat):∀(l:List (Nat×CI))(pl:Nat)(bf:List DI)(d:DI),d∈(wu B l pl bf).2 ->d∈bf\/(d.i,d.c)∈l
 |[],_,_,_,h=>.inl h
 |(i,c)::l,pl,bf,d,h=>by simp only[wu] at h;split at h;rcases WV B l _ _ d h with h1|h1;rcases atZ.1 h1 with rfl|h1;exact .inr zm;exact .inl h1;exact .inr (by simp[h1]);rcases WV B l _ _ d h with h1|h1;exact .inl h1;exact .inr (by simp[h1])
theorem P3(B:List Nat)(cs:List (Nat×CI))(late:Nat->Bool):∀(m n pl:Nat)(bf:List DI),(∀d∈bf,(d.i,d.c)∈cs)->∀d∈DH B cs late m n pl bf,(d.i,d.c)∈cs
 |0,_,_,bf,h,d,hd=>by simp only[DH,avq] at hd;exact h d hd
 |m+1,n,pl,bf,h,d,hd=>by
  have hq:∀x∈(wu B cs pl bf).2,(x.i,x.c)∈cs:=λx hx=>by rcases WV B cs pl bf x hx with h1|h1;exact h x h1;exact h1
  simp only[DH] at hd;split at hd;rename_i i c rest hf;have fR:(i,c)∈cs:=by
   have:(i,c)∈(List.filter (λx=> !late x.1) (List.filter (λx=>F6 x.2.op&& !I7 (wu B cs pl bf).1 x.1 &&I6 B (wu B cs pl bf).1 x.1) cs)):=by rw[hf];simp
   exact(avv.1 (avv.1 this).1).1
  split at hd;rename_i j e WW;have hje:(j,e)∈cs:=by
   split at WW;have hm:=avP WW;have:(j,e)∈(List.filter (λx=> !late x.1) (List.filter (λx=>F6 x.2.op&& !I7 (wu B cs pl bf).1 x.1 &&I6 B (wu B cs pl bf).1 x.1) cs)):=by rw[hf];simp[hm]
   exact(avv.1 (avv.1 this).1).1;cases WW
  refine P3 B cs late m _ _ _ (λx hx=>?_) d hd;rcases atZ.1 hx with rfl|hx;exact hje;rcases atZ.1 hx with rfl|hx;exact fR;exact hq x hx;refine P3 B cs late m _ _ _ (λx hx=>?_) d hd;rcases atZ.1 hx with rfl|hx;exact fR;exact hq x hx;split at hd;rename_i i c rest hf;have fR:(i,c)∈cs:=by
   have:(i,c)∈(List.filter (λx=>F6 x.2.op&& !I7 (wu B cs pl bf).1 x.1 &&I6 B (wu B cs pl bf).1 x.1) cs):=by rw[hf];simp
   exact(avv.1 this).1
  refine P3 B cs late m _ _ _ (λx hx=>?_) d hd;rcases atZ.1 hx with rfl|hx;exact fR;exact hq x hx;rw[avq] at hd;exact hq d hd
theorem aeq(B:List Nat)(wv:List DI)(nO:Nat)(d:DI):(Mw B wv nO d).i=d.i/\(Mw B wv nO d).c=d.c:=by unfold Mw;split<;>exact⟨rfl,rfl⟩
theorem anX{aF:List Oper}{cs:List CI}{l:List DI}(h:Qk aF cs=some l):(∃B,Qj B aF l=true)/\∀d∈l,cs[d.i]? =some d.c:=by
 simp only[Qk] at h;split at h;rename_i hp;simp only[atU] at h;refine⟨⟨_,by rw[<-h];exact hp⟩,λd hd=>?_⟩;rw[<-h] at hd;obtain⟨e,he,rfl⟩:=auR.1 hd;have hm:=P3 _ _ _ _ _ _ [] zm e he;rw[(aeq _ _ _ _).1,(aeq _ _ _ _).2];obtain⟨k,hk⟩:=aum hm;rw[List.getElem?_zip_eq_some] at hk;obtain⟨h1,h2⟩:=hk;have:e.i=k:=by have:=(at0.1 h1).2;simpa using this.symm
 rw[this];exact h2;cases h
section
variable{P:Program}{b:kB}{nt:Nat}{B:List Nat}{aF:Array Oper}{E:List DI}{f0:Fr}{ds:List Df}
variable{cf:mj}{kp:aT->Prop}{fm:Fr}{oo:aK}
def left(aF:Array Oper)(listed:Array Bool):Nat:=((List.range aF.size).filter λi=> !listed.getD i false).length
theorem anY{listed:Array Bool}(gw:listed.size=aF.size){i:Nat}(hi:i<aF.size)(dy:listed.getD i false=false):left aF (listed.setIfInBounds i true)+1=left aF listed:=by
 have ao:i<listed.size:=by rw[gw];exact hi
 refine aem (i:=i) (by rw[dy];rfl) (by rw[jw ao,atV rfl];rfl) (λj hj=>by rw[jw ao,atS hj]) List.nodup_range qaY
theorem anZ{listed:Array Bool}(gw:listed.size=aF.size)(hc:sy aF listed){i:Nat}{o:Oper}(ho:aF[i]? =some o)(fe:∀e∈o.after,Region.binds .any e=true->listed.getD e.on false=true):sy aF (listed.setIfInBounds i true):=by
 have ao:i<listed.size:=by rw[gw];exact(auc.1 ho).1
 intro j oj hj hl e he hb;rw[jw ao];split;rfl;rw[jw ao] at hl;split at hl;rename_i e1;subst e1;rw[ho] at hj;cases hj;exact fe e he hb;exact hc j oj hj hl e he hb
theorem an0(hB:DD B 0 aF.toList=true){listed:Array Bool}(gw:listed.size=aF.size)(h0:Region.ready .any aF listed=[]):∀i,i<aF.size->listed.getD i false=true:=by
 intro i
 induction i using Nat.strongRecOn with
 |_ i ih=>
  intro hi;cases hl:listed.getD i false with
  |true=>rfl
  |false=>
   exfalso;have hoi:aF[i]? =some aF[i]:=au7 hi;have hm:i∈Region.ready .any aF listed:=by
    rw[mem_ready];refine⟨?_,aF[i],hoi,λe he hb=>?_⟩;have:i<listed.size:=by rw[gw];exact hi
    simp[this] at hl⊢;exact hl;obtain⟨h1,_⟩:=WA hB i aF[i] (by simp[hi]);have:=h1 e he hb;rw[aue] at this;exact ih e.on this (axP this hi)
   rw[h0] at hm;cases hm
theorem aer{listed:Array Bool}{i:Nat}(h:listed.getD i true=false):listed.getD i false=false:=by rcases avh i listed.size with h'|h';simp[h'] at h⊢;exact h;simp[Array.getElem?_eq_none h'] at h
theorem aes(S:Stat P nt aF B E){listed:Array Bool}{n:Nat}{rest:List DI}{rv:List Rc}{pd:List Pd}{f:Fr}{h hw:Hp}{gI:Bool}{bo:Nat->Nat}{φ:aH}{a:Act}{w:World}(jD:∀i,i<aF.size->listed.getD i false=true)
 (pre:Pre P b nt B E f0 ds listed n rest rv pd f h hw gI bo φ a w) (hd:Dn (cE cf kp fm ds rest n pd f h) oo) (Iv:∀d l,rest=d::l->qO d.k=true/\listed.getD d.i false=false):oa P b nt kp oo .normal a w:=by
 have aet:∀d∈E,listed.getD d.i false=true:=λd hd=>by obtain⟨o,ho,_⟩:=S.De d hd;exact jD d.i (auc.1 ho).1
 cases rest with
 |cons d l=>
  have:=(Iv d l rfl).2;rw[aet d (pre.nM zm)] at this;cases this
 |nil=>
  have rJ:hw=h:=by rcases pre.xG with h1|⟨_,d,e,r',_,_,_,e1,_⟩;exact h1.2;cases e1
  subst rJ;refine⟨.jo f hw ds,hd,rfl,φ,pre.r,pre.st,⟨λt=>?_⟩,pre.df,pre.sz,pre.g⟩;have hs:=pre.Dg (gz t) λd hd=>by cases hd
  have e:mF listed rv f0 (gz t)=val rv f0 (gz t):=aed (N:=[]) (λ_ h=>by cases h) λr hr _=>aet r.d (pre.mem hr);rw[e] at hs;rw[pre.sA];exact hs
theorem an1(C:zN P cf)(O:mS P)(S:Stat P nt aF B E)(hm:PW E f0 fm):∀(fy:Nat)(listed:Array Bool)(n:Nat)(rest:List DI)(rv:List Rc)(pd:List Pd)(f:Fr)(h hw:Hp)(gI:Bool)(bo:Nat->Nat)(φ:aH)(a:Act)(w:World),
 listed.size=aF.size->sy aF listed->left aF listed=fy->Pre P b nt B E f0 ds listed n rest rv pd f h hw gI bo φ a w->Dn (cE cf kp fm ds rest n pd f h) oo->wpAny P .any aF (oa P b nt kp oo) fy listed a w:=by
 intro fy
 induction fy with
 |zero=>
  intro listed n rest rv pd f h hw gI bo φ a w gw hc aeu pre hd;obtain⟨rest,n,rv,pd,f,h,hw,φ,pre,hd,Iv⟩:=aek S hc rest pre hd;have jD:∀i,i<aF.size->listed.getD i false=true:=λi hi=>by
   cases hl:listed.getD i false with
   |true=>rfl
   |false=>
    have:i∈(List.range aF.size).filter λi=> !listed.getD i false:=avv.2 ⟨by simpa using hi,by rw[hl];rfl⟩;have h0:(List.range aF.size).filter (λi=> !listed.getD i false)=[]:=auv aeu;rw[h0] at this;cases this
  refine⟨?_,aes S jD pre hd Iv⟩;cases hr:Region.ready .any aF listed with
  |nil=>rfl
  |cons j l=>
   have hj:j∈Region.ready .any aF listed:=by rw[hr];simp
   obtain⟨h1,o,ho,_⟩:=mem_ready.1 hj;have:=jD j (auc.1 ho).1;rw[aer h1] at this;cases this
 |succ fy ih=>
  intro listed n rest rv pd f h hw gI bo φ a w gw hc aeu pre hd;obtain⟨rest,n,rv,pd,f,h,hw,φ,pre,hd,Iv⟩:=aek S hc rest pre hd;refine⟨λh0=>aes S (an0 S.xF gw h0) pre hd Iv,λi hi=>?_⟩;obtain⟨h1,o,ho,fe⟩:=mem_ready.1 hi;have dy:=aer h1;have aev:i<aF.size:=(auc.1 ho).1;have hsize':(listed.setIfInBounds i true).size=aF.size:=by simpa using gw
  have jQ:=anZ gw hc ho fe;have Dj:left aF (listed.setIfInBounds i true)=fy:=by have:=anY gw aev dy;omega
  obtain⟨d,hdE,hdi⟩:=S.cov i aev;subst hdi;obtain⟨o',fS,eO⟩:=S.De d hdE;rw[ho] at fS;cases fS;have gD:=hdE;rw[pre.split] at gD;rcases auj.1 gD with gD|gD;obtain⟨r,hr,an2⟩:=auR.1 gD;rw[avq] at hr;obtain⟨N,T,qf⟩:=List.append_of_mem hr;subst an2;exact anG O S gw hc pre qf dy ho eO fe λa' w' rK=>ih _ _ _ _ _ _ _ _ _ _ _ _ _ hsize' jQ Dj rK hd;cases bO:rest with
  |nil=>rw[bO] at gD;cases gD
  |cons e l=>
   obtain⟨dJ,aew⟩:=Iv e l bO
   by_cases P1:d=e
   subst P1;cases hk:d.k with
   |v7=>rw[hk] at dJ;cases dJ
   |rd=>rw[hk] at dJ;cases dJ
   |late=>exact ael O S gw pre (by rw[bO];simp) qae dy ho eO λWL a' w' rK=>ih _ _ _ _ _ _ _ _ _ _ _ _ _ hsize' jQ Dj rK hd
   |ev=>
    cases gI with
    |true=>
     rcases pre.xG with h1|⟨_,d',e',r',_,_,_,e1,e2,_⟩;cases h1.1;rw[bO] at e1;cases e1;rw[hk] at e2;cases e2
    |false=>exact anP C O S hm gw hc pre bO hk dy ho eO fe hd λtJ gC f' h' ψ a' w' rK bC=>ih _ _ _ _ _ _ _ _ _ _ _ _ _ hsize' jQ Dj rK bC
   |fst=>
    cases gI with
    |true=>exact anU O S gw hc pre bO dy ho eO fe hd λl' tJ gC f' h' ψ a' w' rK bC=>ih _ _ _ _ _ _ _ _ _ _ _ _ _ hsize' jQ Dj rK bC
    |false=>exact anQ O S gw hc pre bO hk dy ho eO fe hd λtJ h' ψ a' w' rK bC=>ih _ _ _ _ _ _ _ _ _ _ _ _ _ hsize' jQ Dj rK bC
   |snd=>
    cases gI with
    |true=>
     rcases pre.xG with h1|⟨_,d',e',r',_,_,_,e1,e2,_⟩;cases h1.1;rw[bO] at e1;cases e1;rw[hk] at e2;cases e2
    |false=>exact anR O S gw hc pre bO hk dy ho eO fe hd λtJ gC f' h' ψ a' w' rK bC=>ih _ _ _ _ _ _ _ _ _ _ _ _ _ hsize' jQ Dj rK bC
   have mT:d∈l:=by rw[bO] at gD;rcases atZ.1 gD with h2|h2;exact absurd h2 P1;exact h2
   cases ao:kK d.k with
   |true=>exact ael O S gw pre gD ao dy ho eO λWL a' w' rK=>ih _ _ _ _ _ _ _ _ _ _ _ _ _ hsize' jQ Dj rK hd
   |false=>
    have rel:=pre.oP S bO d mT;cases hx:(zb e.k&&tM d.k&&Nat.beq e.hi d.hi) with
    |false=>
     exfalso;have LS:=rel.evr dJ ao hx;have:=yR S.xF hc d.i e.i o ho fe LS;rw[aew] at this;cases this
    |true=>
     simp only[atW] at hx;have gy:e.k=.fst:=by have:=hx.1.1;cases L7:e.k<;>rw[L7] at this<;>first|rfl|(simp[zb] at this)
     have N8:d.k=.snd:=by have:=hx.1.2;cases L7:d.k<;>rw[L7] at this<;>first|rfl|(simp[tM] at this)
     have jM:=pre.num;rw[bO] at jM;simp only[qp,gy,atW] at jM;cases l with
     |nil=>cases mT
     |cons g l'=>
      have hkg:g.k=.snd:=by have this:tM g.k=true:=jM.1.2;cases L7:g.k<;>rw[L7] at this<;>first|rfl|(simp[tM] at this)
      have aex:=jM.2;simp only[qp,hkg,atW] at aex;have hdg:d=g:=by rcases atZ.1 mT with h2|h2;exact h2;exfalso;have:=Dd aex.2 d h2 (by rw[N8];rfl);have e1:=at7 jM.1.1;have e2:=at7 hx.2;omega
      subst hdg;cases gI with
      |true=>
       rcases pre.xG with h1|⟨_,d',e',r',_,_,_,e1,e2,e3,e4,_⟩;cases h1.1;rw[bO] at e1;cases e1;rw[dy] at e4;cases e4
      |false=>exact anS O S gw hc pre bO gy N8 aew dy ho eO fe hd λmZ ψ a' w' rK=>ih _ _ _ _ _ _ _ _ _ _ _ _ _ hsize' jQ Dj rK hd
theorem an3(L8:P.follows .mixedOrders=true):Nz P:=by
 intro cf C O ro nt id aF b φ f h ds a w k oo l hq hl s hd;simp only[comp] at hl;split at hl;rename_i cs oW;simp only[auo] at hl;split at hl;rename_i l' GJ;injection hl with hl;subst hl;obtain⟨⟨B,hB⟩,eO⟩:=anX GJ;simp only[Qj,atW] at hB;obtain⟨⟨⟨⟨⟨h1,h2⟩,h3⟩,h4⟩,h5⟩,h6⟩:=hB;have S:Stat P nt aF B l':=by refine⟨h1,aec h2,λd hd=>auO.1 h3 d hd,λi hi=>?_,λd hd=>?_⟩;have:=auO.1 h5 i qaY;obtain⟨d,hd,he⟩:=awE.1 this;exact⟨d,hd,at7 he⟩;obtain⟨_,q2⟩:=Ny oW;obtain⟨o,g1,g2⟩:=q2 d.i d.c (eO d hd);rw[aue] at g1;exact⟨o,g1,g2⟩
 have jK:∀i,(Array.replicate aF.size false).getD i false=false:=λi=>by rcases avh i aF.size with h|h;simp[h];simp[h]
 refine wpIn_region_any L8 (Zp (hq.imp (λh=>h) Zr) agO _ _ _ _ ?_);have mZ:sL w {w with drawn:=w.drawn+1}:=⟨rfl,rfl,rfl,rfl⟩;have hs:=s.same mZ;refine an1 C O S (aen l' f) aF.size (Array.replicate aF.size false) 0 l' [] [] f h h false (λ_=>0) φ a {w with drawn:=w.drawn+1} zm (λj oj _ hl=>by rw[jK] at hl;cases hl) ?_ ?_ hd;unfold left;have:(List.range aF.size).filter (λi=> !(Array.replicate aF.size false).getD i false)=List.range aF.size:=awL.2 λi _=>by rw[jK];rfl
 rw[this];simp;refine⟨rfl,auW,λp=>rfl,λp _=>?_,(λr hr=>by cases hr),(λr hr=>by cases hr),(λd _ hl=>by rw[jK] at hl;cases hl),(λd _ _ hl=>by rw[jK] at hl;cases hl),(λd _ e _ _ _ hl=>by rw[jK] at hl;cases hl),.inl ⟨rfl,rfl⟩,h4,hs.r,hs.st,hs.df,hs.sz,hs.g⟩;have:=hs.fr.all p;exact this;cases hl;cases hl
end
section
variable{P:Program}{φ:aH}{h:Hp}{w:World}{f:Fr}{a:Act}{o:Oper}
theorem an4(G:jq φ P)(hf:iq φ f a.tmps)(r:R φ h w){t:TypeId}{x:Operand}{lo hi mx:Option Operand}(ho:o.op=.slice t x lo hi mx):Good P φ h w f a o (Gd P t x lo hi mx):=by
 have he:execOp a.eval o=(do pure (.value (<-Instr.sliceAt t (a.eval x) (lo.map a.eval) (hi.map a.eval) (mx.map a.eval)))):=by simp[execOp,ho]
 unfold Gd;split;rename_i h1;split;exact M1 G hf λcl hl=>M1 G hf λch hh=>gY G hf λc hc=>iO he (afO h1 hc (PM hl) (PM hh));exact cy;rename_i n e h1;split;rename_i s h2;exact M1 G hf λcl hl=>M1 G hf λch hh=>gY G hf λc hc=>iO he (afT r h1 h2 hc (PM hl) (PM hh));exact cy;exact cy
theorem an5(G:jq φ P)(hf:iq φ f a.tmps)(r:R φ h w){t:TypeId}{x:Operand}(ho:o.op=.range t x):Good P φ h w f a o (eX P (.range t x)):=by
 have he:execOp a.eval o=(do pure (.value (<-Instr.range t (a.eval x)))):=by simp[execOp,ho]
 simp only[eX];split
 ·rename_i kt e h1;split
  ·rename_i ek h2;refine gY G hf λc hc=>vf he (agh r h1 ?_ hc);unfold qq at h2;split at h2<;>first|(cases h2;rfl)|skip
   split at h2<;>first|(cases h2;rfl)|cases h2
   cases h2
  exact cy
 exact cy
theorem an6(G:jq φ P)(hf:iq φ f a.tmps)(r:R φ h w){x:Operand}(ho:o.op=.entry x):Good P φ h w f a o (ap P .entry x):=by
 have he:execOp a.eval o=(do pure (.value (<-Instr.entry (a.eval x)))):=by simp[execOp,ho]
 refine gY G hf λc hc=>iO he ?_;simp only[aQ];cases hx:c.get f with
 |ptr i off=>
  rw[hx] at hc;have jQ:=hc;simp only[aj] at hc;rw[hc.2] at jQ⊢;exact agm r jQ
 |_=>trivial
theorem an7(G:jq φ P)(hf:iq φ f a.tmps){c:Go.Call}(ho:o.op=.defer c):Good P φ h w f a o (eX P (.defer c)):=by
 simp only[eX];split;rename_i fo xD;refine gY G hf λcf rS=>Cc G hf λcs hl=>?_;unfold Good;simp only[aQ,Mt];cases hx:cf.get f with
 |func g first cap=>
  rw[hx] at rS;simp only[aj] at rS;obtain⟨fs,sV,hv,d1,d2⟩:=rS;refine⟨{target:=.fn (.func g.n) sV,args:=fs++c.args.map a.eval},w,by simp[execOp,ho,resolve,xD,hv,Deferred.ofValue],.refl w,sV,_,_,rfl,rfl,PN d1 (PN hl d2),?_⟩;simp[av7]
 |_=>trivial
 exact cy
theorem an8(G:jq φ P)(hf:iq φ f a.tmps){x:Operand}(ho:o.op=.panic x):Good P φ h w f a o (ap P .panic x):=by
 refine gY G hf λc hc=>?_;unfold Good;simp only[aQ,Qd];cases hx:c.get f with
 |iface t v=>
  have jQ:=hc;rw[hx] at hc;simp only[aj] at hc;obtain⟨y,hv,hd⟩:=hc;refine⟨a.eval x,w,by simp[execOp,ho,hv,Instr.panic],.refl w,by rw[<-hx];exact jQ⟩
 |_=>trivial
theorem an9(P:Program):mS P:=by
 intro φ h w f a o r G hf;cases ho:o.op with
 |move x=>
  simp only[eX];refine gY G hf λc hc=>?_;unfold Good;rw[show execOp a.eval o=pure (.value (a.eval x)) by simp[execOp,ho]];exact RQ rfl hc
 |assign x=>
  simp only[eX];refine gY G hf λc hc=>?_;unfold Good;rw[show execOp a.eval o=pure (.value (a.eval x)) by simp[execOp,ho]];exact RQ rfl hc
 |pick c x y=>
  simp only[eX];exact gY G hf λcc Bk=>kA G hf λd e hd he=>iO (s:=do pure (if<-asBool (a.eval c) then a.eval x else a.eval y)) qak (afN Bk hd he)
 |alloc t=>simp only[eX];exact af4 r ho
 |box t x=>
  simp only[eX];split;exact gY G hf λc hc=>vf (s:=Instr.box t (a.eval x)) qak (afU r hc);exact cy
 |build t ps=>simp only[eX];exact afX G hf ho
 |buildSlice t n ps=>simp only[eX];exact afZ G hf r ho
 |load t x=>
  simp only[eX,Je];have he:execOp a.eval o=(do pure (.value (<-Instr.loadAt t (a.eval x)))):=by simp[execOp,ho]
  split;rename_i d n h1 h2;cases ha:oR d with
  |true=>simp only[auo];exact gY G hf λc hc=>iO he (YC r h1 ha h2 hc)
  |false=>simp only[at3,auM];exact gY G hf λc hc=>iO he (YB r h1 ha hc)
  exact cy
 |store t x y=>
  simp only[eX];split;rename_i n h1;exact kA G hf λc d hc hd=>Si (s:=Instr.storeAt t (a.eval x) (a.eval y)) qak (afV r h1 hc hd);exact cy
 |nilCheck x=>simp only[eX];exact gY G hf λc hc=>af8 ho hc
 |binOp b t x y ty=>simp only[eX];exact ant G hf ho
 |unOp u t x=>
  have he:execOp a.eval o=(do pure (.value (<-Op.unary u (a.eval x)))):=by simp[execOp,ho]
  simp only[eX];cases u with
  |neg=>exact gY G hf λc hc=>iO he (afC hc)
  |not=>exact gY G hf λc hc=>iO he (afD hc)
  |xor=>exact gY G hf λc hc=>iO he (afE hc)
  |plus=>exact cy
 |convert s d x=>simp only[eX];exact anu G hf r ho
 |makeInterface t x=>
  simp only[eX];split;exact cy;rename_i d h1 h2;exact gY G hf λc hc=>iO (s:=Instr.makeInterface t (a.eval x)) qak (afJ h2 (λms e=>h1 ms e) hc);exact cy
 |makeFunc fn x y=>
  cases fn with
  |func g=>
   simp only[eX];refine Cc G hf λcs hl=>Cc G hf λds hm=>?_;refine iO (s:=Instr.makeFunc (.func g) (x.map a.eval) (y.map a.eval)) qak ?_;have:=af7 (P:=P) (w:=w) (fn:=g) rfl hl hm;rw[toList_map,toList_map];exact this
  |_=>simp only[eX];exact cy
 |makeMap t x=>
  cases x with
  |none=>simp only[eX];exact vf (s:=Instr.makeMap t none) qak (af6 r)
  |some x=>simp only[eX];exact cy
 |makeSlice t x y=>
  simp only[eX];split;rename_i e h1;split;rename_i i z h2 h3;split;rename_i s h4;split;rename_i h5;exact kA G hf λc d hc hd=>vf (s:=Instr.makeSlice t (a.eval x) (a.eval y)) qak (af5 r h1 h2 h3 h4 h5 hc hd);exact cy;exact cy;exact cy;exact cy
 |slice t x lo hi mx=>simp only[eX];exact an4 G hf r ho
 |fieldAddr s x k=>
  have he:execOp a.eval o=(do pure (.value (<-Instr.fieldAt s (a.eval x) k))):=by simp[execOp,ho]
  simp only[eX,Ja];split;rename_i fs h1;split;rename_i fd h2;split;rename_i n h3;exact gY G hf λc hc=>iO he (afK h1 h2 h3 hc);exact cy;exact cy;exact cy
 |field s x k=>
  have he:execOp a.eval o=(do pure (.value (<-Instr.field s (a.eval x) k))):=by simp[execOp,ho]
  simp only[eX,Jb];split;rename_i fs h1;split;rename_i fd h2;split;rename_i n d h3 h4;exact gY G hf λc hc=>iO he (afM h1 h2 h3 h4 hc);exact cy;exact cy;exact cy
 |indexAddr t x y=>
  have he:execOp a.eval o=(do pure (.value (<-Instr.indexAt t (a.eval x) (a.eval y)))):=by simp[execOp,ho]
  simp only[eX,Jc];split;rename_i e h1;split;rename_i s h2;exact kA G hf λc d hc hd=>iO he (afQ h1 h2 hc hd);exact cy;rename_i n e h1;split;rename_i s h2;exact kA G hf λc d hc hd=>iO he (afR h1 h2 hc hd);exact cy;exact cy
 |index t x y=>
  have he:execOp a.eval o=(do pure (.value (<-Instr.index t (a.eval x) (a.eval y)))):=by simp[execOp,ho]
  simp only[eX,Jd];split;rename_i h1;exact kA G hf λc d hc hd=>iO he (afS h1 hc hd);exact cy
 |lookup t x k ok=>
  have he:execOp a.eval o=(do pure (.value (<-Instr.lookup t (a.eval x) (a.eval k) ok))):=by simp[execOp,ho]
  simp only[eX];split;rename_i kt e h1;split;rename_i z ek h2 h3;exact kA G hf λc d hc hd=>iO he (agc r h1 h3 h2 hc hd);exact cy;exact cy
 |mapUpdate t m k v=>
  have he:execOp a.eval o=(do Instr.mapUpdate t (a.eval m) (a.eval k) (a.eval v);pure .skip):=by simp[execOp,ho]
  simp only[eX];split;rename_i kt e h1;split;rename_i ek h2;exact gY G hf λc hc=>kA G hf λd e hd qK=>Si he (Y0 r h1 h2 hc hd qK);exact cy;exact cy
 |insert t m k v=>
  have he:execOp a.eval o=(do Instr.mapUpdate t (a.eval m) (a.eval k) (a.eval v);pure .skip):=by simp[execOp,ho]
  simp only[eX];split;rename_i kt e h1;split;rename_i ek h2;exact gY G hf λc hc=>kA G hf λd e hd qK=>Si he (Y0 r h1 h2 hc hd qK);exact cy;exact cy
 |range t x=>exact an5 G hf r ho
 |next x s=>simp only[eX];exact anx G hf r ho
 |entry x=>simp only[eX];exact an6 G hf r ho
 |typeAssert x xt t ok=>
  have he:execOp a.eval o=(do pure (.value (<-Instr.typeAssert (a.eval x) xt t ok))):=by simp[execOp,ho]
  simp only[eX];split;exact cy;rename_i d h1 h2;split;rename_i z h3;exact gY G hf λc hc=>iO he (af9 h2 (λms e=>h1 ms e) h3 hc);exact cy;exact cy
 |extract x n=>simp only[eX];exact gY G hf λc hc=>iO (s:=Instr.extract (a.eval x) n) qak (afI hc)
 |call c=>simp only[eX];exact anD G hf r ho
 |panic x=>simp only[eX];exact an8 G hf ho
 |defer c=>exact an7 G hf ho
 |_=>simp only[eX];exact cy
def an'(c:CO):Bool:=match c with|.recover=>true|_=>false
def nR(c:CO):Prop:=an' c=false
theorem xJ{s:String}:nR (.bad s):=rfl
theorem L9{c:CO}(h:nR c)(e:c=.recover):False:=by subst e;cases h
theorem Dk{F:CX->CO}{x:Operand}(h:∀c,nR (F c)):nR (ap P F x):=by unfold ap;split;exact h _;exact xJ
theorem aey{F:Option CX->CO}{x:Option Operand}(h:∀c,nR (F c)):nR (zh P F x):=by unfold zh;split;exact h _;exact Dk λc=>h _
theorem FA{F:List CX->CO}{x:List Operand}(h:∀c,nR (F c)):nR (qP P F x):=by unfold qP;split;exact h _;exact xJ
theorem aoa{op:Op}(hc:∀c,op≠.call c):nR (eX P op):=by
 have one:∀{F:CX->CO}{x:Operand},(∀c,nR (F c))->nR (ap P F x):=λh=>Dk h;have wX:∀{F:CX->CX->CO}{x y:Operand},(∀c d,nR (F c d))->nR (jm P F x y):=λh=>Dk λc=>Dk λd=>h c d;cases op<;>simp only[eX,Je,Ja,Jb,Jc,Jd,Gd,F8,F9,Ga,Gb,Gc]
 case call c=>exact absurd rfl (hc c)
 case makeFunc fn x y=>cases fn<;>first|exact xJ|exact FA λ_=>FA λ_=>rfl
 case makeMap t x=>cases x<;>first|exact xJ|exact rfl
 case unOp u t x=>cases u<;>first|exact xJ|exact one λ_=>rfl
 case binOp b t x y ty=>
  cases b<;>simp only[]<;>(repeat' split)<;>first|exact xJ|exact wX λ_ _=>rfl
 all_goals(repeat' split)
 all_goals first
  |exact xJ
  |exact rfl
  |exact one λ_=>rfl
  |exact wX λ_ _=>rfl
  |exact one λ_=>wX λ_ _=>rfl
  |exact aey λ_=>aey λ_=>one λ_=>rfl
  |exact one λ_=>FA λ_=>rfl
theorem aob(P:Program):Fo P:=by
 intro o h ρ w
 by_cases hc:∃c,o.op=.call c
 ·obtain⟨c,ho⟩:=hc;rw[ho] at h;simp only[eX] at h;unfold AQ at h;split at h;exfalso;refine L9 ?_ h;split;split;exact xJ;split;split;exact FA λ_=>rfl;exact xJ;exact FA λ_=>rfl;exact xJ;refine(L9 ?_ h).elim;exact Dk λ_=>FA λ_=>rfl;exact(L9 xJ h).elim
  ·rename_i b xD;unfold DL at h;split at h
   case h_8=>
    refine⟨w,?_,.refl w⟩;simp[execOp,ho,resolve,xD,invoke,builtin]
   all_goals
    exfalso;refine L9 ?_ h
    repeat' split
   all_goals first
    |exact xJ
    |exact Dk λ_=>rfl
    |exact Dk λ_=>Dk λ_=>rfl
    |exact FA λ_=>rfl
    |exact rfl
 exact(L9 (aoa λc e=>hc ⟨c,e⟩) h).elim
theorem aoc{gN:aM->Option CF}(T:Ed P gN)(L8:P.follows .mixedOrders=true):zN P (aE gN (W gN)):=
 am4 T (an9 P) (aob P) (an3 L8)
end
section
variable{P:Program}{w:World}{B S':Nat->Nat}
noncomputable def mG(P:Program)(w:World)(B S':Nat->Nat):aH where
 dom:=λi=>i<23
 aL:=B
 sh:=S'
 sz:=λi=>match w.heap[B i]? with|some (.cells aO _ _)=>aO.size|_=>0
 cB:=λi=>(w.heap[B i]?).getD default
 prog:=P
theorem aod(hz:P.globals.size<=19)(hB:∀i,i<19->B i=i/\S' i=0):jq (mG P w B S') P:=⟨rfl,λg h1 _=>
 ⟨show gid g<23 by show g<23;omega,(hB g zo).1,(hB g zo).2⟩⟩
theorem WX{i rw cnt:Nat}{t:N3 (List AV)}{aO:Array Value}{el:Nat}{fr:Nat×Nat}(hb:w.heap[B i]? =some (.cells aO el fr))(dX:0<rw)(qT:cnt<=1152921504606846976)(bz:∀k,k<cnt->(dY t k).length=rw)
 (cP:S' i+cnt*rw<=aO.size) (hc:∀k j,k<cnt->j<rw->∃a v,(dY t k)[j]? =some a/\aO[S' i+(k*rw+j)]? =some v/\aj (mG P w B S') a v/\v.oneCell'=true):
 kM (mG P w B S') w i (.cB rw cnt t):=by
 have JN:(mG P w B S').cB i=.cells aO el fr:=by show(w.heap[B i]?).getD default=_;rw[hb];rfl
 have split:∀j,j<cnt*rw->j/rw<cnt/\j% rw<rw/\j/rw*rw+j% rw=j:=λj hj=>
  ⟨auw qap,avn _ dX,by rw[auB];exact awH _ _⟩
 refine⟨by rw[JN];exact hb,⟨dX,qT,bz⟩,aO,el,fr,JN,cP,λj a ha=>?_,λj v hj hv=>?_⟩;simp only[AO.cell] at ha;split at ha;rename_i hj;obtain⟨h1,h2,h3⟩:=split j hj;obtain⟨a',v,e1,e2,e3,_⟩:=hc _ _ h1 h2;rw[e1] at ha;cases ha;rw[h3] at e2;exact⟨v,e2,e3⟩;cases ha;obtain⟨h1,h2,h3⟩:=split j hj;obtain⟨a',v',e1,e2,e3,e4⟩:=hc _ _ h1 h2;rw[h3] at e2;have e5:aO[S' i+j]? =some v:=hv;rw[e2] at e5;cases e5;exact e4
theorem P4{t:Nat×Nat}{o:AO}(ho:o.sI=true\/o=.eD)(i:Nat):dH (xB t o i)=true->(xB t o i).sI=true:=by
 intro h;unfold xB at h⊢;split at h<;>first|rfl|(split at h<;>cases h)|skip
 rcases ho with x|rfl;exact x;cases h
theorem aez{t:Nat×Nat}{o:AO}(ho:o.sI=true\/o=.eD)(h:∀i,i<23->kM (mG P w B S') w i (xB t o i)):R (mG P w B S') (nL t o) w where
 dom:=λi=>by
  rw[adQ];show i<23 <-> _;unfold xB;split<;>first|(constructor<;>intro _<;>first|rfl|omega)|skip
  rcases ho with x|rfl;constructor;intro _;cases o<;>first|rfl|cases x
  intro _;omega;constructor<;>intro _<;>first|rfl|omega
  split;constructor<;>intro _<;>first|rfl|omega
  constructor;intro _;exfalso;have n22:¬i=22:=by assumption
  omega;intro e;cases e
 gq:=λi=>by
  by_cases hi:i<23
  exact h i hi;have e:(nL t o).get i=.uN:=(nL t o).new i (by show 23<=i;omega);rw[e];trivial
 inj:=λi j h1 h2 _=>.inr ⟨P4 ho i h1,P4 ho j h2⟩
 lt:=λi h1=>by
  have hi:i<23:=by have:=h1;rcases avh i 23 with x|x;exact x;have e:(nL t o).get i=.uN:=(nL t o).new i x;rw[e] at this;cases this
  have hc:=P4 ho i h1;have ob:=h i hi;cases hg:xB t o i<;>rw[hg] at hc ob<;>first|cases hc|skip
  obtain⟨h5,_,aO,el,fr,h6,_⟩:=ob;rw[h6] at h5;exact(auc.1 h5).1
theorem aeA{T:aM->Option CF}(ok:Ed P T)(L8:P.follows .mixedOrders=true){t:Nat×Nat}{o:AO}(ho:o.sI=true\/o=.eD)(r:R (mG P w B S') (nL t o) w)(g:jq (mG P w B S') P){a:List AV}{vs:Array Value}(hd:cz (mG P w B S') a vs.toList){n:Nat}
 (hk:aE T (W T) ⟨n⟩ a (nL t o) λco=>∃h',co=.ret (.bool true) h'/\∀i,i<23->h'.get i=(nL t o).get i):
 Calls P n vs w λe w'=>e=.returned (.bool true)/\w'.os=w.os/\w'.output=w.output/\∀i,i<w.heap.size->w'.heap[i]? =w.heap[i]? :=by
 obtain⟨_,h⟩:=aoc ok L8 ⟨n⟩ a (nL t o) _ (.ret .any (nL t o)) _ w vs hk r g hd;refine h.mono λe w' he=>?_;obtain⟨co,⟨h',rfl,same⟩,ψ,u,rfl,hu,r',st⟩:=he;simp only[aj] at hu;refine⟨by rw[hu],st.os,st.output,λc hc=>?_⟩
 by_cases jz:∃i,dH ((nL t o).get i)=true/\(mG P w B S').aL i=c
 ·obtain⟨i,hi,rfl⟩:=jz;have eO:((nL t o).get i).sI=true:=P4 ho i hi;have ob:=r.gq i;have pD:(mG P w B S').dom i:=(r.dom i).2 (uY hi);have WY:=r'.gq i;rw[same i pD] at WY;cases hg:(nL t o).get i<;>rw[hg] at eO ob WY<;>first|cases eO|skip
  have h1:=ob.1;have h2:=WY.1;rw[st.le.aL _ pD,st.le.cB _ pD] at h2;rw[h1,h2]
 exact st.frame c hc λj hj ej=>jz ⟨j,hj,ej⟩
end
section
variable{H:Type}{di:TypeId×Value->H}{P:Program}{w:World}{base:Nat}{sp:Nat->Bool}{held:Bool}{fy:Nat}{t e:TypeId}{cs:List Value}{p:List MemPlace}
def WZ:Lit->Value
 |.bool b=>.bool b
 |.int k n=>.int k n
 |.float k b=>.float k b
 |.string s=>.string ⟨s.toArray⟩
 |.nil=>.nilIface
theorem aeB{l:Lit}(h:DataW.trod di P w base sp held fy t cs=some (.lit l,p)):cs=[WZ l]:=by
 cases fy with
 |zero=>simp[DataW.trod] at h
 |succ n=>
  unfold DataW.trod at h;split at h<;>first
   |(cases h;rfl)
   |(split at h<;>first|(cases h;rfl)|(cases h;done)|(simp[au',aw4] at h;done))
   |(simp[au',aw4] at h;done)
   |skip
  all_goals(repeat' split at h)<;>simp_all
  all_goals exact h.1 ▸rfl
def P5(P:Program)(t:TypeId)(n:Nat):Bool:=P.cellsOf t==n&&(match P.underlying t with|some (.struct fs)=>fs.size==n&&(fs.toList.zipIdx.all λx=>x.1.offset==x.2 &&P.cellsOf x.1.type==1)|_=>false)
theorem aoe{α:Type}{l:List α}{i:Nat}{x:α}(h:(l.drop i).take 1=[x]):l[i]? =some x:=by have:=aui (·[0]?) h;simpa[awO,auF] using this
theorem aof{ls:List Lit}{n:Nat}(hr:P5 P t n=true)(h:DataW.trod di P w base sp held fy t cs=some (.agg (ls.map .lit),p)):cs=ls.map WZ:=by
 unfold P5 at hr;simp only[atW,av9] at hr;obtain⟨hn,hr⟩:=hr;split at hr;rename_i fs hu;simp only[atW,av9] at hr;obtain⟨hs,hf⟩:=hr;obtain⟨xs,m,rfl,hx,hl,Dh,jD⟩:=DataW.trod_struct hu h;simp only[avj,DataW.agg.injEq] at hx;obtain⟨hx,_⟩:=hx;have hls:ls.length=n:=by have:=aui List.length hx;simp only[avd] at this;omega
 refine avs λi=>?_
 by_cases hi:i<n
 have hif:i<fs.size:=zo;have hz:=auO.1 hf (fs[i],i) (by rw[List.mem_zipIdx_iff_getElem?];simp[hif])
 simp only[atW,av9] at hz;have h1:=jD i fs[i] (au7 hif);rw[hz.1,hz.2,atT (show i<xs.length by omega)] at h1;have h2:(ls.map DataW.lit:List (DataW H))[i]? =some xs[i].1 :=by rw[hx,auh,atT (show i<xs.length by omega)];rfl
 rw[auh,atT (show i<ls.length by omega)] at h2;simp only[au3,atU] at h2;have h3:DataW.trod di P w base sp held m fs[i].type ((cs.drop i).take 1)=some (.lit ls[i],xs[i].2):=by rw[h1,h2]
 rw[aoe (aeB h3),auh,atT (show i<ls.length by omega)];rfl;rw[auI zo,auI (by simp only[avd];omega)];cases hr
theorem aog{n:Nat}{ds:List (DataW H)}(ht:P.underlying t=some (.array n e))(h:DataW.trod di P w base sp held fy t cs=some (.agg ds,p)):
 ds.length=n/\cs.length=P.cellsOf t/\∀(i:Nat) d,ds[i]? =some d->∃m q,DataW.trod di P w base sp held m e ((cs.drop (i*P.cellsOf e)).take (P.cellsOf e))=some (d,q):=by
 obtain⟨xs,m,rfl,hx,hl,Dh,jD⟩:=DataW.trod_array ht h;simp only[avj,DataW.agg.injEq] at hx;obtain⟨rfl,_⟩:=hx;refine⟨by simpa using Dh,hl,λi d hd=>?_⟩;rw[auh,au'] at hd;obtain⟨x,hx,rfl⟩:=hd;have hi:i<n:=by rw[<-Dh];exact(at0.1 hx).1
 exact⟨m,x.2,by rw[jD i hi,hx]⟩
theorem aeC{a:Addr}{k n:Nat}{l:List Value}(h:w.cells? base (a.add k) n=some l)(hn:0<n):
 l.length=n/\(k=0->a.spot=none)/\∃aO el fr,w.heap[a.block]? =some (.cells aO el fr)/\∀j,j<n->aO[a.off+(k+j)]? =l[j]? /\∃v,l[j]? =some v:=by
 obtain⟨_,hl,hc⟩:=World.cells?_some h;have P6:k=0->a.spot=none:=λhk=>by
  subst hk;have h0:=hc 0 hn;have e0:(a.add 0).add 0=a:=by simp[Addr.add]
  rw[e0,atT zo] at h0;cases hs:a.spot with
  |none=>rfl
  |some q=>
   exfalso;simp only[World.cell?,hs] at h0;split at h0<;>simp at h0
 have key:∀j,j<n->w.cell? ⟨a.block,a.off+(k+j),none⟩=l[j]? :=λj hj=>by
  rw[<-hc j hj];congr 1
  by_cases hk:k=0
  subst hk;have:=P6 rfl;cases a;simp only at this;subst this
  by_cases Ar:j=0<;>simp[Addr.add,Ar]
  by_cases Ar:j=0<;>simp[Addr.add,hk,Ar,avg]
 have h0:=key 0 hn;rw[atT zo] at h0;simp only[World.cell?] at h0;split at h0;rename_i aO el fr hb;refine⟨hl,P6,aO,el,fr,hb,λj hj=>⟨?_,_,atT zo⟩⟩;have hk:=key j hj;simp only[World.cell?,hb] at hk;simpa using hk;cases h0
theorem aeD{ds rest:List (DataW H)}(ht:P.underlying t=some (.slice e))(mO:0<P.cellsOf e)(h:DataW.trod di P w base (λ_=>true) held fy t cs=some (.slice ds rest,p)):
 ∃a,cs=[.slice (some a) ds.length (ds.length+rest.length)]/\(0<ds.length+rest.length->a.spot=none/\∃aO el fr,w.heap[a.block]? =some (.cells aO el fr)/\a.off+(ds.length+rest.length)*P.cellsOf e<=aO.size/\
  ∀(i:Nat) d,(ds++rest)[i]? =some d->∃l m q,DataW.trod di P w base (λ_=>true) held m e l=some (d,q)/\l.length=P.cellsOf e/\∀(j:Nat) v,l[j]? =some v->aO[a.off+(i*P.cellsOf e+j)]? =some v):=by
 rcases Deep.open_slice ht h with⟨_,hx⟩|⟨a,len,cap,m,n,D,Pl,rfl,_,SM,_,hm,hx,sU⟩;cases hx;simp only[auo] at hm;subst hm;simp only[avj,DataW.slice.injEq] at hx;obtain⟨⟨og,bO⟩,_⟩:=hx;have l1:ds.length=len:=by rw[og];simp
 have l2:rest.length=m- len:=by rw[bO];simp
 have aeE:ds.length+rest.length=m:=zo;refine⟨a,by rw[aeE,l1],λhp=>?_⟩;rw[aeE] at hp⊢;obtain⟨c0,h0,_⟩:=sU 0 hp;rw[awN] at h0;obtain⟨_,P6,aO,el,fr,hb,_⟩:=aeC h0 mO;have at_:∀i,i<m->∃l q,DataW.trod di P w base (λ_=>true) held n e l=some (D i,q)/\l.length=P.cellsOf e/\∀(j:Nat) v,l[j]? =some v->aO[a.off+(i*P.cellsOf e+j)]? =some v:=λi hi=>by obtain⟨l,h1,h2⟩:=sU i hi;obtain⟨hl,_,mo,rM,bJ,oY,hc⟩:=aeC h1 mO;rw[hb] at oY;cases oY;refine⟨l,_,h2,hl,λj v hj=>?_⟩;rw[(hc j (by rw[<-hl];exact(at0.1 hj).1)).1,hj]
 refine⟨P6 rfl,aO,el,fr,hb,?_,λi d hd=>?_⟩;obtain⟨l,q,_,hl,hc⟩:=at_ (m- 1) zo;have h1:=hc (P.cellsOf e- 1) _ (atT zo);have h2:=(auc.1 h1).1;have h3:(m- 1)*P.cellsOf e+P.cellsOf e=m*P.cellsOf e:=by rw[<-Nat.succ_mul];congr 1;omega
 omega;have hi:i<m:=by have:=(at0.1 hd).1;simp only[auk] at this;omega
 obtain⟨l,q,h1,h2,h3⟩:=at_ i hi;have hD:D i=d:=by
  by_cases LM:i<len
  rw[aun zo,og,auh,awh LM] at hd;simpa using hd;rw[auq zo,bO,auh,awh zo] at hd;simp only[au3,atU] at hd;rw[<-hd];congr 1;omega
 exact⟨l,n,q,by rw[<-hD];exact h1,h2,h3⟩
theorem aoh{n:String}{g:Nat}{cs:Array Value}(hn:P.globalNamed n=some g)(hv:w.var? P n=some cs):∃el fr,w.heap[g]? =some (.cells cs el fr):=by simp only[World.var?,hn,awf] at hv;split at hv;rename_i c el fr hb;cases hv;exact⟨el,fr,hb⟩;cases hv
theorem yT{laid:List (String×DataW Unit)}{n:String}{d:DataW Unit}{g:Nat}{t:TypeId}(h:laidMetH P laid w)(hm:(laid.filter λx=>x.1 ==n)=[(n,d)]) (hh:d.handleName?.isNone=true) (hg:P.globalNamed n=some g) (ht:(P.globals[g]?).map (·.type)=some t):
 ∃cs el fr fy p,w.heap[g]? =some (.cells cs el fr)/\DataW.trod (λ_=>()) P w 0 (λ_=>true) false fy t cs.toList=some (d,p):=by
 have h1:=laidMetH.filter (λx=>x.1 ==n) h;rw[hm,MakeChecks.laidMetH_plain _ _ _ (by simp[hh])] at h1;obtain⟨ps,⟨g',t',cs,fy,p,q,e1,e2,hv,hd,_⟩,_⟩:=h1;rw[hg] at e1;cases e1;rw[ht] at e2;cases e2;obtain⟨el,fr,hb⟩:=aoh hg hv;exact⟨cs,el,fr,fy,p,hb,hd⟩
end
section
variable{P:Program}{w:World}{B S':Nat->Nat}
def yU(a:AV):Option Value:=
 match a with
 |.bool b=>some (.bool b)
 |.i n=>some (.int .i64 n)
 |.u8 n=>some (.int .u8 n)
 |.int k n=>some (.int k n)
 |.bN k b=>some (.float k b)
 |.str l n=>if n<256^l then some (.string ⟨((hO l n).map UInt8.ofNat).toArray⟩) else none
 |_=>none
theorem aoi:∀(l n:Nat),∀b∈hO l n,b<256
 |0,n,b,h=>by simp[hO] at h
 |l+1,n,b,h=>by
  have:=MV (l+1) n;obtain⟨i,hi⟩:=aum h;have hl:i<l+1:=by have:=(at0.1 hi).1;rw[RK] at this;exact this
  rw[this i hl] at hi;cases hi;exact avn _ zd
theorem aoj{a:AV}{v:Value}(h:yU a=some v)(φ:aH):aj φ a v/\v.oneCell'=true:=by
 cases a<;>simp only[yU,atU,reduceCtorEq] at h
 case str l n=>
  split at h;rename_i hn;simp only[atU] at h;subst h;refine⟨?_,rfl⟩;simp only[aj];refine⟨_,rfl,?_,hn⟩;simp only[av4];have:∀b∈hO l n,((λx:UInt8=>x.toNat)∘UInt8.ofNat) b=b:=λb hb=>by have:=aoi l n b hb;simp only[Function.comp_apply,axG];omega
  rw[avB this,List.map_id'];cases h
 all_goals
  subst h;exact⟨by simp only[aj];try rfl,rfl⟩
def Iw(w:World)(b s rw:Nat)(L:List (List Value)):Prop:=
 ∃aO el fr,w.heap[b]? =some (.cells aO el fr)/\s+L.length*rw<=aO.size/\∀(k:Nat) l,L[k]? =some l->l.length=rw/\∀(j:Nat) v,l[j]? =some v->aO[s+(k*rw+j)]? =some v
theorem Iw.cB{b s i rw n:Nat}{L:List (List Value)}{t:N3 (List AV)}(h:Iw w b s rw L)(hb:B i=b)(hs:S' i=s)(dX:0<rw)(vz:L.length=n)(hn:n<=1152921504606846976)
 (ht:∀(k:Nat) l,L[k]? =some l->(dY t k).map yU=l.map some):kM (mG P w B S') w i (.cB rw n t):=by
 subst vz;obtain⟨aO,el,fr,h1,h2,h3⟩:=h;subst hb hs;have row:∀k,k<L.length->∃l,L[k]? =some l/\l.length=rw/\(dY t k).map yU=l.map some:=λk hk=>⟨L[k],atT hk,(h3 k _ (atT hk)).1,ht k _ (atT hk)⟩;refine WX h1 dX hn (λk hk=>?_) h2 λk j hk hj=>?_;obtain⟨l,_,e1,e2⟩:=row k hk;have:=aui List.length e2;simp only[avd] at this;omega;obtain⟨l,e0,e1,e2⟩:=row k hk;have e3:((dY t k).map yU)[j]? =some (some l[j]):=by rw[e2,auh,atT zo];rfl
 rw[auh] at e3;obtain⟨a,ha,hv⟩:=au'.1 e3;obtain⟨d,o⟩:=aoj hv (mG P w B S');exact⟨a,_,ha,(h3 k l e0).2 j _ (atT zo),d,o⟩
theorem BM{L:List (List Value)}{t:N3 (List AV)}(h:(List.range L.length).map (λk=>(dY t k).map yU)=L.map λl=>l.map some) (k:Nat) (l:List Value) (hk:L[k]? =some l):(dY t k).map yU=l.map some:=by have h1:=aui (·[k]?) h;simp only[auh,hk,au3] at h1;rw[awh (at0.1 hk).1] at h1;simpa using h1
section
variable{H:Type}{di:TypeId×Value->H}{base:Nat}{held:Bool}{fy:Nat}{t e:TypeId}{cs:Array Value}{p:List MemPlace}{el:Nat}{fr:Nat×Nat}{b:Nat}
def Ma(d:DataW H):List Value:=
 match d with
 |.lit l=>[l.value]
 |.agg ds=>ds.flatMap fun|.lit l=>[l.value]|_=>[]
 |_=>[]
def Mb(d:DataW H):Bool:=match d with|.lit .nil=>false|.lit _=>true|_=>false
def FB(P:Program)(e:TypeId)(rw:Nat)(d:DataW H):Bool:=
 match d with
 |.lit .nil=>false
 |.lit _=>rw==1
 |.agg ds=>P5 P e rw&&ds.all Mb&&ds.length==rw
 |_=>false
theorem aeF:∀{ds:List (DataW H)},ds.all Mb=true->∃ls:List Lit,ds=ls.map .lit/\(ds.flatMap fun|.lit l=>[l.value]|_=>[])=ls.map WZ
 |[],_=>⟨[],rfl,rfl⟩
 |d::ds,h=>by simp only[aw2,atW] at h;obtain⟨ls,rfl,e⟩:=aeF h.2;cases d<;>simp only[Mb,at3,false_and] at h;rename_i l;refine⟨l::ls,rfl,?_⟩;rw[List.flatMap_cons,e];cases l<;>simp[Mb] at h<;>rfl
theorem W1{rw:Nat}{sp:Nat->Bool}{l:List Value}{d:DataW H}(hb:FB P e rw d=true)(h:DataW.trod di P w base sp held fy e l=some (d,p)):l=Ma d/\l.length=rw:=by
 cases d<;>simp only[FB,at3] at hb
 case lit x=>
  have hh:=aeB h;cases x<;>simp at hb<;>subst hb<;>exact⟨hh,by rw[hh];rfl⟩
 case agg ds=>
  simp only[atW,av9] at hb;obtain⟨⟨h1,h2⟩,h3⟩:=hb;obtain⟨ls,rfl,e2⟩:=aeF h2;have hh:=aof h1 h;refine⟨hh.trans e2.symm,?_⟩;rw[hh];simpa using h3
theorem aeG{rw:Nat}{d:DataW H}(hb:w.heap[b]? =some (.cells cs el fr))(hd:FB P t rw d=true)(h:DataW.trod di P w base (λ_=>true) held fy t cs.toList=some (d,p)):Iw w b 0 rw [Ma d]:=by
 obtain⟨h1,h2⟩:=W1 hd h;refine⟨cs,el,fr,hb,by simp only[atX,aup];rw[avc] at h2;omega,λk l hk=>?_⟩;cases k with
 |zero=>
  simp only[avk,atU] at hk;subst hk;refine⟨by rw[<-h1];exact h2,λj v hj=>?_⟩;rw[<-h1,at5] at hj;simpa using hj
 |succ k=>simp at hk
theorem P7{n rw:Nat}{ds:List (DataW H)}(hb:w.heap[b]? =some (.cells cs el fr))(ht:P.underlying t=some (.array n e))(hc:P.cellsOf e=rw)(NY:P.cellsOf t=n*rw)(hd:ds.all (FB P e rw)=true)
 (h:DataW.trod di P w base (λ_=>true) held fy t cs.toList=some (.agg ds,p)):Iw w b 0 rw (ds.map Ma):=by
 obtain⟨h1,h2,h3⟩:=aog ht h;rw[avc,NY] at h2;refine⟨cs,el,fr,hb,by rw[avd,h1];omega,λk l hk=>?_⟩;rw[auh] at hk;obtain⟨d,bC,rfl⟩:=au'.1 hk;replace hk:=bC;obtain⟨m,q,hm⟩:=h3 k d hk;rw[hc] at hm;obtain⟨e1,e2⟩:=W1 (auO.1 hd d (aua hk)) hm;refine⟨by rw[<-e1];exact e2,λj v hj=>?_⟩;rw[<-e1,awO] at hj;split at hj;rw[auF,at5] at hj;simpa using hj;cases hj
theorem P8{rw:Nat}{ds rest:List (DataW H)}(ht:P.underlying t=some (.slice e))(hc:P.cellsOf e=rw)(dX:0<rw)(hd:ds.all (FB P e rw)=true)
 (h:DataW.trod di P w base (λ_=>true) held fy t cs.toList=some (.slice ds rest,p)):
 ∃a:Addr,cs.toList=[.slice (some a) ds.length (ds.length+rest.length)]/\(0<ds.length+rest.length->a.spot=none/\Iw w a.block a.off rw (ds.map Ma)/\∃aO el fr,w.heap[a.block]? =some (.cells aO el fr)/\a.off+(ds.length+rest.length)*rw<=aO.size):=by
 subst hc;obtain⟨a,h1,h2⟩:=aeD ht dX h;refine⟨a,h1,λhp=>?_⟩;obtain⟨hs,aO,el,fr,hb,cP,sU⟩:=h2 hp;refine⟨hs,⟨aO,el,fr,hb,?_,λk l hk=>?_⟩,aO,el,fr,hb,cP⟩;rw[avd];have:ds.length*P.cellsOf e<=(ds.length+rest.length)*P.cellsOf e:=at4 _ zo;omega;rw[auh] at hk;obtain⟨d,bC,rfl⟩:=au'.1 hk;replace hk:=bC;obtain⟨l,m,q,e1,e2,e3⟩:=sU k d (by rw[aun (at0.1 hk).1];exact hk);obtain⟨e4,_⟩:=W1 (auO.1 hd d (aua hk)) e1;refine⟨by rw[<-e4];exact e2,λj v hj=>?_⟩;rw[<-e4] at hj;exact e3 j v hj
end
theorem aeH{i b:Nat}{aO:Array Value}{el:Nat}{fr:Nat×Nat}(hb:B i=b)(h:w.heap[b]? =some (.cells aO el fr)):(mG P w B S').sz i=aO.size:=by subst hb;simp only[mG,h]
theorem W2{i q b rw n o:Nat}{cs:Array Value}{el:Nat}{fr:Nat×Nat}{aO:Array Value}{rM:Nat}{bJ:Nat×Nat}(hi:w.heap[B i]? =some (.cells cs el fr))(hs:S' i=0)(hq:q<23)(bq:B q=b)(sq:S' q=o)
 (hb:w.heap[b]? =some (.cells aO rM bJ)) (cP:o+n*rw<=aO.size) (hc:cs.toList=[.slice (some ⟨b,o,none⟩) n n]):kM (mG P w B S') w i (.cB 1 1 λ_=>[.slice q 0 rw n n true]):=by
 have jQ:cs=#[.slice (some ⟨b,o,none⟩) n n]:=by rw[<-axo (xs:=cs),hc]
 subst jQ;refine WX hi zd zd (λ_ _=>rfl) (by rw[hs];simp) λk j hk hj=>?_;obtain rfl:k=0:=zo;obtain rfl:j=0:=zo;refine⟨_,_,rfl,by rw[hs];rfl,?_,rfl⟩;simp only[aj];refine⟨hq,_,_,rfl,at2 _,at2 _,λ_=>rfl,λ_=>?_⟩;rw[aeH bq hb];show _=Addr.mk (B q) (S' q+0) none/\S' q+0+_<=_;rw[bq,sq];exact⟨rfl,by omega⟩
theorem aeI{i u:Nat}{cs:Array Value}{el:Nat}{fr:Nat×Nat}{v:Value}(hi:w.heap[B i]? =some (.cells cs el fr))(hs:S' i=0)(hc:cs.toList=[.iface u v]):kM (mG P w B S') w i (.cB 1 1 λ_=>[.iface u .any]):=by
 have jQ:cs=#[.iface u v]:=by rw[<-axo (xs:=cs),hc]
 subst jQ;refine WX hi zd zd (λ_ _=>rfl) (by rw[hs];simp) λk j hk hj=>?_;obtain rfl:k=0:=zo;obtain rfl:j=0:=zo;refine⟨_,_,rfl,by rw[hs];rfl,?_,rfl⟩;simp only[aj];exact⟨_,rfl,auW⟩
theorem aeJ{H:Type}{di:TypeId×Value->H}{base:Nat}{sp:Nat->Bool}{fy:Nat}{t:TypeId}{cs:List Value}{n:String}{d:DataW H}{p:List MemPlace}(ht:(match P.underlying t with|some (.interface _)=>true|_=>false)=true)
 (h:DataW.trod di P w base sp false fy t cs=some (.iface n d,p)):∃u v,cs=[.iface u v]:=by
 split at ht;rename_i ms hu;cases fy with
 |zero=>simp[DataW.trod] at h
 |succ m=>
  unfold DataW.trod at h;rw[hu] at h;split at h<;>simp_all
 cases ht
end
end Yv
namespace Go.Proofs.YtpllhjebgjcigaaGreatDoor
open Go.ChangeShapes Go.WideShapes Go.ChangeAt Go.RowKit
open Yv
set_option maxRecDepth 100000
theorem own:ownKnob Tryz.prog.godebug=none:=zk
def AF(d:DataW Unit):List (DataW Unit):=match d with|.agg ds=>ds|.slice ds _=>ds|_=>[]
def Bf(b19 b20 b21 b22 i:Nat):Nat:=match i with|19=>b19|20=>b20|21=>b21|22=>b22|n=>n
def Sf(s19 s20 s21 s22 i:Nat):Nat:=match i with|19=>s19|20=>s20|21=>s21|22=>s22|_=>0
theorem aeK{b19 b20 b21 b22 s19 s20 s21 s22 i:Nat}(h:i<19):Bf b19 b20 b21 b22 i=i/\Sf s19 s20 s21 s22 i=0:=by unfold Bf Sf;split<;>first|omega|exact⟨rfl,rfl⟩
theorem aok{W:World}(hl:laidMetH Tryz.prog Rows.scopeOwnUptoRow.laid W):∃b19 s19 b20 s20 b21 s21 t5 t6,(∃aO el fr,W.heap[1]? =some (.cells aO el fr))/\∀b22 s22 o,
 kM (mG Tryz.prog W (Bf b19 b20 b21 b22) (Sf s19 s20 s21 s22)) W 22 o->∀i,i<23->kM (mG Tryz.prog W (Bf b19 b20 b21 b22) (Sf s19 s20 s21 s22)) W i (xB (t5,t6) o i):=by
 obtain⟨c1,J3,Vu,fu1,p1,qW,iu⟩:=yT (n:= "strings.asciiSpace") (d:=Rows.laid_strings_asciiSpace) (g:=1) (t:=116) hl zk zk zk zk;obtain⟨c3,el3,Fj,fu3,p3,rT,Py⟩:=yT (n:= "unicode/utf8.first") (d:=Rows.laid_unicode_utf8_first) (g:=3) (t:=116) hl zk zk zk zk;obtain⟨c4,el4,fr4,fu4,p4,Ea,hd4⟩:=yT (n:= "unicode/utf8.acceptRanges") (d:=Rows.laid_unicode_utf8_acceptRanges) (g:=4) (t:=189) hl zk zk zk zk;obtain⟨c5,el5,fr5,fu5,p5,hb5,Vw⟩:=yT (n:= "strconv.ErrSyntax") (d:=Rows.laid_strconv_ErrSyntax) (g:=5) (t:=156) hl zk zk zk zk;obtain⟨c6,el6,fr6,fu6,p6,hb6,hd6⟩:=yT (n:= "strconv.ErrRange") (d:=Rows.laid_strconv_ErrRange) (g:=6) (t:=156) hl zk zk zk zk;obtain⟨c8,el8,fr8,fu8,p8,hb8,hd8⟩:=yT (n:= "internal/strconv.optimize") (d:=Rows.laid_internal_strconv_optimize) (g:=8) (t:=4) hl zk zk zk zk;obtain⟨c9,el9,fr9,fu9,p9,hb9,hd9⟩:=yT (n:= "internal/strconv.float64info") (d:=Rows.laid_internal_strconv_float64info) (g:=9) (t:=261) hl zk zk zk zk;obtain⟨c11,atv,atw,atx,p11,aol,aom⟩:=yT (n:= "internal/strconv.powtab") (d:=Rows.laid_internal_strconv_powtab) (g:=11) (t:=61) hl zk zk zk zk;obtain⟨c12,aty,atz,atA,p12,aon,aoo⟩:=yT (n:= "internal/strconv.float64pow10") (d:=Rows.laid_internal_strconv_float64pow10) (g:=12) (t:=293) hl zk zk zk zk;obtain⟨c13,atB,atC,atD,p13,aop,aoq⟩:=yT (n:= "internal/strconv.pow10Tab") (d:=Rows.laid_internal_strconv_pow10Tab) (g:=13) (t:=301) hl zk zk zk zk;obtain⟨c15,atE,atF,atG,p15,aor,aos⟩:=yT (n:= "internal/strconv.leftcheats") (d:=Rows.laid_internal_strconv_leftcheats) (g:=15) (t:=310) hl zk zk zk zk;have r1:=P7 (ds:=AF Rows.laid_strings_asciiSpace) (n:=256) (e:=5) (rw:=1) qW zk zk zk zk iu;have r3:=P7 (ds:=AF Rows.laid_unicode_utf8_first) (n:=256) (e:=5) (rw:=1) rT zk zk zk zk Py;have r4:=P7 (ds:=AF Rows.laid_unicode_utf8_acceptRanges) (n:=16) (e:=188) (rw:=2) Ea zk zk zk zk hd4;have r8:=aeG (rw:=1) hb8 zk hd8;have r9:=aeG (rw:=3) hb9 zk hd9;have r13:=P7 (ds:=AF Rows.laid_internal_strconv_pow10Tab) (n:=696) (e:=300) (rw:=2) aop zk zk zk zk aoq;obtain⟨u5,v5,e5⟩:=aeJ zk Vw;obtain⟨u6,v6,e6⟩:=aeJ zk hd6;obtain⟨a11,k11,h11⟩:=P8 (ds:=AF Rows.laid_internal_strconv_powtab) (rest:=[]) (e:=3) (rw:=1) zk zk zd zk aom;obtain⟨a12,k12,h12⟩:=P8 (ds:=AF Rows.laid_internal_strconv_float64pow10) (rest:=[]) (e:=125) (rw:=1) zk zk zd zk aoo;obtain⟨a15,k15,h15⟩:=P8 (ds:=AF Rows.laid_internal_strconv_leftcheats) (rest:=[]) (e:=309) (rw:=2) zk zk zd zk aos;have n11:(AF Rows.laid_internal_strconv_powtab).length=9:=zk;have n12:(AF Rows.laid_internal_strconv_float64pow10).length=23:=zk;have n15:(AF Rows.laid_internal_strconv_leftcheats).length=61:=zk;rw[n11,aup,aud] at h11 k11;rw[n12,aup,aud] at h12 k12;rw[n15,aup,aud] at h15 k15;obtain⟨s11,r19,atH,atI,atJ,q19,z19⟩:=h11 zd;obtain⟨s12,r21,atK,atL,atM,q21,z21⟩:=h12 zd;obtain⟨s15,r20,atN,atO,atP,q20,z20⟩:=h15 zd;have ad:∀a:Addr,a.spot=none->a=⟨a.block,a.off,none⟩:=λa h=>by cases a;simp only at h;subst h;rfl
 rw[ad a11 s11] at k11;rw[ad a12 s12] at k12;rw[ad a15 s15] at k15;refine⟨a11.block,a11.off,a15.block,a15.off,a12.block,a12.off,u5,u6,⟨_,_,_,qW⟩,λb22 s22 o ho i hi=>?_⟩;have L:=λi(h:i<19)=>@aeK a11.block a15.block a12.block b22 a11.off a15.off a12.off s22 i h
 match i,hi with
 |0,_=>trivial
 |1,_=>exact r1.cB (L 1 zd).1 (L 1 zd).2 zd zk zd (BM zk)
 |2,_=>trivial
 |3,_=>exact r3.cB (L 3 zd).1 (L 3 zd).2 zd zk zd (BM zk)
 |4,_=>exact r4.cB (L 4 zd).1 (L 4 zd).2 zd zk zd (BM zk)
 |5,_=>exact aeI (by rw[(L 5 zd).1];exact hb5) (L 5 zd).2 e5
 |6,_=>exact aeI (by rw[(L 6 zd).1];exact hb6) (L 6 zd).2 e6
 |7,_=>trivial
 |8,_=>exact r8.cB (L 8 zd).1 (L 8 zd).2 zd zk zd (BM zk)
 |9,_=>exact r9.cB (L 9 zd).1 (L 9 zd).2 zd zk zd (BM zk)
 |10,_=>trivial
 |11,_=>exact W2 (by rw[(L 11 zd).1];exact aol) (L 11 zd).2 zd rfl rfl q19 z19 k11
 |12,_=>exact W2 (by rw[(L 12 zd).1];exact aon) (L 12 zd).2 zd rfl rfl q21 z21 k12
 |13,_=>exact r13.cB (L 13 zd).1 (L 13 zd).2 zd zk zd (BM zk)
 |14,_=>trivial
 |15,_=>exact W2 (by rw[(L 15 zd).1];exact aor) (L 15 zd).2 zd rfl rfl q20 z20 k15
 |16,_=>trivial
 |17,_=>trivial
 |18,_=>trivial
 |19,_=>exact r19.cB rfl rfl zd zk zd (BM zk)
 |20,_=>exact r20.cB rfl rfl zd zk zd (BM zk)
 |21,_=>exact r21.cB rfl rfl zd zk zd (BM zk)
 |22,_=>exact ho
 |n+23,h=>exact absurd h zo
end Go.Proofs.YtpllhjebgjcigaaGreatDoor
