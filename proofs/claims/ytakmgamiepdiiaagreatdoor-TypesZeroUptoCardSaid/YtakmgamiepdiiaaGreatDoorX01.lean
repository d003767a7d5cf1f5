/- A part of the proof of 'TypesZeroUptoCardSaid'. No condition. -/
import Derived.Test.YtakmgamiepdiiaaGreatDoorX00
import Derived.Laws.World
import Derived.Laws.Cells
import GoSem.Dispatch
import Derived.IntWalk
import Derived.Laws.Strings
import Derived.Laws.StructEq
import Derived.Laws.IdiomCopy
import Derived.Laws.Tables
import Derived.Laws.MakeOwn
import Derived.Great.BuildSlice
import Derived.MapKept
import Derived.ChangeKeysEq
import Derived.WideLaws
import Derived.Maps.RangeRun
import Derived.Deep.DeepAppendWide
set_option maxHeartbeats 64000000
set_option maxRecDepth 100000
set_option linter.all false
namespace Yv
open Go
variable {P:Program}{a:Act}{f:Fr}{h:Hp}{w:World}
theorem afb{t:N3 (List AV)}{rw vh:Nat}(h:∀k,k<vh->(dY t k).length=rw) (rs:List (List AV)) (k:Nat) (c:k+rs.length<=1152921504606846976) (b:vh<=1152921504606846976)
 (a:∀r∈rs,r.length=rw):∀j,j<vh->(dY (jy t k rs) j).length=rw:=by
 grind [Jz]
theorem aE3{rw j:Nat}:j/rw*rw+j% rw=j:=by grind [Nat.div_add_mod]
structure RC(o:AO)(off:Nat)(l:List AV)(o':AO):Prop where
 k:o'.wf
 b:o'.fp=true
 a:o'.ip=o.ip
 i:o'.fz=o.fz
 h:o'.el=o.el
 g:0<l.length->off+l.length<=o.ip
 d:o.fz<=off
 c:∀j,o'.iv j=if off<=j/\j<off+l.length then l[j- off]? else o.iv j
 f:o'.xi=o.xi
theorem RD{o:AO}(M:o.wf){off:Nat}{l:List AV}{o':AO}(h:setCells o off l=some o'):RC o off l o':=by
 cases o with
 |a el r=>
  simp[setCells] at h;split at h;rename_i B d;cases h;obtain⟨x,y⟩:=MQ _ _ _ _ d;subst y;have v:(r.take off++(l++r.drop (off+l.length))).length=r.length:=by grind
  refine⟨auW,rfl,v,rfl,rfl,λ_=>x,auz _,λj=>?_,rfl⟩
  grind [AO.iv]
  grind
 |b el rw vh fz t=>
  obtain⟨p,A,G⟩:=M;simp only[setCells,RA,RB,uV,AX,tR] at h;cases q:(Nat.ble (off% rw+l.length) rw&&Nat.ble (off/rw+1) vh&&Nat.ble fz off) with
  |true=>
   rw[q] at h;simp only[cond] at h;simp only[atW,je] at q;obtain⟨⟨c1,c2⟩,c3⟩:=q;have c:off/rw<vh:=c2;have v:=G _ c;split at h;rename_i B d;cases h;obtain⟨x,y⟩:=MQ _ _ _ _ d;rw[v] at x;have P:B.length=rw:=by grind
   have N:∀k,k<vh->(dY (cx t (off/rw) B) k).length=rw:=λk s=>by grind [Gr]
   refine⟨⟨p,A,N⟩,rfl,rfl,rfl,rfl,λL=>?_,c3,λj=>?_,rfl⟩;have:=AW (rw:=rw) c (show off% rw+l.length- 1<rw by omega)
   grind [aE3,AO.ip]
   by_cases f:j<vh*rw
   simp only[AO.iv,atV f];have s:j/rw<vh:=auw qaa;have z:j% rw<rw:=avn _ p;rw[Gr _ _ _ _ zo zo];have w:=aE3 (rw:=rw) (j:=j);have O:=aE3 (rw:=rw) (j:=off)
   by_cases n:j/rw=off/rw
   rw[atV n,n];rw[n] at w;subst y
   by_cases g1:j% rw<off% rw
   grind
   have e:((dY t (off/rw)).take (off% rw)).length=off% rw:=by grind
   rw[auq zo,e]
   grind
   rw[atS n,atS];rintro⟨g1,g2⟩;apply n;have H:off/rw<=j/rw:=axi g1;have D:j/rw<=off/rw:=by
    have:j<(off/rw+1)*rw:=by rw[auC];omega
    exact Nat.le_of_lt_succ (auw (by rw[auB];exact this))
   omega;simp only[AO.iv,atS f]
   by_cases Q:0<l.length
   have:=AW (rw:=rw) c (show off% rw+l.length- 1<rw by omega);have e:=aE3 (rw:=rw) (j:=off);rw[atS zo];rw[atS zo];cases h
  |false=>
   rw[q] at h;simp only[cond] at h;obtain⟨E,h⟩:=qt h;simp only[atW,je,iH] at E;obtain⟨⟨⟨c1,c2⟩,c3⟩,I⟩:=E;split at h;rename_i rs d;cases h;obtain⟨k1,R,F⟩:=MR _ _ _ d;have i:off/rw*rw=off:=avZ (avF c1);have u:l.length/rw*rw=l.length:=avZ (avF c2);have K:∀r∈rs,r.length=rw:=λr d=>by obtain⟨k,s⟩:=aum d;exact(F k r s).1
   refine⟨⟨p,A,afb G rs _ zo A K⟩,rfl,rfl,rfl,rfl,λL=>?_,I,λj=>?_,rfl⟩;have:=at4 rw c3;rw[auC,i,u] at this;simpa only[AO.ip] using this
   by_cases f:j<vh*rw
   simp only[AO.iv,atV f];have s:j/rw<vh:=auw (by rw[auB];exact f);have z:j% rw<rw:=avn _ p;rw[Jz rs t _ zo _ zo,k1];have w:=aE3 (rw:=rw) (j:=j)
   by_cases hh:off/rw<=j/rw/\j/rw<off/rw+l.length/rw
   obtain⟨m,g⟩:∃m,j/rw=off/rw+m:=⟨j/rw- off/rw,by omega⟩;have C:m<rs.length:=zo;have J:=F m rs[m] (atT C);rw[atV hh,atV];rw[g,Nat.add_sub_cancel_left,aub,atT C,avo,J.2 _ z];congr 1;rw[g,auC,i] at w;omega;have H:=at4 rw hh.1;have D:=AW (rw:=rw) hh.2 z;rw[auC,i,u] at D;omega;rw[atS hh,atS];rintro⟨g1,g2⟩;apply hh;refine⟨axi g1,auw ?_⟩;rw[auB,auC,i,u];exact g2;simp only[AO.iv,atS f];have:=at4 rw c3;rw[auC,i,u] at this;rw[atS zo];cases h
 |_=>simp[setCells] at h
theorem X0(t:N3 (List AV)):∀(n k:Nat),(aEt t n k).length=n/\∀j,j<n->(aEt t n k)[j]? =some (dY t (k+j))
 |0,k=>⟨rfl,λj h=>absurd h (avm _)⟩
 |n+1,k=>by
  obtain⟨a,b⟩:=X0 t n (k+1)
  grind [aEt]
structure nj(rs:List (List AV))(rw n:Nat)(c:Nat->Option AV):Prop where
 a:rs.length=n
 d:∀r∈rs,r.length=rw
 b:∀k j,k<n->j<rw->(rs.getD k [])[j]? =c (k*rw+j)
theorem X1{o:AO}(s:o.wf){off rw n:Nat}{rs:List (List AV)}(h:kZ o off rw n=some rs):
 nj rs rw n (λj=>o.iv (off+j))/\(0<n*rw->off+n*rw<=o.ip):=by
 cases o with
 |a el l=>
  simp[kZ,Gp] at h;obtain⟨g,v,i⟩:=MR _ _ _ h;refine⟨⟨g,λr q=>?_,λk j m c=>?_⟩,λp=>by grind [AO.ip]⟩
  grind [List.getElem?_of_mem]
  have e:k<rs.length:=zo;rw[aub,atT e,avo,(i k _ (atT e)).2 j c,auF];rfl
 |b el nN vh fz t=>
  obtain⟨f,x,y⟩:=s;simp[kZ,RA,RB] at h;obtain⟨d,h⟩:=qt h;cases h;simp at d;obtain⟨⟨c1,c2⟩,c3⟩:=d;subst c1;have w:=avZ (avF c2);obtain⟨u,r2⟩:=X0 t n (off/rw);refine⟨⟨u,λr q=>?_,λk j m c=>?_⟩,λp=>?_⟩
  grind [List.getElem?_of_mem]
  have:=Rz (el:=el) (fz:=fz) (t:=t) f (show off/rw+k<vh by omega) c
  grind
  have:=at4 rw c3
  grind [AO.ip]
 |_=>simp[kZ] at h
theorem Gs{el rw n:Nat}{rs:List (List AV)}{c:Nat->Option AV}(b:0<rw)(f:n<=1152921504606846976)(h:nj rs rw n c):
 (jJ el rw n rs).wf/\∀j,j<n*rw->(jJ el rw n rs).iv j=c j:=by
 have key:∀k,k<n->dY (jy fG 0 rs) k=rs.getD k []:=λk a=>by rw[Jz rs fG 0 qaJ k zo,atV qaJ,axL]
 refine⟨⟨b,f,λk a=>?_⟩,λj d=>?_⟩;rw[key k a,aub,atT qaJ];exact h.d _ (auy _);have a:j/rw<n:=auw qaa;have e:j% rw<rw:=avn _ b;simp only[jJ,AO.iv,atV d];rw[key _ a,h.b _ _ a e,aE3]
def dH(o:AO):Bool:=
 match o with
 |.f=>false
 |.h=>false
 |_=>true
def AY(o:AO):Bool:=
 match o with
 |.f|.h|.g ..=>false
 |_=>true
def AO.PH(o:AO):Bool:=match o with|.g ..=>true|_=>false
def RF{o:AO}(h:AY o=true):dH o=true:=by cases o<;>first|rfl|exact Bool.noConfusion h
theorem afc{o:AO}(h:AY o=true)(a:o.PH=true):False:=by cases o<;>first|exact Bool.noConfusion a|exact Bool.noConfusion h
def AO.ro(o:AO):Bool:= !(Nat.beq o.fz 0)
structure qu(φ:kf)(w:World)(i:Nat)(o:AO):Prop where
 g:o.wf
 f:o.xi=true->φ.c i=0/\φ.g i=o.ip
 k:o.ro=true->∃aO,w.heap[φ.a i]? =some (.cells aO o.el)
 b:∃aO fr,w.heap[φ.a i]? =some (.cells aO o.el fr)/\aO.size=φ.g i/\φ.c i+o.ip<=aO.size/\
  (∀(j:Nat)(a:AV),o.iv j=some a->∃v,aO[φ.c i+j]? =some v/\aj φ a v)/\(∀(j:Nat)(v:Value),aO[j]? =some v->v.oneCell'=true)/\
  (∀j:Nat,fr.1 <=j->j<fr.2 ->j<aO.size->j<φ.c i+o.fz)
def JA(φ:kf)(a:List (AV×AV))(b:List MapEntry):Prop:=
 ∃l:List MapEntry,l=b/\l.length=a.length/\∀(k:Nat)(e:AV×AV),a[k]? =some e->∃m,l[k]? =some m/\aj φ e.1 m.key/\aj φ e.2 m.val
def kM(φ:kf)(w:World)(i:Nat)(o:AO):Prop:=
 match o with
 |.a _ _|.b ..=>qu φ w i o
 |.d h aD=>∃c,w.heap[φ.a i]? =some (.map c aD)/\JA φ h c.toList/\(c.toList.map (·.key)).Nodup/\
  (c.toList.map (·.born)).Nodup/\(∀e∈c.toList,e.born<aD)/\c.toList.map (·.born)=List.range aD
 |.c _ m aD todo g=>φ.c i=0/\φ.f m/\φ.a m<w.heap.size/\(∀c f,w.heap[φ.a m]? =some (.map c f)->aD<=f)/\∃seen,w.heap[φ.a i]? =some (.mapIter (some (φ.a m)) aD seen aD)/\
  ∀c,w.heap[φ.a m]? =some (.map c aD)->
   (∃l:List MapEntry,l.Perm (c.toList.filter λe=> !seen.contains e.born)/\l.length=todo.length/\∀(k:Nat)(a:AV),todo[k]? =some a->∃e,l[k]? =some e/\aj φ a e.key)/\
   (∀k,g=some k->∃b e,seen.back?=some b/\e∈c.toList/\e.born=b/\aj φ k e.key)
 |.g rw vh t=>w.heap[φ.a i]? =some (φ.m i)/\(AO.b 0 rw vh 0 t).wf/\∃d el n,φ.m i=.cells d el n/\φ.c i+vh*rw<=d.size/\
  (∀(j:Nat)(a:AV),(AO.b 0 rw vh 0 t).iv j=some a->∃v,d[φ.c i+j]? =some v/\aj φ a v)/\∀(j:Nat)(v:Value),j<vh*rw->d[φ.c i+j]? =some v->v.oneCell'=true
 |.f=>True
 |.h=>True
structure R(φ:kf)(h:Hp)(w:World):Prop where
 k:∀i,φ.f i <-> jN (h.ac i)=false
 f:∀i,kM φ w i (h.ac i)
 inj:∀i j,dH (h.ac i)=true->dH (h.ac j)=true->φ.a i=φ.a j->i=j\/((h.ac i).PH=true/\(h.ac j).PH=true)
 l:∀i,dH (h.ac i)=true->φ.a i<w.heap.size
theorem R.X3{φ:kf}{h:Hp}{w:World}(r:R φ h w){i j:Nat}(a:AY (h.ac i)=true)(b:dH (h.ac j)=true)(e:φ.a i=φ.a j):i=j:=by
 rcases r.inj i j (RF a) b e with x|x;omega
 grind [afc]
def R.IR{φ:kf}{h:Hp}{w:World}(r:R φ h w){i j:Nat}(a:dH (h.ac i)=true)(b:AY (h.ac j)=true)(e:φ.a i=φ.a j):i=j:=(r.X3 b a e.symm).symm
structure eS(φ:kf)(h:Hp)(w:World)(ψ:kf)(w':World)(h':Hp):Prop where
 m:φ.k ψ
 l:w.heap.size<=w'.heap.size
 f:∀c,c<w.heap.size->(∀i,dH (h.ac i)=true->φ.a i≠c)->w'.heap[c]? =w.heap[c]?
 o:∀i,dH (h'.ac i)=true->(∃j,dH (h.ac j)=true/\φ.a j=ψ.a i)\/w.heap.size<=ψ.a i
 p:w'.os=w.os
 d:w'.output=w.output
 n:w'.tape=w.tape
theorem eS.da(φ:kf)(h:Hp)(w:World):eS φ h w φ w h:=
 ⟨.da φ,at2 _,λ_ _ _=>rfl,λi hi=>.inl ⟨i,hi,rfl⟩,rfl,rfl,rfl⟩
theorem eS.ab{φ ψ x:kf}{h q r:Hp}{w u v:World}(a:eS φ h w ψ u q)(b:eS ψ q u x v r):eS φ h w x v r where
 m:=a.m.ab b.m
 l:=at1 a.l b.l
 f:=λc s y=>by
  rw[b.f c (aur s a.l) λi hi=>?_,a.f c s y];rcases a.o i hi with⟨j,t,e⟩|g
  grind
  omega
 o:=λi hi=>by
  rcases b.o i hi with⟨j,t,e⟩|g;rcases a.o j t with⟨k,A,z⟩|g2
  grind
  omega;exact .inr (at1 a.l g)
 p:=b.p.trans a.p
 d:=b.d.trans a.d
 n:=b.n.trans a.n
theorem qu.aw{φ ψ:kf}{w w':World}{i:Nat}{o:AO}(h:qu φ w i o)(le:φ.k ψ)(d:φ.f i)(c:w'.heap[φ.a i]? =w.heap[φ.a i]?):qu ψ w' i o:=by obtain⟨wf,x,u,e,l,q,r,s,m,h5,t⟩:=h;refine⟨wf,λp=>by rw[le.c i d,le.k i d];grind,λp=>by rw[le.a i d,c];grind,e,l,?_,?_,?_,?_,h5,?_⟩;rw[le.a i d,c];omega;rw[le.k i d];omega;rw[le.c i d];omega;intro j a n;obtain⟨v,y,hd⟩:=m j a n;exact⟨v,by rw[le.c i d];omega,nS le a v hd⟩;rw[le.c i d];omega
theorem JA.aw{φ ψ:kf}(le:φ.k ψ){b:List (AV×AV)}{a:List MapEntry}(h:JA φ b a):JA ψ b a:=by
 obtain⟨l,c,d,f⟩:=h;refine⟨l,c,d,λk e g=>?_⟩
 grind [nS]
theorem kM.aw{φ ψ:kf}{w w':World}{i:Nat}{o:AO}(h:kM φ w i o)(le:φ.k ψ)(d:φ.f i)(T:w.heap.size<=w'.heap.size)(x:w'.heap[φ.a i]? =w.heap[φ.a i]?)
 (O:∀A m aD todo z,o=.c A m aD todo z->∀n y,w'.heap[φ.a m]? =some (.map n y)->∃p r,w.heap[φ.a m]? =some (.map p r)/\r<=y/\(r=y->
  ∃g:MapEntry->MapEntry,(∀e,(g e).born=e.born)/\(∀e a,e∈p.toList->aj φ a e.key->aj ψ a (g e).key)/\n.toList=p.toList.map g)):kM ψ w' i o:=by
 cases o with
 |a el l=>exact qu.aw h le d x
 |b el rw vh fz t=>exact qu.aw h le d x
 |d U aD=>
  obtain⟨n,B,u,C,D⟩:=h;exact⟨n,by rw[le.a i d,x];omega,u.aw le,C,D⟩
 |c A m aD todo z=>
  obtain⟨h0,s,S,H,seen,B,u⟩:=h;refine⟨by rw[le.c i d];omega,le.b m s,by rw[le.a m s];omega,λn y q=>?_,seen,by rw[le.a i d,x,le.a m s];omega,λn q=>?_⟩;rw[le.a m s] at q
  grind
  rw[le.a m s] at q;obtain⟨p,r,F,J,M⟩:=O A m aD todo z rfl n aD q;have Q:r=aD:=Nat.le_antisymm J (H p r F);subst Q;obtain⟨g,g1,g2,V⟩:=M rfl;obtain⟨⟨l,P,Y,Z⟩,W⟩:=u p F;have R:∀e∈l,e∈p.toList:=λe q=>(avv.1 (P.mem_iff.1 q)).1;refine⟨⟨l.map g,?_,by grind,λk a G=>?_⟩,λk X=>?_⟩
  grind [List.filter_congr]
  grind
  grind
 |g rw vh t=>
  obtain⟨B,u,I,el,K,C,D,h5,L⟩:=h;refine⟨by rw[le.a i d,le.j i d,x];exact B,u,I,el,K,by rw[le.j i d];exact C,by rw[le.c i d];exact D,λj a G=>?_,λj v N E=>L j v N (by rw[<-le.c i d];exact E)⟩;obtain⟨v,E,hd⟩:=h5 j a G;exact⟨v,by rw[le.c i d];exact E,nS le a v hd⟩
 |f=>trivial
 |h=>trivial
structure sL(w w':World):Prop where
 a:w'.heap=w.heap
 d:w'.os=w.os
 b:w'.output=w.output
 c:w'.tape=w.tape
theorem sL.da(w:World):sL w w:=⟨rfl,rfl,rfl,rfl⟩
theorem R.my{φ:kf}{h:Hp}{w w':World}(r:R φ h w)(s:sL w w'):R φ h w' where
 k:=r.k
 f:=λi=>by
  by_cases c:jN (h.ac i)=false
  refine(r.f i).aw (.da φ) ((r.k i).2 c) (by rw[s.a];omega) (by rw[s.a]) λ_ m aD todo d _ a b e=>⟨a,b,by rw[<-s.a];omega,at2 _,λ_=>⟨id,λ_=>rfl,λ_ _ _ h=>h,by simp⟩⟩;have:h.ac i=.h:=by grind [jN]
  rw[this];trivial
 inj:=r.inj
 l:=λi hi=>by rw[s.a];exact r.l i hi
def eS.my{φ:kf}{h:Hp}{w w':World}(s:sL w w'):eS φ h w φ w' h:=
 ⟨.da φ,by rw[s.a];omega,λ_ _ _=>by rw[s.a],λi hi=>.inl ⟨i,hi,rfl⟩,s.d,s.b,s.c⟩
theorem uY{o:AO}(h:dH o=true):jN o=false:=by grind [dH,jN]
theorem JC{φ:kf}{h h':Hp}{w w':World}{i:Nat}{o':AO}(r:R φ h w)(l:AY (h.ac i)=true)(I:dH o'=true)
 (o:∀j,h'.ac j=if j=i then o' else h.ac j)
 (p:w'.heap.size=w.heap.size) (y:∀c,c≠φ.a i->w'.heap[c]? =w.heap[c]?) (G:kM φ w' i o')
 (N:∀j v m aD todo u,j≠i->h.ac j=.c v m aD todo u->φ.a m=φ.a i->∀n f,w'.heap[φ.a m]? =some (.map n f)->
  ∃s t,w.heap[φ.a m]? =some (.map s t)/\t<=f/\(t=f->∃g:MapEntry->MapEntry,(∀e,(g e).born=e.born)/\(∀e a,e∈s.toList->aj φ a e.key->aj φ a (g e).key)/\n.toList=s.toList.map g))
 (D:w'.os=w.os) (F:w'.output=w.output) (E:w'.tape=w.tape):R φ h' w'/\eS φ h w φ w' h':=by
 have x:=RF l;refine⟨⟨λj=>?_,λj=>?_,λj k=>?_,λj=>?_⟩,⟨.da φ,avp p.symm,λc J C=>y c (Ne.symm (C i x)),λj M=>?_,D,F,E⟩⟩;rw[r.k j,o]
 grind [uY]
 rw[o];split
 grind
 rename_i A
 by_cases z:dH (h.ac j)=true
 have B:φ.a j≠φ.a i:=λe=>A (r.IR z l e);refine(r.f j).aw (.da φ) ((r.k j).2 (uY z)) (avp p.symm) (y _ B) λv m aD todo u e n f K=>?_
 by_cases H:φ.a m=φ.a i
 grind
 exact⟨n,f,by grind,at2 _,λ_=>⟨id,λ_=>rfl,λ_ _ _ h=>h,by simp⟩⟩;cases L:h.ac j<;>simp_all[dH,kM];simp[o];intro d q e;split at d<;>split at q;omega;rename_i a b;subst a;exact .inl (r.X3 l q e);rename_i a b;subst b;exact .inl (r.IR d l e);rename_i a b;rw[atS a,atS b];exact r.inj _ _ d q e;rw[o,p];intro d;split at d;rename_i e;subst e;exact r.l _ x;exact r.l _ d
 grind
def kf.kw(φ:kf)(n:Nat)(b s z:Nat):kf where
 f:=λj=>j=n\/φ.f j
 a:=λj=>if j=n then b else φ.a j
 c:=λj=>if j=n then s else φ.c j
 g:=λj=>if j=n then z else φ.g j
 m:=φ.m
 l:=φ.l
theorem kf.tz{φ:kf}{n:Nat}{b s z:Nat}(h:¬φ.f n):φ.k (φ.kw n b s z) where
 b:=λ_ d=>.inr d
 a:=λi d=>by simp[kf.kw];grind
 c:=λi d=>by simp[kf.kw];grind
 k:=λi d=>by simp[kf.kw];grind
 j:=λ_ _=>rfl
 f:=rfl
theorem MT{φ:kf}{h h':Hp}{w w':World}{n:Nat}{o':AO}{b s z:Nat}{qv:Option Nat}(r:R φ h w)(P:jN (h.ac n)=true)(fV:dH o'=true)
 (B:∀i,qv=some i->AY (h.ac i)=true)
 (q:∀j,h'.ac j=if j=n then o' else if qv=some j then .f else h.ac j)
 (N:b=w.heap.size\/∃i,qv=some i/\b=φ.a i) (W:b<w'.heap.size)
 (v:w.heap.size<=w'.heap.size) (F:∀c,c<w.heap.size->c≠b->w'.heap[c]? =w.heap[c]?)
 (J:∀t aD,w'.heap[b]? ≠some (.map t aD)\/b=w.heap.size)
 (U:kM (φ.kw n b s z) w' n o')
 (Q:w'.os=w.os) (T:w'.output=w.output) (S:w'.tape=w.tape):R (φ.kw n b s z) h' w'/\eS φ h w (φ.kw n b s z) w' h':=by
 have I:∀i,qv=some i->dH (h.ac i)=true:=λi hi=>RF (B i hi);have K:¬φ.f n:=λd=>by rw[(r.k n).1 d] at P;grind
 have le:φ.k (φ.kw n b s z):=kf.tz K;have y:∀j,j≠n->(φ.kw n b s z).a j=φ.a j:=λj g=>by simp_all[kf.kw]
 have V:(φ.kw n b s z).a n=b:=by simp_all[kf.kw]
 have l:∀j,j≠n->dH (h'.ac j)=true->dH (h.ac j)=true/\φ.a j≠b:=by
  intro j g a;rw[q,atS g] at a;split at a;cases a;rename_i x;refine⟨a,λe=>?_⟩;rcases N with D|⟨i,hi,D⟩;have:=r.l j a;omega;have:j=i:=r.IR a (B i hi) (e.trans D)
  grind
 have H:∀j,j≠n->dH (h'.ac j)=true->h'.ac j=h.ac j:=by
  intro j g a;rw[q,atS g] at a⊢;split at a;cases a
  grind
 refine⟨⟨λj=>?_,λj=>?_,λj k=>?_,λj=>?_⟩,⟨le,v,λc O C=>F c O ?_,λj g=>?_,Q,T,S⟩⟩;rw[q]
 by_cases e:j=n
 simp_all[kf.kw,uY];rw[atS e];simp[kf.kw];split;rename_i x;constructor;intro;rfl;intro;exact .inr ((r.k j).2 (uY (I j x)));rw[<-r.k j];grind;rw[q]
 by_cases e:j=n
 grind
 rw[atS e];split;trivial;rename_i x
 by_cases G:dH (h.ac j)=true
 have u:dH (h'.ac j)=true:=by grind
 obtain⟨_,C⟩:=l j e u;refine(r.f j).aw le ((r.k j).2 (uY G)) v (F _ (r.l j G) C) λo m aD todo Z L t M he=>?_;have A:=r.f j;rw[L] at A;obtain⟨_,Y,X,_,seen,_,hh⟩:=A
 by_cases mP:φ.a m=b
 grind
 exact⟨t,M,by grind,at2 _,λ_=>⟨id,λ_=>rfl,λ_ _ _ h=>nS le _ _ h,by simp⟩⟩;cases hg:h.ac j<;>simp_all[dH,kM];intro p E e
 by_cases f:j=n
 grind
 by_cases o:k=n
 grind
 rw[y j f,y k o] at e;rw[H j f p,H k o E];exact r.inj j k (l j f p).1 (l k o E).1 e;intro p
 by_cases f:j=n
 grind
 rw[y j f];exact aur (r.l j (l j f p).1) v
 grind
 grind
theorem X6:∀(a:List Nat),(∀b∈a,b<256)->hO a.length (cO a)=a
 |[],_=>rfl
 |b::r,h=>by
  have e:=h b zm;have g:=X6 r (λx f=>h x qaa);simp only[atX,hO,cO];have c:Nat.mod (Nat.add b (Nat.shiftLeft (cO r) 8)) 256=b:=by show(b+cO r<<<8)% 256=b;omega
  have d:Nat.shiftRight (Nat.add b (Nat.shiftLeft (cO r) 8)) 8=cO r:=by show(b+cO r<<<8)>>>8=_;omega
  grind
def RK:∀(l n:Nat),(hO l n).length=l
 |0,_=>rfl
 |l+1,n=>by simp[hO,RK l]
theorem X7(n i:Nat):lF (Nat.shiftRight n 8) i=lF n (i+1):=by show(n>>>8)>>>(8*i)% 256=n>>>(8*(i+1))% 256;rw[<-awl];grind
def MV:∀(l n i:Nat),i<l->(hO l n)[i]? =some (lF n i)
 |0,_,_,h=>absurd h (avm _)
 |l+1,n,0,_=>by rfl
 |l+1,n,i+1,h=>by simp only[hO,auV];rw[MV l _ i zo,X7]
def kR.wa{l n:Nat}{s:ByteArray}(h:kR l n s):s.size=l:=by have:=aui List.length h.1;simp_all[RK]
theorem kR.ac{l n:Nat}{s:ByteArray}(h:kR l n s){i:Nat}(hi:i<l):∃b:UInt8,s[i]? =some b/\b.toNat=lF n i:=by
 have d:=h.wa;have a:i<s.size:=zo;refine⟨s[i],axb s i a,?_⟩;have c:=MV l n i hi;rw[<-h.1,auh] at c;have:s.data.toList[i]? =some s[i]:=by rw[at5];exact axb s.data i a
 grind
theorem X8:∀(a:List Nat),(∀b∈a,b<256)->cO a<256^a.length
 |[],_=>by simp[cO]
 |b::r,h=>by have c:=h b zm;have e:=X8 r (λx d=>h x qaa);show b+cO r<<<8<256^(r.length+1);omega
theorem MW(s:ByteArray)(l:List Nat)(h:s.data.toList.map (·.toNat)=l):kR l.length (cO l) s:=by
 have a:∀b∈l,b<256:=by intro b a;rw[<-h] at a;simp at a;obtain⟨x,_,rfl⟩:=a;exact x.toNat_lt
 exact⟨by grind [X6],X8 l a⟩
def aff(s:ByteArray):kR s.size (cO (s.data.toList.map (·.toNat))) s:=by have:=MW s _ rfl;simp_all
def X9:∀(l n m:Nat),n<256^l->m<256^l->hO l n=hO l m->n=m
 |0,n,m,d,e,_=>zo
 |l+1,n,m,d,e,h=>by
  simp[hO,awm] at h;obtain⟨a,c⟩:=h;have b:n% 256=m% 256:=a;have g:Nat.shiftRight n 8=Nat.shiftRight m 8:=X9 l _ _ (by
   show n>>>8<_;omega) (by
   show m>>>8<_;omega) c
  have f:n/256=m/256:=by simp_all[auH]
  omega
def Ya:∀(l n:Nat),hO l (n% 256^l)=hO l n
 |0,_=>rfl
 |l+1,n=>by simp only[hO,awm];constructor;show n% 256^(l+1)% 256=n% 256;simp_all[auX];rw[<-Ya l (Nat.shiftRight n 8)];simp_all[auH,auX,auB,Nat.mod_mul_right_div_self]
theorem Yb:∀(k l n:Nat),hO l (n>>>(8*k))=(hO (k+l) n).drop k
 |0,l,n=>by simp
 |k+1,l,n=>by rw[show k+1+l=(k+l)+1 from by omega];simp only[hO,awK];rw[<-Yb k l (Nat.shiftRight n 8)];congr 1;show n>>>(8*(k+1))=(n>>>8)>>>(8*k);rw[<-awl];grind
def Yc:∀(l k n:Nat),hO l n=(hO (l+k) n).take l
 |0,k,n=>by rfl
 |l+1,k,n=>by rw[show l+1+k=(l+k)+1 from by omega];simp only[hO,awj];rw[<-Yc l k]
def JE(k:Nat):2^(8*k)=256^k:=by rw[Nat.pow_mul]
theorem kR.ss{l n a b:Nat}{s:ByteArray}(h:kR l n s)(g:a<=b)(f:b<=l):kR (b- a) (Yv.sub n a b) (s.extract a b):=by
 have e:Yv.sub n a b=(n>>>(8*a))% 256^(b- a):=by show(n>>>(8*a))% 2^(8*(b- a))=_;rw[JE]
 refine⟨?_,by omega⟩;rw[e,Ya,Yb,show a+(b- a)=b from by omega];have c:=h.1;have d:hO b n=(hO l n).take b:=by
  have:=Yc b (l- b) n
  grind
 simp_all[awS]
theorem Yd:∀(l k n m:Nat),n<256^l->hO (l+k) (n+m<<<(8*l))=hO l n++hO k m
 |0,k,n,m,h=>by grind [hO]
 |l+1,k,n,m,h=>by
  rw[show l+1+k=(l+k)+1 from by omega];simp only[hO,auY,awm];constructor;show(n+m<<<(8*(l+1)))% 256=n% 256
  grind [Nat.shiftLeft_eq]
  rw[<-Yd l k (Nat.shiftRight n 8) m];congr 1;show(n+m<<<(8*(l+1)))>>>8=n>>>8+m<<<(8*l);rw[auH,auH,auL,auL,JE,JE,auX,<-avM];omega;show n>>>8<256^l;rw[auH];rw[auX] at h;omega
theorem kR.FM{l n k m:Nat}{s t:ByteArray}(h:kR l n s)(g:kR k m t):kR (l+k) (Yv.FM l n m) (s++t):=by
 have e:Yv.FM l n m=n+m<<<(8*l):=rfl;refine⟨?_,?_⟩;rw[e,Yd l k n m h.2,<-h.1,<-g.1];simp;rw[e,auL,JE,auT];have b:=h.2;have a:=g.2;have c:(m+1)*256^l<=256^k*256^l:=at4 _ a
 grind
def kR.Hc{l n k m:Nat}{s t:ByteArray}(h:kR l n s)(g:kR k m t):(l=k/\n=m) <-> s=t:=by
 constructor;rintro⟨rfl,rfl⟩;have:s.data.toList.map (·.toNat)=t.data.toList.map (·.toNat):=h.1.trans g.1.symm;have e:=(axz λa b h=>avi.1 h).1 this;cases s;simp_all;rintro rfl;have c:l=k:=by rw[<-h.wa,<-g.wa]
 subst c;exact⟨rfl,X9 l n m h.2 g.2 (h.1.symm.trans g.1)⟩
def afg{i j:aM}(h:i.n=j.n):i=j:=by cases i;simp_all
theorem Ye{a b:Bool}(h:Jf a b=true):a=b:=by grind [Jf]
theorem MX{a b:Int}(h:mJ a b=true):a=b:=by cases a<;>cases b<;>simp only[mJ,at3] at h<;>rw[at7 h]
theorem afh{a b:IntKind}(h:qh a b=true):a=b:=by cases a<;>cases b<;>first|rfl|(simp[qh,Mm] at h)
def afi{a b:FloatKind}(h:uP a b=true):a=b:=by cases a<;>cases b<;>first|rfl|cases h
mutual
theorem RL:∀(x y:AV),fP x y=true->x=y
 |.B,y,h=>by grind [fP]
 |.d a,y,h=>by cases y<;>simp[fP] at h;rw[Ye h]
 |.i a,y,h=>by cases y<;>simp[fP] at h;rw[MX h]
 |.s a,y,h=>by cases y<;>simp[fP] at h;rw[h]
 |.g k a,y,h=>by cases y<;>simp[fP] at h;grind [afh,MX]
 |.u k a,y,h=>by cases y<;>simp[fP] at h;rw[afi h.1,h.2]
 |.A a b,y,h=>by cases y<;>simp[fP] at h;grind
 |.a i o,y,h=>by cases y<;>simp[fP] at h;grind
 |.w,y,h=>by grind [fP]
 |.c i o r l c e,y,h=>by
  cases y<;>simp[fP] at h
  grind [Ye]
 |.o,y,h=>by grind [fP]
 |.h i,y,h=>by cases y<;>simp[fP] at h;grind
 |.y,y,h=>by grind [fP]
 |.q f a b,y,h=>by cases y<;>simp[fP] at h;obtain⟨⟨d,g⟩,j⟩:=h;rw[afg d,JF _ _ g,JF _ _ j]
 |.C,y,h=>by grind [fP]
 |.r t v,y,h=>by cases y<;>simp[fP] at h;rw[h.1,RL _ _ h.2]
 |.x,y,h=>by grind [fP]
 |.j l,y,h=>by cases y<;>simp[fP] at h;rw[JF _ _ h]
 |.p l,y,h=>by cases y<;>simp[fP] at h;rw[JF _ _ h]
 |.D,y,h=>by grind [fP]
 |.F a,y,h=>by cases y<;>simp[fP] at h;rw[MX h]
 |.G a,y,h=>by cases y<;>simp[fP] at h;rw[MX h]
theorem JF:∀(l m:List AV),zj l m=true->l=m
 |[],m,h=>by grind [zj]
 |x::l,m,h=>by cases m<;>simp[zj] at h;rw[RL _ _ h.1,JF _ _ h.2]
end
def Dn(a:Prop)(_:aK):Prop:=a
def Dn.lL{o:aK}(h:Dn False o):False:=h
def afj{k:Hp->Prop}{l:List Hp}{o:aK}(h:Dn (Jg k l) o):∀g∈l,Dn (k g) o:=h
def HLe(h g:Hp):Prop:=∀i,g.ac i=h.ac i\/g.ac i=.f
theorem R.Yf{φ:kf}{h g:Hp}{w:World}(r:R φ h w)(le:HLe h g):∃ψ:kf,φ.k ψ/\R ψ g w/\(∀i,dH (g.ac i)=true->dH (h.ac i)=true/\ψ.a i=φ.a i):=by
 have b:∀i,dH (g.ac i)=true->g.ac i=h.ac i:=λi hi=>by rcases le i with e|e;omega;rw[e] at hi;cases hi
 refine⟨⟨λi=>φ.f i\/jN (g.ac i)=false,φ.a,φ.c,φ.g,φ.m,φ.l⟩,⟨λi d=>.inl d,λ_ _=>rfl,λ_ _=>rfl,λ_ _=>rfl,λ_ _=>rfl,rfl⟩,⟨λi=>?_,λi=>?_,λi j hi c=>?_,λi hi=>?_⟩,λi hi=>⟨by grind,rfl⟩⟩;constructor;rintro(d|e);rcases le i with e|e;rw[e];exact(r.k i).1 d;rw[e];rfl;omega
 grind
 rcases le i with e|e;rw[e]
 by_cases t:jN (h.ac i)=false
 exact(r.f i).aw ⟨λi d=>.inl d,λ_ _=>rfl,λ_ _=>rfl,λ_ _=>rfl,λ_ _=>rfl,rfl⟩ ((r.k i).2 t) zl rfl λ_ m aD todo u _ p q s=>⟨p,q,s,at2 _,λ_=>⟨id,λ_=>rfl,λe a _ hd=>nS (ψ:=⟨λi=>φ.f i\/jN (g.ac i)=false,φ.a,φ.c,φ.g,φ.m,φ.l⟩) ⟨λi d=>.inl d,λ_ _=>rfl,λ_ _=>rfl,λ_ _=>rfl,λ_ _=>rfl,rfl⟩ _ _ hd,by simp⟩⟩;have:h.ac i=.h:=by grind [jN]
 rw[this];trivial;rw[e];trivial;have n:=hi;have o:=c
 rw[b i hi] at n;rw[b j c] at o;rw[b i hi,b j c];exact r.inj i j n o;exact r.l i qaa
theorem eS.Yf{φ ψ a:kf}{h h' g:Hp}{w w':World}(s:eS φ h w ψ w' h')(le:ψ.k a)(c:∀i,dH (g.ac i)=true->dH (h'.ac i)=true/\a.a i=ψ.a i):eS φ h w a w' g where
 m:=s.m.ab le
 l:=s.l
 f:=s.f
 o:=λi hi=>by
  obtain⟨b,k⟩:=c i hi;rcases s.o i b with⟨j,q,e⟩|e
  grind
  omega
 p:=s.p
 d:=s.d
 n:=s.n
structure iq(φ:kf)(f:Fr)(tmps:Array Value):Prop where
 b:∀t,aj φ (cg (gz t) f) (tmps.getD t Go.undef)
def iq.at_{φ:kf}{f:Fr}{tmps:Array Value}(h:iq φ f tmps)(t:Nat)(_:t<512):aj φ (cg (gz t) f) (tmps.getD t Go.undef):=h.b t
def iq.aw{φ ψ:kf}{f:Fr}{tmps:Array Value}(h:iq φ f tmps)(le:φ.k ψ):iq ψ f tmps:=⟨λt=>nS le _ _ (h.b t)⟩
theorem RM(p q:Nat)(v:AV)(f:Fr):cg p (fO q v f)=if p=q then v else cg p f:=by simp_all[cg,fO]
theorem iq.kw{φ:kf}{f:Fr}{a:Act}(h:iq φ f a.tmps){d:Option Nat}{x:AV}{v:Value}(hd:∀t,d=some t->t<a.tmps.size/\t<512) (c:aj φ x v):
 iq φ (Yv.put (d.map gz) x f) (a.put d v).tmps:=by
 cases d with
 |none=>exact h
 |some u=>
  refine⟨λt=>?_⟩;simp[au3,Yv.put,Act.put];rw[RM (gz t) (gz u)];show aj φ (if t=u then x else cg (gz t) f) _
  by_cases e:t=u
  simp_all;have:=h.b t;simp_all[Ne.symm]
def MY(a:Act)(d:Option Nat)(v:Value):(a.put d v).tmps.size=a.tmps.size:=by cases d<;>simp[Act.put]
def MZ(a:Act)(d:Option Nat)(v:Value):(a.put d v).defers=a.defers:=by cases d<;>rfl
theorem RN{a b:Type}{f:a->Option b}:∀{l:List a}{r:List b},iJ f l=some r->r.length=l.length/\∀(k:Nat)(x:a),l[k]? =some x->∃y,r[k]? =some y/\f x=some y
 |[],r,h=>by grind [iJ]
 |x::l,r,h=>by
  simp[iJ] at h;split at h;rename_i y i g c;cases h;obtain⟨d,e⟩:=RN c
  grind
  grind
def Yg{φ:kf}{x:AV}{v:Value}(b:qM x=true)(h:aj φ x v):v.oneCell'=true:=by
 cases x<;>simp only[qM,at3] at b<;>simp only[aj] at h
 case d=>subst h;rfl
 case D=>obtain⟨_,rfl⟩:=h;rfl
 case F=>obtain⟨_,rfl,_⟩:=h;rfl
 case G=>obtain⟨_,rfl,_⟩:=h;rfl
 case i=>subst h;rfl
 case s=>subst h;rfl
 case g=>subst h;rfl
 case u=>subst h;rfl
 case A=>obtain⟨_,rfl,_⟩:=h;rfl
 case a=>obtain⟨_,rfl⟩:=h;rfl
 case w=>subst h;rfl
 case c=>obtain⟨_,_,_,rfl,_⟩:=h;rfl
 case o=>subst h;rfl
 case h=>obtain⟨_,rfl⟩:=h;rfl
 case y=>subst h;rfl
 case q=>obtain⟨_,_,rfl,_⟩:=h;rfl
 case C=>subst h;rfl
 case r=>obtain⟨_,rfl,_⟩:=h;rfl
 case x=>subst h;rfl
theorem Yh{φ:kf}:∀{l:List AV}{vs:List Value},F7 l=true->aEu φ l vs->∀v∈vs,v.oneCell'=true
 |[],vs,_,h=>by grind [aEu]
 |x::l,vs,a,h=>by simp[F7,atW] at a;obtain⟨v,r,rfl,c,d⟩:=h;intro u b;rcases atZ.1 b with rfl|b;exact Yg a.1 c;exact Yh a.2 d u b
theorem RP{φ:kf}:∀(d:Nat)(v:Value)(x:AV),aEF d v=some x->aj φ x v
 |0,_,_,h=>by simp[aEF] at h
 |d+1,v,x,h=>by
  have g:∀(l:List Value)(r:List AV),iJ (aEF d) l=some r->aEu φ r l:=λl r e=>by
   obtain⟨m,o⟩:=RN e;refine Gn m.symm λj a p=>?_;have f:j<l.length:=by grind
   obtain⟨y,i,t⟩:=o j l[j] (atT f);rw[p] at i;cases i;exact⟨l[j],atT f,RP d _ _ t⟩
  cases v with
  |bool b=>grind [aEF,aj]
  |int k n=>
   cases k<;>simp only[aEF] at h
   case u8=>cases n<;>simp only[atU,reduceCtorEq] at h;grind [aj]
   all_goals grind [aj]
  |float k b=>grind [aEF,aj]
  |complex=>simp[aEF] at h
  |string s=>simp[aEF,atU] at h;subst h;exact⟨s,rfl,aff s⟩
  |pointer a=>grind [aEF,aj]
  |slice a l c=>
   grind [aEF,aj]
  |map r=>grind [aEF,aj]
  |chan=>simp[aEF] at h
  |func=>simp[aEF] at h
  |nilFunc=>grind [aEF,aj]
  |iface=>simp[aEF] at h
  |nilIface=>grind [aEF,aj]
  |agg cs=>
   simp[aEF] at h;split at h;rename_i l e;split at h;rename_i q;cases h;exact⟨cs,rfl,g _ _ e,Yh q (g _ _ e)⟩
   grind
   grind
  |tuple cs=>
   grind [aEF,aj]
def jq(φ:kf)(P:Program):Prop:=φ.l=P/\∀g,g<P.globals.size->g<1152921504606846976->φ.f (gid g)/\φ.a (gid g)=g/\φ.c (gid g)=0
def jq.aw{φ ψ:kf}{P:Program}(h:jq φ P)(le:φ.k ψ):jq ψ P:=⟨le.f.trans h.1,λg c e=>by obtain⟨d,a,b⟩:=h.2 g c e;exact⟨le.b _ d,by rw[le.a _ d,a],by rw[le.c _ d,b]⟩⟩
theorem Gv{φ:kf}{P:Program}(G:jq φ P){f:Fr}{a:Act}(e:iq φ f a.tmps){x:Operand}{c:CX}(h:tN P x=some c):aj φ (c.ac f) (a.eval x):=by
 cases x with
 |tmp t=>
  simp only[tN] at h;split at h;rename_i i;cases h;exact e.at_ t i
  grind
 |const v=>
  simp[tN] at h;split at h;rename_i y j;cases h;exact RP _ _ _ j
  grind
 |global g=>
  simp only[tN] at h;split at h;rename_i b;cases h;obtain⟨d,k,l⟩:=G.2 g b.1 b.2
  grind [CX.ac,aj,Act.eval]
  grind
 |func g=>
  simp[tN,atU] at h;subst h;exact⟨#[],#[],rfl,sJ,sJ⟩
theorem Yi{φ:kf}{P:Program}(G:jq φ P){f:Fr}{a:Act}(b:iq φ f a.tmps):∀{l:List Operand}{cs:List CX},iJ (tN P) l=some cs->aEu φ (jc (λx=>x.ac f) cs) (l.map a.eval)
 |[],cs,h=>by simp[iJ,atU] at h;subst h;rfl
 |x::l,cs,h=>by
  simp[iJ] at h;split at h;rename_i y r d c;cases h;exact qS.2 ⟨Gv G b d,Yi G b c⟩
  grind
def M0(n:Next)(v:Value):Prop:=n=.value v\/(n=.skip/\v=Go.undef)
def JG(φ:kf)(d:Df)(b:Deferred):Prop:=
 match d with
 |.a g c=>∃cap args cs,b.target=.fn (.func g.n) cap/\b.args=args/\aEu φ c cs/\cs=args.toList++cap.toList
def Gw(P:Program)(φ:kf)(h:Hp)(w:World)(jk:Result Next):OR->Prop
 |.v x=>∃n v w',jk=.ok n w'/\M0 n v/\aj φ x v/\sL w w'
 |.b x h'=>∃n v w' ψ,jk=.ok n w'/\M0 n v/\R ψ h' w'/\eS φ h w ψ w' h'/\aj ψ x v
 |.c g args=>∃vs w',jk=(callFunc g.n vs).run P w'/\sL w w'/\aEu φ args vs.toList
 |.j d=>∃b w',jk=.ok (.defer b) w'/\sL w w'/\JG φ d b
 |.i x=>∃v w',jk=.halt (.panic v) w'/\sL w w'/\aj φ x v
 |.g l=>∃n v w' ψ h',h'∈l/\jk=.ok n w'/\M0 n v/\R ψ h' w'/\eS φ h w ψ w' h'/\aj ψ wm v
 |.a _=>True
section
variable {φ:kf}{o:Oper}
def Good(P:Program)(φ:kf)(h:Hp)(w:World)(f:Fr)(a:Act)(o:Oper)(co:CO):Prop:=Gw P φ h w ((execOp a.eval o).run P w) (aQ co f h)
theorem cy{s:String}:Good P φ h w f a o (.d s):=trivial
theorem aEz(G:jq φ P)(b:iq φ f a.tmps){F:CX->CO}{x:Operand}(d:∀c,aj φ (c.ac f) (a.eval x)->Good P φ h w f a o (F c)):Good P φ h w f a o (ap P F x):=by grind [ap,Gv,cy]
def kA(G:jq φ P)(b:iq φ f a.tmps){F:CX->CX->CO}{x y:Operand}(g:∀c d,aj φ (c.ac f) (a.eval x)->aj φ (d.ac f) (a.eval y)->Good P φ h w f a o (F c d)):Good P φ h w f a o (jm P F x y):=
 aEz G b λc e=>aEz G b λd hd=>g c d e hd
def Yj(φ:kf)(f:Fr)(b:Operand->Value):Option CX->Option Operand->Prop
 |none,none=>True
 |some c,some x=>aj φ (c.ac f) (b x)
 |_,_=>False
def aE8(G:jq φ P)(e:iq φ f a.tmps){F:Option CX->CO}{x:Option Operand}(b:∀c,Yj φ f a.eval c x->Good P φ h w f a o (F c)):Good P φ h w f a o (zh P F x):=by unfold zh;split;exact b none trivial;exact aEz G e λc d=>b (some c) d
theorem Cc(G:jq φ P)(b:iq φ f a.tmps){F:List CX->CO}{l:List Operand}(c:∀cs,aEu φ (jc (λx=>x.ac f) cs) (l.map a.eval)->Good P φ h w f a o (F cs)):Good P φ h w f a o (qP P F l):=by grind [qP,Yi,cy]
def RQ{jk:Result Next}{x:AV}{v:Value}(b:jk=.ok (.value v) w)(c:aj φ x v):Gw P φ h w jk (.v x):=⟨_,v,w,b,.inl rfl,c,.da w⟩
def dI(P:Program)(φ:kf)(w:World)(s:Sem Value):OR->Prop
 |.v x=>∃v,s.run P w=.ok v w/\aj φ x v
 |.a _=>True
 |_=>False
def iO{co:CO}{s:Sem Value}(k:execOp a.eval o=(do pure (.value (<-s))))(d:dI P φ w s (aQ co f h)):Good P φ h w f a o co:=by
 unfold Good;rw[k];cases e:aQ co f h with
 |v x=>
  rw[e] at d;obtain⟨v,l,m⟩:=d;simp_all[RQ]
 |a s=>trivial
 |b=>rw[e] at d;exact d.elim
 |c=>rw[e] at d;exact d.elim
 |j=>rw[e] at d;exact d.elim
 |i=>rw[e] at d;exact d.elim
 |g=>rw[e] at d;exact d.elim
end
section
variable {φ:kf}{o:Oper}
def afk:(Du:Int)=9223372036854775807:=by rfl
theorem afl(n:Int):0<=IntKind.u8.wrap n:=by grind [IntKind.wrap_u8]
theorem sO(k:IntKind)(n:Int):aj φ (aEG k n) (.int k (k.wrap n)):=by
 cases k<;>simp only[aEG,aj,w64]
 grind [afl,Int.toNat_of_nonneg]
def AZ{k j:IntKind}:qh k j=true->k=j:=by cases k<;>cases j<;>simp[qh,Mm]
theorem Yk{c:Bool}{x y:OR}:(c=true/\cond c x y=x)\/(c=false/\cond c x y=y):=by grind
def RR(b:BinOp)(op:Int->Int->Int):Prop:=(b=.add/\op=Int.add)\/(b=.sub/\op=Int.sub)\/(b=.mul/\op=Int.mul)
def RR.Lk{b:BinOp}{op:Int->Int->Int}(c:RR b op)(t:TypeId)(k:IntKind)(m n:Int):(binOp b t (.int k m) (.int k n)).run P w=.ok (.int k (k.wrap (op m n))) w:=by rcases c with⟨rfl,rfl⟩|⟨rfl,rfl⟩|⟨rfl,rfl⟩<;>simp[binOp,Op.intArith]<;>rfl
def RS{b:BinOp}{op:Int->Int->Int}(c:RR b op)(t:TypeId){x y:AV}{u v:Value}(d:aj φ x u)(g:aj φ y v):dI P φ w (binOp b t u v) (arith op x y):=by unfold arith;split;subst d g;exact⟨_,c.Lk t _ _ _,by rfl⟩;subst d g;exact⟨_,c.Lk t _ _ _,sO _ _⟩;rename_i k m j n;subst d g;rcases@Yk (qh k j) (.v (aEG k (op m n))) (.a "arith: kinds") with⟨i,e⟩|⟨_,e⟩;rw[e];obtain rfl:=AZ i;exact⟨_,c.Lk t _ _ _,sO _ _⟩;rw[e];trivial;trivial
def afm(t:TypeId){x y:AV}{u v:Value}(j:aj φ x u)(k:aj φ y v):dI P φ w (binOp .add t u v) (Mn x y):=by unfold Mn;split;rename_i l m d n;obtain⟨s,rfl,c⟩:=j;obtain⟨p,rfl,b⟩:=k;rcases@Yk (Nat.ble (Nat.add l d) Du) (.v (.A (Nat.add l d) (FM l m n))) (.a "cat") with⟨i,e⟩|⟨_,e⟩;rw[e];refine⟨.string (s++p),?_,?_⟩;have q:=c.wa;have r:=b.wa;have g:=au1 i;have z:=Int.ofNat_le.2 g;simp_all[afk,binOp,Op.stringOp];exact⟨_,rfl,c.FM b⟩;rw[e];trivial;trivial
def JH{a b:FloatKind}(h:uP a b=true):a=b:=by cases a<;>cases b<;>first|rfl|cases h
def afn(b:BinOp)(op:Ieee.Format->Nat->Nat->Option Nat):Prop:=(b=.add/\op=Ieee.Format.add)\/(b=.sub/\op=Ieee.Format.sub)\/(b=.mul/\op=Ieee.Format.mul)\/(b=.quo/\op=Ieee.Format.div)
def M3{b:BinOp}{op:Ieee.Format->Nat->Nat->Option Nat}(c:afn b op)(t:TypeId){x y:AV}{u v:Value}(g:aj φ x u)(i:aj φ y v):dI P φ w (binOp b t u v) (FO op x y):=by
 unfold FO;split;rename_i k m j n;subst g i;cases d:uP k j with
 |false=>trivial
 |true=>
  obtain rfl:=JH d;cases e:op k.format m n with
  |none=>trivial
  |some r=>
   refine⟨.float k r,?_,by rfl⟩;rcases c with⟨rfl,rfl⟩|⟨rfl,rfl⟩|⟨rfl,rfl⟩|⟨rfl,rfl⟩<;>simp[binOp,Op.floatArith,e]
 trivial
def afo(t:TypeId){x y:AV}{u v:Value}(b:aj φ x u)(c:aj φ y v):dI P φ w (binOp .add t u v) (lG x y):=by unfold lG;split;exact afm t b c;exact M3 (.inl ⟨rfl,rfl⟩) t b c;exact RS (.inl ⟨rfl,rfl⟩) t b c
def afp(t:TypeId){x y:AV}{u v:Value}(b:aj φ x u)(c:aj φ y v):dI P φ w (binOp .sub t u v) (jb x y):=by unfold jb;split;exact M3 (.inr (.inl ⟨rfl,rfl⟩)) t b c;exact RS (.inr (.inl ⟨rfl,rfl⟩)) t b c
def afq(t:TypeId){x y:AV}{u v:Value}(b:aj φ x u)(c:aj φ y v):dI P φ w (binOp .mul t u v) (qj x y):=by unfold qj;split;exact M3 (.inr (.inr (.inl ⟨rfl,rfl⟩))) t b c;exact RS (.inr (.inr ⟨rfl,rfl⟩)) t b c
theorem Yl(a b:Int):mJ a b=true <-> a=b:=by cases a<;>cases b<;>simp only[mJ,iH,Int.ofNat.injEq,Int.negSucc.injEq,at3,reduceCtorEq]
theorem aE9(a b:Int):mJ a b=(a==b):=by rw[avA,Yl,av9]
theorem DS(a b:Int):xK a b=decide (a<b):=by rw[avA,axA];cases a<;>cases b<;>simp only[xK,je,au8,at3,false_iff,true_iff,eq_self]<;>omega
theorem sP{s:Sem Value}{c:Bool}{x y:OR}(d:c=true->dI P φ w s x)(b:c=false->dI P φ w s y):dI P φ w s (cond c x y):=by grind
def RT(t:TypeId)(k:IntKind)(m n:Int)(b:n≠0):(binOp .quo t (.int k m) (.int k n)).run P w=.ok (.int k (k.wrap (m.tdiv n))) w:=by simp[binOp,Op.intDiv,b]
def RU(t:TypeId)(k:IntKind)(m n:Int)(b:n≠0):(binOp .rem t (.int k m) (.int k n)).run P w=.ok (.int k (m.tmod n)) w:=by simp[binOp,Op.intDiv,b]
theorem M5{n m:Int}(h:mJ n m=false):n≠m:=λc=>by grind [Yl]
theorem Ym{n m:Nat}(h:Nat.beq n m=false):n≠m:=λc=>by simp_all
theorem afr(t:TypeId){x y:AV}{u v:Value}(c:aj φ x u)(d:aj φ y v):dI P φ w (binOp .quo t u v) (IL x y):=by unfold IL;split;subst c d;refine sP (λ_=>trivial) λb=>⟨_,RT t _ _ _ (M5 b),by rfl⟩;subst c d;refine sP (λ_=>trivial) λb=>⟨_,RT t _ _ _ (by grind [Ym]),sO _ _⟩;subst c d;refine sP (λb=>?_) λ_=>trivial;simp at b;obtain rfl:=AZ b.1;exact⟨_,RT t _ _ _ (M5 b.2),sO _ _⟩;trivial
theorem afs(t:TypeId){x y:AV}{u v:Value}(b:aj φ x u)(c:aj φ y v):dI P φ w (binOp .quo t u v) (we x y):=by
 unfold we;split;exact M3 (.inr (.inr (.inr ⟨rfl,rfl⟩))) t b c
 grind [afr]
theorem afu(t:TypeId){x y:AV}{u v:Value}(c:aj φ x u)(d:aj φ y v):dI P φ w (binOp .rem t u v) (AH x y):=by unfold AH;split;subst c d;refine sP (λ_=>trivial) λb=>⟨_,RU t _ _ _ (M5 b),by rfl⟩;subst c d;refine sP (λ_=>trivial) λb=>⟨_,RU t _ _ _ (by grind [Ym]),?_⟩;rfl;subst c d;refine sP (λb=>?_) λ_=>trivial;simp at b;obtain rfl:=AZ b.1;exact⟨_,RU t _ _ _ (M5 b.2),by rfl⟩;trivial
def RV(b:BinOp)(op:(n:Nat)->BitVec n->BitVec n->BitVec n):Prop:=
 (b=.and/\op=λ_ a b=>a&&&b)\/(b=.or/\op=λ_ a b=>a|||b)\/(b=.xor/\op=λ_ a b=>a^^^b)\/(b=.andNot/\op=λ_ a b=>a&&&~~~b)
def RV.Lk{b:BinOp}{op:(n:Nat)->BitVec n->BitVec n->BitVec n}(c:RV b op)(t:TypeId)(k:IntKind)(m n:Int):
 (binOp b t (.int k m) (.int k n)).run P w=.ok (.int k (k.wrap (Int.ofNat (op k.bits (BitVec.ofInt k.bits m) (BitVec.ofInt k.bits n)).toNat))) w:=by
 rcases c with⟨rfl,rfl⟩|⟨rfl,rfl⟩|⟨rfl,rfl⟩|⟨rfl,rfl⟩<;>simp[binOp,Op.intBits]
def M6{b:BinOp}{op:(n:Nat)->BitVec n->BitVec n->BitVec n}(c:RV b op)(t:TypeId){x y:AV}{u v:Value}(d:aj φ x u)(e:aj φ y v):
 dI P φ w (binOp b t u v) (jI op x y):=by
 unfold jI;split;subst d e;exact⟨_,c.Lk t _ _ _,sO _ _⟩;subst d e;exact⟨_,c.Lk t _ _ _,sO _ _⟩;subst d e;refine sP (λg=>?_) λ_=>trivial;obtain rfl:=AZ g;exact⟨_,c.Lk t _ _ _,sO _ _⟩;trivial
theorem aEY{x:AV}{v:Value}(b:aj φ x v){n:Nat}(h:mM x=some n):∃k,v=.int k n:=by
 cases x<;>simp only[mM,reduceCtorEq] at h<;>simp only[aj] at b
 case i m=>cases m<;>simp only[BP,atU,reduceCtorEq] at h;grind
 case s m=>grind
 case g k m=>cases m<;>simp only[BP,atU,reduceCtorEq] at h;grind
def RW(t:TypeId)(k j:IntKind)(m:Int)(n:Nat):(binOp .shl t (.int k m) (.int j n)).run P w=.ok (.int k (k.wrap (m*2^(min n k.bits)))) w:=by rfl
def RX(t:TypeId)(k j:IntKind)(m:Int)(n:Nat):(binOp .shr t (.int k m) (.int j n)).run P w=.ok (.int k (m.fdiv (2^(min n k.bits)))) w:=by rfl
def afv(t:TypeId){x y:AV}{u v:Value}(b:aj φ x u)(d:aj φ y v):dI P φ w (binOp .shl t u v) (oQ pF x y):=by unfold oQ;split;rename_i n c;obtain⟨j,rfl⟩:=aEY d c;unfold W9;split;subst b;exact⟨_,RW t _ _ _ _,sO _ _⟩;subst b;exact⟨_,RW t _ _ _ _,sO _ _⟩;subst b;exact⟨_,RW t _ _ _ _,sO _ _⟩;trivial;trivial
def afw(t:TypeId){x y:AV}{u v:Value}(b:aj φ x u)(d:aj φ y v):dI P φ w (binOp .shr t u v) (sC x y):=by
 unfold sC;split;rename_i n c;obtain⟨j,rfl⟩:=aEY d c;unfold Xa;split;subst b;exact⟨_,RX t _ _ _ _,by rfl⟩;rename_i m;subst b;refine⟨_,RX t _ _ _ _,?_⟩;congr 1;have e:(2:Int)^min n IntKind.u8.bits=((2^min n 8:Nat):Int):=by rfl
 rw[e,avH _ (Int.natCast_nonneg _)];rfl;subst b;exact⟨_,RX t _ _ _ _,by rfl⟩;trivial;trivial
def uZ(b:BinOp):Option (Nat->Bool):=
 match b with
 |.lss=>some λo=>Nat.beq o 0
 |.leq=>some λo=>Nat.ble o 1
 |.gtr=>some λo=>Nat.beq o 2
 |.geq=>some λo=>Nat.ble 1 o
 |_=>none
theorem Gx{m n:Int}(h:m<n):uQ m n=0:=by grind [uQ,DS]
theorem RY(m:Int):uQ m m=1:=by simp_all[uQ,DS,aE9]
theorem Gy{m n:Int}(h:n<m):uQ m n=2:=by grind [uQ,DS,aE9]
def DT{a b:Bool}(h:a=b):Result.ok (Value.bool a) w=.ok (.bool b) w:=by rw[h]
def JI(b:BinOp)(g:Nat->Bool)(c:uZ b=some g)(t:TypeId)(k:IntKind)(m n:Int):(binOp b t (.int k m) (.int k n)).run P w=.ok (.bool (g (uQ m n))) w:=by
 have d:(binOp b t (.int k m) (.int k n)).run P w=(Op.intCmp b m n).run P w:=by cases b<;>simp only[uZ,reduceCtorEq] at c<;>simp only[binOp,ne_eq,awW,auM]
 rw[d];rcases axI m n with h|h|h;rw[Gx h];cases b<;>simp only[uZ,atU,reduceCtorEq] at c<;>subst c<;>simp only[Op.intCmp,Sem.run_pure]<;>
  first|exact DT (avf zo)|exact DT (auK zo)
 subst h;rw[RY];cases b<;>simp only[uZ,atU,reduceCtorEq] at c<;>subst c<;>simp only[Op.intCmp,Sem.run_pure]<;>
  first|exact DT (avf zo)|exact DT (auK zo)
 rw[Gy h];cases b<;>simp only[uZ,atU,reduceCtorEq] at c<;>subst c<;>simp only[Op.intCmp,Sem.run_pure]<;>
  first|exact DT (avf zo)|exact DT (auK zo)
theorem Yn:∀(u j d p i q:Nat)(x y:List UInt8),x.map (·.toNat)=(hO d p).drop j->y.map (·.toNat)=(hO i q).drop j->(u=min x.length y.length)->j+x.length=d->j+y.length=i->
 IK u j d p i q=if Op.bytesLess x y then 0 else if x=y then 1 else 2
 |0,j,d,p,i,q,x,y,C,D,B,r,s=>by
  simp only[IK];cases x with
  |nil=>
   cases y with
   |nil=>simp at r s;simp_all[Op.bytesLess]
   |cons b y=>
    simp at r s;have v:Nat.beq d i=false:=by cases m:Nat.beq d i with|false=>rfl|true=>simp_all
    have k:Nat.ble d i=true:=by rw[je];omega
    rw[v,k];rfl
  |cons b x=>
   cases y with
   |nil=>
    simp at r s;have v:Nat.beq d i=false:=by cases m:Nat.beq d i with|false=>rfl|true=>simp_all
    have k:Nat.ble d i=false:=by grind [je]
    rw[v,k];rfl
   |cons c y=>grind
 |u+1,j,d,p,i,q,x,y,C,D,B,r,s=>by
  cases x with
  |nil=>grind
  |cons b x=>
   cases y with
   |nil=>grind
   |cons c y=>
    simp only[atX] at r s B;have A:∀(z:List UInt8)(l n:Nat)(b:UInt8),(b::z).map (·.toNat)=(hO l n).drop j->j<l->lF n j=b.toNat/\z.map (·.toNat)=(hO l n).drop (j+1):=by intro z l n b e H;have k:=aui (λl=>l[0]?) e;simp only[aul,avk,auF,aud] at k;rw[MV l n j H] at k;refine⟨by grind,?_⟩;have F:=aui List.tail e;simpa using F
    obtain⟨E,J⟩:=A x d p b C zo;obtain⟨c1,y1⟩:=A y i q c D zo;have I:=Yn u (j+1) d p i q x y J y1 zo zo zo;simp only[IK,E,c1,Op.bytesLess]
    by_cases e:b=c
    subst e;rw[av1,cond,I];simp;have m:Nat.beq b.toNat c.toNat=false:=by
     cases m:Nat.beq b.toNat c.toNat with
     |false=>rfl
     |true=>rw[iH] at m;exact absurd (avi.1 m) e
    rw[m,cond]
    by_cases t:b<c
    have:Nat.ble b.toNat c.toNat=true:=by rw[je];exact axM (axc.1 t)
    simp[this,t];have:Nat.ble b.toNat c.toNat=false:=by
     cases G:Nat.ble b.toNat c.toNat with
     |false=>rfl
     |true=>
      rw[je] at G;have K:¬b.toNat<c.toNat:=λg=>t (axc.2 g);have L:b.toNat≠c.toNat:=λg=>e (avi.1 g);omega
    simp[this,t,e]
theorem RZ:∀(x:List UInt8),Op.bytesLess x x=false
 |[]=>rfl
 |a::x=>by simp[Op.bytesLess,RZ x]
theorem Yo{l n b n':Nat}{s c:ByteArray}(g:kR l n s)(d:kR b n' c):aEV l n b n'=if Op.bytesLess s.toList c.toList then 0 else if s.toList=c.toList then 1 else 2:=by
 rw[Go.ByteArray.toList_eq,Go.ByteArray.toList_eq];unfold aEV;cases i:(Nat.beq l b&&Nat.beq n n') with
 |true=>
  simp at i;have e:=(g.Hc d).1 i
  grind [RZ]
 |false=>
  have k1:s.data.toList.length=l:=by have:=g.wa;simp_all
  have j:c.data.toList.length=b:=by have:=d.wa;simp_all
  exact Yn _ 0 l n b n' s.data.toList c.data.toList (by simpa using g.1) (by simpa using d.1) (by grind [je]) zo zo
theorem R0(b:BinOp)(g:Nat->Bool)(d:uZ b=some g)(t:TypeId){l n m n':Nat}{s c:ByteArray}(u:kR l n s)(p:kR m n' c):
 (binOp b t (.string s) (.string c)).run P w=.ok (.bool (g (aEV l n m n'))) w:=by
 rw[Yo u p];have j:s.toList=c.toList->Op.bytesLess s.toList c.toList=false:=λe=>by grind [RZ]
 have r:(binOp b t (.string s) (.string c)).run P w=(Op.stringOp b s c).run P w:=by grind [binOp]
 rw[r];have q:(s.toList==c.toList)=decide (s.toList=c.toList):=by grind
 have k:(Op.stringOp b s c).run P w=.ok (.bool (match b with|.lss=>Op.bytesLess s.toList c.toList|.leq=>Op.bytesLess s.toList c.toList||decide (s.toList=c.toList)|.gtr=> !(Op.bytesLess s.toList c.toList||decide (s.toList=c.toList))|_=> !Op.bytesLess s.toList c.toList)) w:=by cases b<;>simp only[uZ,reduceCtorEq] at d<;>simp only[Op.stringOp,Sem.run_pure,q]
 rw[k];refine DT ?_;generalize Op.bytesLess s.toList c.toList=L at*;generalize s.toList=x at*;generalize c.toList=y at*
 by_cases i:x=y
 obtain rfl:=j i;rw[atS zm,atV i];cases b<;>simp only[uZ,atU,reduceCtorEq] at d<;>subst d<;>simp only[avf i]<;>rfl;cases L with
 |true=>
  cases b<;>simp only[uZ,atU,reduceCtorEq] at d<;>subst d<;>rfl
 |false=>
  rw[atS zm,atS i];cases b<;>simp only[uZ,atU,reduceCtorEq] at d<;>subst d<;>simp only[auK i]<;>rfl
theorem M7(b:BinOp)(g:Nat->Bool)(p:uZ b=some g)(t:TypeId){x y:AV}{u v:Value}(l:aj φ x u)(q:aj φ y v):dI P φ w (binOp b t u v) (mc g x y):=by
 unfold mc;split;rename_i c d;unfold tK at d;split at d;rename_i k m j n;cases i:uP k j with
 |false=>grind
 |true=>
  rw[i] at d;obtain rfl:=JH i;subst l q;cases r:k.format.order m n with
  |none=>grind
  |some C=>
   refine⟨.bool (g c),?_,by rfl⟩;cases b<;>simp only[uZ,reduceCtorEq,atU] at p<;>subst p<;>cases C<;>rw[r] at d<;>cases d<;>simp[binOp,Op.floatCmp,r]<;>rfl
 rename_i D;unfold qk at d;split at d;cases d;subst l q;exact⟨_,JI b g p t _ _ _,by rfl⟩;rename_i m n;cases d;subst l q;refine⟨_,JI b g p t _ _ _,?_⟩;simp[aj];have e:(cond (Nat.beq m n) 1 (cond (Nat.ble m n) 0 2))=uQ (m:Int) (n:Int):=by
  by_cases F:m=n
  grind [Nat.beq_refl,RY]
  have E:Nat.beq m n=false:=by cases G:Nat.beq m n with|false=>rfl|true=>simp_all
  grind [je,Gx,Gy]
 rw[e];rename_i k m j n;cases i:qh k j with
 |false=>grind
 |true=>
  rw[i] at d;cases d;obtain rfl:=AZ i;subst l q;exact⟨_,JI b g p t _ _ _,by rfl⟩
 cases d;obtain⟨s,rfl,B⟩:=l;obtain⟨H,rfl,A⟩:=q;exact⟨_,R0 b g p t B A,by rfl⟩;rename_i m n;cases i:xK n m with
 |false=>grind
 |true=>
  rw[i] at d;cases d;obtain⟨x,rfl,l⟩:=l;subst q;have z:n<m:=by simpa[DS] using i
  refine⟨_,JI b g p t _ _ _,?_⟩
  grind [aj,Gy]
 rename_i m n;cases i:xK m n with
 |false=>grind
 |true=>
  rw[i] at d;cases d;obtain⟨x,rfl,l⟩:=l;subst q;have z:m<n:=by simpa[DS] using i
  refine⟨_,JI b g p t _ _ _,?_⟩
  grind [aj,Gx]
 grind
 trivial
def cF(k:FK)(u v:Value):Option Bool:=
 match k,u,v with
 |.b k,.int i a,.int j c=>if i=k/\j=k then some (decide (a=c)) else none
 |.a,.string s,.string t=>some (s.toList==t.toList)
 |.c,.bool a,.bool b=>some (a==b)
 |_,_,_=>none
def cL:List FK->List Value->List Value->Option Bool
 |[],[],[]=>some true
 |k::b,x::l,y::r=>
  match cF k x y with
  |some true=>cL b l r
  |some false=>some false
  |none=>none
 |_,_,_=>none
theorem afx{d:Type}{c:Bool}{x:d}{b:d}(h:cond c (some x) none=some b):c=true/\x=b:=by grind
theorem GA{k:FK}{x y:AV}{b:Bool}(c:sD k x y=some b){u v:Value}(d:aj φ x u)(e:aj φ y v):cF k u v=some b:=by
 unfold sD at c;split at c;split at c;cases c;subst d e;simp[cF,axQ,aE9];rfl
 grind
 split at c;rename_i m n _;cases c;simp only[aj] at d e;subst d e;simp only[cF,axQ,auo];congr 1;rw[avA,iH,axA];omega;cases c;split at c;obtain⟨g,rfl⟩:=afx c;simp only[atW] at g;obtain rfl:=AZ g.1;obtain rfl:=AZ g.2;simp only[aj] at d e;subst d e;simp only[cF,axQ,auo,aE9];rfl;cases c;split at c;cases c;simp only[aj] at d e;obtain⟨s,rfl,i⟩:=d;obtain⟨t,rfl,j⟩:=e;simp only[cF];congr 1;rw[avA,av9,Go.ByteArray.toList_eq,Go.ByteArray.toList_eq,atW,iH,iH,i.Hc j];constructor;intro h;have:s.data=t.data:=aw5.1 h;cases s;cases t;simp_all;rintro rfl;rfl;cases c;split at c;rename_i a b _;cases c;simp only[aj] at d e;subst d e;simp only[cF];cases a<;>cases b<;>rfl;cases c;cases c
theorem GB:∀{m:List FK}{l r:List AV}{b:Bool},yX m l r=some b->∀{xs d:List Value},aEu φ l xs->aEu φ r d->cL m xs d=some b
 |[],[],[],b,c,xs,d,e,i=>by simp[yX,atU] at c;subst c;subst e;subst i;rfl
 |k::m,x::l,y::r,b,c,xs,d,e,i=>by
  obtain⟨u,s,rfl,p,g⟩:=e;obtain⟨v,t,rfl,q,j⟩:=i;simp[yX] at c;simp[cL];split at c;rename_i n;rw[GA n p q];exact GB c g j
  grind [GA]
  grind
 |[],[],_::_,_,c,_,_,_,_=>by simp[yX] at c
 |[],_::_,_,_,c,_,_,_,_=>by simp[yX] at c
 |_::_,[],_,_,c,_,_,_,_=>by simp[yX] at c
 |_::_,_::_,[],_,c,_,_,_,_=>by simp[yX] at c
theorem R6:∀{l m:List FK}{X Y:List Value}{b:Bool},cL (l++m) X Y=some b->
 (cL l (X.take l.length) (Y.take l.length)=some false/\b=false)\/(cL l (X.take l.length) (Y.take l.length)=some true/\cL m (X.drop l.length) (Y.drop l.length)=some b)
 |[],m,X,Y,b,h=>.inr ⟨by rfl,by grind⟩
 |k::l,m,[],Y,b,h=>by simp[cL] at h
 |k::l,m,_::_,[],b,h=>by simp[cL] at h
 |k::l,m,x::X,y::Y,b,h=>by
  simp[auY,cL] at h;simp[atX,awj,awK,cL];split at h;exact R6 h
  grind
  grind
def qV(P:Program)(t:TypeId)(u:Value)(cs:List Value):Prop:=
 match P.underlying t with
 |some (.struct _)=>∃b,u=.agg b/\b.toList=cs
 |_=>cs=[u]
theorem R7{t:TypeId}{n:Nat}(h:fI P t=some n):∃i,P.info? t=some i/\i.size=n:=by grind [fI]
def aEU{t:TypeId}{n:Nat}(h:fI P t=some n)(w:World):(Go.sizeOf t).run P w=.ok n w:=by obtain⟨i,hi,rfl⟩:=R7 h;simp[Go.sizeOf,typeInfo,hi]
def bZ{t:TypeId}{d:TypeDesc}(h:P.underlying t=some d)(w:World):(underlying t).run P w=.ok d w:=by simp[underlying,h]
def GC{t:TypeId}{d:TypeDesc}(h:P.underlying t=some d)(w:World):(isAgg t).run P w=.ok (oR d) w:=by unfold isAgg;rw[Sem.run_bind,bZ h];cases d<;>rfl
theorem Sa{d:Nat}{t:TypeId}{l:List FK}(c:rP P d t=some l):
 (∃k,l=[.b k]/\P.underlying t=some (.int k))\/(l=[.c]/\P.underlying t=some .bool)\/(l=[.a]/\P.underlying t=some .string)\/
 (∃fs b,d=b+1/\P.underlying t=some (.struct fs)/\P.stoodInHeld t=false/\zf P (rP P b) 0 fs.toList=some l):=by
 cases d with
 |zero=>simp[rP] at c
 |succ d=>
  grind [rP]
def Sb{t:TypeId}{l:List FK}{d:Nat}(i:rP P d t=some l)(r:fI P t=some l.length){c:Array Value}{off:Nat}
 (m:l.length=1->off<c.size\/∃fs,P.underlying t=some (.struct fs)) (w:World):∃u,(part t c off).run P w=.ok u w/\qV P t u ((c.toList.drop off).take l.length):=by
 have g:∀e,P.underlying t=some e->oR e=false->l.length=1->(∀fs,e≠.struct fs)->∃u,(part t c off).run P w=.ok u w/\qV P t u ((c.toList.drop off).take l.length):=by intro e b p q j;simp_all[part,GC,qV,aut]
 rcases Sa i with⟨k,rfl,b⟩|⟨rfl,b⟩|⟨rfl,b⟩|⟨fs,n,_,b,_,_⟩;exact g _ b rfl rfl (λ_=>by simp);exact g _ b rfl rfl (λ_=>by simp);exact g _ b rfl rfl (λ_=>by simp);simp_all[part,GC,oR,aEU,qV]
theorem Sd{k:FK}{u v:Value}{b:Bool}(h:cL [k] [u] [v]=some b):cF k u v=some b:=by grind [cL]
def M8{k:IntKind}{u v:Value}{b:Bool}(h:cF (.b k) u v=some b):∃a c,u=.int k a/\v=.int k c/\b=decide (a=c):=by cases u<;>cases v<;>simp only[cF,reduceCtorEq] at h;simp_all
theorem JK{u v:Value}{b:Bool}(h:cF .a u v=some b):∃s t,u=.string s/\v=.string t/\b=(s.toList==t.toList):=by
 cases u<;>cases v<;>simp only[cF,reduceCtorEq] at h
 grind
theorem M9{u v:Value}{b:Bool}(h:cF .c u v=some b):∃s t,u=.bool s/\v=.bool t/\b=(s==t):=by
 cases u<;>cases v<;>simp only[cF,reduceCtorEq] at h
 grind
def JL(P:Program)(d:Nat):Prop:=∀t g,rP P d t=some g->∀D,d<=D->∀u v c e b w,qV P t u c->qV P t v e->cL g c e=some b->(Op.equalIn D t u v).run P w=.ok b w
def Se(P:Program)(d:Nat):Prop:=∀fs off c,zf P (rP P d) off fs=some c->∀D,d<=D->∀(X Y:Array Value) b w,cL c (X.toList.drop off) (Y.toList.drop off)=some b->(Op.eqFields D X Y fs).run P w=.ok b w
theorem Yp{d:Nat}(hB:∀j,d=j+1->Se P j):JL P d:=by
 intro t y r D C u v A B b w c e p;have l:∃i,D=i+1:=by
  cases d with
  |zero=>simp[rP] at r
  |succ d=>exact⟨D- 1,by omega⟩
 obtain⟨i,rfl⟩:=l;rcases Sa r with⟨k,rfl,g⟩|⟨rfl,g⟩|⟨rfl,g⟩|⟨fs,j,x,g,q,z⟩;simp[qV,g] at c e;subst c;subst e;obtain⟨m,n,rfl,rfl,rfl⟩:=M8 (Sd p)
 grind [run_equalIn_int]
 simp[qV,g] at c e;subst c;subst e;obtain⟨m,n,rfl,rfl,rfl⟩:=M9 (Sd p)
 grind [run_equalIn_bool']
 simp[qV,g] at c e;subst c;subst e;obtain⟨m,n,rfl,rfl,rfl⟩:=JK (Sd p)
 grind [run_equalIn_string]
 simp[qV,g] at c e;obtain⟨X,rfl,rfl⟩:=c;obtain⟨Y,rfl,rfl⟩:=e;have s:P.fieldsOf t=fs:=by grind [Program.fieldsOf]
 rw[run_equalIn_struct w i t X Y qaa q,s];exact hB j x fs.toList 0 y z i zo X Y b w qaa
theorem Yr{d:Nat}(A:JL P d):Se P d:=by
 intro fs
 induction fs with
 |nil=>
  intro off E c D n X Y b w i;simp[zf,atU] at c;subst c;have:b=true:=by cases B:X.toList.drop off<;>cases C:Y.toList.drop off<;>rw[B,C] at i<;>simp[cL] at i;omega
  simp_all[Op.eqFields]
 |cons f r K=>
  intro off E c D n X Y b w i;simp only[zf] at c;split at c
  grind
  rename_i s;have I:f.name≠ "_":=λe=>s (.inl e);have H:f.offset=off:=avt λe=>s (.inr e);split at c;rename_i l j;split at c;rename_i m J;split at c;rename_i q;cases c;have y:l.length=1->off<X.size\/∃fs,P.underlying f.type=some (.struct fs):=λp=>by refine .inl (avt λg=>?_);have:X.toList.drop off=[]:=auJ qaa;rw[this] at i;cases l<;>simp[cL] at p i
  have z:l.length=1->off<Y.size\/∃fs,P.underlying f.type=some (.struct fs):=λp=>by
   refine .inl (avt λg=>?_);have:Y.toList.drop off=[]:=auJ qaa;cases l with
   |nil=>grind
   |cons k l=>grind [cL]
  obtain⟨u,F,t⟩:=Sb j q y w;obtain⟨v,G,x⟩:=Sb j q z w;simp only[Op.eqFields,ne_eq,I,avR,auo,H,Sem.run_bind,F,G,Result.andThen_ok];rcases R6 i with⟨c1,rfl⟩|⟨c1,c2⟩;rw[A _ _ j D n _ _ _ _ _ w t x c1];simp;rw[A _ _ j D n _ _ _ _ _ w t x c1];simp
  grind [List.drop_drop]
  cases c;cases c;cases c
def Sg:∀d,JL P d/\Se P d
 |0=>have A:JL P 0:=Yp (λb h=>by omega);⟨A,Yr A⟩
 |d+1=>have A:JL P (d+1):=Yp (λb h=>by have:b=d:=zo;exact(Sg b).2);⟨A,Yr A⟩
end
section
variable {t:TypeId}{D:Nat}
def ep1{e:TypeId}(b:P.underlying t=some (.pointer e)):(Op.equalIn (D+1) t (.pointer none) (.pointer none)).run P w=.ok true w:=by simp_all[Op.equalIn,bZ]
def ep2{e:TypeId}{a:Addr}(b:P.underlying t=some (.pointer e)):(Op.equalIn (D+1) t (.pointer none) (.pointer (some a))).run P w=.ok false w:=by simp_all[Op.equalIn,bZ]
def ep3{e:TypeId}{a:Addr}(b:P.underlying t=some (.pointer e)):(Op.equalIn (D+1) t (.pointer (some a)) (.pointer none)).run P w=.ok false w:=by simp_all[Op.equalIn,bZ]
def ep4{e:TypeId}{a:Addr}{n:Nat}(c:P.underlying t=some (.pointer e))(b:fI P e=some n):(Op.equalIn (D+1) t (.pointer (some a)) (.pointer (some a))).run P w=.ok true w:=by simp_all[Op.equalIn,bZ,aEU,sameAddr]
def afy{i j:Nat}(h:IM i j=true):i=j:=at7 h
theorem Ys{i j:Nat}{o q:Nat}{r:Bool}(b:cond (cond (Nat.beq o q) (IM i j) false) (some true) none=some r):r=true/\i=j/\o=q:=by
 cases c:Nat.beq o q with
 |false=>grind
 |true=>
  rw[c] at b;cases d:IM i j with
  |false=>grind
  |true=>rw[d] at b;cases b;exact⟨rfl,afy d,at7 c⟩
def es1{e:TypeId}{l c b c':Nat}(d:P.underlying t=some (.slice e)):(Op.equalIn (D+1) t (.slice none l c) (.slice none b c')).run P w=.ok true w:=by simp_all[Op.equalIn,bZ]
def es2{e:TypeId}{a:Addr}{l c b c':Nat}(d:P.underlying t=some (.slice e)):(Op.equalIn (D+1) t (.slice none l c) (.slice (some a) b c')).run P w=.ok false w:=by simp_all[Op.equalIn,bZ]
def es3{e:TypeId}{a:Addr}{l c b c':Nat}(d:P.underlying t=some (.slice e)):(Op.equalIn (D+1) t (.slice (some a) l c) (.slice none b c')).run P w=.ok false w:=by simp_all[Op.equalIn,bZ]
def em1{k e:TypeId}(b:P.underlying t=some (.map k e)):(Op.equalIn (D+1) t (.map none) (.map none)).run P w=.ok true w:=by simp_all[Op.equalIn,bZ]
def JM{k e:TypeId}{a:Nat}(b:P.underlying t=some (.map k e)):(Op.equalIn (D+1) t (.map none) (.map (some a))).run P w=.ok false w:=by simp_all[Op.equalIn,bZ]
def em3{k e:TypeId}{a:Nat}(b:P.underlying t=some (.map k e)):(Op.equalIn (D+1) t (.map (some a)) (.map none)).run P w=.ok false w:=by simp_all[Op.equalIn,bZ]
def ef1{a b:Array TypeId}{c:Bool}(d:P.underlying t=some (.func a b c)):(Op.equalIn (D+1) t .nilFunc .nilFunc).run P w=.ok true w:=by simp_all[Op.equalIn,bZ]
def ef2{a b:Array TypeId}{c:Bool}{g:Fn}{x y:Array Value}(d:P.underlying t=some (.func a b c)):(Op.equalIn (D+1) t .nilFunc (.func g x y)).run P w=.ok false w:=by simp_all[Op.equalIn,bZ]
def ef3{a b:Array TypeId}{c:Bool}{g:Fn}{x y:Array Value}(d:P.underlying t=some (.func a b c)):(Op.equalIn (D+1) t (.func g x y) .nilFunc).run P w=.ok false w:=by simp_all[Op.equalIn,bZ]
def ei1{ms:Array (String×TypeId)}(b:P.underlying t=some (.interface ms)):(Op.equalIn (D+1) t .nilIface .nilIface).run P w=.ok true w:=by simp_all[Op.equalIn,bZ]
def ei2{ms:Array (String×TypeId)}{g:TypeId}{x:Value}(b:P.underlying t=some (.interface ms)):(Op.equalIn (D+1) t .nilIface (.iface g x)).run P w=.ok false w:=by simp_all[Op.equalIn,bZ]
def ei3{ms:Array (String×TypeId)}{g:TypeId}{x:Value}(b:P.underlying t=some (.interface ms)):(Op.equalIn (D+1) t (.iface g x) .nilIface).run P w=.ok false w:=by simp_all[Op.equalIn,bZ]
def ei4{ms:Array (String×TypeId)}{g b:TypeId}{x y:Value}(c:P.underlying t=some (.interface ms))(d:g≠b):(Op.equalIn (D+1) t (.iface g x) (.iface b y)).run P w=.ok false w:=by rw[Op.equalIn,Sem.run_bind,bZ c];simp_all
theorem afz{g:TypeId}(h:I8 P g=true):∃i,P.info? g=some i/\i.comparable=true/\P.underlying g=some (.int .i64):=by grind [I8]
theorem ei5{ms:Array (String×TypeId)}{g:TypeId}{a b:Int}(e:P.underlying t=some (.interface ms))(d:I8 P g=true):(Op.equalIn (D+2) t (.iface g (.int .i64 a)) (.iface g (.int .i64 b))).run P w=.ok (a==b) w:=by
 obtain⟨i,c,j,k⟩:=afz d;rw[Op.equalIn,Sem.run_bind,bZ e];show(ite (g≠g) (pure false) _:Sem Bool).run P w=_;rw[atS (λh=>h rfl)];have hi:(typeInfo g).run P w=.ok i w:=by simp[typeInfo,c]
 rw[Sem.run_bind,hi];simp_all[Op.equalIn,bZ]
end
section
variable {φ:kf}{o:Oper}
theorem afA{g:Nat}(h:BR g (I9 P)=true):I8 P g=true:=by
 have key:∀l:List Nat,BR g l=true->g∈l:=by
  intro l
  induction l with
  |nil=>intro h;cases h
  |cons u l b=>
   intro h;unfold BR at h;cases e:Nat.beq g u with
   |true=>simp_all
   |false=>grind
 grind [I9]
theorem Yt(a b:Int):mJ a b=(a==b):=by
 have q:∀m n:Nat,(Nat.beq m n=true) <-> m=n:=λm n=>⟨at7,λe=>e▸av1 m⟩;rw[avA,av9];cases a with
 |ofNat m=>
  cases b with
  |ofNat n=>exact(q m n).trans ⟨λe=>e▸rfl,λe=>Int.ofNat.inj e⟩
  |negSucc n=>exact Iff.intro (λh=>by cases h) (λh=>by grind)
 |negSucc m=>
  cases b with
  |ofNat n=>exact Iff.intro (λh=>by cases h) (λh=>by grind)
  |negSucc n=>exact(q m n).trans ⟨λe=>e▸rfl,λe=>Int.negSucc.inj e⟩
def Yu(b:BinOp)(neg:Bool):Prop:=(b=.eql/\neg=false)\/(b=.neq/\neg=true)
def Cd{b:BinOp}{neg:Bool}(c:Yu b neg){t:TypeId}{u v:Value}{r:Bool}(p:∀k m j n,u=.int k m->v=.int j n->False) (g:∀k m j n,u=.float k m->v=.float j n->False)
 (i:∀k m d j n n',u=.complex k m d->v=.complex j n n'->False) (e:∀m n,u=.string m->v=.string n->False)
 (l:(Op.equalIn 10000 t u v).run P w=.ok r w):(binOp b t u v).run P w=.ok (.bool (if neg then !r else r)) w:=by
 rcases c with⟨rfl,rfl⟩|⟨rfl,rfl⟩;simp_all[binOp,Op.equal,Op.maxDepth];simp_all[binOp,Op.equal,Op.maxDepth]
def Ce{b:BinOp}{t:TypeId}{x y:Operand}{u v:Value}(c:u=.nilIface->v=.nilIface->zg x=true\/zg y=true)
 (d:∀l r,u=.agg l->v=.agg r->P.eqGuardType P.depth t=false):(eqGuard b t x y u v).run P w=.ok () w:=by
 cases u<;>cases v<;>first
  |(cases b<;>simp[eqGuard];done)
  |(have g:=d _ _ rfl rfl;simp_all[eqGuard])
  |(rcases c rfl rfl with g|g
    cases x<;>simp only[zg,at3] at g;simp_all[eqGuard];cases y<;>simp only[zg,at3] at g;simp_all[eqGuard])
theorem Yx{b:BinOp}{neg:Bool}(F:Yu b neg){t:TypeId}{x y:Operand}{k:EK}(C:eqK P t x y=some k){p q:AV}{r:Bool}(s:cJ k p q=some r){u v:Value}(z:aj φ p u)(A:aj φ q v):
 (do eqGuard b t x y u v;binOp b t u v:Sem Value).run P w=.ok (.bool (if neg then !r else r)) w:=by
 have Q:∀(G:FK)(J:TypeDesc),P.underlying t=some J->(G=.b (match J with|.int k=>k|_=>.i64)/\(∃k,J=.int k)\/G=.c/\J=.bool\/G=.a/\J=.string)->sD G p q=some r->
  (do eqGuard b t x y u v;binOp b t u v:Sem Value).run P w=.ok (.bool (if neg then !r else r)) w:=by
  intro G J d N hf;have R:=GA hf z A;rcases N with⟨rfl,k,rfl⟩|⟨rfl,rfl⟩|⟨rfl,rfl⟩;obtain⟨m,n,rfl,rfl,rfl⟩:=M8 R;rcases F with⟨rfl,rfl⟩|⟨rfl,rfl⟩;simp[eqGuard,binOp,Op.intCmp];rfl;simp[eqGuard,binOp,Op.intCmp];rfl;obtain⟨m,n,rfl,rfl,rfl⟩:=M9 R;rw[Sem.run_bind,Ce qaa qaa];exact Cd F qaa qaa qaa qaa (run_equalIn_bool' w 9999 t m n d);obtain⟨m,n,rfl,rfl,rfl⟩:=JK R;rcases F with⟨rfl,rfl⟩|⟨rfl,rfl⟩;rfl;rfl
 unfold eqK at C;split at C;rename_i k' d;cases C;exact Q _ _ d (.inl ⟨rfl,_,rfl⟩) s;rename_i d;cases C;exact Q _ _ d (.inr (.inl ⟨rfl,rfl⟩)) s;rename_i d;cases C;exact Q _ _ d (.inr (.inr ⟨rfl,rfl⟩)) s;rename_i G d;cases C;simp[cJ] at s;split at s;rename_i i m j n;cases K:uP G i&&uP G j with
 |false=>grind
 |true=>
  rw[K] at s;simp only[atW] at K;obtain rfl:=JH K.1;obtain rfl:=JH K.2;simp only[aj] at z A;subst z A;cases s;cases U:G.format.order m n with
  |none=>rcases F with⟨rfl,rfl⟩|⟨rfl,rfl⟩<;>simp[eqGuard,binOp,Op.floatCmp,U]
  |some od=>rcases F with⟨rfl,rfl⟩|⟨rfl,rfl⟩<;>cases od<;>simp[eqGuard,binOp,Op.floatCmp,U]<;>rfl
 grind
 ·rename_i e d;split at C
  case h_2=>grind
  rename_i n hn;cases C;have B:∀(H I:Option Addr),u=.pointer H->v=.pointer I->(Op.equalIn 10000 t u v).run P w=.ok r w->(do eqGuard b t x y u v;binOp b t u v:Sem Value).run P w=.ok (.bool (if neg then !r else r)) w:=by rintro H I rfl rfl E;rw[Sem.run_bind,Ce qaa qaa];exact Cd F qaa qaa qaa qaa E
  simp only[cJ] at s;split at s;cases s;subst z;subst A;exact B _ _ rfl rfl (ep1 (D:=9999) d);cases s;obtain⟨_,rfl⟩:=A;subst z;exact B _ _ rfl rfl (ep2 (D:=9999) d);cases s;obtain⟨_,rfl⟩:=z;subst A;exact B _ _ rfl rfl (ep3 (D:=9999) d);obtain⟨rfl,rfl,rfl⟩:=Ys s;obtain⟨_,rfl⟩:=z;obtain⟨_,rfl⟩:=A;exact B _ _ rfl rfl (ep4 (D:=9999) d hn)
  grind
 rename_i e d;cases C;have B:∀H l c I V c',u=.slice H l c->v=.slice I V c'->(Op.equalIn 10000 t u v).run P w=.ok r w->(do eqGuard b t x y u v;binOp b t u v:Sem Value).run P w=.ok (.bool (if neg then !r else r)) w:=by rintro H l c I V c' rfl rfl E;rw[Sem.run_bind,Ce qaa qaa];exact Cd F qaa qaa qaa qaa E
 simp[cJ] at s;split at s<;>cases s<;>simp only[aj] at z A;subst z;subst A;exact B _ _ _ _ _ _ rfl rfl (es1 (D:=9999) d);obtain⟨_,_,_,rfl,_⟩:=A;subst z;exact B _ _ _ _ _ _ rfl rfl (es2 (D:=9999) d);obtain⟨_,_,_,rfl,_⟩:=z;subst A;exact B _ _ _ _ _ _ rfl rfl (es3 (D:=9999) d);rename_i Z e2 d;cases C;have B:∀H I,u=.map H->v=.map I->(Op.equalIn 10000 t u v).run P w=.ok r w->(do eqGuard b t x y u v;binOp b t u v:Sem Value).run P w=.ok (.bool (if neg then !r else r)) w:=by rintro H I rfl rfl E;rw[Sem.run_bind,Ce qaa qaa];exact Cd F qaa qaa qaa qaa E
 simp[cJ] at s;split at s<;>cases s<;>simp only[aj] at z A;subst z;subst A;exact B _ _ rfl rfl (em1 (D:=9999) d);obtain⟨_,rfl⟩:=A;subst z;exact B _ _ rfl rfl (JM (D:=9999) d);obtain⟨_,rfl⟩:=z;subst A;exact B _ _ rfl rfl (em3 (D:=9999) d);rename_i Z e2 e3 d;cases C;have B:(u=.nilFunc\/∃g a c,u=.func g a c)->(v=.nilFunc\/∃g a c,v=.func g a c)->(Op.equalIn 10000 t u v).run P w=.ok r w->(do eqGuard b t x y u v;binOp b t u v:Sem Value).run P w=.ok (.bool (if neg then !r else r)) w:=by intro L tV E;rw[Sem.run_bind,Ce qaa qaa];refine Cd F ?_ ?_ ?_ ?_ E<;>rcases L with rfl|⟨_,_,_,rfl⟩<;>intros<;>simp_all
 simp[cJ] at s;split at s<;>cases s<;>simp only[aj] at z A;subst z;subst A;exact B (.inl rfl) (.inl rfl) (ef1 (D:=9999) d);obtain⟨_,_,rfl,_⟩:=A;subst z;exact B (.inl rfl) (.inr ⟨_,_,_,rfl⟩) (ef2 (D:=9999) d);obtain⟨_,_,rfl,_⟩:=z;subst A;exact B (.inr ⟨_,_,_,rfl⟩) (.inl rfl) (ef3 (D:=9999) d);rename_i fs d;split at C;rename_i l hl;split at C
 grind
 rename_i O;cases C;simp[cJ] at s;split at s;obtain⟨X,rfl,hX,_⟩:=z;obtain⟨Y,rfl,hY,_⟩:=A;have N:=GB s hX hY;have E:=(Sg 5).1 t l hl 10000 zo (.agg X) (.agg Y) X.toList Y.toList r w qaD qaD N;rw[Sem.run_bind,Ce qaa (λ_ _ _ _=>by grind)];exact Cd F qaa qaa qaa qaa E
 grind
 grind
 rename_i ms d;split at C;rename_i W;cases C;have M:zg x=true\/zg y=true:=by grind
 have B:(u=.nilIface\/∃g a,u=.iface g a)->(v=.nilIface\/∃g a,v=.iface g a)->(Op.equalIn 10000 t u v).run P w=.ok r w->(do eqGuard b t x y u v;binOp b t u v:Sem Value).run P w=.ok (.bool (if neg then !r else r)) w:=by intro L tV E;rw[Sem.run_bind,Ce (λ_ _=>M) qaa];refine Cd F ?_ ?_ ?_ ?_ E<;>rcases L with rfl|⟨_,_,rfl⟩<;>intros<;>simp_all
 simp[cJ] at s;split at s<;>cases s<;>simp only[aj] at z A;subst z;subst A;exact B (.inl rfl) (.inl rfl) (ei1 (D:=9999) d);obtain⟨_,rfl,_⟩:=A;subst z;exact B (.inl rfl) (.inr ⟨_,_,rfl⟩) (ei2 (D:=9999) d);obtain⟨_,rfl,_⟩:=z;subst A;exact B (.inr ⟨_,_,rfl⟩) (.inl rfl) (ei3 (D:=9999) d);rename_i W;cases C;simp[cJ] at s;split at s;rename_i g1 v1 g2 v2;obtain⟨S,rfl,wD⟩:=z;obtain⟨T,rfl,pM⟩:=A;have B:(Op.equalIn 10000 t (.iface g1 S) (.iface g2 T)).run P w=.ok r w->(do eqGuard b t x y (.iface g1 S) (.iface g2 T);binOp b t (.iface g1 S) (.iface g2 T):Sem Value).run P w=.ok (.bool (if neg then !r else r)) w:=by intro E;rw[Sem.run_bind,Ce qaa qaa];exact Cd F qaa qaa qaa qaa E
 cases O:Nat.beq g1 g2 with
 |false=>
  rw[O] at s;cases s;exact B (ei4 (D:=9999) d (λe=>by simp_all))
 |true=>
  obtain rfl:=at7 O
  grind [aj,ei5,afA,Yt]
 grind
 grind
end
section
variable {φ:kf}{o:Oper}
theorem afC{x:AV}{u:Value}(b:aj φ x u):dI P φ w (Op.unary .neg u) (uR x):=by unfold uR;split;subst b;exact⟨_,by rfl,by grind [aj,w64]⟩;subst b;exact⟨_,by rfl,by simpa using sO _ _⟩;trivial
def afD{x:AV}{u:Value}(b:aj φ x u):dI P φ w (Op.unary .not u) (IY x):=by unfold IY;split;subst b;exact⟨_,by rfl,by rfl⟩;trivial
def afE{x:AV}{u:Value}(b:aj φ x u):dI P φ w (Op.unary .xor u) (BY x):=by unfold BY;split;subst b;exact⟨_,by rfl,sO _ _⟩;subst b;exact⟨_,by rfl,sO _ _⟩;rename_i k m;subst b;refine⟨_,?_,sO _ _⟩;cases k<;>(rfl);trivial
theorem Yy{x:AV}{v:Value}(b:aj φ x v){n:Int}(h:intOf x=some n):∃k,v=.int k n:=by
 cases x<;>simp only[intOf,reduceCtorEq,atU] at h<;>simp only[aj] at b
 case i m=>grind
 case s m=>grind
 grind
def afF{s d:TypeId}{i k:IntKind}(e:P.underlying s=some (.int i))(hd:P.underlying d=some (.int k)){x:AV}{u:Value}(c:aj φ x u):dI P φ w (convert s d u) (ko k x):=by unfold ko;split;rename_i n b;obtain⟨j,rfl⟩:=Yy c b;exact⟨_,by simp_all[convert,bZ,Conv.intToInt],sO _ _⟩;trivial
def afG{s d:TypeId}{i:IntKind}{k:FloatKind}(e:P.underlying s=some (.int i))(hd:P.underlying d=some (.float k)){x:AV}{u:Value}(c:aj φ x u):dI P φ w (convert s d u) (IZ k x):=by unfold IZ;split;rename_i n b;obtain⟨j,rfl⟩:=Yy c b;exact⟨.float k (k.nearest n),by simp_all[convert,bZ,Conv.intToFloat],by rfl⟩;trivial
def afH{s d:TypeId}{i k:FloatKind}(g:P.underlying s=some (.float i))(hd:P.underlying d=some (.float k)){x:AV}{u:Value}(e:aj φ x u):dI P φ w (convert s d u) (Mr k x):=by unfold Mr;split;rename_i j b;simp[aj] at e;refine sP (λc=>?_) λ_=>trivial;obtain rfl:=JH c;exact⟨.float j b,by simp_all[convert,bZ,Conv.floatToFloat],by rfl⟩;trivial
def afI{x:AV}{u:Value}{n:Nat}(e:aj φ x u):dI P φ w (Instr.extract u n) (IV x n):=by unfold IV;split;obtain⟨cs,rfl,d⟩:=e;split;rename_i v b;rw[Rx] at b;obtain⟨y,c,hd⟩:=tQ d n v b;rw[at5] at c;exact⟨y,by simp[Instr.extract,c],hd⟩;trivial;trivial
theorem afJ{t:TypeId}{b:TypeDesc}(d:P.underlying t=some b)(c:∀ms,b≠.interface ms) {x:AV} {u:Value} (e:aj φ x u):dI P φ w (Instr.makeInterface t u) (.v (.r t x)):=by refine⟨.iface t u,?_,by simp[aj];grind⟩;simp_all[Instr.makeInterface,bZ]
theorem xV(b o n:Nat):(⟨b,o,none⟩:Addr).add n=⟨b,o+n,none⟩:=by grind [Addr.add]
theorem afK{s:TypeId}{fs:Array Field}{k:Nat}{b:Field}{n:Nat}(e:P.underlying s=some (.struct fs))(d:fs[k]? =some b)(g:fI P b.type=some (n+1)){x:AV}{u:Value}(c:aj φ x u):
 dI P φ w (Instr.fieldAt s u k) (I0 x b.offset):=by
 unfold I0;split;rename_i i o;simp[aj] at c;refine⟨.pointer (some ⟨φ.a i,φ.c i+o+b.offset,none⟩),?_,?_⟩;simp_all[Instr.fieldAt,bZ,Instr.sureAddr,fieldPlace,aEU,xV]
 grind [aj]
 trivial
theorem afL{t:TypeId}{n off:Nat}{g:TypeDesc}(B:fI P t=some n)(z:P.underlying t=some g){l:List AV}{cs:Array Value}(k:aEu φ l cs.toList)(q:∀c∈cs.toList,c.oneCell'=true):
 dI P φ w (part t cs off) (IP l off n (oR g)):=by
 unfold IP;cases s:oR g with
 |true=>
  simp only[cond];split;rename_i r m;rw[Gp] at m;obtain⟨rfl,A⟩:=Gq _ _ _ m;refine⟨.agg (cs.extract off (off+n)),?_,?_⟩;simp_all[part,GC,aEU];simp only[aj];refine⟨_,rfl,?_,?_⟩;have e:(cs.extract off (off+n)).toList=(cs.toList.drop off).take n:=by simp
  rw[e];refine Gn ?_ λj x b=>?_
  grind [tP]
  rw[awO] at b;split at b;rename_i u;rw[auF] at b;obtain⟨v,d,hd⟩:=tQ k _ _ b;exact⟨v,by rw[auE u,auF];exact d,hd⟩;cases b;intro c i;refine q c ?_;have e:(cs.extract off (off+n)).toList=(cs.toList.drop off).take n:=by simp[awS]
  rw[e] at i;exact axj (axk i);trivial
 |false=>
  simp only[cond];split;rename_i v d;rw[Rx] at d;obtain⟨y,p,hd⟩:=tQ k off v d;rw[at5] at p;refine⟨y,?_,hd⟩;unfold part;rw[Sem.run_bind,GC z,s];simp[p];trivial
theorem afM{s:TypeId}{fs:Array Field}{k:Nat}{b:Field}{n:Nat}{c:TypeDesc}(r:P.underlying s=some (.struct fs))(q:fs[k]? =some b)(p:fI P b.type=some n)(l:P.underlying b.type=some c){x:AV}{u:Value}(m:aj φ x u):
 dI P φ w (Instr.field s u k) (IQ x b.offset n (oR c)):=by
 unfold IQ;split
 ·obtain⟨cs,rfl,i,d⟩:=m;have e:(Instr.field s (.agg cs) k).run P w=(part b.type cs b.offset).run P w:=by simp_all[Instr.field,bZ,asAgg]
  have:=afL (P:=P) (φ:=φ) (w:=w) (off:=b.offset) p l i d;cases j:IP _ b.offset n (oR c)<;>rw[j] at this<;>try exact this
  obtain⟨v,d,g⟩:=this;exact⟨v,by grind,g⟩
 trivial
theorem afN{c x y:AV}{u v z:Value}(b:aj φ c z)(d:aj φ x u)(e:aj φ y v):dI P φ w (do pure (if<-asBool z then u else v)) (IW c x y):=by
 unfold IW;split;rename_i t;subst b;refine⟨if t then u else v,by rfl,?_⟩
 grind
 trivial
def Cf(φ:kf):Option AV->Option Value->Prop
 |none,none=>True
 |some x,some v=>aj φ x v
 |_,_=>False
def zD{n c:Nat}{k:IntKind}{b:BoundsCode}(h:n<=c)(w:World):(Instr.sliceBound (.int k n) c b).run P w=.ok n w:=by simp[Instr.sliceBound,asIntOf,h]
theorem Yz{lo hi:Option AV}{d i:Option Value}{len cap c p q:Nat}{JO:Bool}(h:bounds lo hi len cap=some (p,q))(b:Cf φ lo d)(j:Cf φ hi i)(r:cap<=c)(w:World):
 (Instr.sliceBounds JO len c d i none).run P w=.ok (p,q,c) w/\p<=q/\q<=cap:=by
 unfold bounds at h;split at h;rename_i s n;obtain⟨g,h⟩:=qt h;rw[je] at g;split at h;rename_i l m;obtain⟨e,h⟩:=qt h;rw[je] at e;cases h;refine⟨?_,e,g⟩;cases hi with
 |none=>
  cases i with
  |some _=>exact j.elim
  |none=>
   cases n;cases lo with
   |none=>
    cases d with
    |some _=>exact b.elim
    |none=>simp_all[Instr.sliceBounds]
   |some x=>
    cases d with
    |none=>exact b.elim
    |some v=>
     obtain⟨k,rfl⟩:=aEY b m;simp[Instr.sliceBounds,zD e]
 |some y=>
  cases i with
  |none=>exact j.elim
  |some u=>
   obtain⟨t,rfl⟩:=aEY j n;cases lo with
   |none=>
    cases d with
    |some _=>exact b.elim
    |none=>cases m;simp[Instr.sliceBounds,zD (at1 g r)]
   |some x=>
    cases d with
    |none=>exact b.elim
    |some v=>
     obtain⟨k,rfl⟩:=aEY b m;simp[Instr.sliceBounds,zD e,zD (at1 g r)]
 grind
 grind
def afO{t:TypeId}(z:P.underlying t=some .string){x:AV}{u:Value}(v:aj φ x u){lo hi:Option AV}{d e:Option Value}(i:Cf φ lo d)(g:Cf φ hi e):
 dI P φ w (Instr.sliceAt t u d e none) (wh x lo hi):=by
 unfold wh;split;rename_i l n;obtain⟨s,rfl,b⟩:=v;split;rename_i p q r;have j:=b.wa;obtain⟨y,k,m⟩:=Yz (P:=P) (JO:=false) (c:=s.size) r i g (avp j.symm) w;refine⟨.string (s.extract p q),?_,?_⟩;simp_all[Instr.sliceAt,Instr.slice,bZ];exact⟨_,rfl,b.ss k m⟩;trivial;trivial
def aEP{i:Nat}(r:R φ h w)(b:(h.ac i).fp=true):qu φ w i (h.ac i):=by have:=r.f i;cases c:h.ac i<;>rw[c] at b this<;>simp only[AO.fp,at3] at b;exact this;exact this
def afP{i:AO}{off n:Nat}{l:List AV}(h:cellsOf i off n=some l):i.fp=true\/∃rw vh t,i=.g rw vh t:=by cases i<;>first|exact .inl rfl|exact .inr ⟨_,_,_,rfl⟩|simp[cellsOf] at h
theorem YA{i:Nat}{off n:Nat}{l:List AV}(r:R φ h w)(d:cellsOf (h.ac i) off n=some l):
 ∃vs:List Value,vs.length=n/\aEu φ l vs/\(∀v∈vs,v.oneCell'=true)/\∀j v,vs[j]? =some v->w.cell? ⟨φ.a i,φ.c i+off+j,none⟩=some v:=by
 obtain⟨o,b,el,c,A,k,d,p,q,s,u⟩:∃(o:AO) (b:Array Value) (el:Nat) (c:Nat×Nat),o.wf/\o.fp=true/\cellsOf o off n=some l/\w.heap[φ.a i]? =some (.cells b el c)/\φ.c i+o.ip<=b.size/\
  (∀(j:Nat)(a:AV),o.iv j=some a->∃v,b[φ.c i+j]? =some v/\aj φ a v)/\∀(j:Nat)(v:Value),j<o.ip->b[φ.c i+j]? =some v->v.oneCell'=true:=by
  rcases afP d with k|⟨nN,vh,t,y⟩;have ok:=aEP r k;obtain⟨b,c,p,G,q,s,u,b6⟩:=ok.b;exact⟨h.ac i,b,_,c,ok.g,k,d,p,q,s,λj v _ E=>u _ v E⟩;have z:=r.f i;rw[y] at z;obtain⟨g,m,b,el,c,x,B,h5,C⟩:=z;rw[x] at g;refine⟨.b 0 nN vh 0 t,b,el,c,m,rfl,?_,g,B,h5,C⟩;rw[y] at d;exact d
 obtain⟨g,m,x⟩:=afa A k d
 by_cases D:n=0
 subst D;have:l=[]:=auv g;subst this;exact⟨[],rfl,sJ,by simp,by simp⟩;have F:=m zo;have e:∀j,j<n->((b.toList.drop (φ.c i+off)).take n)[j]? =b[φ.c i+off+j]? :=λj H=>by grind
 grind [Gn,List.getElem?_of_mem,World.cell?]
theorem YB{t:TypeId}{b:TypeDesc}(r:R φ h w)(p:P.underlying t=some b)(n:oR b=false){x:AV}{u:Value}(c:aj φ x u):dI P φ w (Instr.loadAt t u) (Dw h x):=by
 unfold Dw;split;rename_i i off;simp only[aj] at c;obtain⟨d,rfl⟩:=c;split;rename_i v l j;obtain⟨vs,k,e,m,g⟩:=YA r j;cases vs with
 |nil=>grind
 |cons y vs=>
  have hd:=(qS.1 e).1;have q:=g 0 y zm;refine⟨y,?_,hd⟩;simp_all[Instr.loadAt,Instr.sureAddr,loadVar,GC]
 trivial;trivial
theorem YC{t:TypeId}{b:TypeDesc}{n:Nat}(r:R φ h w)(y:P.underlying t=some b)(q:oR b=true)(A:fI P t=some n){x:AV}{u:Value}(c:aj φ x u):dI P φ w (Instr.loadAt t u) (Dx h n x):=by
 unfold Dx;split;rename_i i off;simp only[aj] at c;obtain⟨d,rfl⟩:=c;split;rename_i l e;obtain⟨vs,g,k,m,p⟩:=YA r e;have s:=run_loadCells_list (P:=P) w ⟨φ.a i,φ.c i+off,none⟩ vs (λj v z=>by grind [xV]);refine⟨.agg vs.toArray,?_,?_⟩;simp_all[Instr.loadAt,Instr.sureAddr,loadVar,GC,aEU]
 grind [aj]
 trivial;trivial
theorem afQ{t e:TypeId}{s:Nat}(z:P.underlying t=some (.slice e))(A:fI P e=some (s+1)){x y:AV}{u v:Value}(b:aj φ x u)(m:aj φ y v):dI P φ w (Instr.indexAt t u v) (Dy (s+1) x y):=by
 unfold Dy;split;rename_i i off nN len cap ex;split;rename_i k l;refine sP (λj=>?_) λ_=>trivial;rw[je] at j;obtain⟨kk,rfl⟩:=aEY m l;simp only[aj] at b;obtain⟨d,n,c,rfl,g1,g2,q,g⟩:=b;obtain⟨rfl,r⟩:=g zo;have p:(k:Int)<(len:Int):=zo;refine⟨.pointer (some ⟨φ.a i,φ.c i+off+k*(s+1),none⟩),?_,?_⟩;simp_all[Instr.indexAt,asIntOf,bZ,aEU,xV]
 grind [aj]
 trivial;trivial
theorem afR{t e:TypeId}{s n:Nat}(m:P.underlying t=some (.array n e))(p:fI P e=some (s+1)){x y:AV}{u v:Value}(b:aj φ x u)(j:aj φ y v):dI P φ w (Instr.indexAt t u v) (yY (s+1) n x y):=by
 unfold yY;split;rename_i i off;split;rename_i k g;refine sP (λc=>?_) λ_=>trivial;rw[je] at c;obtain⟨kk,rfl⟩:=aEY j g;simp only[aj] at b;obtain⟨d,rfl⟩:=b;have l:(k:Int)<(n:Int):=zo;refine⟨.pointer (some ⟨φ.a i,φ.c i+off+k*(s+1),none⟩),?_,?_⟩;simp_all[Instr.indexAt,asIntOf,bZ,aEU,xV,Instr.sureAddr]
 grind [aj]
 trivial;trivial
def afS{t:TypeId}(p:P.underlying t=some .string){x y:AV}{u v:Value}(i:aj φ x u)(j:aj φ y v):dI P φ w (Instr.index t u v) (nh x y):=by unfold nh;split;rename_i l n;split;rename_i k e;refine sP (λd=>?_) λ_=>trivial;rw[je] at d;obtain⟨kk,rfl⟩:=aEY j e;obtain⟨s,rfl,g⟩:=i;obtain⟨b,m,c⟩:=g.ac (show k<l by omega);refine⟨.int .u8 b.toNat,?_,?_⟩;simp_all[Instr.index,asIntOf,bZ];simp only[aj,c];trivial;trivial
theorem afT{t e:TypeId}{s n:Nat}(r:R φ h w)(K:P.underlying t=some (.array n e))(L:fI P e=some (s+1)){x:AV}{u:Value}(C:aj φ x u){lo hi:Option AV}{k l:Option Value}(y:Cf φ lo k)(m:Cf φ hi l):
 dI P φ w (Instr.sliceAt t u k l none) (FQ h (s+1) n x lo hi):=by
 unfold FQ;split
 ·rename_i i off;split
  ·rename_i p q A;refine sP (λg=>?_) λ_=>trivial;rw[je] at g;obtain⟨d,rfl⟩:=C;obtain⟨J,I,z⟩:=Yz (P:=P) (JO:=false) (c:=n) A y m zl w;refine⟨.slice (some (if n=p then⟨φ.a i,φ.c i+off,none⟩ else(⟨φ.a i,φ.c i+off,none⟩:Addr).add (p*(s+1)))) (q- p) (n- p),?_,?_⟩;simp_all[Instr.sliceAt,bZ,Instr.sureAddr,aEU]
   ·refine⟨d,_,_,rfl,Nat.sub_le_sub_right z p,at2 _,λ_=>rfl,λv=>?_⟩;have j:n≠p:=λe=>v zo;rw[atS j,xV];refine⟨by grind,?_⟩;have b:(h.ac i).fp=true:=by
     cases B:h.ac i<;>rw[B] at g<;>simp only[IN,uV,B9] at g<;>first|rfl|skip
     all_goals grind
    obtain⟨wf,_,D,H,E,F,G,_⟩:=aEP r b;have M:IN (h.ac i)=(h.ac i).ip:=by cases h.ac i<;>simp[IN,AO.ip,tR]
    simp at g⊢;have:p*(s+1)+(n- p)*(s+1)=n*(s+1):=by rw[<-auC];grind
    omega
  trivial
 trivial
def aEE(P:Program)(φ:kf)(h:Hp)(w:World)(s:Sem Value):OR->Prop
 |.v x=>∃v w',s.run P w=.ok v w'/\aj φ x v/\sL w w'
 |.b x h'=>∃v w' ψ,s.run P w=.ok v w'/\R ψ h' w'/\eS φ h w ψ w' h'/\aj ψ x v
 |.a _=>True
 |.g l=>∃v w' ψ h',h'∈l/\s.run P w=.ok v w'/\R ψ h' w'/\eS φ h w ψ w' h'/\aj ψ wm v
 |_=>False
theorem vf{co:CO}{s:Sem Value}(q:execOp a.eval o=(do pure (.value (<-s))))(d:aEE P φ h w s (aQ co f h)):Good P φ h w f a o co:=by
 unfold Good;rw[q];cases e:aQ co f h with
 |v x=>
  rw[e] at d;obtain⟨v,w',k,m,n⟩:=d;exact⟨.value v,v,w',by simp[k],.inl rfl,m,n⟩
 |b x h'=>
  rw[e] at d;obtain⟨v,w',ψ,k,m,n,p⟩:=d;exact⟨.value v,v,w',ψ,by simp[k],.inl rfl,m,n,p⟩
 |a s=>trivial
 |g l=>
  rw[e] at d;obtain⟨v,w',ψ,h',h0,k,m,n,p⟩:=d;exact⟨.value v,v,w',ψ,h',h0,by simp[k],.inl rfl,m,n,p⟩
 |c=>rw[e] at d;exact d.elim
 |j=>rw[e] at d;exact d.elim
 |i=>rw[e] at d;exact d.elim
def GG(P:Program)(φ:kf)(h:Hp)(w:World)(s:Sem Unit):OR->Prop
 |.b x h'=>x=undef/\∃w' ψ,s.run P w=.ok () w'/\R ψ h' w'/\eS φ h w ψ w' h'
 |.a _=>True
 |_=>False
def DX{ψ:kf}:aj ψ undef Go.undef:=by exact⟨#[],rfl,sJ⟩
def Si{co:CO}{s:Sem Unit}(n:execOp a.eval o=(do s;pure .skip))(d:GG P φ h w s (aQ co f h)):Good P φ h w f a o co:=by
 unfold Good;rw[n];cases e:aQ co f h with
 |b x h'=>
  rw[e] at d;obtain⟨rfl,w',ψ,k,l,m⟩:=d;exact⟨.skip,Go.undef,w',ψ,by simp[k],.inr ⟨rfl,rfl⟩,l,m,DX⟩
 |a s=>trivial
 |v=>rw[e] at d;exact d.elim
 |g=>rw[e] at d;exact d.elim
 |c=>rw[e] at d;exact d.elim
 |j=>rw[e] at d;exact d.elim
 |i=>rw[e] at d;exact d.elim
theorem zH{s:Sem Value}{c:Bool}{x y:OR}(d:c=true->aEE P φ h w s x)(b:c=false->aEE P φ h w s y):aEE P φ h w s (cond c x y):=by grind
theorem YD{s:Sem Unit}{c:Bool}{x y:OR}(d:c=true->GG P φ h w s x)(b:c=false->GG P φ h w s y):GG P φ h w s (cond c x y):=by grind
theorem Sj{s:Sem Value}{o':AO}{k:Nat->AV}{gq:Obj}{v:Value}{z:Nat}(r:R φ h w)(l:s.run P w=.ok v (w.alloc gq))(n:dH o'=true)
 (i:kM (φ.kw h.a w.heap.size 0 z) (w.alloc gq) h.a o') (p:(φ.kw h.a w.heap.size 0 z).f h.a->φ.k (φ.kw h.a w.heap.size 0 z)->aj (φ.kw h.a w.heap.size 0 z) (k h.a) v):aEE P φ h w s (alloc h o' k):=by
 have g:=h.xf;have m:¬φ.f h.a:=λd=>by rw[(r.k _).1 d] at g;grind
 have hh:∀c,c<w.heap.size->(w.alloc gq).heap[c]? =w.heap[c]? :=λc e=>by grind [World.alloc]
 obtain⟨q,st⟩:=MT (h':=h.am o') (w':=w.alloc gq) (b:=w.heap.size) (s:=0) (z:=z) (qv:=none) r g n zm
  (λj=>by rw[Hp.pi];rfl) (.inl rfl) zm zm (λc e _=>hh c e) (λ_ _=>.inr rfl) i rfl rfl rfl
 exact⟨v,_,_,l,q,st,p (.inl rfl) (kf.tz m)⟩
theorem JR{n:Nat}{o':AO}{cs:Array Value}(g:o'.wf)(c:o'.fp=true)(i:o'.ip<=cs.size/\(o'.xi=true->o'.ip=cs.size))
 (k:∀(j:Nat)(x:AV),o'.iv j=some x->∃v,cs[j]? =some v/\aj (φ.kw n w.heap.size 0 cs.size) x v) (b:∀(j:Nat)(v:Value),cs[j]? =some v->v.oneCell'=true):
 kM (φ.kw n w.heap.size 0 cs.size) (w.alloc (.cells cs o'.el)) n o':=by
 have key:qu (φ.kw n w.heap.size 0 cs.size) (w.alloc (.cells cs o'.el)) n o':=by
  refine⟨g,λd=>by simp[kf.kw,i.2 d],λ_=>⟨cs,by rw[show(φ.kw n w.heap.size 0 cs.size).a n=w.heap.size from atV rfl];exact avw⟩,cs,(0,0),?_,?_,?_,?_,b,?_⟩;have e:(φ.kw n w.heap.size 0 cs.size).a n=w.heap.size:=atV rfl;rw[e];exact avw;simp[kf.kw]
  grind [kf.kw]
  simp_all[kf.kw];omega
 cases o'<;>first|exact key|simp[AO.fp] at c
theorem GH{t:TypeId}{z:AV}(b:aEX P t=some z):∃i v,P.info? t=some i/\i.zero=some v/\∀ψ,aj ψ z v:=by grind [aEX,RP]
def DY{t:TypeId}{i:TypeInfo}{v:Value}(hi:P.info? t=some i)(b:i.zero=some v)(w:World):(zeroValue t).run P w=.ok v w:=by simp_all[zeroValue,typeInfo]
theorem GI{x:AV}{v:Value}{l:List AV}(b:bQ x=some l)(g:aj φ x v):aEu φ l v.cells.toList/\∀c∈v.cells.toList,c.oneCell'=true:=by
 have one:qM x=true->bQ x=some [x]->aEu φ l v.cells.toList/\∀c∈v.cells.toList,c.oneCell'=true:=by
  intro hi e;rw[e] at b;cases b;have d:=Yg hi g;have:v.cells=#[v]:=by cases v<;>first|rfl|grind [Value.oneCell']
  grind [qS,sJ]
 cases x<;>first
  |exact one rfl rfl
  |grind [bQ]
  |skip
 simp[bQ,atU] at b;subst b;obtain⟨cs,rfl,d,i⟩:=g;exact⟨d,i⟩
theorem YE{t:TypeId}{l:List AV}(r:R φ h w)(c:rO P t=some l):aEE P φ h w (Instr.alloc t true (.tuple #[])) (alloc h (.a t l) λi=>.a i 0):=by
 unfold rO at c;split at c;rename_i z p;obtain⟨i,v,hi,m,hd⟩:=GH p;have g:(Instr.alloc t true (.tuple #[])).run P w=.ok (.pointer (some ⟨w.heap.size,0,none⟩)) (w.alloc (.cells v.cells t)):=by simp[Instr.alloc,DY hi m,newVar,newRow]
 have b:=λψ=>GI (φ:=ψ) c (hd ψ);refine Sj r g rfl (JR (o':=.a t l) trivial rfl ?_ ?_ ?_) λd _=>?_;have:=tP (b φ).1;grind [AO.ip];intro j x n;obtain⟨u,k,e⟩:=tQ (b _).1 j x n;exact⟨u,by grind,e⟩;intro j u k;exact(b φ).2 u qaa
 grind [aj,kf.kw]
 grind
theorem afU{t:TypeId}{n:Nat}{x:AV}{u:Value}(r:R φ h w)(i:aj φ x u):aEE P φ h w (Instr.box t u) (IX h t n x):=by
 unfold IX;split;rename_i l g;refine zH (λ_=>?_) λ_=>trivial;have e:(Instr.box t u).run P w=.ok (.pointer (some ⟨w.heap.size,0,none⟩)) (w.alloc (.cells u.cells t)):=by rfl
 have b:=GI g i
 by_cases c:jN (h.ac h.a)=true
 have m:¬φ.f h.a:=λd=>by rw[(r.k _).1 d] at c;grind
 refine Sj (z:=u.cells.size) r e rfl (JR (o':=.a t l) trivial rfl ?_ ?_ ?_) λd _=>?_;have:=tP b.1;grind [AO.ip];intro j y k;obtain⟨v,p,hd⟩:=tQ b.1 j y k
 grind [nS,kf.tz]
 grind
 grind [aj,kf.kw]
 exact absurd h.xf c;trivial
theorem Sl{b:Nat}{el:TypeId}{g:Nat×Nat}:∀(vs:List Value)(o:Nat)(w:World)(d:Array Value),w.heap[b]? =some (.cells d el g)->o+vs.length<=d.size->
 ∃e:Array Value,(w.setCells b o vs).heap[b]? =some (.cells e el g)/\e.size=d.size/\(∀j,e[j]? =if o<=j/\j<o+vs.length then vs[j- o]? else d[j]?)/\
  (∀c,c≠b->(w.setCells b o vs).heap[c]? =w.heap[c]?)/\(w.setCells b o vs).heap.size=w.heap.size/\(w.setCells b o vs).os=w.os/\(w.setCells b o vs).output=w.output/\(w.setCells b o vs).tape=w.tape
 |[],o,w,d,i,_=>⟨d,i,rfl,λj=>by grind,λ_ _=>rfl,rfl,rfl,rfl,rfl⟩
 |v::r,o,w,d,i,x=>by
  have p:∀c,(w.setCell ⟨b,o,none⟩ v).heap[c]? =if b=c then some (.cells (d.setIfInBounds o v) el g) else w.heap[c]? :=λc=>by grind [World.setCell]
  obtain⟨e,k,q,s,t,h5,l,m,n⟩:=Sl r (o+1) (w.setCell ⟨b,o,none⟩ v) (d.setIfInBounds o v) (by rw[p,atV rfl]) qaa;refine⟨e,k,by grind,λj=>?_,λc u=>?_,by simp_all[World.setCells],l,m,n⟩
  grind
  simp_all[World.setCells,Ne.symm]
theorem Sm{i:Nat}{off:Nat}{l:List AV}{o':AO}{vs:List Value}(r:R φ h w)(d:(h.ac i).fp=true)(b:RC (h.ac i) off l o')(hd:aEu φ l vs)(u:∀v∈vs,v.oneCell'=true):
 R φ (h.bj i o') (w.setCells (φ.a i) (φ.c i+off) vs)/\eS φ h w φ (w.setCells (φ.a i) (φ.c i+off) vs) (h.bj i o')/\
  (∀k,(storeCells ⟨φ.a i,k,none⟩ vs (φ.c i+off- k)).run P w=.ok () (w.setCells (φ.a i) (φ.c i+off) vs)\/φ.c i+off<k):=by
 have W:=tP hd
 by_cases h0:vs=[]
 subst h0;have ok:=aEP r d;have p:dH o'=true:=by have:=b.b;cases g:o'<;>rw[g] at this<;>simp[AO.fp] at this<;>rfl
 have z:kM φ w i o':=by obtain⟨q,t,s,C,J,D,E,b6⟩:=ok.b;have key:qu φ w i o':=⟨b.k,λu=>by rw[b.a];exact ok.f (by rw[<-b.f];omega),λg=>by rw[b.h];exact ok.k (by rw[AO.ro,b.i] at g;exact g),q,t,by rw[b.h];omega,C,by rw[b.a];omega,λj x y=>D j x (by rw[b.c,atS qaa] at y;omega),E,by rw[b.i];omega⟩;have:=b.b;cases o'<;>first|exact key|simp[AO.fp] at this
 obtain⟨A,st⟩:=JC (h':=h.bj i o') (w':=w) (i:=i) (o':=o') r qaA p (λj=>Hp.ma _ _ _ _) rfl (λ_ _=>rfl) z
  (λj L m aD todo K _ _ _ B G H=>⟨B,G,H,at2 _,λ_=>⟨id,λ_=>rfl,λ_ _ _ h=>h,by simp⟩⟩) rfl rfl rfl
 exact⟨A,st,λk=>.inl rfl⟩;have ok:=aEP r d;obtain⟨q,t,s,C,J,D,E,b6⟩:=ok.b;have U:0<l.length:=by grind
 have tX:=b.g U;have zC:dH (h.ac i)=true:=by cases n:h.ac i<;>rw[n] at d<;>simp[AO.fp] at d<;>rfl
 have p:dH o'=true:=by have:=b.b;cases g:o'<;>rw[g] at this<;>simp[AO.fp] at this<;>rfl
 obtain⟨I,g1,g2,X,M,N,O,Q,S⟩:=Sl vs (φ.c i+off) w q s zo;have z:kM φ (w.setCells (φ.a i) (φ.c i+off) vs) i o':=by
  have key:qu φ (w.setCells (φ.a i) (φ.c i+off) vs) i o':=by
   refine⟨b.k,λu=>by rw[b.a];exact ok.f (by rw[<-b.f];omega),λg=>by(obtain⟨V,F⟩:=ok.k (by rw[AO.ro,b.i] at g;exact g);rw[s] at F;cases F;exact⟨I,by rw[b.h];omega⟩),I,t,by rw[b.h];omega,by omega,by rw[b.a,g2];omega,λj x y=>?_,λj v Z=>?_,by rw[b.i,g2];omega⟩;rw[b.c] at y
   grind [tQ]
   grind
  have:=b.b;cases o'<;>first|exact key|simp[AO.fp] at this
 obtain⟨A,st⟩:=JC (h':=h.bj i o') (w':=w.setCells (φ.a i) (φ.c i+off) vs) (i:=i) (o':=o') r qaA p (λj=>Hp.ma _ _ _ _) N (λc d=>M c d) z
  (λj L m aD todo K _ _ e B G H=>by grind) O Q S
 refine⟨A,st,λk=>?_⟩
 by_cases Y:k<=φ.c i+off
 refine .inl ?_;rw[run_storeCells_cells (φ.a i) k vs (φ.c i+off- k) w (λj T=>?_) (λj T=>?_) u,show k+(φ.c i+off- k)=φ.c i+off by omega]
 grind [World.cell?]
 have:=b.d
 grind [World.frozen?]
 exact .inr zo
theorem afV{t:TypeId}{n:Nat}(r:R φ h w)(C:fI P t=some n){x y:AV}{u v:Value}(p:aj φ x u)(q:aj φ y v):GG P φ h w (Instr.storeAt t u v) (FP h n x y):=by
 unfold FP;split;rename_i i off;split;rename_i l m;refine YD (λj=>?_) λ_=>trivial;rw[iH,tR] at j;split;rename_i D b;obtain⟨d,rfl⟩:=p;have c:(h.ac i).fp=true:=by cases k:h.ac i<;>rw[k] at b<;>first|rfl|simp[setCells] at b
 have z:=RD (aEP r c).g b;obtain⟨hd,g⟩:=GI m q;obtain⟨s,st,e⟩:=Sm (P:=P) r c z hd g;refine⟨rfl,_,φ,?_,s,st⟩;have B:=(e (φ.c i+off)).resolve_right zo;have A:v.cells.size=n:=by have:=tP hd;grind
 simp_all[Instr.storeAt,Instr.sureAddr,storeVar,aEU];trivial;trivial;trivial
theorem YF(v:Value)(b:Array Value)(off:Nat)(d:off+v.cells.size<=b.size):
 (v.cells.zipIdx.foldl (λcs(c,j)=>cs.setIfInBounds (off+j) c) b).size=b.size/\
 ∀k,(v.cells.zipIdx.foldl (λcs(c,j)=>cs.setIfInBounds (off+j) c) b)[k]? =if off<=k/\k<off+v.cells.size then v.cells[k- off]? else b[k]? :=by
 obtain⟨g1,g2⟩:=Great.foldl_set off v.cells.toList 0 b;have e:v.cells.zipIdx.foldl (λcs(c,j)=>cs.setIfInBounds (off+j) c) b=(v.cells.toList.zipIdx 0).foldl (λcs(x:Value×Nat)=>cs.setIfInBounds (off+x.2) x.1) b:=by grind [Array.toList_zipIdx]
 grind
def JS(φ:kf)(get:CX->AV)(zK:Nat->Option (Nat×Nat)):List (Nat×Nat×CX)->List (Nat×Value)->Prop
 |[],[]=>True
 |(off,n,x)::r,(i,v)::s=>zK i=some (off,n)/\aj φ (get x) v/\JS φ get zK r s
 |_,_=>False
theorem So{get:CX->AV}{zK:Nat->Option (Nat×Nat)}:∀{cs:List (Nat×Nat×CX)}{ps:List (Nat×Value)}{l m:List AV}{d:Array Value},JS φ get zK cs ps->AI get l cs=some m->
 aEu φ l d.toList->(∀v∈d.toList,v.oneCell'=true)->∃q,Instr.fill zK d ps=some q/\aEu φ m q.toList/\∀v∈q.toList,v.oneCell'=true
 |[],[],l,m,d,_,b,hd,p=>by simp[AI,atU] at b;subst b;exact⟨d,rfl,hd,p⟩
 |(off,n,x)::r,(i,v)::s,l,m,d,⟨e,H,F⟩,b,hd,p=>by
  simp only[AI] at b;split at b;rename_i c D;obtain⟨E,b⟩:=qt b;rw[iH,tR] at E;split at b;rename_i N z;obtain⟨K,C⟩:=MQ _ _ _ _ z;obtain⟨A,B⟩:=GI D H;have I:=tP A;have J:=tP hd;simp only[avc] at I J;obtain⟨O,t⟩:=YF v d off zo;unfold Instr.fill;rw[e];simp only;rw[atS qaa];refine So F b (Gn qaa λj y M=>?_) λu G=>?_;rw[at5,t j];subst C
  by_cases L:off<=j/\j<off+v.cells.size
  grind [tQ]
  grind [tQ]
  obtain⟨k,g⟩:=aum G;rw[at5,t k] at g;split at g;exact B u (aua (by rw[at5];exact g));exact p u (aua (by rw[at5];exact g));cases b;cases b
 |[],_::_,_,_,_,e,_,_,_=>by simp[JS] at e
 |_::_,[],_,_,_,e,_,_,_=>by simp[JS] at e
theorem Sq{get:CX->AV}{zK:Nat->Option (Nat×Nat)}{F:Nat×Operand->Option (Nat×Nat×CX)}{ev:Operand->Value}
 (d:∀q c,F q=some c->zK q.1 =some (c.1,c.2.1)/\aj φ (get c.2.2) (ev q.2)):∀{ps:List (Nat×Operand)}{cs:List (Nat×Nat×CX)},iJ F ps=some cs->JS φ get zK cs (ps.map λq=>(q.1,ev q.2))
 |[],cs,b=>by simp[iJ,atU] at b;subst b;trivial
 |q::ps,cs,b=>by
  simp[iJ] at b;split at b;rename_i c r e g;cases b;obtain⟨g1,g2⟩:=d q c e;exact⟨g1,g2,Sq d g⟩
  grind
def YG{b c:Type}(F:b->Option c):∀l:List b,iJ F l=l.mapM F
 |[]=>rfl
 |x::l=>by simp[iJ,YG F l,List.mapM_cons];cases F x<;>cases l.mapM F<;>rfl
theorem afW{fs:List Field}{pl:List (Nat×Nat)}(b:iJ (λf:Field=>match fI P f.type with|some n=>some (f.offset,n)|none=>none) fs=some pl):
 fs.mapM (λf=>(P.info? f.type).map λi=>(f.offset,i.size))=some pl:=by
 rw[YG] at b
 grind [fI]
theorem YH{t:TypeId}{b:Array (Nat×Value)}{cells:Array Value}{s:Sem Value}(d:s=Instr.build t b)(c:P.built t b.toList=some cells):s.run P w=.ok (.agg cells) w:=by grind [run_build]
theorem afX(G:jq φ P)(F:iq φ f a.tmps){t:TypeId}{b:Array (Nat×Operand)}(N:o.op=.build t b):Good P φ h w f a o (Gb P t b.toList):=by
 have B:execOp a.eval o=(do pure (.value (<-Instr.build t (b.map λ(i,x)=>(i,a.eval x))))):=by unfold execOp;grind
 have I:(b.map λ(i,x)=>(i,a.eval x)).toList=b.toList.map λq=>(q.1,a.eval q.2):=by simp
 unfold Gb;split;rename_i fs z u j;split;rename_i pl C;split;rename_i cs p;refine iO B ?_;simp[aQ,FY];split;rename_i L g;obtain⟨i,v,hi,y,r⟩:=GH j;have hd:=r φ;obtain⟨M,rfl,k,l⟩:=hd;have pk:=Sq (φ:=φ) (get:=λx=>x.ac f) (zK:=(pl.toArray[·]?)) (ev:=a.eval) (λq c d=>by grind [Gv]) p
 obtain⟨m,D,E,f3⟩:=So pk g k l;refine⟨.agg m,YH rfl ?_,by simp[aj];grind⟩;unfold Program.built;simp only[hi,u,y,afW C,I,Value.cells];omega;trivial;exact cy;exact cy;rename_i n e z u j;split;rename_i s J;split;rename_i cs p;refine iO B ?_;simp[aQ,FY];split;rename_i L g;obtain⟨i,v,hi,y,r⟩:=GH j;have hd:=r φ;obtain⟨M,rfl,k,l⟩:=hd;obtain⟨A,H,rfl⟩:=R7 J;have pk:=Sq (φ:=φ) (get:=λx=>x.ac f) (zK:=λi=>some (i*A.size,A.size)) (ev:=a.eval) (λq c d=>by
  split at d;rename_i x K;simp at d;subst d;exact⟨rfl,Gv G F K⟩
  grind) p
 obtain⟨m,D,E,f3⟩:=So pk g k l;refine⟨.agg m,YH rfl ?_,by simp[aj];grind⟩
 grind [Program.built,Value.cells]
 trivial;exact cy;exact cy;exact cy
def xW(φ:kf)(rw len:Nat)(t:N3 (List AV))(b:Array Value):Prop:=
 b.size=len*rw/\(∀k,k<len->(dY t k).length=rw)/\(∀k j,k<len->j<rw->∀x,(dY t k)[j]? =some x->∃v,b[k*rw+j]? =some v/\aj φ x v)/\∀(j:Nat)(v:Value),b[j]? =some v->v.oneCell'=true
theorem xW.gq{rw len:Nat}{t:N3 (List AV)}{b:Array Value}{n:Nat}{el:Nat}(d:0<rw)(c:len<=1152921504606846976)(l:xW (φ.kw n w.heap.size 0 (len*rw)) rw len t b):
 kM (φ.kw n w.heap.size 0 (len*rw)) (w.alloc (.cells b el)) n (.b el rw len 0 t):=by
 obtain⟨e,g,i,k⟩:=l;rw[<-e] at i⊢;refine JR (o':=.b el rw len 0 t) ⟨d,c,g⟩ rfl ⟨by grind [AO.ip],λh=>by cases h⟩ (λj x m=>?_) k
 grind [AO.iv,Nat.div_lt_of_lt_mul,aE3]
theorem YI(r:List AV):∀(n k:Nat)(t:N3 (List AV)),k+n<=1152921504606846976->∀j,j<1152921504606846976->dY (qm r n k t) j=if k<=j/\j<k+n then r else dY t j
 |0,k,t,_,j,_=>by rw[atS zo];rfl
 |n+1,k,t,c,j,b=>by
  simp[qm];rw[YI r n (k+1) _ zo j b,Gr t k j r zo b]
  grind
theorem YJ{r:List AV}{z:Array Value}{rw len:Nat}(g:0<rw)(e:len<=1152921504606846976)(hd:aEu φ r z.toList)(i:∀v∈z.toList,v.oneCell'=true) (m:r.length=rw) {b:Array Value}
 (l:b=(Array.range (len*rw)).map (z[·% z.size]!)):xW φ rw len (qm r len 0 fG) b:=by
 have q:z.size=rw:=by have:=tP hd;grind
 have key:∀k,k<len->dY (qm r len 0 fG) k=r:=λk c=>by rw[YI r len 0 _ zo k zo,atV zo]
 have s:∀j,j<len*rw->∃v,z[j% rw]? =some v/\b[j]? =some v:=λj d=>by simp_all[avn]
 refine⟨by grind,λk c=>by grind,λk j c d x p=>?_,λj v n=>?_⟩
 grind [tQ,AW,Nat.mul_comm,Nat.mul_add_mod,Nat.mod_eq_of_lt]
 grind
theorem xW.aw{ψ:kf}(le:φ.k ψ){rw len:Nat}{t:N3 (List AV)}{b:Array Value}(h:xW φ rw len t b):xW ψ rw len t b:=
 ⟨h.1,h.2.1,λk j d c x e=>by obtain⟨v,g,hd⟩:=h.2.2.1 k j d c x e;grind [nS],h.2.2.2⟩
theorem GK{s:Sem Value}{o':AO}{k:Nat->AV}{gq:Obj}{v:Value}{z:Nat}(r:R φ h w)(e:s.run P w=.ok v (w.alloc gq))(i:dH o'=true)
 (c:φ.k (φ.kw h.a w.heap.size 0 z)->kM (φ.kw h.a w.heap.size 0 z) (w.alloc gq) h.a o') (j:(φ.kw h.a w.heap.size 0 z).f h.a->φ.k (φ.kw h.a w.heap.size 0 z)->aj (φ.kw h.a w.heap.size 0 z) (k h.a) v):aEE P φ h w s (alloc h o' k):=by
 by_cases b:jN (h.ac h.a)=true
 have g:¬φ.f h.a:=λd=>by rw[(r.k _).1 d] at b;grind
 grind [Sj,kf.tz]
 exact absurd h.xf b
def GL(φ:kf)(get:CX->AV):List (Nat×CX)->List (Nat×Value)->Prop
 |[],[]=>True
 |(i,x)::r,(j,v)::s=>i=j/\aj φ (get x) v/\GL φ get r s
 |_,_=>False
theorem YK{get:CX->AV}{rw len:Nat}(E:len<=1152921504606846976):∀{cs:List (Nat×CX)}{ps:List (Nat×Value)}{t t':N3 (List AV)}{d:Array Value},GL φ get cs ps->wg rw len get cs t=some t'->
 xW φ rw len t d->∃q,Instr.fill (λi=>some (i*rw,rw)) d ps=some q/\xW φ rw len t' q
 |[],[],t,t',d,_,b,g=>by simp[wg,atU] at b;subst b;exact⟨d,rfl,g⟩
 |(i,x)::r,(j,v)::s,t,t',d,⟨l,H,G⟩,b,g=>by
  subst l;simp only[wg] at b;split at b;rename_i c F;obtain⟨n,b⟩:=qt b;simp only[atW,iH,je,tR,AX] at n;obtain⟨n,hi⟩:=n;obtain⟨B,C⟩:=GI F H;have J:=tP B;simp only[avc] at J;obtain⟨k1,M,N,I⟩:=g;have L:i*rw+rw<=len*rw:=by
   have:=at4 rw (show i+1<=len from hi)
   grind
  obtain⟨O,z⟩:=YF v d (i*rw) zo;unfold Instr.fill;simp only;rw[atS qaa];refine YK E G b ⟨by grind,λk g=>?_,λk j g K y p=>?_,λj u m=>?_⟩
  grind [Gr]
  rw[Gr t i k c zo zo] at p;rw[z];split at p;rename_i e
  grind [tQ]
  rename_i e;rw[atS ?_]
  grind
  intro hh;rcases Nat.lt_or_gt_of_ne e with D|A;have:=at4 rw (show k+1<=i from D)
  grind
  have:=at4 rw (show i+1<=k from A);rw[auC,avz] at this;omega;rw[z] at m;split at m;exact C u (aua (by rw[at5];exact m));exact I j u m;cases b
 |[],_::_,_,_,_,l,_,_=>by simp[GL] at l
 |_::_,[],_,_,_,l,_,_=>by simp[GL] at l
theorem YL{get:CX->AV}{F:Nat×Operand->Option (Nat×CX)}{ev:Operand->Value}
 (d:∀q c,F q=some c->c.1 =q.1 /\aj φ (get c.2) (ev q.2)):∀{ps:List (Nat×Operand)}{cs:List (Nat×CX)},iJ F ps=some cs->GL φ get cs (ps.map λq=>(q.1,ev q.2))
 |[],cs,b=>by simp[iJ,atU] at b;subst b;trivial
 |q::ps,cs,b=>by
  simp[iJ] at b;split at b;rename_i c r e g;cases b;obtain⟨g1,g2⟩:=d q c e;exact⟨g1,g2,YL d g⟩
  grind
def JU{n:Nat}{b len cap c rw z:Nat}{ex:Bool}(e:len<=cap)(d:cap<=c)(g:ex=true->c=cap)(i:c*rw=z):aj (φ.kw n b 0 z) (.c n 0 rw len cap ex) (.slice (some ⟨b,0,none⟩) len c):=by exact⟨.inl rfl,⟨b,0,none⟩,c,rfl,e,d,g,λ_=>⟨by simp[kf.kw],by simp_all[kf.kw]⟩⟩
theorem JV{t:TypeId}{l:List AV}(b:rO P t=some l):∃i v,P.info? t=some i/\i.zero=some v/\∀ψ,aEu ψ l v.cells.toList/\∀c∈v.cells.toList,c.oneCell'=true:=by
 unfold rO at b;split at b;rename_i z e;obtain⟨i,v,hi,d,hd⟩:=GH e;exact⟨i,v,hi,d,λψ=>GI b (hd ψ)⟩
 grind
theorem afZ(G:jq φ P)(I:iq φ f a.tmps)(r:R φ h w){t:TypeId}{n:Nat}{b:Array (Nat×Operand)}(V:o.op=.buildSlice t n b):Good P φ h w f a o (Gc P t n b.toList):=by
 have M:execOp a.eval o=(do pure (.value (<-Instr.buildSlice t n (b.map λ(i,x)=>(i,a.eval x))))):=by unfold execOp;grind
 have U:(b.map λ(i,x)=>(i,a.eval x)).toList=b.toList.map λq=>(q.1,a.eval q.2):=by simp
 unfold Gc;split;rename_i e B;split;rename_i cs z s O L J;split;rename_i u;rw[tR] at u;refine vf M ?_;simp[aQ,FZ];split;rename_i t' g;obtain⟨i,v,hi,C,hd⟩:=JV L;obtain⟨i',A,E⟩:=R7 J;rw[hi] at A;cases A;have pk:=YL (φ:=φ) (get:=λx=>x.ac f) (ev:=a.eval) (λq c y=>by
  split at y;rename_i x K;simp at y;subst y;exact⟨rfl,Gv G I K⟩
  grind) O
 by_cases h0:n=0
 subst h0;have l:b.toList.map (λq=>(q.1,a.eval q.2))=[]/\t'=fG:=by
  cases cs with
  |nil=>
   grind [wg,qm,GL]
  |cons q cs=>
   simp[wg] at g;split at g;obtain⟨T,_⟩:=qt g;simp_all
   grind
 obtain⟨Q,rfl⟩:=l;have m:(Instr.buildSlice t 0 (b.map λ(i,x)=>(i,a.eval x))).run P w=.ok (.slice (some ⟨w.heap.size,0,none⟩) 0 0) (w.alloc (.cells #[] e)):=by
  have H:b=#[]:=by simp_all
  have D:Array.range 0=#[]:=rfl;simp[Instr.buildSlice,bZ B,Go.sizeOf,typeInfo,hi,H,D,Instr.fill,newRow]
 exact GK (z:=0*(s+1)) r m rfl (λle=>xW.gq zo zo ⟨by simp,λk p=>absurd p (avm _),λk j p=>absurd p (avm _),λj v C=>by grind⟩) λd le=>(JU zl zl (λ_=>rfl) rfl);have zk:=YJ (φ:=φ) (len:=n) (rw:=s+1) zo zo (hd φ).1 (hd φ).2 zo rfl;obtain⟨N,S,F⟩:=YK zo pk g zk;have m:=run_buildSlice w t e n (b.map λ(i,x)=>(i,a.eval x)) N i v B hi C (by rw[E];exact axJ.2 (at1 (axp u.1 u.2.2) zm))
  qaa qaa
 exact GK (z:=n*(s+1)) r m rfl (λle=>xW.gq zo zo (F.aw le)) λd le=>(JU zl zl (λ_=>rfl) rfl);trivial;exact cy;exact cy;exact cy
theorem af1{n':Nat}{el rw n:Nat}{rs:List (List AV)}{c:Nat->Option AV}{cs:Array Value}(b:0<rw)(e:n<=1152921504606846976)(g:nj rs rw n c)(i:n*rw<=cs.size)
 (l:∀(j:Nat)(x:AV),j<n*rw->c j=some x->∃v,cs[j]? =some v/\aj (φ.kw n' w.heap.size 0 cs.size) x v) (d:∀(j:Nat)(v:Value),cs[j]? =some v->v.oneCell'=true):
 kM (φ.kw n' w.heap.size 0 cs.size) (w.alloc (.cells cs el)) n' (jJ el rw n rs):=by
 obtain⟨k,p⟩:=Gs (el:=el) b e g;refine JR (o':=jJ el rw n rs) k rfl ⟨i,λh=>by cases h⟩ (λj x m=>?_) d
 grind [jJ,AO.iv]
def YM{cs:Array Value}(h:∀v∈cs.toList,v.oneCell'=true) (j:Nat) (v:Value) (b:cs[j]? =some v):v.oneCell'=true:=h v (aua (by rw[at5];exact b))
def af2{t:TypeId}{i:TypeInfo}{v:Value}(hi:P.info? t=some i)(b:i.zero=some v):(Instr.alloc t true (.tuple #[])).run P w=.ok (.pointer (some ⟨w.heap.size,0,none⟩)) (w.alloc (.cells v.cells t)):=by simp[Instr.alloc,DY hi b,newVar,newRow]
def YN{n:Nat}{b z:Nat}:aj (φ.kw n b 0 z) (.a n 0) (.pointer (some ⟨b,0,none⟩)):=by simp_all[aj,kf.kw]
theorem af3{rw n:Nat}{l:List AV}{rs:List (List AV)}(c:uO rw n l=some rs):nj rs rw n (λj=>l[j]?):=by
 obtain⟨b,d,e⟩:=MR _ _ _ c;refine⟨b,λr m=>?_,λk j i g=>?_⟩
 grind [List.getElem?_of_mem]
 grind
theorem af4(r:R φ h w){t:TypeId}(A:o.op=.alloc t):Good P φ h w f a o (Ga P t):=by
 have q:execOp a.eval o=(do pure (.value (<-Instr.alloc t true (.tuple #[])))):=by unfold execOp;grind
 unfold Ga;split;split;rename_i n e C s E z B k p;split;split;rename_i rs g;split;rename_i c;rw[tR] at c;refine vf q ?_;obtain⟨i,v,hi,l,hd⟩:=JV p;simp[aQ];have d:=tP (hd φ).1;simp at d;refine GK (z:=v.cells.size) r (af2 hi l) rfl (λle=>?_) λ_ _=>YN;refine af1 zo c.1 (af3 g) zo (λj x u m=>?_) (YM (hd φ).2);obtain⟨y,D,b⟩:=tQ (hd _).1 j x m;exact⟨y,by grind,b⟩;exact cy;exact cy
 grind [vf,aQ,YE]
 exact cy
 grind [vf,aQ,YE,cy]
 exact cy
theorem af5{t e:TypeId}{s:Nat}{i:TypeInfo}{z:List AV}(r:R φ h w)(q:P.underlying t=some (.slice e))(hi:P.info? e=some i)(D:rO P e=some z)(p:i.size=s+1)(b:gk z=s+1)
 {x y:AV} {u v:Value} (B:aj φ x u) (C:aj φ y v):aEE P φ h w (Instr.makeSlice t u v) (DB h e (s+1) i.bytes z x y):=by
 unfold DB;split;rename_i l c n m;refine zH (λk=>?_) λ_=>trivial;simp at k;obtain⟨F,rfl⟩:=aEY B n;obtain⟨E,rfl⟩:=aEY C m;obtain⟨i',G,j,A,hd⟩:=JV D;rw[hi] at j;cases j;rw[tR] at b;have g:=run_make (P:=P) w t e i G q hi A F E l c zo zo qaa zo
 simp[awr,p] at g;exact GK (z:=c*(s+1)) r g rfl (λle=>xW.gq zo zo (YJ zo zo (hd _).1 (hd φ).2 b rfl)) λd le=>JU k.1.1 zl (λ_=>rfl) rfl;trivial
theorem af6{t:TypeId}(r:R φ h w):aEE P φ h w (Instr.makeMap t none) (alloc h (.d [] 0) λi=>.h i):=by
 have b:(Instr.makeMap t none).run P w=.ok (.map (some w.heap.size)) (w.alloc (.map #[] 0)):=by rfl
 refine GK (z:=0) r b rfl (λle=>?_) λd le=>?_;refine⟨#[],?_,⟨[],rfl,rfl,by simp⟩,by simp,by simp,by simp,by simp⟩;have e:(φ.kw h.a w.heap.size 0 0).a h.a=w.heap.size:=atV rfl;rw[e];exact avw
 grind [aj,kf.kw]
theorem af7{fn:Nat}(d:(AP fn).n=fn){l m:List AV}{us vs:List Value}(b:aEu φ l us)(c:aEu φ m vs):dI P φ w (Instr.makeFunc (.func fn) us.toArray vs.toArray) (.v (.q (AP fn) l m)):=by
 refine⟨_,rfl,?_⟩
 grind [aj]
theorem af8{x:Operand}{c:CX}(g:o.op=.nilCheck x)(b:aj φ (c.ac f) (a.eval x)):Good P φ h w f a o (.L c):=by
 unfold Good;simp[aQ];unfold Mq execOp;rw[g];cases i:c.ac f<;>simp only[Gw]<;>rw[i] at b
 case a=>have hd:=b;obtain⟨d,e⟩:=b;simp only[e] at hd⊢;exact⟨_,_,w,rfl,.inl rfl,hd,.da w⟩
 case q=>have hd:=b;obtain⟨fs,cs,e,_⟩:=b;simp only[e] at hd⊢;exact⟨_,_,w,rfl,.inl rfl,hd,.da w⟩
 case r=>have hd:=b;obtain⟨y,e,_⟩:=b;simp only[e] at hd⊢;exact⟨_,_,w,rfl,.inl rfl,hd,.da w⟩
def Sr{x:AV}{v:Value}{b:Bool}(c:aj φ x v):aj φ (.p [x,.d b]) (.tuple #[v,.bool b]):=by exact⟨_,rfl,qS.2 ⟨c,qS.2 ⟨by rfl,sJ⟩⟩⟩
def Nd{s:Sem Value}{ok b:Bool}{x:AV}{v:Value}(d:aj φ x v)(c:s.run P w=.ok (if ok then .tuple #[v,.bool b] else v) w):dI P φ w s (y7 ok x b):=by
 cases ok with
 |true=>exact⟨_,c,Sr d⟩
 |false=>exact⟨_,c,d⟩
theorem af9{p t:TypeId}{z:AV}{ok:Bool}{b:TypeDesc}(k:P.underlying t=some b)(c:∀m,b≠.interface m) (n:aEX P t=some z) {x:AV} {u:Value} (g:aj φ x u):dI P φ w (Instr.typeAssert u p t ok) (IU t z x ok):=by
 obtain⟨i,j,hi,s,hd⟩:=GH n;unfold IU;cases x<;>simp only[dI]<;>simp only[aj] at g
 case x=>
  cases ok with
  |false=>grind
  |true=>
   refine⟨.tuple #[j,.bool false],?_,Sr (hd φ)⟩;unfold Instr.typeAssert;cases b<;>first|exact absurd rfl (c _)|simp_all[bZ,DY]
 case r t' y=>
  obtain⟨v,rfl,l⟩:=g;cases d:Nat.beq t' t with
  |true=>
   rw[iH] at d;subst d;refine Nd l ?_;unfold Instr.typeAssert;cases ok<;>cases b<;>first|exact absurd rfl (c _)|simp[bZ k]
  |false=>
   have q:¬t'=t:=λe=>by simp_all
   cases ok with
   |false=>grind
   |true=>
    refine⟨.tuple #[j,.bool false],?_,Sr (hd φ)⟩;unfold Instr.typeAssert;cases b<;>first|exact absurd rfl (c _)|simp_all[bZ,DY]
theorem af'{ty:TypeId}{at_:Array TypeId}{x:AV}{u:Value}(b:aj φ x u):dI P φ w (Builtin.unsafeSliceData_ at_ ty #[u]) (FX x):=by
 unfold FX;cases x<;>simp only[dI]<;>simp only[aj] at b
 case o=>subst b;exact⟨.pointer none,rfl,by rfl⟩
 case c i off rw len cap ex=>
  obtain⟨d,e,c,rfl,j,k,l,m⟩:=b;cases g:Nat.ble 1 cap with
  |false=>grind
  |true=>
   rw[je] at g;have n:c≠0:=zo;refine⟨.pointer (some e),?_,by grind [aj]⟩;show(if c≠0 then _ else _:Sem Value).run P w=_;simp_all
theorem Ss{t:TypeId}{ty:TypeId}(r:R φ h w){p:TypeDesc}(v:P.underlying t=some p){k:Nat}(m:(k=0/\p=.string)\/(k=1/\∃e,p=.slice e)\/(k=2/\∃q e,p=.map q e)){x:AV}{u:Value}(g:aj φ x u):
 dI P φ w (Builtin.len_ #[t] ty #[u]) (tL k h x):=by
 have j:∀{c:Bool}{x:AV}{s:Sem Value},(c=true->dI P φ w s (.v x))->dI P φ w s (cond c (.v x) (.a "len: kind")):=λ{c} _ _ hh=>by
  cases c with
  |true=>grind
  |false=>trivial
 cases x<;>simp only[aj] at g<;>first|trivial|skip
 case A l n=>
  refine j λb=>?_;rw[iH] at b;subst b;rcases m with⟨_,rfl⟩|⟨h0,_⟩|⟨h0,_⟩<;>first|(exact absurd h0 zm)|skip
  obtain⟨s,rfl,D⟩:=g;refine⟨.int .i64 l,?_,by rfl⟩;simp[Builtin.len_,bZ v,goInt,D.wa]
 case c i off rw len cap ex=>
  refine j λb=>?_;rw[iH] at b;rcases m with⟨h0,_⟩|⟨_,e,rfl⟩|⟨h0,_⟩<;>first|omega|skip
  obtain⟨d,F,c,rfl,_⟩:=g;refine⟨.int .i64 len,?_,by rfl⟩;simp[Builtin.len_,bZ v,goInt]
 case o=>
  refine j λb=>?_;rw[iH] at b;rcases m with⟨h0,_⟩|⟨_,e,rfl⟩|⟨h0,_⟩<;>first|omega|skip
  subst g;refine⟨.int .i64 0,?_,by rfl⟩;simp[Builtin.len_,bZ v,goInt]
 case y=>
  refine j λb=>?_;rw[iH] at b;rcases m with⟨h0,_⟩|⟨h0,_⟩|⟨_,q,e,rfl⟩<;>first|omega|skip
  subst g;refine⟨.int .i64 0,?_,by rfl⟩;simp[Builtin.len_,bZ v,goInt]
 case h i=>
  simp[tL];split
  ·rename_i B aD C;refine j λb=>?_;rw[iH] at b;rcases m with⟨h0,_⟩|⟨h0,_⟩|⟨_,q,e,rfl⟩<;>first|omega|skip
   have z:=r.f i;rw[C] at z;obtain⟨E,G,⟨l,I,H,_⟩,_⟩:=z;refine⟨.int .i64 B.length,?_,by grind [aj,tR]⟩;simp_all[Builtin.len_,bZ,goInt,getObj,Sem.run]
  trivial
def JX(P:Program)(c:TypeId)(u v:Value)(b:Bool):Prop:=
 ((∃d,P.underlying c=some d/\Instr.sameNow d u v=some b)\/(∃d,P.underlying c=some d/\oR d=true/\∀w,(Op.equal c u v).run P w=.ok b w))/\(b=true <-> u=v)
theorem aga{s t:ByteArray}:(s.toList==t.toList)=true <-> s=t:=by
 rw[av9,ByteArray.toList_eq,ByteArray.toList_eq];constructor;intro h;cases s;simp_all
 grind
def JY{k:FK}{u v:Value}{b:Bool}(d:cF k u v=some b):b=true <-> u=v:=by
 cases k with
 |b k=>obtain⟨a,c,rfl,rfl,rfl⟩:=M8 d;simp
 |a=>
  obtain⟨s,t,rfl,rfl,rfl⟩:=JK d;rw[aga];simp
 |c=>obtain⟨s,t,rfl,rfl,rfl⟩:=M9 d;simp
theorem Su:∀{g:List FK}{l r:List Value}{b:Bool},cL g l r=some b->(b=true <-> l=r)
 |[],[],[],b,c=>by grind [cL]
 |k::g,x::l,y::r,b,c=>by
  simp[cL] at c;split at c;rename_i d;have e:=(JY d).1 rfl;rw[Su c,e];simp;rename_i d;cases c;have e:=mt (JY d).2 zm
  grind
  grind
 |[],[],_::_,_,c=>by simp[cL] at c
 |[],_::_,_,_,c=>by simp[cL] at c
 |_::_,[],_,_,c=>by simp[cL] at c
 |_::_,_::_,[],_,c=>by simp[cL] at c
theorem xX{i:TypeId}{j:EK}(d:qq P i=some j){p q:AV}{b:Bool}(g:cJ j p q=some b){u v:Value}(k:aj φ p u)(r:aj φ q v):JX P i u v b:=by
 unfold qq at d;split at d;rename_i e;cases d;have c:=GA (show sD .a p q=some b from g) k r;refine⟨.inl ⟨_,e,?_⟩,JY c⟩;obtain⟨m,n,rfl,rfl,rfl⟩:=JK c
 grind [Instr.sameNow,beq_toListBytes]
 rename_i fs e;split at d;rename_i l x;cases d;simp[cJ] at g;split at g;obtain⟨X,rfl,s,_⟩:=k;obtain⟨Y,rfl,t,_⟩:=r;have c:=GB g s t;refine⟨.inr ⟨_,e,rfl,λw=>?_⟩,?_⟩;exact(Sg 5).1 i l x 10000 zo (.agg X) (.agg Y) X.toList Y.toList b w (by simp only[qV,e];grind) (by simp only[qV,e];grind) c;rw[Su c];simp
 grind
 grind
 grind
theorem YO{d:TypeId}{u:Value}:∀(c:List MapEntry)(i:Nat),(∀e∈c,∃b,∀w,(Op.equal d u e.key).run P w=.ok b w/\(b=true <-> u=e.key))->∀w,
 (∃j e,(Instr.findAsking d u c i).run P w=.ok (some (i+j,e.val)) w/\c[j]? =some e/\e.key=u)\/((Instr.findAsking d u c i).run P w=.ok none w/\∀e∈c,e.key≠u)
 |[],i,_,w=>.inr ⟨rfl,by simp⟩
 |e::n,i,hh,w=>by
  obtain⟨b,k⟩:=hh e zm;have l:=(k w).1;cases b with
  |true=>exact .inl ⟨0,e,by simp[Instr.findAsking,l],rfl,((k w).2.1 rfl).symm⟩
  |false=>
   have r:e.key≠u:=λt=>by simp_all
   rcases YO n (i+1) (λe s=>hh e qaa) w with⟨j,m,g,p,q⟩|⟨g,p⟩;refine .inl ⟨j+1,m,?_,by grind,q⟩;simp[Instr.findAsking,l,g];omega;simp_all[Instr.findAsking]
theorem YP{d:TypeDesc}{u:Value}:∀(c:List MapEntry)(i:Nat),(∀e∈c,∃b,Instr.sameNow d u e.key=some b/\(b=true <-> u=e.key))->
 (∃j e,Instr.findNow d u c i=some (some (i+j,e.val))/\c[j]? =some e/\e.key=u)\/(Instr.findNow d u c i=some none/\∀e∈c,e.key≠u)
 |[],i,_=>.inr ⟨rfl,by simp⟩
 |e::k,i,hh=>by
  obtain⟨b,p,hi⟩:=hh e zm;cases b with
  |true=>exact .inl ⟨0,e,by simp[Instr.findNow,p],rfl,(hi.1 rfl).symm⟩
  |false=>
   rcases YP k (i+1) (λe q=>hh e qaa) with⟨j,g,l,m,n⟩|⟨l,m⟩;refine .inl ⟨j+1,g,?_,by grind,n⟩
   grind [Instr.findNow]
   grind [Instr.findNow]
theorem Nf{g:TypeId}{q:EK}(l:qq P g=some q){u:Value}(c:List MapEntry)(hh:∀e∈c,∃b,JX P g u e.key b) (w:World):
 (∃j e,(Instr.findKey g u c).run P w=.ok (some (j,e.val)) w/\c[j]? =some e/\e.key=u)\/((Instr.findKey g u c).run P w=.ok none w/\∀e∈c,e.key≠u):=by
 have m:∀d,P.underlying g=some d->oR d=false->(∃j e,(Instr.findKey g u c).run P w=.ok (some (j,e.val)) w/\c[j]? =some e/\e.key=u)\/((Instr.findKey g u c).run P w=.ok none w/\∀e∈c,e.key≠u):=by
  intro d hd y;have n:∀e∈c,∃b,Instr.sameNow d u e.key=some b/\(b=true <-> u=e.key):=λe t=>by
   obtain⟨b,s,hi⟩:=hh e t
   grind
  grind [YP,MapKept.run_findKey]
 have asks:∀{d:TypeDesc},P.underlying g=some d->oR d=true->(∃j e,(Instr.findKey g u c).run P w=.ok (some (j,e.val)) w/\c[j]? =some e/\e.key=u)\/((Instr.findKey g u c).run P w=.ok none w/\∀e∈c,e.key≠u):=by
  intro d k r;have p:∀a b,Instr.sameNow d a b=none:=λa b=>by cases d<;>first|(simp[oR] at r;done)|rfl
  cases c with
  |nil=>
   simp_all[Instr.findKey,bZ,Instr.findNow]
  |cons e i=>
   have A:Instr.findNow d u (e::i) 0=none:=by simp[Instr.findNow,p]
   have z:(Instr.findKey g u (e::i)).run P w=(Instr.findAsking g u (e::i)).run P w:=by simp_all[Instr.findKey,bZ]
   have n:∀x∈e::i,∃b,∀w,(Op.equal g u x.key).run P w=.ok b w/\(b=true <-> u=x.key):=λx v=>by obtain⟨b,s,hi⟩:=hh x v;simp_all
   grind [YO]
 unfold qq at l;split at l;rename_i k;exact m _ k rfl
 all_goals
  first
  |(cases l;done)
  |skip
 rename_i fs k;exact asks k rfl
def Sw(e:Bool)(n:Nat)(X:Array Value)(f:Go.Field)(_:PUnit):Sem (ForInStep PUnit):=do
 if f.name≠ "_" then
  Instr.checkKey e n f.type (<-part f.type X f.offset)
  pure (.yield .unit)
 else pure (.yield .unit)
def JZ(P:Program)(d:Nat):Prop:=∀t c,rP P d t=some c->∀D,d<=D->∀e u b w,qV P t u b->cL c b b=some true->(Instr.checkKey e D t u).run P w=.ok () w
def Sx(P:Program)(d:Nat):Prop:=∀fs off b,zf P (rP P d) off fs=some b->∀D,d<=D->∀e(X:Array Value) w,cL b (X.toList.drop off) (X.toList.drop off)=some true->(forIn fs PUnit.unit (Sw e D X)).run P w=.ok .unit w
def Ng{t:TypeId}{d:TypeDesc}(hd:P.underlying t=some d)(b:(∃k,d=.int k)\/d=.bool\/d=.string)(e:Bool)(n:Nat)(u:Value)(w:World):(Instr.checkKey e (n+1) t u).run P w=.ok () w:=by unfold Instr.checkKey;rw[Sem.run_bind,bZ hd];rcases b with⟨k,rfl⟩|rfl|rfl<;>cases u<;>rfl
theorem YR{d:Nat}(hB:∀g,d=g+1->Sx P g):JZ P d:=by
 intro t p j D s e u r w l v;have i:∃c,D=c+1:=by
  cases d with
  |zero=>simp[rP] at j
  |succ d=>exact⟨D- 1,by omega⟩
 obtain⟨c,rfl⟩:=i;rcases Sa j with⟨k,rfl,b⟩|⟨rfl,b⟩|⟨rfl,b⟩|⟨fs,g,m,b,n,q⟩;exact Ng b (.inl ⟨_,rfl⟩) e c u w;exact Ng b (.inr (.inl rfl)) e c u w;exact Ng b (.inr (.inr rfl)) e c u w;simp only[qV,b] at l;obtain⟨X,rfl,rfl⟩:=l;unfold Instr.checkKey;rw[Sem.run_bind,bZ b];have:=hB g m fs.toList 0 p q c zo e X w qaa;simp only[Result.andThen];rw[<-Array.forIn_toList,Sem.run_bind];show Result.andThen (Sem.run P (forIn fs.toList PUnit.unit (Sw e c X)) w) _=_;rw[this];rfl
theorem YS{d:Nat}(A:JZ P d):Sx P d:=by
 intro fs
 induction fs with
 |nil=>simp
 |cons f r t=>
  intro off B b D i e X w c;simp only[zf] at b;split at b
  grind
  rename_i k;have z:f.name≠ "_":=λe=>k (.inl e);have y:=avt λe=>k (.inr e);split at b;rename_i l j;split at b;rename_i m q;split at b;rename_i s;cases b;have p:l.length=1->off<X.size\/∃fs,P.underlying f.type=some (.struct fs):=λn=>by refine .inl (avt λg=>?_);have:X.toList.drop off=[]:=auJ qaa;rw[this] at c;cases l<;>simp[cL] at n c
  obtain⟨u,x,v⟩:=Sb j s p w;rcases R6 c with⟨_,c2⟩|⟨c1,c2⟩
  grind
  simp[Sw,ne_eq,z,avR,y,Sem.run_bind,x,Result.andThen_ok,A _ _ j D i e u _ w v c1];exact t (off+l.length) m q D i e X w qap
  grind
  grind
  grind
def YT:∀d,JZ P d/\Sx P d
 |0=>have A:JZ P 0:=YR (λb h=>by omega);⟨A,YS A⟩
 |d+1=>have A:JZ P (d+1):=YR (λb h=>by have:b=d:=zo;exact(YT b).2);⟨A,YS A⟩
theorem YU{g:TypeId}{i:EK}(b:qq P g=some i){p:AV}(k:BS i p=true){u:Value}(q:aj φ p u)(e:Bool)(w:World):(Instr.checkKey e 10000 g u).run P w=.ok () w:=by
 unfold qq at b;split at b;rename_i d;exact Ng d (.inr (.inr rfl)) e 9999 u w;rename_i fs d;split at b;rename_i l n;cases b;simp[BS] at k;split at k;rename_i c;simp[cJ] at c;split at c;rename_i t v r s;obtain⟨X,rfl,j,_⟩:=q;have m:=GB c j j;exact(YT 5).1 g l n 10000 zo e (.agg X) X.toList w qaD m
 grind
 grind
 grind
 grind
theorem Sy{c:EK}{k:AV}:∀{d:List (AV×AV)},yZ c k d=true->∀e∈d,cJ c k e.1 =some false
 |[],_,e,b=>by grind
 |(i,v)::r,hh,e,b=>by
  simp[yZ] at hh;split at hh;rename_i g;rcases atZ.1 b with rfl|b;omega;exact Sy hh e b
  grind
theorem Nh{c:EK}{k:AV}:∀{b:List (AV×AV)}{r:Option AV},wj c k b=some r->
 (r=none/\∀e∈b,cJ c k e.1 =some false)\/(∃j g v,r=some v/\b[j]? =some (g,v)/\cJ c k g=some true/\∀(d:Nat)(e:AV×AV),b[d]? =some e->d≠j->cJ c k e.1 =some false)
 |[],r,hh=>by simp[wj,atU] at hh;grind
 |(g,v)::b,r,hh=>by
  simp[wj] at hh;split at hh;rename_i l;obtain⟨m,i⟩:=qt hh;cases i;refine .inr ⟨0,g,v,rfl,rfl,l,λd e n p=>?_⟩
  grind [Sy]
  rename_i l;rcases Nh hh with⟨rfl,m⟩|⟨j,q,s,rfl,m,i,t⟩
  grind
  refine .inr ⟨j+1,q,s,rfl,by grind,i,λd e n p=>?_⟩
  grind
  grind
theorem agb{c:EK}{k:AV}{d:List (AV×AV)}{r:Option AV}(hh:wj c k d=some r)(e:AV×AV)(g:e∈d):∃b,cJ c k e.1 =some b:=by grind [Nh,List.getElem?_of_mem]
theorem YV{t:TypeId}{y:EK}(i:qq P t=some y){k:AV}{u:Value}(s:aj φ k u){g:List (AV×AV)}{c:List MapEntry}(J:JA φ g c){r:Option AV}(z:wj y k g=some r)(w:World):
 (∃v j m,r=some v/\(Instr.findKey t u c).run P w=.ok (some (j,m.val)) w/\c[j]? =some m/\m.key=u/\aj φ v m.val)\/(r=none/\(Instr.findKey t u c).run P w=.ok none w/\∀e∈c,e.key≠u):=by
 obtain⟨l,E,T,D⟩:=J;have B:l.Perm c:=.of_eq E;have at_:∀m∈c,∃(j:Nat) (e:AV×AV),g[j]? =some e/\l[j]? =some m/\aj φ e.1 m.key/\aj φ e.2 m.val:=λm n=>by
  obtain⟨j,A⟩:=aum (B.mem_iff.2 n);have M:j<g.length:=by grind
  obtain⟨V,p,q,d⟩:=D j g[j] (atT M)
  grind
 have F:∀m∈c,∃b,JX P t u m.key b:=λm n=>by obtain⟨j,e,p,_,d,_⟩:=at_ m n;obtain⟨b,K⟩:=agb z e (aua p);exact⟨b,xX i K s d⟩
 have G:=Nf i c F w;rcases Nh z with⟨rfl,q⟩|⟨j0,L,Q,rfl,q,d,I⟩;have S:∀m∈c,m.key≠u:=λm n e=>by
  obtain⟨j,x,p,_,d,_⟩:=at_ m n;have:=(xX i (q x (aua p)) s d).2.2 e.symm
  grind
 grind
 obtain⟨C,N,O,W⟩:=D j0 (L,Q) q;have R:C∈c:=B.mem_iff.1 (aua N);have U:u=C.key:=(xX i d s O).2.1 rfl;rcases G with⟨j,m,g1,g2,H⟩|⟨g1,g2⟩;obtain⟨j1,e,q1,q2,q3,q4⟩:=at_ m (aua g2)
 by_cases A:j1=j0
 grind
 have:=(xX i (I j1 e q1 A) s q3).2.2 H.symm
 grind
 grind
theorem agc{t D e:TypeId}{q:EK}{z:AV}{ok:Bool}(r:R φ h w)(B:P.underlying t=some (.map D e))(g:qq P D=some q)(I:aEX P e=some z){x k:AV}{u v:Value}(C:aj φ x u)(n:aj φ k v):
 dI P φ w (Instr.lookup t u v ok) (aEx q h z x k ok):=by
 obtain⟨i,O,hi,K,hd⟩:=GH I;refine sP (λF=>?_) λ_=>trivial;have p:=λb w=>YU g F n b w;cases x<;>simp only[aj] at C<;>first|trivial|skip
 case y=>
  refine Nd (hd φ) ?_;rcases Nf (u:=v) g [] zm w with⟨j,m,_,g2,_⟩|⟨g1,_⟩
  grind
  simp_all[Instr.lookup,bZ,DY]
 case h i'=>
  obtain⟨d,rfl⟩:=C;simp only[];split;rename_i M aD H;have E:=r.f i';rw[H] at E;obtain⟨L,A,s,_⟩:=E;split;rename_i y l;rcases YV g n s l w with⟨J,j,m,c,g1,g2,N,G⟩|⟨c,_⟩;cases c;refine Nd G ?_;cases ok<;>simp[Instr.lookup,bZ B,getObj,Sem.run,A,p,g1]
  grind
  rename_i l;rcases YV g n s l w with⟨J,j,m,c,_⟩|⟨c,g1,g2⟩
  grind
  refine Nd (hd φ) ?_;cases ok<;>simp[Instr.lookup,bZ B,getObj,Sem.run,A,p,g1,DY hi K];trivial;trivial
theorem YX{i:EK}{k v:AV}:∀{c d:List (AV×AV)}{b:Bool},AJ i k v c=some (b,d)->
 (b=true/\(∀e∈c,cJ i k e.1 =some false)/\d=c++[(k,v)])\/
 (b=false/\∃j g n,c[j]? =some (g,n)/\cJ i k g=some true/\(∀(l:Nat)(e:AV×AV),c[l]? =some e->l≠j->cJ i k e.1 =some false)/\d=c.set j (g,v))
 |[],d,b,hh=>by simp[AJ,atU,avj] at hh;grind
 |(g,n)::c,d,b,hh=>by
  simp[AJ] at hh;split at hh;rename_i p;obtain⟨q,m⟩:=qt hh;obtain⟨rfl,rfl⟩:=m;refine .inr ⟨rfl,0,g,n,rfl,p,λl e r s=>?_,rfl⟩
  grind [Sy]
  rename_i p;split at hh;rename_i y A t;obtain⟨rfl,rfl⟩:=hh;rcases YX t with⟨rfl,q,rfl⟩|⟨rfl,j,u,x,q,m,z,rfl⟩
  grind
  refine .inr ⟨rfl,j+1,u,x,by grind,m,λl e r s=>?_,rfl⟩
  grind
  grind
  grind
theorem YY{k:FK}{u v:Value}(d:cF k u v=some true)(n:Nat):Instr.sameBits n u v=true:=by
 cases k with
 |b k=>obtain⟨a,c,rfl,rfl,_⟩:=M8 d;grind [Instr.sameBits]
 |a=>
  obtain⟨s,t,rfl,rfl,e⟩:=JK d
  grind [Instr.sameBits,beq_toListBytes]
 |c=>obtain⟨s,t,rfl,rfl,_⟩:=M9 d;grind [Instr.sameBits]
theorem YZ(n:Nat):∀{c:List FK}{l r:List Value},cL c l r=some true->(l.zip r).all (λ(x,y)=>Instr.sameBits n x y)=true
 |[],[],[],_=>rfl
 |k::c,x::l,y::r,b=>by
  simp[cL] at b;split at b;rename_i d;simp only[List.zip_cons_cons,aw2,YY d n,av8];exact YZ n b
  grind
  grind
 |[],[],_::_,b=>by rfl
 |[],_::_,_,b=>by simp[cL] at b
 |_::_,[],_,b=>by rfl
 |_::_,_::_,[],b=>by rfl
theorem agd{n:TypeId}{j:EK}(b:qq P n=some j){p q:AV}(c:cJ j p q=some true){u v:Value}(g:aj φ p u)(i:aj φ q v):Instr.sameBits 10000 v u=true:=by
 have e:=(xX b c g i).2.1 rfl;subst e;unfold qq at b;split at b;cases b;exact YY (GA (show sD .a p q=some true from c) g i) _;split at b;cases b;simp[cJ] at c;split at c;obtain⟨X,rfl,k,_⟩:=g;obtain⟨Y,d,l,_⟩:=i;cases d;have m:=GB c k l;simp only[Instr.sameBits,avX,av8];exact YZ 9999 m
 grind
 grind
 grind
theorem age{b:Array MapEntry}{i:Nat}{m:MapEntry}{F:MapEntry->MapEntry}(hi:b[i]? =some m)(n:(b.toList.map (·.born)).Nodup):
 (b.modify i F).toList=b.toList.map λe=>if e.born=m.born then F e else e:=by
 refine avs λk=>?_;rw[at5,av3,auh,at5]
 by_cases c:i=k
 grind
 rw[atS c];cases p:b[k]? with
 |none=>rfl
 |some e=>
  have d:e.born≠m.born:=λg=>c (by
   have j:(b.toList.map (·.born))[i]? =some m.born:=by grind
   have l:(b.toList.map (·.born))[k]? =some m.born:=by grind
   grind [List.getElem?_inj])
  grind
theorem Y0{t Q e:TypeId}{M:EK}(r:R φ h w)(ht:P.underlying t=some (.map Q e))(p:qq P Q=some M){x k y:AV}{u v z:Value}(hx:aj φ x u)(B:aj φ k v)(hy:aj φ y z):
 GG P φ h w (Instr.mapUpdate t u v z) (wk M h x k y):=by
 unfold wk;refine YD (λGN=>?_) λ_=>trivial;have GO:=λb w=>YU p GN B b w;cases x<;>simp only[aj] at hx<;>first|trivial|skip
 case h i'=>
  obtain⟨d,rfl⟩:=hx;simp only[];split;rename_i s aD O;have ob:=r.f i';rw[O] at ob;obtain⟨g,K,⟨l,A2,bz,pQ⟩,GP,U,DZ,GQ⟩:=ob;have hp:l.Perm g.toList:=.of_eq A2;have zC:dH (h.ac i')=true:=by rw[O];rfl
  have ao:=r.l i' zC;split;rename_i b BT Sz;have at_:∀m∈g.toList,∃(j:Nat) (e:AV×AV),s[j]? =some e/\l[j]? =some m/\aj φ e.1 m.key/\aj φ e.2 m.val:=λm D=>by
   obtain⟨j,C⟩:=aum (hp.mem_iff.2 D);have kL:j<s.length:=by grind
   obtain⟨m',N,H,A⟩:=pQ j s[j] (atT kL)
   grind
  rcases YX Sz with⟨rfl,H,rfl⟩|⟨rfl,j0,k',v0,H,A,h4,rfl⟩;have X:∀m∈g.toList,∃b,JX P Q v m.key b:=λm D=>by obtain⟨j,e,N,_,A,_⟩:=at_ m D;exact⟨_,xX p (H e (aua N)) B A⟩
  have bg:∀m∈g.toList,m.key≠v:=λm D e=>by
   obtain⟨j,x,N,_,A,_⟩:=at_ m D;have:=(xX p (H x (aua N)) B A).2.2 e.symm
   grind
  rcases Nf p g.toList X w with⟨j,m,_,g2,g3⟩|⟨g1,_⟩
  grind
  have Y:(Instr.mapUpdate t (.map (some (φ.a i'))) v z).run P w=.ok () {w with heap:=w.heap.setIfInBounds (φ.a i') (.map (g.push {key:=v,val:=z,born:=aD}) (aD+1))}:=by simp_all[Instr.mapUpdate,bZ,getObj,setObj,Sem.run]
  have E:=MapKept.heap_set (o':=.map (g.push {key:=v,val:=z,born:=aD}) (aD+1)) K;obtain⟨r',st⟩:=JC (h':=h.bj i' (.d (s++[(k,y)]) (aD+1))) (w':={w with heap:=w.heap.setIfInBounds (φ.a i') (.map (g.push {key:=v,val:=z,born:=aD}) (aD+1))}) (i:=i') (o':=.d (s++[(k,y)]) (aD+1)) r (by rw[O];rfl) rfl (λj=>Hp.ma _ _ _ _) zm (λc hc=>E.2 c hc)
   (by
    refine⟨_,E.1,⟨l++[{key:=v,val:=z,born:=aD}],by grind,by grind,λj e n=>?_⟩,?_,?_,?_,?_⟩
    by_cases C:j<s.length
    grind
    have pO:j=s.length:=by grind
    subst pO;simp at n;subst n;simp_all
    grind
    grind
    grind
    grind [List.range_succ])
   (λj M m vr todo eC _ _ e D5 fQ n=>by rw[e,E.1] at n;cases n;exact⟨g,aD,by rw[e];exact K,by omega,λh=>by omega⟩) rfl rfl rfl
  exact⟨rfl,_,φ,Y,r',st⟩;obtain⟨S,T,p2,p3⟩:=pQ j0 (k',v0) H;have X:∀m∈g.toList,∃b,JX P Q v m.key b:=λm D=>by
   obtain⟨j,e,q1,_,q3,_⟩:=at_ m D
   by_cases C:j=j0
   subst C;rw[H] at q1;cases q1;exact⟨_,xX p A B q3⟩;exact⟨_,xX p (h4 j e q1 C) B q3⟩
  have Ni:S∈g.toList:=hp.mem_iff.1 (aua T);have js:v=S.key:=(xX p A B p2).2.1 rfl;rcases Nf p g.toList X w with⟨j,m,g1,g2,g3⟩|⟨_,g2⟩;have hmm:m=S:=by
   obtain⟨j1,e,q1,q2,q3,q4⟩:=at_ m (aua g2)
   by_cases C:j1=j0
   subst C;rw[T] at q2;cases q2;rfl;have:=(xX p (h4 j1 e q1 C) B q3).2.2 g3.symm;cases this
  subst hmm;rw[at5] at g2;have GR:=agd p A B p2;have GS:(Instr.keyThatStays m.key v).run P w=.ok v w:=by simp[Instr.keyThatStays,GR]
  have Y:(Instr.mapUpdate t (.map (some (φ.a i'))) v z).run P w=.ok () {w with heap:=w.heap.setIfInBounds (φ.a i') (.map (g.modify j λe=>{e with key:=v,val:=z}) aD)}:=by simp[Instr.mapUpdate,bZ ht,getObj,setObj,Sem.run,K,GO,g1,g2,GS]
  have E:=MapKept.heap_set (o':=.map (g.modify j λe=>{e with key:=v,val:=z}) aD) K;have G:=age (F:=λe=>{e with key:=v,val:=z}) g2 U;have wF:(l.map (·.born)).Nodup:=(hp.map _).nodup_iff.2 U;have Y1:∀e∈g.toList,(if e.born=m.born then{e with key:=v,val:=z} else e:MapEntry).key=e.key:=λe n=>by
   split;rename_i W;have:e=m:=by
    obtain⟨q,I⟩:=aum n;obtain⟨q',V⟩:=aum Ni;have J:(g.toList.map (·.born))[q]? =some m.born:=by rw[auh,I,<-W];rfl
    have Z:(g.toList.map (·.born))[q']? =some m.born:=by rw[auh,V];rfl
    have:=(aws (at0.1 J).1 U).1 (J.trans Z.symm);subst this;rw[I] at V;cases V;rfl
   rw[this];exact js;rfl
  have L:∀e:MapEntry,(if e.born=m.born then{e with key:=v,val:=z} else e:MapEntry).born=e.born:=λe=>by split<;>rfl
  obtain⟨r',st⟩:=JC (h':=h.bj i' (.d (s.set j0 (k',y)) aD)) (w':={w with heap:=w.heap.setIfInBounds (φ.a i') (.map (g.modify j λe=>{e with key:=v,val:=z}) aD)}) (i:=i') (o':=.d (s.set j0 (k',y)) aD) r (by rw[O];rfl) rfl (λj=>Hp.ma _ _ _ _) zm (λc hc=>E.2 c hc)
   (by
    refine⟨_,E.1,⟨l.map λe=>if e.born=m.born then{e with key:=v,val:=z} else e,by rw[G,A2],by simp[bz],λq e n=>?_⟩,?_,?_,?_,?_⟩;rw[auh];rw[awt] at n;split at n;rename_i I;subst I;split at n;cases n;rw[T];exact⟨_,rfl,by simp only[auo];rw[js];exact p2,by simp only[auo];exact hy⟩;cases n;rename_i I;obtain⟨m1,q1,q2,q3⟩:=pQ q e n;rw[q1];have bg:¬m1.born=m.born:=λW=>by
     have J:(l.map (·.born))[q]? =some m.born:=by rw[auh,q1,<-W];rfl
     have Z:(l.map (·.born))[j0]? =some m.born:=by rw[auh,T];rfl
     exact I ((aws (at0.1 J).1 wF).1 (J.trans Z.symm)).symm
    exact⟨m1,by simp only[au3,bg,auM],q2,q3⟩;rw[G,av4];have:g.toList.map ((·.key)∘λe=>if e.born=m.born then{e with key:=v,val:=z} else e)=g.toList.map (·.key):=avB λe n=>Y1 e n;rw[this];exact GP;rw[G,av4];have:g.toList.map ((·.born)∘λe=>if e.born=m.born then{e with key:=v,val:=z} else e)=g.toList.map (·.born):=avB λe _=>L e;rw[this];exact U;intro e n;rw[G] at n;obtain⟨e0,he0,rfl⟩:=auR.1 n;rw[L];exact DZ e0 he0;rw[G,av4];have:g.toList.map ((·.born)∘λe=>if e.born=m.born then{e with key:=v,val:=z} else e)=g.toList.map (·.born):=avB λe _=>L e;rw[this];exact GQ)
   (λq M m' vr todo eC _ _ e D5 fQ n=>by rw[e,E.1] at n;cases n;exact⟨g,aD,by rw[e];exact K,at2 _,λ_=>⟨λe=>if e.born=m.born then{e with key:=v,val:=z} else e,L,λe a n hd=>by rw[Y1 e n];exact hd,G⟩⟩) rfl rfl rfl
  exact⟨rfl,_,φ,Y,r',st⟩;exact absurd js.symm (g2 S Ni);trivial;trivial
def agf{w:World}{φ:kf}{n:Nat}{o:Obj}{z:Nat}:(w.alloc o).heap[(φ.kw n w.heap.size 0 z).a n]? =some o:=by have e:(φ.kw n w.heap.size 0 z).a n=w.heap.size:=atV rfl;rw[e];exact avw
theorem SA:∀b:List (AV×AV),FR b=b.map (·.1)
 |[]=>rfl
 |e::r=>by simp[FR,SA r]
theorem agh{t v e:TypeId}{c:EK}(r:R φ h w)(K:P.underlying t=some (.map v e))(s:Qb c=false){x:AV}{u:Value}(i:aj φ x u):aEE P φ h w (Instr.range t u) (FT c h x):=by
 cases x<;>simp only[aj] at i<;>first|trivial|skip
 case h m=>
  obtain⟨d,rfl⟩:=i;simp only[FT,s,awX];split;rename_i G aD g;have j:=r.f m;rw[g] at j;obtain⟨b,I,⟨l,k,F,L⟩,C,M,B,D⟩:=j;have J:l.Perm b.toList:=.of_eq k;have E:φ.a m<w.heap.size:=r.l m (by rw[g];rfl);have p:(Instr.range t (.map (some (φ.a m)))).run P w=.ok (.pointer (some ⟨w.heap.size,0,none⟩)) (w.alloc (.mapIter (some (φ.a m)) aD #[] aD)):=by simp_all[Instr.range,bZ,getObj,Sem.run]
  have A:(w.alloc (.mapIter (some (φ.a m)) aD #[] aD)).heap[φ.a m]? =some (.map b aD):=by grind [MapKept.heap_alloc]
  refine GK (z:=0) r p rfl (λle=>?_) λ_ _=>YN;have y:(φ.kw h.a w.heap.size 0 0).a m=φ.a m:=le.a m d;refine⟨by simp[kf.kw],le.b m d,by grind,λn H q=>?_,#[],by rw[y];exact agf,λn q=>?_⟩
  grind
  grind [List.filter_eq_self,SA,nS]
  trivial
theorem jY{s:Sem Value}{m:String}:aEE P φ h w s (.a m):=trivial
theorem Y2:∀(c:Nat)(l:List AV)(x:AV),l[c]? =some x->BU c l=some (x,l.eraseIdx c)
 |_,[],x,b=>by grind
 |0,e::r,x,b=>by simp at b;subst b;rfl
 |c+1,e::r,x,b=>by simp only[BU,Y2 c r x b,aw3]
theorem Y3{e:MapEntry}:∀(l:List MapEntry)(c:Nat),l[c]? =some e->(l.map (·.born)).Nodup->l.filter (λx=> !(x.born==e.born))=l.eraseIdx c
 |[],c,b,_=>by rfl
 |x::l,0,b,d=>by simp_all
 |x::l,c+1,b,d=>by simp only[aul,au6] at d;have:x.born≠e.born:=λh=>d.1 (h▸awJ (aua b));simp only[aw3,awB];rw[atV qaa,Y3 l c b d.2]
theorem agi{i m:Nat}{d:EK}{aD:Nat}{todo:List AV}{V:Option AV}{W:List (AV×AV)}{ty:TypeId}(r:R φ h w)(J:h.ac i=.c d m aD todo V)(Z:h.ac m=.d W aD):
 (todo=[]/\(Instr.next (.pointer (some ⟨φ.a i,φ.c i+0,none⟩)) false ty).run P w=.ok (.tuple #[.bool false]) w)\/
 ∃c x v z w',c<todo.length/\todo[c]? =some x/\(Instr.next (.pointer (some ⟨φ.a i,φ.c i+0,none⟩)) false ty).run P w=.ok (.tuple #[.bool true,v,z]) w'/\
  R φ (h.bj i (.c d m aD (todo.eraseIdx c) (some x))) w'/\eS φ h w φ w' (h.bj i (.c d m aD (todo.eraseIdx c) (some x))):=by
 have K:=r.f i;rw[J] at K;obtain⟨G,U,ao,JB,seen,I,hh⟩:=K;have L:=r.f m;rw[Z] at L;obtain⟨p,E,_,GP,xY,O,_⟩:=L;obtain⟨⟨l,q,T,D⟩,_⟩:=hh p E;have H:(leftOf p seen).toList=p.toList.filter λe=> !seen.contains e.born:=by simp[leftOf]
 rw[G,aue];rcases run_next_at (P:=P) w ty (φ.a i) (φ.a m) aD aD seen p aD I E O zl with⟨h0,A⟩|⟨e,b,g,n,A⟩;refine .inl ⟨auv ?_,A⟩;rw[<-T,q.length_eq,<-H];omega;rw[H] at b;obtain⟨c,B⟩:=aum (q.mem_iff.2 b);have C:c<todo.length:=by grind
 obtain⟨e',q1,q2⟩:=D c todo[c] (atT C);rw[B] at q1;cases q1;refine .inr ⟨c,todo[c],e.key,e.val,_,C,atT C,A,?_⟩;have Q:g.heap=w.heap:=by rcases n with rfl|rfl<;>rfl
 have M:g.os=w.os:=by rcases n with rfl|rfl<;>rfl
 have sM:g.output=w.output:=by rcases n with rfl|rfl<;>rfl
 have u:g.tape=w.tape:=by rcases n with rfl|rfl<;>rfl
 have vi:=MapKept.heap_set (o':=.mapIter (some (φ.a m)) aD (seen.push e.born) aD) I;have N:(ChangeMaps.setBlock g (φ.a i) (.mapIter (some (φ.a m)) aD (seen.push e.born) aD)).heap=w.heap.setIfInBounds (φ.a i) (.mapIter (some (φ.a m)) aD (seen.push e.born) aD):=by show g.heap.setIfInBounds _ _=_;grind
 have S:φ.a m≠φ.a i:=λe=>by grind
 have wF:(l.map (·.born)).Nodup:=(q.map _).nodup_iff.2 ((List.filter_sublist.map _).nodup xY);refine JC (h':=h.bj i (.c d m aD (todo.eraseIdx c) (some todo[c]))) (i:=i) (o':=.c d m aD (todo.eraseIdx c) (some todo[c])) r (by rw[J];rfl) rfl (λj=>Hp.ma ..) qaa (λc B=>by grind) ?_
  (λj d m' vr td cr _ _ e F X b=>by grind) M sM u
 refine⟨G,U,by grind,λF X b=>?_,seen.push e.born,by grind,λF b=>?_⟩
 grind
 rw[N,vi.2 _ S,E] at b;cases b;refine⟨⟨l.eraseIdx c,?_,by grind,λk x s=>?_⟩,λk Y=>?_⟩;rw[<-Y3 l c B wF];refine(q.filter _).trans (List.Perm.of_eq ?_);rw[List.filter_filter];refine awY λy _=>?_;rw[avA];simp[and_comm];rw[List.getElem?_eraseIdx] at s⊢;split at s;rename_i t;rw[atV t];exact D k x s;rename_i t;rw[atS t];exact D (k+1) x s;cases Y;exact⟨e.born,e,by simp,(avv.1 b).1,rfl,q2⟩
theorem agl{e:EK}{p q:AV}(s:Qa e=false)(c:cJ e p q=some true){u v:Value}(j:aj φ p u)(m:aj φ q v):u=v:=by
 cases e with
 |a k=>exact(JY (GA (show sD k p q=some true from c) j m)).1 rfl
 |b x=>
  simp[cJ] at c;split at c;obtain⟨X,rfl,n,_⟩:=j;obtain⟨Y,rfl,r,_⟩:=m;rw[axK ((Su (GB c n r)).1 rfl)]
  grind
 |g k=>cases s
 |d=>
  simp only[cJ] at c;split at c
  grind [aj]
  grind
  grind
  obtain⟨_,rfl,rfl⟩:=Ys c
  grind [aj]
  grind
 |i l=>
  simp[cJ] at c;split at c;rename_i g1 B g2 C;obtain⟨z,rfl,D⟩:=j;obtain⟨A,rfl,y⟩:=m;cases t:Nat.beq g1 g2 with
  |false=>grind
  |true=>
   obtain rfl:=at7 t
   grind [Yt,aj]
  grind
 |_=>
  simp[cJ] at c
  grind [aj]
theorem agm{i:Nat}{off:Nat}(r:R φ h w)(O:aj φ (.a i off) (.pointer (some ⟨φ.a i,φ.c i+off,none⟩))):dI P φ w (Instr.entry (.pointer (some ⟨φ.a i,φ.c i+off,none⟩))) (FU h (.a i off)):=by
 simp only[FU];refine sP (λt=>?_) λ_=>trivial;rw[iH] at t;subst t;split;rename_i ek m aD todo k L;split;rename_i es W M;refine sP (λd=>?_) λ_=>trivial;simp only[atW,avT] at d;obtain⟨d,C⟩:=d;rw[iH] at d;subst d;split;rename_i v K;have p:=r.f i;rw[L] at p;obtain⟨A,dm,Y,X,seen,I,hh⟩:=p;have q:=r.f m;rw[M] at q;obtain⟨c,u,⟨l,z,Z,S⟩,V,xY,U,_⟩:=q;have N:l.Perm c.toList:=.of_eq z;obtain⟨_,D⟩:=hh c u;obtain⟨b,e,n,J,B,s⟩:=D k rfl;rcases Nh K with⟨h0,_⟩|⟨j,k',v',h0,G,H,_⟩
 grind
 cases h0;obtain⟨g,q1,q2,q3⟩:=S j _ G;have F:e.key=g.key:=agl C H s q2;have Q:g∈c.toList:=N.mem_iff.1 (aua q1);have T:e=g:=by
  obtain⟨x,O⟩:=aum J;obtain⟨y,hy⟩:=aum Q;have e1:(c.toList.map (·.key))[x]? =some g.key:=by grind
  have e2:(c.toList.map (·.key))[y]? =some g.key:=by grind
  grind [List.getElem?_inj]
 subst T;subst B;have E:c.find? (·.born==e.born)=some e:=by rw[<-Array.find?_toList];grind [find_born]
 refine⟨.tuple #[e.key,e.val],?_,by exact⟨_,rfl,qS.2 ⟨s,qS.2 ⟨q3,sJ⟩⟩⟩⟩;rw[A,aue];simp only[Instr.entry,getObj,Sem.run_bind,Sem.run,I,u,Result.andThen,n,bne_self_eq_false,at3,auM,E];rfl;trivial;trivial;trivial
def agp{i:AO}{off rw n:Nat}{l:List (List AV)}(h:kZ i off rw n=some l):i.fp=true:=by cases i<;>first|rfl|simp[kZ] at h
def sS(φ:kf)(n:Nat)(c:Nat->Option AV)(vs:List Value):Prop:=
 vs.length=n/\(∀(j:Nat)(x:AV),j<n->c j=some x->∃v,vs[j]? =some v/\aj φ x v)/\∀v∈vs,v.oneCell'=true
theorem Y4{i:Nat}{o:AO}{b:Array Value}{el:Nat}{g:Nat×Nat}{off rw n:Nat}{rs:List (List AV)}(e:o.wf)(q:w.heap[φ.a i]? =some (.cells b el g))(r:φ.c i+o.ip<=b.size)
 (s:∀(j:Nat)(a:AV),o.iv j=some a->∃v,b[φ.c i+j]? =some v/\aj φ a v) (t:∀(j:Nat)(v:Value),j<o.ip->b[φ.c i+j]? =some v->v.oneCell'=true) (k:kZ o off rw n=some rs):
 ∃vs:List Value,sS φ (n*rw) (λj=>o.iv (off+j)) vs/\nj rs rw n (λj=>o.iv (off+j))/\(0<n*rw->off+n*rw<=o.ip)/\
  ∀(j:Nat)(v:Value),vs[j]? =some v->w.cell? ⟨φ.a i,φ.c i+off+j,none⟩=some v:=by
 obtain⟨c,d⟩:=X1 e k
 by_cases m:n*rw=0
 exact⟨[],⟨m.symm,λj x l=>by omega,by simp⟩,c,d,by simp⟩;refine⟨(b.toList.drop (φ.c i+off)).take (n*rw),⟨by grind,λj x l u=>?_,λv p=>?_⟩,c,d,λj v p=>?_⟩
 grind
 grind [List.getElem?_of_mem]
 grind [World.cell?]
def Nk{i:Nat}{off rw n:Nat}{rs:List (List AV)}(r:R φ h w)(b:kZ (h.ac i) off rw n=some rs):
 ∃vs:List Value,sS φ (n*rw) (λj=>(h.ac i).iv (off+j)) vs/\nj rs rw n (λj=>(h.ac i).iv (off+j))/\(0<n*rw->off+n*rw<=(h.ac i).ip)/\
  ∀(j:Nat)(v:Value),vs[j]? =some v->w.cell? ⟨φ.a i,φ.c i+off+j,none⟩=some v:=by
 have ok:=aEP r (agp b);obtain⟨l,p,c,m,d,e,g,b6⟩:=ok.b;exact Y4 ok.g c d e (λj v _ k=>g _ v k) b
def agq{o:AO}{off rw n:Nat}{rs:List (List AV)}(h:kZ (wo o) off rw n=some rs):o.fp=true/\wo o=o\/∃rw vh t,o=.g rw vh t:=by cases o<;>first|exact .inl ⟨rfl,rfl⟩|exact .inr ⟨_,_,_,rfl⟩|simp[wo,kZ] at h
def agr{i:Nat}{off rw n:Nat}{rs:List (List AV)}(r:R φ h w)(b:kZ (wo (h.ac i)) off rw n=some rs):
 ∃vs:List Value,sS φ (n*rw) (λj=>(wo (h.ac i)).iv (off+j)) vs/\nj rs rw n (λj=>(wo (h.ac i)).iv (off+j))/\(0<n*rw->off+n*rw<=(wo (h.ac i)).ip)/\
  ∀(j:Nat)(v:Value),vs[j]? =some v->w.cell? ⟨φ.a i,φ.c i+off+j,none⟩=some v:=by
 rcases agq b with⟨_,e⟩|⟨nN,vh,t,p⟩;simp_all[Nk];have d:=r.f i;rw[p] at d b⊢;obtain⟨c,g,q,el,s,k,l,h5,m⟩:=d;rw[k] at c;exact Y4 (o:=.b 0 nN vh 0 t) g c l h5 m b
theorem SE:∀(l n:Nat),(mg l n).length=l
 |0,_=>rfl
 |l+1,n=>by simp[mg,SE l]
theorem SF:∀(l n k:Nat),k<l->(mg l n)[k]? =some [.s (lF n k)]
 |l+1,n,0,_=>by rfl
 |l+1,n,k+1,b=>by simp only[mg,auV];rw[SF l _ k zo,X7]
theorem Nl{l n:Nat}:nj (mg l n) 1 l (λj=>if j<l then some (.s (lF n j)) else none):=by
 refine⟨SE l n,λr d=>?_,λk j c b=>?_⟩
 grind [List.getElem?_of_mem,SE,SF]
 grind [SF]
theorem Nm{rw n:Nat}{y:AV}{v:Value}{rs:List (List AV)}(r:R φ h w)(q:aj φ y v)(e:rL h rw y=some rs)(p:lenOf y=some n):
 ∃(cs:Array Value) (c:Nat->Option AV),(Builtin.lenOf v).run P w=.ok n w/\(Builtin.firstCells rw n v).run P w=.ok cs w/\nj rs rw n c/\sS φ (n*rw) c cs.toList:=by
 cases y<;>simp only[rL,reduceCtorEq] at e<;>simp only[lenOf,atU] at p<;>simp only[aj] at q
 case o=>
  subst q;subst p;cases e;exact⟨#[],λ_=>none,rfl,rfl,⟨rfl,by simp,λk j I=>absurd I (avm _)⟩,⟨by simp,λj x _ z=>zo,by simp⟩⟩
 case c i off nN len cap ex=>
  subst p;obtain⟨d,M,cc,rfl,g1,g2,O,Q⟩:=q;obtain⟨vs,g,H,_,S⟩:=agr r e;refine⟨vs.toArray,_,rfl,?_,H,by omega⟩
  by_cases h0:len*rw=0
  have:vs=[]:=auv (by rw[g.1,h0]);simp_all[Builtin.firstCells,loadCells,loadCellsFrom];have J:=run_loadCells_list (P:=P) w ⟨φ.a i,φ.c i+off,none⟩ vs (λj v u=>by grind [xV]);rw[g.1] at J
  grind [Builtin.firstCells]
 case A l m=>
  subst p;obtain⟨s,rfl,D⟩:=q;obtain⟨C,e⟩:=qt e;rw[iH] at C;subst C;cases e;have B:=D.wa;refine⟨(s.extract 0 l).data.map λb=>.int .u8 b.toNat,_,by simp[Builtin.lenOf,B],rfl,Nl,?_⟩;have K:s.extract 0 l=s:=by rw[<-B];simp
  rw[K];refine⟨by simp_all,λj x t z=>?_,λv u=>?_⟩;rw[axu] at t;simp[atV t] at z;cases z;obtain⟨b,L,N⟩:=D.ac t;have T:s.data[j]? =some b:=by have E:=awd.1 L;obtain⟨F,G⟩:=E;exact auc.2 ⟨F,G⟩
  simp_all[aj];simp at u;obtain⟨b,_,rfl⟩:=u;rfl
def Nn{t u ty e:TypeId}{q:TypeDesc}{i:TypeInfo}{base:Option Addr}{mq qX n:Nat}{v:Value}{cs:Array Value}{w w':World}(g:P.underlying t=some (.slice e))(j:P.underlying u=some q)(r:(∃m,q=.slice m)\/q=.string)
 (hi:P.info? e=some i) (c:(Builtin.lenOf v).run P w=.ok n w) (l:(Builtin.firstCells i.size n v).run P w=.ok cs w) (k:mq+n<=qX)
 (p:∀b,base=some b->(storeCells (b.add (mq*i.size)) cs.toList).run P w=.ok () w') (s:base=none->w'=w):
 (Builtin.append_ #[t,u] ty #[.slice base mq qX,v]).run P w=.ok (.slice base (mq+n) qX) w':=by
 have d:(Go.sizeOf e).run P w=.ok i.size w:=by simp[Go.sizeOf,typeInfo,hi]
 cases base with
 |none=>
  cases s rfl;rcases r with⟨m,rfl⟩|rfl;simp[Builtin.append_,bZ g,bZ j,d,c,l,k];simp[Builtin.append_,bZ g,bZ j,d,c,l,k]
 |some b=>
  have:=p b rfl;rcases r with⟨m,rfl⟩|rfl;simp[Builtin.append_,bZ g,bZ j,d,c,l,k,this];simp[Builtin.append_,bZ g,bZ j,d,c,l,k,this]
def Y5{t u ty e:TypeId}{j:TypeDesc}{i:TypeInfo}{k:Value}{base:Option Addr}{mq qX n:Nat}{v:Value}{cs iI:Array Value}{w:World}(y:P.underlying t=some (.slice e))(z:P.underlying u=some j)(D:(∃x,j=.slice x)\/j=.string)
 (hi:P.info? e=some i) (C:i.zero=some k) (r:(Builtin.lenOf v).run P w=.ok n w) (B:(Builtin.firstCells i.size n v).run P w.drew=.ok cs w.drew) (l:(Builtin.firstCells i.size mq (.slice base mq qX)).run P w.drew=.ok iI w.drew)
 (A:¬mq+n<=qX) (E:mq+n<2^62) (F:¬Builtin.nextslicecap (mq+n) qX*i.bytes>2^48):
 ∃c,mq+n<=c/\(Builtin.append_ #[t,u] ty #[.slice base mq qX,v]).run P w=.ok (.slice (some ⟨w.heap.size,0,none⟩) (mq+n) c) (w.drew.alloc (.cells (iI++cs++Builtin.zeroCells k.cells (c- (mq+n))) e)):=by
 have s:(Go.sizeOf e).run P w=.ok i.size w:=by simp[Go.sizeOf,typeInfo,hi]
 have m:∀w,(typeInfo e).run P w=.ok i w:=λw=>by simp[typeInfo,hi]
 have g:¬(9223372036854775807<((mq:Int)+(n:Int))):=zo;have d:¬(281474976710656<Builtin.nextslicecap (mq+n) qX*i.bytes):=zo;have p:∀w,(zeroValue e).run P w=.ok k w:=λw=>DY hi C w;have q:∀b w,(askRoom b).run P w=.ok () w:=λb w=>by simp
 refine⟨grownCap w (mq+n) qX e,grownCap_ge w (mq+n) qX e,?_⟩;rcases D with⟨x,rfl⟩|rfl;simp[Builtin.append_,bZ y,bZ z,s,r,m,A,g,d,Question.forced,q,l,B,p,newRow,grownCap];simp[Builtin.append_,bZ y,bZ z,s,r,m,A,g,d,Question.forced,q,l,B,p,newRow,grownCap]
def Ck(w:World):sL w w.drew:=⟨rfl,rfl,rfl,rfl⟩
theorem Y9{s:Sem Value}{h0:Hp}{o':AO}{e g c rw:Nat}{A:Array Value}{cc:Nat->Option AV}{qv:Option Nat}(r:R φ h w)
 (q:s.run P w=.ok (.slice (some ⟨w.heap.size,0,none⟩) g c) (w.drew.alloc (.cells A e))) (N:A.size=c*rw) (m:g<=c)
 (D:∀i,qv=some i->AY (h.ac i)=true) (H:∀j,h0.ac j=if qv=some j then .f else h.ac j) (p:h0.a=h.a)
 (F:o'.wf) (l:o'.fp=true) (S:o'.xi=false) (O:o'.ip=g*rw) (Q:o'.el=e) (J:∀(j:Nat)(x:AV),o'.iv j=some x->j<g*rw/\cc j=some x)
 (B:∀(j:Nat)(x:AV),j<g*rw->cc j=some x->∃v,A[j]? =some v/\aj φ x v) (y:∀v∈A.toList,v.oneCell'=true):
 aEE P φ h w s (alloc h0 o' λj=>.c j 0 rw g g false):=by
 have k:=h0.xf;rw[p,H] at k;split at k;cases k;rename_i M;have L:=r.my (Ck w);have t:¬φ.f h.a:=λd=>by rw[(r.k _).1 d] at k;grind
 have le:φ.k (φ.kw h.a w.heap.size 0 (c*rw)):=kf.tz t;have T:kM (φ.kw h.a w.drew.heap.size 0 A.size) (w.drew.alloc (.cells A o'.el)) h.a o':=by refine JR (w:=w.drew) F l ⟨by simp_all[at4],λh=>by grind⟩ (λj x G=>?_) (YM y);obtain⟨C,I⟩:=J j x G;obtain⟨v,E,hd⟩:=B j x C I;exact⟨v,E,nS qap _ _ hd⟩
 have u:dH o'=true:=by cases o'<;>first|rfl|simp[AO.fp] at l
 obtain⟨K,st⟩:=MT (h':=h0.am o') (w':=w.drew.alloc (.cells A e)) (n:=h.a) (o':=o') (b:=w.heap.size) (s:=0) (z:=c*rw) (qv:=qv) L k u D
  (λj=>by grind [Hp.pi]) (.inl rfl) zm zm (λc m _=>by grind [MapKept.heap_alloc]) (λ_ _=>.inr rfl) qap rfl rfl rfl
 refine⟨_,_,_,q,K,(eS.my (Ck w)).ab st,?_⟩;rw[p];exact JU zl m zm rfl
theorem No{rw:Nat}:∀{rs:List (List AV)}{n:Nat}{c:Nat->Option AV},nj rs rw n c->rs.flatten.length=n*rw/\∀j,j<n*rw->rs.flatten[j]? =c j
 |[],n,c,b=>by
  have:=b.a
  grind
 |r::rs,n,c,b=>by
  have e:=b.a;simp at e;obtain⟨n',rfl⟩:∃n',n=n'+1:=⟨rs.length,e.symm⟩;have l:=b.d r zm;have i:nj rs rw n' (λj=>c (rw+j)):=⟨by omega,λx s=>b.d x qaa,λk j q d=>by
   have:=b.b (k+1) j zo d
   grind⟩
  obtain⟨m,p⟩:=No i;refine⟨by grind,λj d=>?_⟩
  by_cases g:j<rw
  have:=b.b 0 j zo g
  grind
  grind
theorem Za{rw n:Nat}{rs:List (List AV)}{c:Nat->Option AV}{vs:List Value}(k:nj rs rw n c)(b:sS φ (n*rw) c vs):aEu φ rs.flatten vs:=by
 obtain⟨g,i⟩:=No k;refine Gn (by rw[b.1,g]) λj x e=>?_;have d:j<n*rw:=by grind
 rw[i j d] at e;exact b.2.1 j x d e
theorem SH{rw:Nat}:∀{rs:List (List AV)}{o o':AO}{off:Nat},o.wf->rs≠[]->(∀r∈rs,r.length=rw)->yW o off rw rs=some o'->RC o off rs.flatten o'
 |[],_,_,_,_,i,_,_=>absurd rfl i
 |[r],o,o',off,g,_,_,d=>by grind [yW,RD]
 |r::r2::rs,o,o',off,g,_,e,d=>by
  rw[yW] at d;split at d;rename_i p k;have c:=RD g k;have b:=SH (rs:=r2::rs) (o:=p) (o':=o') (off:=off+rw) c.k zm (λx u=>e x qaa) d;have q:r.length=rw:=e r zm;have l:r2.length=rw:=e r2 zm;rw[awu];generalize t:(r2::rs).flatten=m at b⊢;have s:m.length>=rw:=by grind
  refine⟨b.k,b.b,b.a.trans c.a,b.i.trans c.i,b.h.trans c.h,λn=>?_,c.d,λj=>?_,b.f.trans c.f⟩;rw[auk] at n⊢;have:=b.g zo;rw[c.a] at this;omega;rw[b.c,c.c,auk]
  by_cases c1:off+rw<=j/\j<off+rw+m.length
  rw[atV c1,atV zo,auq zo]
  grind
  rw[atS c1]
  by_cases c2:off<=j/\j<off+r.length
  rw[atV c2,atV zo,aun zo];rw[atS c2,atS zo];cases d
def both(m:Nat)(c1 c2:Nat->Option AV)(j:Nat):Option AV:=if j<m then c1 j else c2 (j- m)
theorem Zb{iI rs:List (List AV)}{rw m n:Nat}{c1 c2:Nat->Option AV}(b:nj iI rw m c1)(d:nj rs rw n c2):nj (iI++rs) rw (m+n) (both (m*rw) c1 c2):=by
 refine⟨by rw[auk,b.a,d.a],λr c=>?_,λk j l e=>?_⟩;rcases auj.1 c with c|c;exact b.d r c;exact d.d r c;unfold both
 by_cases g:k<m
 rw[atV (AW g e),<-b.b k j g e];simp;rw[aun (by rw[b.a];omega)];have i:m*rw<=k*rw:=at4 _ zo;rw[atS zo,show k*rw+j- m*rw=(k- m)*rw+j by grind [Nat.mul_sub_right_distrib],<-d.b (k- m) j zo e];simp;rw[auq (by rw[b.a];omega),b.a]
theorem Np{el rw n:Nat}{rs:List (List AV)}{c:Nat->Option AV}(b:0<rw)(d:n<=1152921504606846976)(e:nj rs rw n c)(j:Nat)(x:AV)(g:(jJ el rw n rs).iv j=some x):j<n*rw/\c j=some x:=by grind [Gs,jJ,AO.iv]
structure SJ(el:Nat)(o:AO)(off rw len n:Nat)(c:Nat->Option AV)(o':AO):Prop where
 m:o'.wf
 b:o'.fp=true
 d:o'.ip=(len+n)*rw
 f:o'.el=el
 k:o.el=el
 l:o'.fz=0
 g:o.fz=0
 i:0<len*rw->off+len*rw<=o.ip
 a:∀(j:Nat)(x:AV),o'.iv j=some x->j<(len+n)*rw/\both (len*rw) (λj=>o.iv (off+j)) c j=some x
 h:o'.xi=false
theorem ags{el:Nat}{o o':AO}{off rw len n:Nat}{rs:List (List AV)}{c:Nat->Option AV}(z:o.wf)(p:0<rw)(s:len+n<=1152921504606846976)(r:nj rs rw n c)(d:BW el o off rw len n rs=some o'):SJ el o off rw len n c o':=by
 have u:∀iI,o.el=el->o.fz=0->kZ o off rw len=some iI->o'=jJ el rw (len+n) (iI++rs)->SJ el o off rw len n c o':=by rintro iI E F m rfl;obtain⟨H,r2⟩:=X1 z m;have A:=Zb H r;exact⟨(Gs (el:=el) p s A).1,rfl,rfl,rfl,E,rfl,F,r2,λj x e=>Np p s A j x e,rfl⟩
 cases o with
 |a I l=>
  simp[BW] at d;split at d;rename_i iI m;obtain⟨g,D⟩:=qt d;rw[iH] at g;cases D;exact u iI g.symm rfl m rfl
  grind
 |b I nN vh fz t=>
  simp only[BW] at d;obtain⟨g,d⟩:=qt d;simp only[atW,iH] at g;obtain⟨rfl,rfl⟩:=g;cases q:(Nat.beq rw nN&&Nat.beq off 0&&Nat.ble len vh) with
  |false=>
   rw[q] at d;split at d;rename_i iI m;cases d;exact u iI rfl rfl m rfl
   grind
  |true=>
   rw[q] at d;simp only[axT,atU] at d;subst d;simp only[atW,iH,je] at q;obtain⟨⟨rfl,rfl⟩,C⟩:=q;obtain⟨_,K,L⟩:=z;have J:=r.a;have key:∀k,k<len+n->dY (jy t len rs) k=if k<len then dY t k else rs.getD (k- len) []:=λk i=>by grind [Jz]
   refine⟨⟨p,s,λk i=>?_⟩,rfl,rfl,rfl,rfl,rfl,rfl,λ_=>?_,λj x e=>?_,rfl⟩;have i:k<len+n:=i;rw[key k i];split
   grind
   rw[aub,atT zo,avo];exact r.d _ (auy _);simp_all[AO.ip,at4];simp only[AO.iv,uV] at e;split at e;rename_i G;have i:j/rw<len+n:=auw qaa;have y:j% rw<rw:=avn _ p;refine⟨G,?_⟩;rw[key _ i] at e;unfold both;split at e;rename_i B;have v:j<len*rw:=by have:=AW B y;rwa[aE3] at this
   rw[atV v];simp only[AO.iv,aue];rw[atV (aur v (at4 _ C))];omega;rename_i B;have:=r.b (j/rw- len) (j% rw) zo y;rw[e] at this;rw[this];congr 1;rw[awT];have g:=at4 rw (show len<=j/rw by omega)
   grind [aE3]
   grind
 |_=>simp[BW] at d
def Zd{bytes b iI:Nat}(c:room bytes b=true)(d:iI<b):b<=1152921504606846975/\¬Builtin.nextslicecap b iI*bytes>2^48:=by unfold room at c;simp at c;exact⟨by omega,axJ.2 (growslice_fits_wide d (at1 (at4 _ zo) c.1))⟩
theorem Ze{z:Array Value}(c:∀v∈z.toList,v.oneCell'=true) (d:0<z.size) {n:Nat}:∀v∈(Builtin.zeroCells z n).toList,v.oneCell'=true:=by
 intro v b;simp[Builtin.zeroCells,awC,auR] at b
 grind [Nat.mod_lt]
theorem Zf{m n rw:Nat}{c1 c2:Nat->Option AV}{A B Z:Array Value}(d:sS φ (m*rw) c1 A.toList)(g:sS φ (n*rw) c2 B.toList)(q:∀v∈Z.toList,v.oneCell'=true):
 (∀(j:Nat)(x:AV),j<(m+n)*rw->both (m*rw) c1 c2 j=some x->∃v,(A++B++Z)[j]? =some v/\aj φ x v)/\∀v∈(A++B++Z).toList,v.oneCell'=true:=by
 have l:A.size=m*rw:=by simpa using d.1
 have e:(m+n)*rw=m*rw+n*rw:=auC _ _ _;refine⟨λj x p c=>?_,λv b=>?_⟩;unfold both at c;split at c;rename_i i;obtain⟨v,b,hd⟩:=d.2.1 j x i c
 grind
 rename_i k;obtain⟨v,b,hd⟩:=g.2.1 _ x zo c
 grind
 simp only[axv,auj] at b;rcases b with(b|b)|b;exact d.2.2 v b;exact g.2.2 v b
 grind
theorem Zg{i:Nat}{off rw len cc:Nat}{b:Addr}{vs:List Value}(c:vs.length=len*rw)(e:∀(j:Nat)(v:Value),vs[j]? =some v->w.cell? ⟨φ.a i,φ.c i+off+j,none⟩=some v)
 (d:len*rw≠0->b=⟨φ.a i,φ.c i+off,none⟩):(Builtin.firstCells rw len (.slice (some b) len cc)).run P w=.ok vs.toArray w:=by
 grind [Builtin.firstCells,run_loadCells_list,xV]
theorem agt{t u ty e:TypeId}{d:TypeDesc}{i:TypeInfo}{z:List AV}(r:R φ h w)(C:P.underlying t=some (.slice e))(D:P.underlying u=some d)(H:(∃O,d=.slice O)\/d=.string)
 (hi:P.info? e=some i) (S:rO P e=some z) (I:0<i.size) (A1:z.length=i.size) {y:AV} {v:Value} (F:aj φ y v):aEE P φ h w (Builtin.append_ #[t,u] ty #[.slice none 0 0,v]) (kJ h e i.size i.bytes .o y):=by
 unfold kJ;split;rename_i rs n q s;obtain⟨cs,c,G,V,ra,cf⟩:=Nm (P:=P) r F q s;obtain⟨K,c',U,b,k,J⟩:=Nm (P:=P) (r.my (Ck w)) F q s;cases n with
 |zero=>
  exact⟨.slice none 0 0,w,Nn (base:=none) (mq:=0) (qX:=0) (w':=w) C D H hi G V zl (λad h=>by grind) (λ_=>rfl),by rfl,.da w⟩
 |succ n=>
  refine zH (λX=>?_) λ_=>jY;obtain⟨i',L,p,Y,hd⟩:=JV S;rw[hi] at p;cases p;obtain⟨qW,fX⟩:=Zd (iI:=0) X zo;obtain⟨N,g,l⟩:=Y5 (w:=w) (base:=none) (mq:=0) (qX:=0) (iI:=#[]) C D H hi Y G b rfl zo zo qaa;rw[aue] at l g;have M:L.cells.size=i.size:=by have:=tP (hd φ).1;grind
  have W:K.size=(n+1)*i.size:=by simpa using J.1
  obtain⟨k1,T⟩:=Zf (φ:=φ) (m:=0) (n:=n+1) (rw:=i.size) (c1:=λ_=>none) (c2:=c') (A:=#[]) (B:=K) (Z:=Builtin.zeroCells L.cells (N- (n+1))) ⟨by simp,λj x Q=>by omega,by simp⟩ J (Ze (hd φ).2 zo);have hb:∀j,both (0*i.size) (λ_=>none) c' j=c' j:=λj=>by simp_all[both]
  refine Y9 (o':=jJ e i.size (n+1) rs) (e:=e) (rw:=i.size) (cc:=c') (qv:=none) (h0:=h) r l ?_ g zm (λj=>by simp) rfl (Gs (el:=e) I zo k).1 rfl rfl rfl rfl (λj x E=>Np I zo k j x E) (λj x Q E=>k1 j x qaa qaa) T;simp only[awa,W,size_zeroCells,M];rw[show(#[]:Array Value).size=0 from rfl,aue,<-auC]
  grind
 exact jY
theorem Zh{o:AO}(h:o.fp=true):AY o=true:=by cases o<;>first|rfl|simp[AO.fp] at h
def Ns{o:AO}(h:o.fp=true):dH o=true:=by cases o<;>first|rfl|simp[AO.fp] at h
theorem Zi{rw:Nat}{rs:List (List AV)}{o o':AO}{off:Nat}(d:rs≠[])(b:yW o off rw rs=some o'):o.fp=true:=by
 cases rs with
 |nil=>grind
 |cons r rs=>
  simp[yW] at b;split at b;rename_i e c;cases o<;>first|rfl|simp[setCells] at c
  grind
def agu{el:Nat}{o o':AO}{off rw len n:Nat}{rs:List (List AV)}(b:BW el o off rw len n rs=some o'):o.fp=true:=by cases o<;>first|rfl|simp[BW] at b
theorem agv{el rw off len n c:Nat}{i:Nat}{o':AO}{_rs:List (List AV)}{cc:Nat->Option AV}{vs:List Value}{s:Sem Value}(r:R φ h w)(t:(h.ac i).fp=true)(F:0<rw)(g:SJ el (h.ac i) off rw len n cc o')
 (_hd:φ.f i) (u:sS φ (n*rw) cc vs) (E:len+n<=c) (cP:φ.c i+off+c*rw<=φ.g i)
 (J:∀w',(storeCells ⟨φ.a i,φ.c i+off+len*rw,none⟩ vs).run P w=.ok () w'->s.run P w=.ok (.slice (some ⟨φ.a i,φ.c i+off,none⟩) (len+n) c) w'):
 aEE P φ h w s (alloc (h.bj i .f) o' λj=>.c j 0 rw (len+n) (len+n) false):=by
 unfold alloc;have l:jN ((h.bj i .f).ac (h.bj i .f).a)=true:=(h.bj i .f).xf;have A:(h.bj i .f).a=h.a:=Hp.jp (Hp.Id (uY (Ns t)));rw[A,Hp.ma] at l;split at l;cases l;rename_i lK;have K:¬φ.f h.a:=λd=>by rw[(r.k _).1 d] at l;grind
 have le:φ.k (φ.kw h.a (φ.a i) (φ.c i+off) (φ.g i)):=kf.tz K;have ok:=aEP r t;obtain⟨B,L,G,b2,b3,b4,H,b6⟩:=ok.b;have X:=u.1;have e1:(len+n)*rw=len*rw+n*rw:=auC _ _ _;have e2:(len+n)*rw<=c*rw:=at4 _ E;obtain⟨Z,g1,g2,C,M,D,N,O,Q⟩:=Sl vs (φ.c i+off+len*rw) w B G zo;have m:=run_storeCells_cells (P:=P) (φ.a i) (φ.c i+off+len*rw) vs 0 w (λj e=>by
  have:φ.c i+off+len*rw+0+j<B.size:=zo;simp_all[World.cell?]) (λj e=>by
  have V:=b6 (φ.c i+off+len*rw+0+j);rw[g.g] at V
  grind [World.frozen?]) u.2.2
 rw[aud] at m;have zJ:kM (φ.kw h.a (φ.a i) (φ.c i+off) (φ.g i)) (w.setCells (φ.a i) (φ.c i+off+len*rw) vs) h.a o':=by
  have q1:(φ.kw h.a (φ.a i) (φ.c i+off) (φ.g i)).a h.a=φ.a i:=atV rfl;have q2:(φ.kw h.a (φ.a i) (φ.c i+off) (φ.g i)).c h.a=φ.c i+off:=atV rfl;have q3:(φ.kw h.a (φ.a i) (φ.c i+off) (φ.g i)).g h.a=φ.g i:=atV rfl;have key:qu (φ.kw h.a (φ.a i) (φ.c i+off) (φ.g i)) (w.setCells (φ.a i) (φ.c i+off+len*rw) vs) h.a o':=by
   refine⟨g.m,(λh=>by rw[g.h] at h;grind),(λh=>by rw[AO.ro,g.l] at h;cases h),Z,L,by rw[q1,g.f,<-g.k];omega,by omega,by rw[q2,g.d,g2];omega,λj x Y=>?_,λj v p=>?_,λj S T U=>?_⟩;obtain⟨e,y⟩:=g.a j x Y;rw[q2,C];unfold both at y;split at y;rename_i ao
   grind [nS]
   rename_i GV;obtain⟨v,p,qw⟩:=u.2.1 _ x zo y;exact⟨v,by grind,nS le _ _ qw⟩;rw[C] at p;split at p;exact u.2.2 v (aua p);exact H j v p;have:=b6 j S T (by rw[<-g2];exact U);rw[g.g] at this;rw[q2];omega
  have:=g.b;cases o'<;>first|exact key|simp[AO.fp] at this
 obtain⟨r',st⟩:=MT (h':=(h.bj i .f).am o') (w':=w.setCells (φ.a i) (φ.c i+off+len*rw) vs) (n:=h.a) (o':=o') (b:=φ.a i) (s:=φ.c i+off) (z:=φ.g i) (qv:=some i) r l (Ns g.b)
  (λk W=>by cases W;exact Zh t)
  (λj=>by
   rw[Hp.pi,A];split;rfl;show(h.bj i .f).ac j=_;rw[Hp.ma]
   by_cases e:j=i
   rw[atV e,atV (by rw[e])];rw[atS e,atS (by simpa using Ne.symm e)]) (.inr ⟨i,rfl,rfl⟩) (by rw[D];exact r.l i (Ns t)) (avp D.symm) (λc hc I=>M c I) (λaW aD=>.inl (by rw[g1];simp)) zJ N O Q
 refine⟨_,_,_,J _ m,r',st,?_⟩;rw[A];have q:(φ.kw h.a (φ.a i) (φ.c i+off) (φ.g i)).f h.a:=.inl rfl;simp only[aj];exact⟨q,_,c,rfl,at2 _,E,by simp,λ_=>⟨by simp[kf.kw],by simp only[kf.kw,auo];omega⟩⟩
theorem agx{i:Nat}{off m:Nat}(r:R φ h w)(c:(h.ac i).fp=true)(u:0<m->off+m<=(h.ac i).ip):
 ∃vs:List Value,sS φ m (λj=>(h.ac i).iv (off+j)) vs/\∀(j:Nat)(v:Value),vs[j]? =some v->w.cell? ⟨φ.a i,φ.c i+off+j,none⟩=some v:=by
 have ok:=aEP r c;obtain⟨b,s,k,l,n,p,q,b6⟩:=ok.b
 by_cases e:m=0
 exact⟨[],⟨e.symm,λj x d=>by omega,by simp⟩,by simp⟩;refine⟨(b.toList.drop (φ.c i+off)).take m,⟨by grind,λj x d t=>?_,λv g=>?_⟩,λj v g=>?_⟩
 grind
 grind [List.getElem?_of_mem]
 grind [World.cell?]
theorem Zk{t u ty e:TypeId}{c:TypeDesc}{i:TypeInfo}{z:List AV}{h0:Hp}{o':AO}{qv:Option Nat}{b:Option Addr}{len cc n:Nat}{v:Value}{c1 c2:Nat->Option AV}(r:R φ h w)(G:P.underlying t=some (.slice e))(H:P.underlying u=some c)(O:(∃B,c=.slice B)\/c=.string)
 (hi:P.info? e=some i) (K:rO P e=some z) (mO:0<i.size) (A1:z.length=i.size) (Y:¬len+n<=cc) (W:room i.bytes (len+n)=true)
 (F:∀k,qv=some k->AY (h.ac k)=true) (L:∀j,h0.ac j=if qv=some j then .f else h.ac j) (Z:h0.a=h.a)
 (I:o'.wf) (C:o'.fp=true) (X:o'.xi=false) (U:o'.ip=(len+n)*i.size) (V:o'.el=e) (Q:∀(j:Nat)(x:AV),o'.iv j=some x->j<(len+n)*i.size/\both (len*i.size) c1 c2 j=some x)
 (s:(Builtin.lenOf v).run P w=.ok n w) (S:∃cs:Array Value,(Builtin.firstCells i.size n v).run P w.drew=.ok cs w.drew/\sS φ (n*i.size) c2 cs.toList)
 (l:∃iI:Array Value,(Builtin.firstCells i.size len (.slice b len cc)).run P w.drew=.ok iI w.drew/\sS φ (len*i.size) c1 iI.toList):
 aEE P φ h w (Builtin.append_ #[t,u] ty #[.slice b len cc,v]) (alloc h0 o' λj=>.c j 0 i.size (len+n) (len+n) false):=by
 obtain⟨cs,N,d⟩:=S;obtain⟨iI,lo,co⟩:=l;obtain⟨i',zv,g,zI,hd⟩:=JV K;rw[hi] at g;cases g;obtain⟨qW,D⟩:=Zd (iI:=cc) W zo;obtain⟨A,p,y⟩:=Y5 (ty:=ty) (w:=w) (base:=b) (mq:=len) (qX:=cc) (iI:=iI) G H O hi zI s N lo Y zo D;have q:zv.cells.size=i.size:=by have:=tP (hd φ).1;grind
 have T:cs.size=n*i.size:=by simpa using d.1
 have m:iI.size=len*i.size:=by simpa using co.1
 obtain⟨k1,M⟩:=Zf (φ:=φ) co d (Ze (n:=A- (len+n)) (hd φ).2 zo);refine Y9 r y ?_ p F L Z I C X U V Q (λj x E J=>k1 j x E J) M;simp[awa,T,m,size_zeroCells,q];rw[<-auC,<-auC]
 grind
theorem agy{t u ty e:TypeId}{M:TypeDesc}{i:TypeInfo}{z:List AV}(r:R φ h w)(B:P.underlying t=some (.slice e))(C:P.underlying u=some M)(E:(∃e',M=.slice e')\/M=.string)
 (hi:P.info? e=some i) (hz:rO P e=some z) (l:0<i.size) (S:z.length=i.size) {q:Nat} {off nN len cap:Nat} {ex:Bool} {y:AV} {x v:Value} (m:aj φ (.c q off nN len cap ex) x) (hy:aj φ y v):
 aEE P φ h w (Builtin.append_ #[t,u] ty #[x,v]) (kJ h e i.size i.bytes (.c q off nN len cap ex) y):=by
 have J:=m;obtain⟨hd,p,c,rfl,x1,x2,x3,Q⟩:=m;unfold kJ;split;rename_i rs n U Y;obtain⟨cs,c2,D,l2,g,A⟩:=Nm (P:=P) r hy U Y;cases n with
 |zero=>
  have h0:=auv (by rw[A.1,awN]);exact⟨.slice (some p) len c,w,Nn (base:=some p) (mq:=len) (qX:=c) (w':=w) B C E hi D l2 zo (λb H=>by rw[h0];rfl) (λH=>by rfl),J,.da w⟩
 |succ n=>
  simp;refine zH (λV=>?_) λ_=>jY;simp at V;obtain⟨rfl,tX⟩:=V;have s:rs≠[]:=by intro e;have:=g.a;grind
  have SG:len+(n+1)<=1152921504606846975:=by simp_all[room]
  refine zH (λI=>?_) λsM=>?_;rw[je] at I;split;rename_i o' Z;have d:=Zi s Z;have sp:=SH (aEP r d).g s g.d Z;obtain⟨r',st,cS⟩:=Sm (P:=P) r d sp (Za g A) A.2.2;refine⟨.slice (some p) (len+(n+1)) c,_,φ,Nn (base:=some p) (mq:=len) (qX:=c) B C E hi D l2 zo (λb H=>?_) (λH=>by grind),r',st,?_⟩
  grind [xV]
  grind [aj]
  exact jY;have aoY:¬len+(n+1)<=cap:=λdA=>by grind [je]
  have G:∃cs:Array Value,(Builtin.firstCells i.size (n+1) v).run P w.drew=.ok cs w.drew/\nj rs i.size (n+1) c2/\sS φ ((n+1)*i.size) c2 cs.toList:=by obtain⟨F,c',_,K,Nr,L⟩:=Nm (P:=P) (r.my (Ck w)) hy U Y;obtain⟨f1,f2⟩:=No g;obtain⟨f1',f2'⟩:=No Nr;exact⟨F,K,g,L.1,λj x hj m=>L.2.1 j x hj qaa,L.2.2⟩
  obtain⟨F,s1,s2,s3⟩:=G;cases ex with
  |true=>
   split;rename_i o1 qy;split at qy;rename_i iI A3;cases qy;obtain⟨vs,N,v2,v3,O⟩:=Nk (r.my (Ck w)) A3;have T:=Zb v2 g;have aoZ:=x3 rfl;refine Zk (qv:=none) (h0:=h) (c1:=λj=>(h.ac q).iv (off+j)) (c2:=c2) r B C E hi hz l S zo tX zm (λj=>by simp) rfl (Gs (el:=e) l zo T).1 rfl rfl rfl rfl (λj x m=>Np l zo T j x m) D ⟨F,s1,s3⟩ ⟨vs.toArray,?_,by omega⟩;refine Zg (φ:=φ) (i:=q) (off:=off) N.1 O λs=>(Q ?_).1
   grind
   grind
   exact jY
  |false=>
   split;rename_i o1 X;have d:=agu X;have gs:=ags (aEP r d).g l zo g X
   by_cases W:len+(n+1)<=c
   obtain⟨e1,e2⟩:=Q zo;refine agv (vs:=cs.toList) (_rs:=rs) r d l gs hd A W e2 λw' hst=>?_;simp_all[Nn,xV];have kz:=agx (r.my (Ck w)) d gs.i;obtain⟨vs,N,O⟩:=kz;refine Zk (qv:=some q) (h0:=h.bj q .f) (c1:=λj=>(h.ac q).iv (off+j)) (c2:=c2) r B C E hi hz l S W tX (λk hk=>by grind [Zh]) (λj=>by grind [Hp.ma]) (Hp.jp (Hp.Id (uY (Ns d)))) gs.m gs.b gs.h gs.d gs.f gs.a D ⟨F,s1,s3⟩ ⟨vs.toArray,?_,by omega⟩
   refine Zg (φ:=φ) (i:=q) (off:=off) N.1 O λs=>(Q ?_).1
   grind
   exact jY
 exact jY
end
end Yv
