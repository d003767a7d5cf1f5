/- A part of the proof of 'ScopeAlphaUptoCardSaid'. No condition. -/
import Derived.Test.YtjjppojiafpfcaaGreatDoorX01
import Derived.Lib.IndexMore
import Derived.Lib.IndexEntry
import Derived.Laws.IdiomStrings
import Derived.Lib.Bytealg
import Derived.Laws.Externs
import Derived.Shelf.Strings.Search3
import Derived.Shelf.Strings.Fields
import Derived.Orders
set_option maxHeartbeats 64000000
set_option maxRecDepth 100000
set_option linter.all false
namespace Yv
variable {P:Go.Program}{f:Fr}{h:Hp}{w:Go.World}{φ:aH}
section
open Go
def aEM(P:Program)(b:kB)(nt:Nat)(k:aT->Prop)(oo:aK):Exit->Act->World->Prop:=
 λe a w=>∃out,Dn (k out) oo/\Nv P b nt out e a w
structure vo(P:Program)(rec:fJ):Prop where
 d:∀(ro:Option Nat)(nt:Nat)(c:Code)(b:kB)(φ:aH)(f:Fr)(h:Hp)(ds:List Df)(a:Act)(w:World)(k:aT->Prop)(oo:aK),(ro=none\/ni c=true)->
  St P b nt φ f h ds a w->Dn (rec (comp P nt c) f h ds k) oo->c.wpIn (FW ro) 0 P (aEM P b nt k oo) a w
 g:∀(ro:Option Nat)(nt:Nat)(c:Code)(b:kB)(φ:aH)(f:Fr)(h:Hp)(ds:List Df)(a:Act)(w:World)(k:aT->Prop)(oo:aK),(ro=none\/ni c=true)->
  St P b nt φ f h ds a w->Dn (rec (.d (comp P nt c)) f h ds k) oo->GW ro P c (aEM P b nt k oo) a w
def vo.wp{P:Program}{rec:fJ}(rs:vo P rec)(nt:Nat)(c:Code)(b:kB)(φ:aH)(f:Fr)(h:Hp)(ds:List Df)(a:Act)(w:World)(k:aT->Prop)(oo:aK)
 (s:St P b nt φ f h ds a w) (hd:Dn (rec (comp P nt c) f h ds k) oo):c.wp P (aEM P b nt k oo) a w:=wpIn_wide.1 (rs.d none nt c b φ f h ds a w k oo (.inl rfl) s hd)
def Nz(P:Program):Prop:=
 ∀(c:mj),zN P c->mS P->∀(ro:Option Nat)(nt id:Nat)(aF:Array Oper)(b:kB)(φ:aH)(f:Fr)(h:Hp)(ds:List Df)(a:Act)(w:World)(k:aT->Prop)(oo:aK)(l:List DI),
  (ro=none\/ni (.region id aF true)=true)->comp P nt (.region id aF true)=.h l->St P b nt φ f h ds a w->Dn (Mz c k l ds f h) oo->(Code.region id aF true).wpIn (FW ro) 0 P (aEM P b nt k oo) a w
theorem agO{P:Program}{b:kB}{nt:Nat}{k:aT->Prop}{oo:aK}:¬LetsOut (aEM P b nt k oo):=by
 rintro⟨a,w,out,_,f⟩;cases out with
 |c=>cases f.1
 |a=>cases f.1
 |g=>cases f.1
 |b=>cases f.1
 |d=>obtain⟨_,_,e,_⟩:=f;grind
theorem Zr{id:Nat}{aF:Array Oper}{d:Bool}(h:ni (.region id aF d)=true):∀(i:Nat)(o:Oper),aF[i]? =some o->∀c,o.op≠.defer c:=by grind[ni]
def Zs{b:kB}{nt:Nat}{r:Fr->Hp->List Df->(aT->Prop)->Prop}{k:aT->Prop}{oo:aK}{next:Act->World->Prop}
 (l:∀φ f h ds a w,St P b nt φ f h ds a w->Dn (r f h ds k) oo->next a w):∀e a w,aEM P b nt (bF r k) oo e a w->Exit.then next (aEM P b nt k oo) e a w:=by
 rintro e a w ⟨out,hd,i⟩;cases out with
 |c f h ds=>
  obtain⟨rfl,φ,s⟩:=i;exact l φ f h ds a w s hd
 |a id f h ds=>have j:=i;obtain⟨rfl,_⟩:=i;exact⟨_,hd,j⟩
 |g id f h ds=>have j:=i;obtain⟨rfl,_⟩:=i;exact⟨_,hd,j⟩
 |b f h ds=>have j:=i;obtain⟨rfl,_⟩:=i;exact⟨_,hd,j⟩
 |d v f h ds=>have j:=i;obtain⟨_,_,rfl,_⟩:=i;exact⟨_,hd,j⟩
def agP{b:kB}{nt id:Nat}{k:aT->Prop}{oo:aK}:∀e a w,aEM P b nt (bY id k) oo e a w->Exit.inBlock id (aEM P b nt k oo) e a w:=by
 rintro e a w ⟨out,hd,i⟩;cases out with
 |c f h ds=>have j:=i;obtain⟨rfl,_⟩:=i;exact⟨_,hd,j⟩
 |a m f h ds=>
  have j:=i;obtain⟨rfl,φ,s⟩:=i;simp only[bY] at hd;simp[Exit.inBlock];cases l:Nat.beq m id with
  |true=>
   rw[l] at hd;rw[if_pos (at7 l)];exact⟨_,hd,rfl,φ,s⟩
  |false=>
   rw[l] at hd;rw[if_neg (Nat.ne_of_beq_eq_false l)];exact⟨_,hd,j⟩
 |g id f h ds=>have j:=i;obtain⟨rfl,_⟩:=i;exact⟨_,hd,j⟩
 |b f h ds=>have j:=i;obtain⟨rfl,_⟩:=i;exact⟨_,hd,j⟩
 |d v f h ds=>have j:=i;obtain⟨_,_,rfl,_⟩:=i;exact⟨_,hd,j⟩
def S0{nt l:Nat}:∀c:Code,xO l (comp P nt c)=(findLabel c l).map (comp P nt)
 |.seq a b=>by simp[comp,xO,findLabel,S0 a,S0 b];cases findLabel a l<;>rfl
 |.label i=>by simp_all[comp,xO,findLabel]
 |.skip|.block ..|.loop ..|.exit ..|.scope ..|.ret|.goto ..|.refuse ..=>rfl
 |.region ..=>by simp[comp,findLabel];(repeat' split)<;>rfl
 |.cond ..=>by simp[comp,findLabel];(repeat' split)<;>rfl
 |.rangeFunc ..=>by rfl
def aIJ{l:Nat}:∀{c r:Code},findLabel c l=some r->ni c=true->ni r=true
 |.seq a b,r,h,q=>by simp[findLabel] at h;simp[ni,atW] at q;split at h;rename_i d h';cases h;simp[ni,atW];exact⟨aIJ h' q.1,q.2⟩;exact aIJ h q.2
 |.label i,r,h,q=>by simp only[findLabel] at h;split at h<;>cases h;rfl
 |.skip,_,h,_|.block ..,_,h,_|.loop ..,_,h,_|.exit ..,_,h,_|.scope ..,_,h,_|.ret,_,h,_|.goto ..,_,h,_|.refuse ..,_,h,_|.region ..,_,h,_|.cond ..,_,h,_|.rangeFunc ..,_,h,_=>by cases h
def Zt{rec:fJ}(p:vo P rec){ro:Option Nat}{b:kB}{nt:Nat}{c:Code}{k:aT->Prop}{oo:aK}(o:ro=none\/ni c=true):∀n e a w,aEM P b nt (pH rec (comp P nt c) k n) oo e a w->JQ P ro c (aEM P b nt k oo) n e a w
 |0,e,a,w,⟨out,hd,i⟩=>by
  cases out with
  |c f h ds=>have j:=i;obtain⟨rfl,_⟩:=i;exact⟨_,hd,j⟩
  |a id f h ds=>have j:=i;obtain⟨rfl,_⟩:=i;exact⟨_,hd,j⟩
  |b f h ds=>have j:=i;obtain⟨rfl,_⟩:=i;exact⟨_,hd,j⟩
  |d v f h ds=>have j:=i;obtain⟨_,_,rfl,_⟩:=i;exact⟨_,hd,j⟩
  |g=>exact hd.lh.elim
 |n+1,e,a,w,⟨out,hd,i⟩=>by
  cases out with
  |c f h ds=>have j:=i;obtain⟨rfl,_⟩:=i;exact⟨_,hd,j⟩
  |a id f h ds=>have j:=i;obtain⟨rfl,_⟩:=i;exact⟨_,hd,j⟩
  |b f h ds=>have j:=i;obtain⟨rfl,_⟩:=i;exact⟨_,hd,j⟩
  |d v f h ds=>have j:=i;obtain⟨_,_,rfl,_⟩:=i;exact⟨_,hd,j⟩
  |g l f h ds=>
   have j:=i;obtain⟨rfl,φ,s⟩:=i;simp[pH,S0] at hd;simp[JQ];cases m:findLabel c l with
   |none=>rw[m] at hd;exact⟨_,hd,j⟩
   |some r=>
    rw[m] at hd;exact wpIn_mono (p.d ro nt r b φ f h ds a w _ oo (o.imp id (aIJ m)) s hd) (Zt p o n)
theorem agQ{n:fJ->mj}(v:∀rec,vo P rec->zN P (n rec)) (O:mS P) (D:Nz P) {rec:fJ} (d:vo P rec):vo P (step n rec):=by
 have C:=v _ d;have u:∀(ro:Option Nat)(nt:Nat)(c:Code)(b:kB)(φ:aH)(f:Fr)(h:Hp)(ds:List Df)(a:Act)(w:World)(k:aT->Prop)(oo:aK),(ro=none\/ni c=true)->
  St P b nt φ f h ds a w->Dn (step n rec (.d (comp P nt c)) f h ds k) oo->GW ro P c (aEM P b nt k oo) a w:=by
  intro ro nt c b φ f h ds a w k oo e s hd;exact agL (wpIn_mono (d.d ro nt c b φ f h ds a w _ oo e s hd) (Zs λq f' h' p a' w' s' m=>d.g ro nt c b q f' h' p a' w' k oo e s' m))
 refine⟨?_,u⟩;intro ro nt c b φ f h ds a w k oo e s hd;cases c with
 |skip=>exact wpIn_skip ⟨_,hd,rfl,φ,s⟩
 |label l=>exact wpIn_label ⟨_,hd,rfl,φ,s⟩
 |region id aF dr=>
  cases dr with
  |false=>
   simp[comp] at hd;split at hd;rename_i l i;obtain⟨z,A⟩:=Ny i;have:=aII C O (e.imp (λh=>h) Zr) l 0 A s hd;rw[z,<-avQ] at this;exact wpIn_region this;exact hd.lh.elim
  |true=>
   cases i:comp P nt (.region id aF true) with
   |h l=>
    rw[i] at hd;exact D _ C O ro nt id aF b φ f h ds a w k oo l e i s hd
   |r t=>rw[i] at hd;exact hd.lh.elim
   |_=>simp[comp] at i;grind
 |seq x y=>
  have j:(ro=none\/ni x=true)/\(ro=none\/ni y=true):=by grind[ni]
  exact wpIn_seq (wpIn_mono (d.d ro nt x b φ f h ds a w _ oo j.1 s hd) (Zs λq f' h' p a' w' s' m=>d.d ro nt y b q f' h' p a' w' k oo j.2 s' m))
 |cond c x y=>
  simp[comp] at hd;split at hd;rename_i F B;have o:=Gv s.g s.i B;simp[step] at hd;split at hd;rename_i t E;rw[E] at o;have j:(ro=none\/ni x=true)/\(ro=none\/ni y=true):=by grind[ni]
  cases t with
  |true=>exact wpIn_cond (t:=true) o (d.d ro nt x b φ f h ds a w k oo j.1 s hd)
  |false=>exact wpIn_cond (t:=false) o (d.d ro nt y b φ f h ds a w k oo j.2 s hd)
  exact hd.lh.elim;exact hd.lh.elim
 |block id c=>
  exact wpIn_block (wpIn_mono (d.d ro nt c b φ f h ds a w _ oo e s hd) agP)
 |loop c=>
  exact agK (u ro nt c b φ f h ds a w k oo e s hd)
 |exit id=>exact wpIn_exit ⟨_,hd,rfl,φ,s⟩
 |scope c=>
  exact agH (wpIn_mono (d.d ro nt c b φ f h ds a w _ oo e s hd) (Zt (c:=c) d e 8))
 |ret=>exact wpIn_ret ⟨_,hd,rfl,φ,s⟩
 |rangeFunc g ps G c=>exact hd.lh.elim
 |goto l=>exact wpIn_goto ⟨_,hd,rfl,φ,s⟩
 |refuse t=>exact hd.lh.elim
def S4(P:Program):fJ:=λcc f h ds k=>
 (∀(ro:Option Nat)(nt:Nat)(c:Code)(b:kB)(φ:aH)(a:Act)(w:World)(oo:aK),comp P nt c=cc->(ro=none\/ni c=true)->St P b nt φ f h ds a w->c.wpIn (FW ro) 0 P (aEM P b nt k oo) a w)/\
 ∀(ro:Option Nat)(nt:Nat)(c:Code)(b:kB)(φ:aH)(a:Act)(w:World)(oo:aK),.d (comp P nt c)=cc->(ro=none\/ni c=true)->St P b nt φ f h ds a w->GW ro P c (aEM P b nt k oo) a w
def agR:vo P (S4 P):=
 ⟨λro nt c b φ f h ds a w k oo d s hd=>hd.1 ro nt c b φ a w oo rfl d s,λro nt c b φ f h ds a w k oo d s hd=>hd.2 ro nt c b φ a w oo rfl d s⟩
def agS{g:aM->Option CF}(l:∀rec,vo P rec->zN P (aE g rec)) (O:mS P) (D:Nz P):vo P (W g):=by
 have S:=agQ l O D (agR (P:=P));have key:∀c f h ds k,W g c f h ds k->S4 P c f h ds k:=λc f h ds k m=>
  m (S4 P) λc f h ds k j=>⟨λro nt e b φ a w oo i d st=>S.d ro nt e b φ f h ds a w k oo d st (by rw[i];exact j),λro nt e b φ a w oo i d st=>S.g ro nt e b φ f h ds a w k oo d st (by rw[i];exact j)⟩
 exact⟨λro nt c b φ f h ds a w k oo d s hd=>(key _ _ _ _ _ hd).1 ro nt c b φ a w oo rfl d s,λro nt c b φ f h ds a w k oo d s hd=>(key _ _ _ _ _ hd).2 ro nt c b φ a w oo rfl d s⟩
def aHi(P:Program)(id n:Nat):Prop:=∀(args:List AV)(h:Hp)(k:aK->Prop)(φ:aH)(w:World)(vs:Array Value),aFm id args h k->R φ h w->jq φ P->z7 φ args vs.toList->
 Enters P n/\Calls P n vs w λe w'=>∃co,k co/\Nw ⟨φ,h,w⟩ co e w'
def Ed(P:Program)(b:aM->Option CF):Prop:=
 ∀(i:aM)(c:CF),b i=some c->(c.b=i.n->∃a,Ge P i.n=some a/\a.a=c.a/\a.c=c.c)/\(c.b≠i.n->aHi P c.b i.n)
theorem Zu{n:Nat}{c:CF}(h:Ge P n=some c):∃fn body,P.funcs[n]? =some fn/\fn.body=some body/\c.a=comp P fn.ntmps body/\iJ (B4 P fn.ntmps) fn.results.toList=some c.c/\Enters P n:=by unfold Ge at h;split at h;grind;rename_i fn b;split at h;rename_i body rs a hr;split at h;rename_i d;cases h;refine⟨fn,body,b,a,rfl,hr,λvs w=>?_⟩;simp_all[callFunc];grind;grind
theorem agT{φ:aH}{h:Hp}{w:World}{f:Fr}{tmps:Array Value}(r:R φ h w)(l:iq φ f tmps){nt:Nat}{rv:ResultVar}{k:CR}(c:B4 P nt rv=some k){x:AV}(b:Jh h f k=.v x):
 ∃u,(match rv with|.tmp t=>pure (tmps.getD t Go.undef)|.cell a t=>do loadVar t (<-asAddr (tmps.getD a Go.undef)):Sem Value).run P w=.ok u w/\aj φ x u:=by
 cases rv with
 |tmp t=>
  simp only[B4] at c;split at c;rename_i j;cases c;simp[Jh,OR.v.injEq] at b;subst b;exact⟨_,rfl,l.Hn t j.2⟩;grind
 |cell a t=>
  simp[B4] at c;split at c;rename_i d n hd s;split at c;rename_i j;cases c;have m:=l.Hn a j;have key:∀y:AV,aj φ y (tmps.getD a Go.undef)->(∃i o,y=.a i o)->∀(u:Value),(Instr.loadAt t (tmps.getD a Go.undef)).run P w=.ok u w->(do loadVar t (<-asAddr (tmps.getD a Go.undef)):Sem Value).run P w=.ok u w:=by rintro y z ⟨i,o,rfl⟩ u p;grind[aj,Instr.loadAt,Instr.sureAddr,asAddr]
  simp[Jh] at b;cases g:oR d with
  |true=>
   rw[g] at b;simp at b;have e:=YC r hd g s m;have q:∃i o,an (gz a) f=.a i o:=by unfold Dx at b;grind
   rw[b] at e;obtain⟨u,p,v⟩:=e;grind
  |false=>
   rw[g] at b;simp at b;have e:=YB r hd g m;have q:∃i o,an (gz a) f=.a i o:=by unfold Dw at b;grind
   rw[b] at e;obtain⟨u,p,v⟩:=e;grind
  grind;grind
theorem Zv{φ:aH}{h:Hp}{w:World}{f:Fr}{tmps:Array Value}(r:R φ h w)(g:iq φ f tmps){nt:Nat}:∀{d:List ResultVar}{rs:List CR}{l:List AV},iJ (B4 P nt) d=some rs->DN h f rs=some l->
 ∃e:List Value,(d.mapM (λrv=>(match rv with|.tmp t=>pure (tmps.getD t Go.undef)|.cell a t=>do loadVar t (<-asAddr (tmps.getD a Go.undef)):Sem Value))).run P w=.ok e w/\z7 φ l e
 |[],rs,l,c,b=>by simp_all[iJ,DN,sJ]
 |rv::d,rs,l,c,b=>by simp[iJ] at c;split at c;rename_i y s k m;cases c;simp[DN] at b;split at b;rename_i x j;split at b;rename_i p i;cases b;obtain⟨u,o,hd⟩:=agT r g k j;obtain⟨e,n,q⟩:=Zv r g m i;simp_all[qS];grind;grind;grind
theorem Zw{φ:aH}{h:Hp}{w:World}{f:Fr}{tmps:Array Value}{fn:Func}(r:R φ h w)(e:iq φ f tmps){rs:List CR}(i:iJ (B4 P fn.ntmps) fn.results.toList=some rs){k:aK->Prop}{oo:aK}(hd:Dn (wz h f rs k) oo):
 ∃x u,(results fn tmps).run P w=.ok u w/\aj φ x u/\Dn (k (.a x h)) oo:=by
 unfold wz at hd;cases b:DN h f rs with
 |none=>rw[b] at hd;exact hd.lh.elim
 |some l=>
  rw[b] at hd;obtain⟨a,c,j⟩:=Zv r e i b;have d:=tP j;have m:(results fn tmps).run P w=.ok (if h:a.toArray.size=1 then a.toArray[0] else .tuple a.toArray) w:=by unfold results;rw[Array.mapM_eq_mapM_toList];simp only[Sem.run_bind,Sem.run_map,Result.andThen];generalize g:Sem.run P (List.mapM _ fn.results.toList) w=q;obtain rfl:q=.ok a w:=g.symm.trans c;rfl
  rcases l with _|⟨v,_|⟨y,l⟩⟩<;>rcases a with _|⟨u,_|⟨v',a⟩⟩<;>simp only[atX,aup,aue,Nat.succ_ne_zero,reduceCtorEq] at d<;>try omega
  exact⟨.o [],.tuple #[],by grind,by simp[aj];grind,hd⟩;grind[qS];exact⟨.o (v::y::l),.tuple (u::v'::a).toArray,by grind,by simp[aj];grind,hd⟩
theorem agU(args:List AV)(t:Nat):an (gz t) (nQ args)=.B\/args[t]? =some (an (gz t) (nQ args)):=by grind[an,nQ,gz]
theorem Zx{φ:aH}{args:List AV}{vs:Array Value}(hd:z7 φ args vs.toList)(n:Nat):iq φ (nQ args) (vs++Array.replicate n Go.undef):=by
 refine⟨λt=>?_⟩;rcases agU args t with h|h;rw[h];trivial;obtain⟨v,a,c⟩:=tQ hd t _ h;rw[at5] at a;have b:=(auc.1 a).1;have:(vs++Array.replicate n Go.undef).getD t Go.undef=v:=by simp_all[avI]
 grind
def rH(φ:aH):Md->FrameMode->Prop
 |.a,u=>u=.returning
 |.b v,u=>∃a,u=.panicking [{v:=a,recovered:=false}]/\aj φ v a
 |.c v,u=>∃a,u=.panicking [{v:=a,recovered:=true}]/\aj φ v a
def rH.bc{φ ψ:aH}(le:φ.l ψ){m:Md}{u:FrameMode}(f:rH φ m u):rH ψ m u:=by
 cases m with
 |a=>exact f
 |b v=>obtain⟨g,e,d⟩:=f;exact⟨g,e,nS le _ _ d⟩
 |c v=>obtain⟨g,e,d⟩:=f;exact⟨g,e,nS le _ _ d⟩
def rH.settle{φ:aH}{m:Md}{u:FrameMode}(f:rH φ m u):rH φ (B7 m) (settle u):=by
 cases m with
 |a=>have e:=f;rw[e];rfl
 |b v=>obtain⟨g,e,d⟩:=f;rw[e];exact⟨g,rfl,d⟩
 |c v=>obtain⟨g,e,d⟩:=f;rw[e];rfl
theorem rH.run{φ:aH}{m:Md}{u:FrameMode}(f:rH φ m u):u≠.run:=by
 cases m with
 |a=>have e:u=.returning:=f;grind
 |b v=>obtain⟨g,e,d⟩:=f;grind
 |c v=>obtain⟨g,e,d⟩:=f;grind
def rH.rec{φ:aH}{m:Md}{u:FrameMode}{c:Frame}{cs:List Frame}(h:rH φ m u):
 (∃v g,recoverD ({c with mode:=u}::cs)=some (v,{c with mode:=g}::cs)/\aj φ m.px.1 v/\rH φ m.px.2 g)\/
 (recoverD ({c with mode:=u}::cs)=none/\aj φ m.px.1 .nilIface/\rH φ m.px.2 u):=by
 cases m with
 |a=>
  right;have e:u=.returning:=h;exact⟨by simp only[recoverD,e],by rfl,h⟩
 |b x=>
  left;obtain⟨f,e,d⟩:=h;exact⟨f,.panicking [{v:=f,recovered:=true}],by simp only[recoverD,e],d,f,rfl,d⟩
 |c x=>
  right;obtain⟨f,e,d⟩:=h;exact⟨by simp only[recoverD,e],by rfl,f,e,d⟩
def Fo(P:Program):Prop:=∀o:Oper,eX P o.op=.g->∀(a:Operand->Value)(w:World),∃w',(execOp a o).run P w=.ok .recover w'/\sL w w'
def St.QR{b:kB}{nt:Nat}{φ:aH}{f:Fr}{h:Hp}{ds:List Df}{a:Act}{w:World}(s:St P b nt φ f h ds a w):St P ⟨φ,h,w⟩ nt φ f h ds a w:=
 ⟨s.r,.cg φ h w,s.i,s.j,s.k,s.g⟩
def amT(P:Program)(b:kB)(nt:Nat)(nZ:Frame)(cs:List Frame)(k:aT->Md->Prop)(oo:aK):Exit->Act->List Frame->World->Prop:=
 λe a d w=>∃out m u c,Dn (k out m) oo/\d={nZ with mode:=u}::cs/\rH c.φ m u/\eS b.φ b.h b.w c.φ c.w c.h/\Nv P c nt out e a w
theorem Fp(O:mS P)(e:Fo P){b:kB}{nt:Nat}{nZ:Frame}{cs:List Frame}{aF:Array Oper}{kk:Md->Fr->Hp->Prop}{oo:aK}{Q:Exit->Act->List Frame->World->Prop}
 (g:∀φ f h a w m u,St P b nt φ f h [] a w->rH φ m u->Dn (kk m f h) oo->Q .normal a ({nZ with mode:=u}::cs) w):
 ∀(l:List CI)(k:Nat){φ:aH}{f:Fr}{h:Hp}{a:Act}{w:World}{m:Md}{u:FrameMode},(∀(j:Nat)(c:CI),l[j]? =some c->∃o,aF[k+j]? =some o/\kq P nt aF o=some c)->
  St P b nt φ f h [] a w->rH φ m u->Dn (uT kk l m f h) oo->
  wpOpsS P aF Q (List.range' k l.length) a ({nZ with mode:=u}::cs) w
 |[],k,φ,f,h,a,w,m,u,_,s,i,hd=>g φ f h a w m u s i hd
 |c::l,k,φ,f,h,a,w,m,u,I,s,i,hd=>by
  obtain⟨o,R,H⟩:=I 0 c rfl;have N:aF[k]? =some o:=R;have p:∀(j:Nat)(c:CI),l[j]? =some c->∃o,aF[k+1+j]? =some o/\kq P nt aF o=some c:=λj L hj=>by obtain⟨o',U,V⟩:=I (j+1) L qaa;grind
  rw[atX,awD];simp[wpOpsS,N];simp[uT] at hd;obtain⟨q,y,J,_⟩:=wJ H;cases D:jO c.a f with
  |none=>rw[D] at hd;exact hd.lh.elim
  |some t=>
   rw[D] at hd;have S:=Zq s H D;cases t with
   |false=>
    rw[if_neg qaa];rw[y] at hd;exact Fp O e g l (k+1) p (s.qr (.cg w) q DX) i hd
   |true=>
    rw[if_pos S];simp only at hd;split at hd;rename_i K;obtain⟨w',M,z⟩:=e o qaa a.eval w;rw[M];rw[y] at hd;rcases i.rec (c:=nZ) (cs:=cs) with⟨v,W,hr,F,G⟩|⟨hr,F,G⟩;rw[hr];exact Fp O e g l (k+1) p (s.qr z q F) G hd;rw[hr];exact Fp O e g l (k+1) p (s.qr z q F) G hd;have d:=O φ h w f a o s.r s.g s.i;rw[<-J] at d;unfold Good at d;generalize X:(execOp a.eval o).run P w=jk at d|-;cases A:aQ c.b f h with
    |v x=>
     rw[A] at hd d;obtain⟨n,v,w',rfl,C,E,z⟩:=d;rw[y] at hd;have B:=Fp O e g l (k+1) p (s.qr z q E) i hd;rcases C with rfl|⟨rfl,rfl⟩<;>exact B
    |b x h'=>
     rw[A] at hd d;obtain⟨n,v,w',ψ,rfl,C,T,r,E⟩:=d;rw[y] at hd;have B:=Fp O e g l (k+1) p (s.iL T r q E) (i.bc r.n) hd;rcases C with rfl|⟨rfl,rfl⟩<;>exact B
    |_=>rw[A] at hd;exact hd.lh.elim
theorem amV{rec:fJ}(rs:vo P rec)(O:mS P)(U:Fo P){b:kB}{nt:Nat}{nZ:Frame}{cs:List Frame}{k:aT->Md->Prop}{oo:aK}(c:Code)
 {φ:aH} {f:Fr} {h:Hp} {a:Act} {w:World} {m:Md} {u:FrameMode} (s:St P b nt φ f h [] a w) (S:rH φ m u) (hd:Dn (B6 rec (comp P nt c) m f h k) oo):
 c.wpS P (amT P b nt nZ cs k oo) a ({nZ with mode:=u}::cs) w:=by
 unfold B6 at hd;split at hd
 ·rename_i l x y H;cases c<;>simp only[comp,reduceCtorEq] at H
  case region=>grind
  case cond=>grind
  case seq c12 c3=>
   injection H with F W;cases c12<;>simp only[comp,reduceCtorEq] at F
   case region=>grind
   case cond=>grind
   case seq c1 c2=>
    injection F with i R;cases c1<;>simp only[comp,reduceCtorEq] at i
    case cond=>grind
    case region id aF dr=>
     cases dr with
     |true=>grind
     |false=>
      split at i;rename_i T Q;simp at i;subst i;obtain⟨L,M⟩:=Ny Q;refine wpS_seq (wpS_seq (wpS_region ?_));rw[avQ,<-L];refine Fp O U (b:=b) (nt:=nt) (oo:=oo) (kk:=λm f h=>rec x f h [] (bF (rec y) λo=>k o m)) ?_ T 0 M s S hd;intro p N i J r C E B D G;rw[<-R] at G;refine wpS_of_wp (wp_mono (rs.wp nt c2 ⟨p,i,r⟩ p N i [] J r _ oo B.QR G) ?_);rintro e a' w' ⟨out,q,z⟩;cases out with
      |c t g2 A=>
       obtain⟨rfl,j,n⟩:=z;rw[<-W] at q;refine wpS_of_wp (wp_mono (rs.wp nt c3 ⟨j,g2,w'⟩ j t g2 A a' w' _ oo n.QR q) ?_);rintro e V SP ⟨out,K,Z⟩;exact⟨out,C,E,⟨j,g2,w'⟩,K,rfl,D.bc n.c.n,B.c.ba n.c,Z⟩
      |a I t g2 A=>
       obtain⟨rfl,j,n⟩:=z;exact⟨.a I t g2 A,C,E,⟨p,i,r⟩,q,rfl,D,B.c,rfl,j,n⟩
      |g I t g2 A=>
       obtain⟨rfl,j,n⟩:=z;exact⟨.g I t g2 A,C,E,⟨p,i,r⟩,q,rfl,D,B.c,rfl,j,n⟩
      |b t g2 A=>
       obtain⟨rfl,j,n⟩:=z;exact⟨.b t g2 A,C,E,⟨p,i,r⟩,q,rfl,D,B.c,rfl,j,n⟩
      |d v t g2 A=>
       obtain⟨Y,j,rfl,X,n⟩:=z;exact⟨.d v t g2 A,C,E,⟨p,i,r⟩,q,rfl,D,B.c,Y,j,rfl,X,n⟩
      grind
 ·rename_i l y H;cases c<;>simp only[comp,reduceCtorEq] at H
  case region=>grind
  case cond=>grind
  case seq c1 c2=>
   injection H with i R;cases c1<;>simp only[comp,reduceCtorEq] at i
   case cond=>grind
   case region id aF dr=>
    cases dr with
    |true=>grind
    |false=>
     split at i;rename_i T Q;simp at i;subst i;obtain⟨L,M⟩:=Ny Q;refine wpS_seq (wpS_region ?_);rw[avQ,<-L];refine Fp O U (b:=b) (nt:=nt) (oo:=oo) (kk:=λm f h=>rec y f h [] λo=>k o m) ?_ T 0 M s S hd;intro p N i J r C E B D G;rw[<-R] at G;refine wpS_of_wp (wp_mono (rs.wp nt c2 ⟨p,i,r⟩ p N i [] J r _ oo B.QR G) ?_);rintro e a' w' ⟨out,q,z⟩;exact⟨out,C,E,⟨p,i,r⟩,q,rfl,D,B.c,z⟩;grind
 refine wpS_of_wp (wp_mono (rs.wp nt c ⟨φ,h,w⟩ φ f h [] a w _ oo s.QR hd) ?_);rintro e a' w' ⟨out,q,z⟩;exact⟨out,m,u,⟨φ,h,w⟩,q,rfl,S,s.c,z⟩
theorem PE{F:aM->Option CF}(T:Ed P F){rec:fJ}(rs:vo P rec)(O:mS P)(Y:Fo P){b:kB}{fn:Func}{jk:List CR}(vl:iJ (B4 P fn.ntmps) fn.results.toList=some jk)
 {tmps:Array Value} {f:Fr} {G:aK->Prop} {oo:aK}:∀(ds:List Df){n:List Deferred}{m:Md}{u:FrameMode}{φ:aH}{h:Hp}{w:World},R φ h w->eS b.φ b.h b.w φ w h->jq φ P->iq φ f tmps->
  Cm φ ds n->rH φ m u->Dn (pJ F rec jk f G ds m h) oo->LeavesInM (FW none) 0 P fn tmps (λe w'=>∃co,Dn (G co) oo/\Nw b co e w') n u w
 |[],n,m,u,φ,h,w,r,st,g,V,H,C,hd=>by
  cases n with
  |cons=>exact H.elim
  |nil=>
   cases m with
   |a=>
    have e:=C;subst e;obtain⟨x,v,S,hx,hk⟩:=Zw r V vl hd;exact⟨v,S,_,hk,φ,v,rfl,hx,r,st⟩
   |b v=>
    obtain⟨pv,rfl,hv⟩:=C;exact⟨_,hd,φ,pv,rfl,hv,r,st⟩
   |c v=>exact hd.lh.elim
 |d::ds,n,m,u,φ,h,w,r,st,g,V,H,C,hd=>by
  cases n with
  |nil=>exact H.elim
  |cons e n=>
   obtain⟨Wl,M⟩:=H;refine⟨C.run,?_⟩;cases d with
   |a B A=>
   right;obtain⟨cap,args,sV,ht,ha,k8,oW⟩:=Wl;refine⟨λc=>qaa,?_⟩;simp only[pJ] at hd;cases I:F B with
   |none=>rw[I] at hd;exact hd.lh.elim
   |some c=>
    rw[I] at hd;simp only at hd;cases t:(Nat.beq c.b B.n&&Ql c.c) with
    |false=>rw[t] at hd;exact hd.lh.elim
    |true=>
     rw[t] at hd;simp only[atW] at t;obtain⟨Z,jQ,Wn,N⟩:=(T B c I).1 (at7 t.1);obtain⟨E,body,Q,oY,CD,X,Ec⟩:=Zu jQ;have J:Z.c=[]:=by
      have:=t.2;rw[<-N] at this;cases K:Z.c with
      |nil=>rfl
      |cons=>rw[K] at this;cases this
     refine⟨.func B.n,cap,B.n,args++cap,ht,?_,λ_ _=>trivial,?_⟩;rw[ht,ha];exact Ec (args++cap) w;refine agI Q oY λnZ cs L=>?_;have wE:nZ={nZ with mode:=u}:=by subst L;rfl
     rw[wE];have W:z7 φ A (args++cap).toList:=by grind
     have s:St P ⟨φ,h,w⟩ E.ntmps φ (nQ A) h [] {tmps:=(args++cap)++Array.replicate (E.ntmps- (args++cap).size) Go.undef,defers:=[]} w:=
      ⟨r,.cg φ h w,Zx W _,auW,by grind,g⟩
     rw[<-Wn,CD] at hd;have hw:=amV rs O Y (nZ:=nZ) (cs:=cs) body s C hd;intro bb kk VI vk;obtain⟨e',a',U,w',hq,jA⟩:=hw bb kk VI vk;refine⟨e',a',U,w',?_,jA⟩;obtain⟨out,m',u',b1,o,rfl,yg,lJ,ho⟩:=hq;have y:∀(p:aH)(l:Fr)(i:Hp),St P b1 E.ntmps p l i [] a' w'->Dn (pJ F rec jk f G ds (B7 m') i) oo->
      a'.defers=[]/\∃D,({{nZ with mode:=u} with mode:=u'}::cs:List Frame)={{nZ with mode:=u} with mode:=D}::cs/\∃v,(results E a'.tmps).run P w'=.ok v w'/\
       LeavesInM (FW none) 0 P fn tmps (λe w'=>∃co,Dn (G co) oo/\Nw b co e w') n (settle D) w':=by
      intro p l i j lN;have dA:=j.c.n;have z:=lJ.n.ba dA;refine⟨?_,u',rfl,?_⟩;have:=j.j;cases SY:a'.defers with
      |nil=>rfl
      |cons=>rw[SY] at this;exact this.elim
      rw[J] at X;obtain⟨x,v,S,_,_⟩:=Zw (k:=λ_=>True) (oo:=.a (.o []) i) j.r j.i X (show Dn (wz i l [] λ_=>True) _ from trivial);exact⟨v,S,PE T rs O Y vl ds j.r (st.ba (lJ.ba j.c)) j.g (V.bc z) (M.bc z) (yg.bc dA).settle lN⟩
     cases out with
     |c l i q=>
      obtain⟨rfl,p,j⟩:=ho;cases q with
      |cons=>exact o.lh.elim
      |nil=>exact y p l i j o
     |b l i q=>
      obtain⟨rfl,p,j⟩:=ho;cases q with
      |cons=>exact o.lh.elim
      |nil=>exact y p l i j o
     |a id l i q=>exact o.lh.elim
     |g id l i q=>exact o.lh.elim
     |d v l i q=>exact o.lh.elim
def aJ2(n m a:Nat):∀(k j:Nat),aeS n m a k j=match(List.range' j k).find? (λi=>Nat.beq (sub n i (i+a)) m) with|some i=>Int.ofNat i|none=>-1
 |0,_=>rfl
 |k+1,j=>by
  simp only[aeS,awD,awM];cases b:Nat.beq (sub n j (j+a)) m with
  |true=>simp[b]
  |false=>simp only[b,uV,cond];exact aJ2 n m a k (j+1)
def aMC{l n m:Nat}{s t:ByteArray}(c:kR l n s)(d:kR l m t):(s==t)=Nat.beq n m:=by
 rw[beq_toListBytes,Go.ByteArray.toList_eq,Go.ByteArray.toList_eq,avA,av9,iH];constructor;intro e;exact X9 l n m c.2 d.2 (by rw[<-c.1,d.1.symm,e]);rintro rfl;have g:s.data.toList.map (·.toNat)=t.data.toList.map (·.toNat):=by rw[c.1,d.1]
 exact(axz (f:=UInt8.toNat) (λa b h=>UInt8.toNat_inj.1 h)).1 g
def aJ3{p q:Nat->Bool}:∀{l:List Nat},(∀x∈l,p x=q x)->l.find? p=l.find? q
 |[],_=>rfl
 |x::l,h=>by simp only[awM,h x au0,aJ3 λy a=>h y (aug _ a)]
def aMD{l n c m:Nat}{s t:ByteArray}(f:kR l n s)(e:kR c m t)(h:1<=c):Lib.index s.data.toList t.data.toList=aeS n m c (Nat.sub (Nat.succ l) c) 0:=by
 rw[<-Lib.find_index s t (by rw[e.qx];exact h),aJ2];have d:(List.range (s.size+1- t.size)).find? (λi=>s.extract i (i+t.size)==t)=(List.range' 0 (Nat.sub (Nat.succ l) c)).find? (λi=>Nat.beq (sub n i (i+c)) m):=by
  rw[avQ,f.qx,e.qx];refine aJ3 λi hi=>?_;have g:i+c<=l:=by rw[aQi] at hi;omega
  have:=f.rc (a:=i) (b:=i+c) zo g;rw[aP8] at this;exact aMC this e
 rw[d];rfl
theorem am3{u:aM->Option CF}(T:Ed P u){rec:fJ}(rs:vo P rec)(O:mS P)(t:Fo P){i:aM}{c:CF}(E:u i=some c)(G:c.b=i.n)
 {args:List AV} {h:Hp} {k:aK->Prop} {oo:aK} {φ:aH} {w:World} {vs:Array Value} (r:R φ h w) (g:jq φ P) (z:z7 φ args vs.toList)
 (hd:Dn (rec c.a (nQ args) h [] (finish u rec c.c k)) oo):Enters P i.n/\Calls P i.n vs w λe w'=>∃co,Dn (k co) oo/\Nw ⟨φ,h,w⟩ co e w':=by
 obtain⟨M,I,C,K⟩:=(T i c E).1 G;obtain⟨fn,body,L,D,A,q,B⟩:=Zu I;refine⟨B,SO.1 (callsIn_of_wp_marks (F:=FW none) (n:=0) L D trivial ?_)⟩;have s:St P ⟨φ,h,w⟩ fn.ntmps φ (nQ args) h [] {tmps:=vs++Array.replicate (fn.ntmps- vs.size) Go.undef,defers:=[]} w:=
  ⟨r,.cg φ h w,Zx z _,auW,by grind,g⟩
 rw[<-C,A] at hd;refine wpIn_mono (rs.d none _ body _ φ _ h [] _ w _ oo (.inl rfl) s hd) ?_;rintro e a w' ⟨out,l,x⟩;rw[<-K] at l;cases out with
 |c o p j=>
  obtain⟨rfl,y,f⟩:=x;exact PE T rs O t q j f.r f.c f.g f.i f.j (m:=.a) rfl l
 |b o p j=>
  obtain⟨rfl,y,f⟩:=x;exact PE T rs O t q j f.r f.c f.g f.i f.j (m:=.a) rfl l
 |a id o p j=>exact l.lh.elim
 |g id o p j=>exact l.lh.elim
 |d v o p j=>
  obtain⟨J,y,rfl,H,f⟩:=x;exact PE T rs O t q j f.r f.c f.g f.i f.j (m:=.b v) ⟨J,rfl,H⟩ l
def adU{d:aM->Option CF}(T:Ed P d){rec:fJ}(rs:vo P rec)(O:mS P)(j:Fo P):zN P (aE d rec):=by
 intro i args h k oo φ w vs hd r g f;unfold aE at hd;cases b:d i with
 |none=>rw[b] at hd;exact hd.lh.elim
 |some c=>
  rw[b] at hd;simp only at hd;cases a:Nat.beq c.b i.n with
  |false=>
   rw[a] at hd;exact(T i c b).2 (λe=>by rw[e,av1] at a;cases a) args h k φ w vs hd r g f
  |true=>
   rw[a] at hd;have l:=at7 a;exact am3 T rs O j b l r g f hd
def am4{a:aM->Option CF}(T:Ed P a)(O:mS P)(b:Fo P)(D:Nz P):zN P (aE a (W a)):=
 adU T (agS (λ_ rs=>adU T rs O b) O D) O b
theorem BJ{g1 g2:CX->AV}:∀{l:List CX},(∀x∈l,g1 x=g2 x)->jc g1 l=jc g2 l
 |[],_=>rfl
 |x::l,h=>by have e:=BJ λy b=>h y (aug _ b);grind[jc]
theorem PG{g1 g2:CX->AV}{x:Option CX}(h:∀y∈oX x,g1 y=g2 y):uS g1 x=uS g2 x:=by
 cases x with
 |none=>rfl
 |some x=>grind[uS,oX]
theorem adV{g1 g2:CX->AV}:∀{ps:List (Nat×Nat×CX)}{l:List AV},(∀q∈ps,g1 q.2.2 =g2 q.2.2)->AI g1 l ps=AI g2 l ps
 |[],_,_=>rfl
 |(off,n,x)::r,l,h=>by have b:=h (off,n,x) zm;have hr:∀q∈r,g1 q.2.2 =g2 q.2.2 :=λq c=>h q qaa;simp[AI,b];split;congr 1;split;exact adV hr;rfl;rfl
theorem Wo{g1 g2:CX->AV}{rw len:Nat}:∀{ps:List (Nat×CX)}{t:N3 (List AV)},(∀q∈ps,g1 q.2 =g2 q.2)->wg rw len g1 ps t=wg rw len g2 ps t
 |[],_,_=>rfl
 |(j,x)::r,t,h=>by have b:=h (j,x) zm;have hr:∀q∈r,g1 q.2 =g2 q.2 :=λq c=>h q qaa;simp[wg,b];split;rw[Wo hr];rfl
theorem am5{c:CO}{f g:Fr}(h:∀x∈BZ c,x.ab f=x.ab g) (m:Hp):aQ c f m=aQ c g m:=by
 cases c
 case s z ps=>
  simp[aQ,FY];rw[adV (g1:=λx=>x.ab f) (g2:=λx=>x.ab g) λq k=>h _ (auR.2 ⟨q,k,rfl⟩)]
 case q el rw len z ps=>
  simp[aQ,FZ];rw[Wo (g1:=λx=>x.ab f) (g2:=λx=>x.ab g) λq k=>h _ (auR.2 ⟨q,k,rfl⟩)]
 case FG fn a b=>
  grind[BZ,aQ,BJ]
 case A fn l=>
  have i:jc (λx=>x.ab f) l=jc (λx=>x.ab g) l:=BJ λx d=>h x d;simp only[aQ,i]
 case min l=>
  have i:jc (λx=>x.ab f) l=jc (λx=>x.ab g) l:=BJ λx d=>h x d;simp only[aQ,i]
 case max l=>
  have i:jc (λx=>x.ab f) l=jc (λx=>x.ab g) l:=BJ λx d=>h x d;simp only[aQ,i]
 case F e l=>
  have i:jc (λx=>x.ab f) l=jc (λx=>x.ab g) l:=BJ λx d=>h x d;simp only[aQ,i]
 case K y l=>
  simp only[BZ,atZ] at h;simp[aQ];rw[h y (.inl rfl),BJ (g1:=λx=>x.ab f) (g2:=λx=>x.ab g) λx d=>h x (.inr d)]
 case IJ y l=>
  simp only[BZ,atZ] at h;simp[aQ];rw[h y (.inl rfl),BJ (g1:=λx=>x.ab f) (g2:=λx=>x.ab g) λx d=>h x (.inr d)]
 case D x a b=>
  simp only[BZ,atZ,auj] at h;simp[aQ];rw[h x (.inl rfl),PG (g1:=λx=>x.ab f) (g2:=λx=>x.ab g) λy j=>h y (.inr (.inl j)),PG (g1:=λx=>x.ab f) (g2:=λx=>x.ab g) λy j=>h y (.inr (.inr j))]
 case w rw n x a b=>
  simp only[BZ,atZ,auj] at h;simp[aQ];rw[h x (.inl rfl),PG (g1:=λx=>x.ab f) (g2:=λx=>x.ab g) λy j=>h y (.inr (.inl j)),PG (g1:=λx=>x.ab f) (g2:=λx=>x.ab g) λy j=>h y (.inr (.inr j))]
 all_goals
  simp_all[BZ,aQ]
theorem LG{c:CO}(b:AN c=true)(f:Fr)(m d:Hp):aQ c f m=aQ c f d:=by cases c<;>simp only[AN,at3] at b<;>simp only[aQ]
open Classical in
theorem tS(p q:Nat)(v:AV)(f:Fr)[Decidable (p=q)]:an p (fO q v f)=if p=q then v else an p f:=by grind[RM]
def am6{t:Nat}(_:t<512):gz t=t:=rfl
def am7(p:Nat):gz p=p:=rfl
theorem Wp{p q:Nat}:Qe p q=true <-> p=q:=iH
theorem am8{p:Nat}{l:List Nat}:Qg p l=true <-> p∈l:=by unfold Qg;rw[awE];constructor;grind[Wp];intro h;exact⟨p,h,Wp.2 rfl⟩
def Db(f:Fr):List Nat->Fr
 |[]=>Fr.xv
 |p::l=>fO p (an p f) (Db f l)
open Classical in
theorem PI(f:Fr)(p:Nat):∀l:List Nat,an p (Db f l)=if p∈l then an p f else .B
 |[]=>by rfl
 |q::l=>by simp[Db,tS,PI f p l];grind
theorem adW{x:CX}{p:Nat}:∀{l:List CX},x∈l->x=.t p->p∈F4 l
 |[],h,_=>by grind
 |y::l,h,e=>by rcases atZ.1 h with h|h;grind[F4];have:=adW h e;cases y<;>simp[F4,this]
section
variable {nt:Nat}{a:Act}
def xC(φ:aH)(f:Fr)(tmps:Array Value)(c:CI):Prop:=∀p∈xN c,aj φ (an p f) (tmps.getD p Go.undef)
def adX{c:CI}(b:xC φ f a.tmps c):iq φ (Db f (xN c)) a.tmps:=by
 classical
 refine⟨λt=>?_⟩;rw[PI];split;rename_i d;exact b _ d;simp only[aj]
def am9(c:CI):aQ c.b (Db f (xN c)) h=aQ c.b f h:=by
 classical
 refine am5 (λx b=>?_) h;cases x with
 |k v=>rfl
 |t p=>
  simp[CX.ab];rw[PI,if_pos];exact auj.2 (.inr (adW b rfl))
theorem ana(c:CI):jO c.a (Db f (xN c))=jO c.a f:=by grind[jO,PI,xN]
def Wq(O:mS P)(r:R φ h w)(g:jq φ P){aF:Array Oper}{o:Oper}{c:CI}(b:kq P nt aF o=some c)(d:xC φ f a.tmps c):
 Gw P φ h w ((execOp a.eval o).run P w) (aQ c.b f h):=by
 have:=O φ h w (Db f (xN c)) a o r g (adX d);unfold Good at this;rw[<-(wJ b).2.2.1,am9] at this;omega
theorem Ws(i:nt<=a.tmps.size){aF:Array Oper}{o:Oper}{c:CI}(k:kq P nt aF o=some c)(n:xC φ f a.tmps c){t:Bool}(e:jO c.a f=some t):
 Region.wanted o (yielded aF a.tmps)=t:=by
 rw[<-ana] at e;obtain⟨_,_,_,⟨m,b⟩|⟨j,bb,d,m,hj,p,q,b⟩⟩:=wJ k;grind[jO,Region.wanted];have l:=adX n;simp[jO] at e;have s:=l.Hn d q;have r:=aur p i;have g:a.tmps[d]? =some (a.tmps.getD d Go.undef):=by simp_all
 grind[Region.wanted,yielded,aj]
end
theorem Wt{φ ψ:aH}:∀(n:Nat)(x:AV)(v:Value),za n x=true->aj φ x v->aj ψ x v
 |0,_,_,h,_=>by simp[za] at h
 |n+1,x,v,h,d=>by
  have j:∀(l:List AV)(vs:List Value),l.all (za n)=true->z7 φ l vs->z7 ψ l vs:=by
   intro l;induction l with
   |nil=>grind[z7]
   |cons x l i=>
    intro vs h d;simp only[aw2,atW] at h;obtain⟨u,r,rfl,c,e⟩:=d;exact⟨u,r,rfl,Wt n x u h.1 c,i r h.2 e⟩
  cases x<;>simp only[za,at3,atW] at h
  case r f a b=>
   simp[aj] at d|-;grind
  case q t x=>
   obtain⟨y,rfl,g⟩:=d;exact⟨y,rfl,Wt n x y h g⟩
  case p l=>
   simp[aj] at d|-;grind
  case o l=>
   simp[aj] at d|-;grind
  all_goals grind[aj]
def Wu(o:AO):Prop:=o.gl=true/\∀(j:Nat)(x:AV),o.ip j=some x->Qf x=true
theorem adY(t:N3 (List AV)):∀(n k j:Nat),j<n->dY t (k+j)∈dw t n k
 |0,_,_,h=>zo
 |n+1,k,0,_=>by simp[dw]
 |n+1,k,j+1,h=>by refine aug _ ?_;have:=adY t n (Nat.succ k) j zo;grind
theorem adZ{o:AO}(h:F2 o=true):Wu o:=by
 cases o<;>simp only[F2,at3] at h
 case a el l=>
  refine⟨rfl,λj x c=>?_⟩;grind[AO.ip]
 case b el rw l5 fz t=>
  refine⟨rfl,λj x c=>?_⟩;simp only[AO.ip] at c;split at c;rename_i hj;have e:0<rw:=by grind
  have d:j/rw<l5:=auw qaa;have:=adY t l5 0 (j/rw) d;rw[aue] at this;exact auO.1 (auO.1 h _ this) x (aua c);grind
def Wv(k:Nat->AV):Prop:=∀(ψ a:aH)(z r:Nat)(v:Value),a.f r->a.a r=ψ.a z->a.c r=ψ.c z->a.g r=ψ.g z->aj ψ (k z) v->aj a (k r) v
theorem ad0{c:CO}{o:AO}{k:Nat->AV}(h:F3 c=some (o,k)):(∀f h,aQ c f h=alloc h o k)/\Wu o/\Wv k:=by
 have kp:Wv λi=>.a i 0:=by intro ψ w z r v hd g j n d;grind[aj]
 cases c<;>simp only[F3,reduceCtorEq] at h
 case r el l=>
  cases a:F2 (.a el l) with
  |false=>grind
  |true=>
   rw[a] at h;obtain⟨rfl,rfl⟩:=h;exact⟨λ_ _=>rfl,adZ a,kp⟩
 case q el rw len z ps=>
  cases b:ps.all λq=>Xb q.2 with
  |false=>grind
  |true=>
   rw[b] at h;split at h;rename_i t u;cases a:F2 (.b el rw len 0 t) with
   |false=>grind
   |true=>
    rw[a] at h;obtain⟨rfl,rfl⟩:=h;refine⟨λf m=>?_,adZ a,?_⟩;simp[aQ,FZ];rw[Wo (g1:=λx=>x.ab f) (g2:=λx=>x.ab Fr.xv) λq s=>?_,u];have:=auO.1 b q s;cases e:q.2 with
    |t p=>rw[e] at this;cases this
    |k v=>rfl
    intro ψ w z r v hd g j n d;simp[aj] at d|-;grind
   grind
structure Ww(w w':World):Prop where
 b:w.heap.size<=w'.heap.size
 a:∀c,c<w.heap.size->w'.heap[c]? =w.heap[c]?
 g:w'.os=w.os
 d:w'.output=w.output
 f:Tp w w'
def R.ext{φ:aH}{h:Hp}{w w':World}(r:R φ h w)(e:Ww w w'):R φ h w' where
 k:=r.k
 f:=λi=>by by_cases c:dH (h.ab i)=true;have g:=r.l i c;refine(r.f i).bc (.cg φ) ((r.k i).2 (uY c)) e.b (e.a _ g) λp m aD todo o j d n q=>?_;have b:=r.f i;rw[j] at b;obtain⟨_,_,a,_⟩:=b;exact⟨d,n,by rw[<-e.a _ a];omega,at2 _,λ_=>⟨id,λ_=>rfl,λ_ _ _ h=>h,by simp⟩⟩;cases s:h.ab i<;>simp_all[dH,kM]
 inj:=r.inj
 l:=λi hi=>aur (r.l i hi) e.b
def eS.ext{φ:aH}{h:Hp}{w w':World}(e:Ww w w'):eS φ h w φ w' h:=
 ⟨.cg φ,e.b,λc a _=>e.a c a,λi hi=>.inl ⟨i,hi,rfl⟩,e.g,e.d,e.f⟩
def R.AC{φ:aH}{h g:Hp}{w:World}(r:R φ h w)(e:∀i,g.ab i=h.ab i):R φ g w where
 k:=λi=>by rw[e];exact r.k i
 f:=λi=>by rw[e];exact r.f i
 inj:=λi j=>by rw[e,e];exact r.inj i j
 l:=λi=>by rw[e];exact r.l i
def eS.AC{φ ψ:aH}{h h' g:Hp}{w w':World}(s:eS φ h w ψ w' h')(e:∀i,g.ab i=h'.ab i):eS φ h w ψ w' g where
 n:=s.n
 l:=s.l
 f:=s.f
 o:=λi=>by rw[e];exact s.o i
 p:=s.p
 d:=s.d
 m:=s.m
def Fs(φ:aH)(h:Hp)(w:World)(b a:Nat)(o:AO)(k:Nat->AV)(v:Value):Prop:=
 ∃(ψ:aH) (z:Nat),ψ.a z=a/\qu ψ w z o/\aj ψ (k z) v/\b<=a/\a<w.heap.size/\∀i,dH (h.ab i)=true->φ.a i≠a
theorem qu.lL{ψ:aH}{w w':World}{z:Nat}{o:AO}(c:qu ψ w z o)(h:w'.heap[ψ.a z]? =w.heap[ψ.a z]?):qu ψ w' z o:=by obtain⟨wf,i,hr,a,d,j,e⟩:=c;exact⟨wf,i,λl=>by grind,a,d,by grind,e⟩
theorem Fs.GT{φ d:aH}{h h':Hp}{w w':World}{a b:Nat}{o:AO}{k:Nat->AV}{v:Value}(p:Fs φ h w a b o k v)(s:eS φ h w d w' h'):Fs d h' w' a b o k v:=by obtain⟨ψ,z,h0,f,g,l,c,m⟩:=p;subst h0;refine⟨ψ,z,rfl,f.lL (s.f _ c m),g,l,aur c s.l,λi hi e=>?_⟩;rcases s.o i hi with⟨j,hj,q⟩|n;grind;omega
def Hd(n:Nat):Hp:=⟨λi=>if i<n then .c else .g,n,[],λi h=>if_neg (axJ.2 h)⟩
def Ip{n:Nat}(i:Nat):(Hd n).ab i=.c/\i<n\/(Hd n).ab i=.g/\¬i<n:=by by_cases e:i<n;exact .inl ⟨if_pos e,e⟩;exact .inr ⟨if_neg e,e⟩
theorem anc{P:Program}{nt:Nat}{φ:aH}{a:Act}{w:World}(O:mS P)(g:jq φ P){aF:Array Oper}{o:Oper}{c:CI}(A:kq P nt aF o=some c)
 {e:AO} {k:Nat->AV} (C:F3 c.b=some (e,k)):∃m v w',(execOp a.eval o).run P w=.ok m w'/\M0 m v/\Ww w w'/\
  ∃(ψ:aH) (z:Nat),qu ψ w' z e/\aj ψ (k z) v/\w.heap.size<=ψ.a z/\ψ.a z<w'.heap.size:=by
 obtain⟨y,s,_⟩:=ad0 C
 let l:aH:=⟨λi=>i<P.globals.size,φ.a,φ.c,φ.g,φ.m,φ.k⟩
 have r:R l (Hd P.globals.size) w:=by refine⟨λi=>?_,λi=>?_,λi j hi=>?_,λi hi=>?_⟩;rcases Ip i with⟨b,d⟩|⟨b,d⟩;rw[b];exact⟨λ_=>rfl,λ_=>d⟩;rw[b];exact⟨λh=>absurd h d,λh=>by cases h⟩;rcases Ip i with⟨b,_⟩|⟨b,_⟩<;>rw[b]<;>trivial;rcases Ip i with⟨b,_⟩|⟨b,_⟩<;>rw[b] at hi<;>cases hi;rcases Ip i with⟨b,_⟩|⟨b,_⟩<;>rw[b] at hi<;>cases hi
 have gd:jq l P:=⟨g.1,λn b d=>⟨b,(g.2 n b d).2⟩⟩;have B:iq l Fr.xv a.tmps:=⟨λt=>by have:an (gz t) Fr.xv=.B:=rfl;grind[aj]⟩
 have q:=O l (Hd P.globals.size) w Fr.xv a o r gd B;unfold Good at q;rw[<-(wJ A).2.2.1,y] at q;obtain⟨m,v,w',ψ,b,d,u,st,hd⟩:=q;have p:∀j:Nat,((Hd P.globals.size).am e).ab j=if j=P.globals.size then e else(Hd P.globals.size).ab j:=λj=>Hp.ma ..
 have F:dH e=true:=by have:=s.1;cases e<;>first|rfl|cases this
 refine⟨m,v,w',b,d,⟨st.l,λcc x=>st.f cc x λi hi=>?_,st.p,st.d,st.m⟩,ψ,P.globals.size,?_,hd,?_,?_⟩;rcases Ip i with⟨f,_⟩|⟨f,_⟩<;>rw[f] at hi<;>cases hi;have:=u.f P.globals.size;rw[p,if_pos rfl] at this;have D:=s.1;cases e<;>first|exact this|cases D
 rcases st.o P.globals.size qaa with⟨j,hj,_⟩|E;rcases Ip j with⟨f,_⟩|⟨f,_⟩<;>rw[f] at hj<;>cases hj;omega;exact u.l P.globals.size qaa
theorem ane{φ:aH}{h:Hp}{w:World}{B n:Nat}{o:AO}{k:Nat->AV}{v:Value}(r:R φ h w)(M:jN (h.ab h.a)=true)(g:Wu o)(K:Wv k)(p:Fs φ h w B n o k v):
 ∃b:aH,R b (h.am o) w/\φ.l b/\aj b (k h.a) v/\
  (∀i,dH ((h.am o:Hp).ab i)=true->(dH (h.ab i)=true/\b.a i=φ.a i)\/b.a i=n):=by
 obtain⟨ψ,z,P,I,hd,O,Q,V⟩:=p;have a:∀j:Nat,(h.am o:Hp).ab j=if j=h.a then o else h.ab j:=λj=>by exact Hp.ma ..
 have s:dH o=true:=by have:=g.1;cases o<;>first|rfl|cases this
 have C:¬φ.f h.a:=λd=>by rw[(r.k _).1 d] at M;grind
 have le:φ.l (φ.iL h.a (ψ.a z) (ψ.c z) (ψ.g z)):=aH.sf C;have D:(φ.iL h.a (ψ.a z) (ψ.c z) (ψ.g z)).a h.a=ψ.a z:=by simp[aH.iL]
 have E:(φ.iL h.a (ψ.a z) (ψ.c z) (ψ.g z)).c h.a=ψ.c z:=by simp[aH.iL]
 have F:(φ.iL h.a (ψ.a z) (ψ.c z) (ψ.g z)).g h.a=ψ.g z:=by simp[aH.iL]
 have l:∀j,j≠h.a->(φ.iL h.a (ψ.a z) (ψ.c z) (ψ.g z)).a j=φ.a j:=λj hj=>by simp[aH.iL,hj]
 refine⟨φ.iL h.a (ψ.a z) (ψ.c z) (ψ.g z),⟨λi=>?_,λi=>?_,λi j hi hj e=>?_,λi hi=>?_⟩,le,K _ _ _ _ _ (.inl rfl) D E F hd,λi hi=>?_⟩;rw[a];by_cases e:i=h.a;rw[if_pos e];exact⟨λ_=>uY s,λ_=>.inl e⟩;rw[if_neg e,<-r.k i];simp[aH.iL,e];rw[a];by_cases e:i=h.a;subst e;rw[if_pos rfl];have key:qu (φ.iL h.a (ψ.a z) (ψ.c z) (ψ.g z)) w h.a o:=by obtain⟨wf,N,hr,y,H,q1,q2,q3,q4,q5,q6⟩:=I;refine⟨wf,λh=>by grind,λU=>by grind,y,H,by grind,by omega,by omega,λj x q=>?_,q5,by grind⟩;obtain⟨u,N,t⟩:=q4 j x q;exact⟨u,by grind,Wt 4 x u (g.2 j x q) t⟩
 have:=g.1;cases o<;>first|exact key|cases this
 rw[if_neg e];by_cases L:dH (h.ab i)=true;exact(r.f i).bc le ((r.k i).2 (uY L)) zl rfl λ_ m aD todo S _ A G J=>⟨A,G,J,at2 _,λ_=>⟨id,λ_=>rfl,λ_ _ _ hd=>nS le _ _ hd,by simp⟩⟩;cases T:h.ab i<;>simp_all[dH,kM];rw[a] at hi hj;by_cases c:i=h.a<;>by_cases f:j=h.a;omega;grind;grind;rw[if_neg c] at hi;rw[if_neg f] at hj;rw[l i c,l j f] at e;rw[a i,a j,if_neg c,if_neg f];exact r.inj i j hi hj e;rw[a] at hi;by_cases e:i=h.a;grind;rw[if_neg e] at hi;rw[l i e];exact r.l i hi;grind
theorem ad1{c:CO}{f:Fr}{i:Nat}(a:sF c f=some i):(∀h,∃s,aQ c f h=.a s)\/
 ∃off l,∀h,aQ c f h=(match setCells (h.ab i) off l with|some d=>.b undef (h.dT i d)|none=>.a "store"):=by
 cases c<;>simp only[sF,reduceCtorEq] at a
 case st n x v=>
  split at a;rename_i j off b;cases a;simp[aQ,FP,b];cases g:bQ (v.ab f) with
  |none=>grind
  |some l=>
   cases e:Nat.beq (gk l) n with
   |false=>simp_all
   |true=>exact .inr ⟨off,l,λh=>by grind⟩
  grind
theorem Dc(h:Hp)(i j:Nat)(o:AO)[Decidable (j=i)]:(h.dT i o).ab j=if j=i then o else h.ab j:=by grind[Hp.lj]
theorem anf{c1 c2:CO}{f:Fr}{i j:Nat}(t:sF c1 f=some i)(u:sF c2 f=some j)(y:i≠j){h g1 g2:Hp}{o p:AV}(c:aQ c1 f h=.b o g1)(b:aQ c2 f g1=.b p g2):
 o=undef/\p=undef/\∃g,aQ c2 f h=.b undef g/\∃n,aQ c1 f g=.b undef n/\∀k,n.ab k=g2.ab k:=by
 classical
 rcases ad1 t with l|⟨C,A,w⟩;obtain⟨s,v⟩:=l h;grind;rcases ad1 u with l|⟨D,B,x⟩;obtain⟨s,v⟩:=l g1;grind;rw[w] at c;split at c;rename_i a E;injection c with e d;subst d;rw[x] at b;have hj:(h.dT i a).ab j=h.ab j:=by simp_all[Dc,Ne.symm]
 rw[hj] at b;split at b;rename_i m z;injection b with q r;refine⟨e.symm,q.symm,h.dT j m,by grind,(h.dT j m).dT i a,?_,λk=>?_⟩;simp_all[Dc];grind[Dc];grind;grind
theorem ad2(B:List Nat)(i:Nat):∀(l:List Edge)(s:Nat),(l.foldl (λs e=>if Region.binds .any e then s|||(2^e.on|||B.getD e.on 0) else s) s).testBit i=true->
 s.testBit i=true\/∃e∈l,Region.binds .any e=true/\(e.on=i\/pG B i e.on=true)
 |[],s,h=>.inl h
 |e::l,s,h=>by simp only[aEd] at h;rcases ad2 B i l _ h with h|⟨b,d,a,c⟩;split at h;rename_i a;simp only[Nat.testBit_or,awq] at h;rcases h with h|h|h;grind;grind;exact .inr ⟨e,by simp,a,.inr h⟩;exact .inl h;exact .inr ⟨b,by simp[d],a,c⟩
theorem WA{B:List Nat}:∀{aF:List Oper}{k:Nat},DD B k aF=true->∀(j:Nat)(o:Oper),aF[j]? =some o->
 (∀e∈o.after,Region.binds .any e=true->e.on<k+j)/\B.getD (k+j) 0=Qh B o.after.toList
 |[],_,_,j,o,a=>by grind
 |x::l,k,h,j,o,a=>by
  simp only[DD,atW] at h;cases j with
  |zero=>
   simp at a;subst a;refine⟨λe c b=>?_,at7 h.1.2⟩;have:=auO.1 h.1.1 e (axn.2 c);rw[b] at this;exact au1 this
  |succ j=>
   have:=WA h.2 j o qaa;grind
def sy(aF:Array Oper)(listed:Array Bool):Prop:=∀(j:Nat)(a:Oper),aF[j]? =some a->listed.getD j false=true->∀e∈a.after,Region.binds .any e=true->listed.getD e.on false=true
theorem yR{B:List Nat}{aF:Array Oper}(n:DD B 0 aF.toList=true){listed:Array Bool}(o:sy aF listed):∀(j i:Nat)(a:Oper),aF[j]? =some a->
 (∀e∈a.after,Region.binds .any e=true->listed.getD e.on false=true)->pG B i j=true->listed.getD i false=true:=by
 intro j;induction j using Nat.strongRecOn with
 |_ j r=>
  intro i a hj hr b;obtain⟨f,g⟩:=WA n j a qaa;rw[aue] at f g;unfold pG at b;rw[g] at b;rcases ad2 B i _ _ b with h|⟨e,p,k,c⟩;grind;have m:=axn.1 p;have q:=hr e m k;rcases c with rfl|c;omega;cases d:aF[e.on]? with
  |none=>
   grind
  |some l=>exact r e.on (f e m k) i l d (o e.on l d q) c
end
section
open Go
variable {a:Act}{o:Oper}
theorem ang{s d e:TypeId}(r:R φ h w)(H:P.underlying s=some .string)(hd:P.underlying d=some (.slice e))(D:P.underlying e=some (.int .u8)){l n:Nat}{st:ByteArray}(B:kR l n st):
 k6 P φ h w (convert s d (.string st)) (BX h e (.y l n)):=by
 refine zH (λM=>?_) λ_=>jY;have G:=h.ui;have E:=au1 M;have m:=run_bytes_of_string (P:=P) w s d e st H hd D;have S:=B.qx;generalize k:Go.bytesRow st (grownCap w st.size 0 e)=A at m;generalize W:grownCap w st.size 0 e=g at m k;have O:st.size<=g:=by grind[grownCap_ge]
 have p:A.size=g:=by rw[<-k];unfold Go.bytesRow;simp_all
 have L:(w.drew.alloc (.cells A e (A.size,A.size+1))).heap[w.heap.size]? =some (.cells A e (A.size,A.size+1)):=avw;obtain⟨J,Z⟩:=Gs (el:=e) (rw:=1) zo zo (Nl (l:=l) (n:=n));have N:qu (φ.iL h.a w.heap.size 0 g) (w.drew.alloc (.cells A e (A.size,A.size+1))) h.a (jJ e 1 l (mg l n)):=by
  refine⟨J,(λh=>by cases h),(λh=>by cases h),A,(A.size,A.size+1),?_,?_,?_,λj x I=>?_,λj v t=>?_,λj i T U=>?_⟩;have C:(φ.iL h.a w.heap.size 0 g).a h.a=w.heap.size:=if_pos rfl;rw[C];exact L;simp[aH.iL,p];have:(jJ e 1 l (mg l n)).io=l*1:=rfl;grind[aH.iL];obtain⟨hj,y⟩:=Np (el:=e) (rw:=1) zo zo (Nl (l:=l) (n:=n)) j x I;have u:j<l:=zo;simp[if_pos u,atU] at y;subst y;obtain⟨b,X,Q⟩:=B.ab u;refine⟨.int .u8 b.toNat,?_,by simp[aj];grind⟩;have h0:(φ.iL h.a w.heap.size 0 g).c h.a=0:=if_pos rfl;rw[h0,aue,<-k];unfold Go.bytesRow;have:st.data[j]? =some b:=by
   have V:st[j]? =st.data[j]? :=by rfl
   grind
  grind;rw[<-k] at t;have F:=Array.mem_of_getElem? t;rcases Array.mem_append.1 F with i|i;obtain⟨b,_,rfl⟩:=Array.mem_map.1 i;rfl;have:=(Array.mem_replicate.1 i).2;subst this;rfl;omega
 obtain⟨K,q⟩:=MT (h':=h.am (jJ e 1 l (mg l n))) (w':=w.drew.alloc (.cells A e (A.size,A.size+1))) (n:=h.a) (o':=jJ e 1 l (mg l n)) (b:=w.heap.size) (s:=0) (z:=g) (qv:=none) (r.lL (Ck w)) G rfl zm
  (λj=>by rw[Hp.ma];rfl) (.inl rfl) zm zm (λc Y _=>by grind[MapKept.heap_alloc]) (λ_ _=>.inr rfl) N rfl rfl rfl
 refine⟨_,_,_,m,K,(eS.lL (Ck w)).ba q,?_⟩;simp_all[JU]
theorem anh{s d e:TypeId}(r:R φ h w)(c:P.underlying s=some .string)(hd:P.underlying d=some (.slice e))(b:P.underlying e=some (.int .u8)){x:AV}{v:Value}(g:aj φ x v):
 k6 P φ h w (convert s d v) (BX h e x):=by
 have key:∀(l n:Nat)(st:ByteArray),kR l n st->k6 P φ h w (convert s d (.string st)) (BX h e (.y l n)):=by grind[ang]
 cases x with
 |y l n=>
  grind[aj]
 |_=>exact jY
def LK{w:World}{b:Nat}{c:Array Value}{e:TypeId}{d:Nat×Nat}(g:w.heap[b]? =some (.cells c e d)):w.shape? b=some (e,c.size):=by simp[World.shape?,g]
def WB{b off:Nat}{c:Array Value}{e:TypeId}{d:Nat×Nat}(g:w.heap[b]? =some (.cells c e d)):(Conv.seenAt ⟨b,off,none⟩).run P w=.ok ⟨b,off,none⟩ w:=by simp[Conv.seenAt,viewAt,LK g]
def ad3{i:Nat}{el:Nat}{l:List AV}(r:R φ h w)(d:h.ab i=.a el l):φ.c i=0/\∃b c,w.heap[φ.a i]? =some (.cells b el c)/\b.size=l.length:=by have ok:=tW (i:=i) r (by rw[d];rfl);rw[d] at ok;obtain⟨b,c,g,j,_⟩:=ok.b;have e:=ok.f rfl;exact⟨e.1,b,c,g,by rw[j,e.2];rfl⟩
def ani{s d t:TypeId}{n:Nat}(r:R φ h w)(m:P.underlying s=some (.pointer t))(hd:P.underlying d=some .unsafePointer)(p:fI P t=some (n+1)){x:AV}{u:Value}(b:aj φ x u):
 dI P φ w (convert s d u) (Dz h t (n+1) x):=by
 unfold Dz;split;rename_i i off;split;rename_i el l j;cases e:(Nat.beq el t&&Nat.beq off 0&&Nat.beq (gk l) (n+1)) with
 |false=>trivial
 |true=>
  simp[atW,tR] at e;obtain⟨⟨rfl,rfl⟩,k⟩:=e;have q:=b;obtain⟨_,rfl⟩:=b;obtain⟨h0,v,y,c,g⟩:=ad3 r j;refine⟨_,?_,q⟩;rw[h0,aue];simp[convert,bZ m,bZ hd,Conv.unsafePointer,WB c,cellsIn,LK c,vb p,g,k]
 trivial;simp[aj] at b;exact⟨.pointer none,by simp_all[convert,bZ,Conv.unsafePointer],by rfl⟩;trivial
theorem anj{s d t:TypeId}{n:Nat}(r:R φ h w)(j:P.underlying s=some .unsafePointer)(hd:P.underlying d=some (.pointer t))(k:fI P t=some n)(m:liesAt P P.depth t 1 0 t 1=true){x:AV}{u:Value}(e:aj φ x u):
 dI P φ w (convert s d u) (Dz h t n x):=by
 unfold Dz;split;rename_i i off;split;rename_i el l v;cases g:(Nat.beq el t&&Nat.beq off 0&&Nat.beq (gk l) n) with
 |false=>trivial
 |true=>
  simp[atW,tR] at g;obtain⟨⟨rfl,rfl⟩,y⟩:=g;have A:=e;obtain⟨_,rfl⟩:=e;obtain⟨h0,p,C,b,q⟩:=ad3 r v;refine⟨_,?_,A⟩;rw[h0,aue];have B:P.cellsOf el=n:=by grind[fI,Program.cellsOf]
  by_cases z:n=0;subst z;simp[convert,bZ j,bZ hd,Conv.unsafePointer,WB b,vb k,variablesAt,LK b];have c:p.size/P.cellsOf el=1:=by rw[q,y,B];exact Nat.div_self zo
  simp[convert,bZ j,bZ hd,Conv.unsafePointer,WB b,vb k,variablesAt,LK b,c,m]
 trivial;simp[aj] at e;exact⟨.pointer none,by simp_all[convert,bZ,Conv.unsafePointer],by rfl⟩;trivial
theorem anl{x y:AV}{o:Nat}(h:qk x y=some o){u v:Value}(c:aj φ x u)(d:aj φ y v):
 (∃k m n,u=.int k m/\v=.int k n/\o=uQ m n)\/(∃s t,u=.string s/\v=.string t/\∃l n e n',kR l n s/\kR e n' t/\o=v8 l n e n'):=by
 unfold qk at h;split at h;cases h;simp[aj] at c d;grind;rename_i m n;cases h;refine .inl ⟨_,_,_,c,d,?_⟩;by_cases p:m=n;grind[Nat.beq_refl,RY];have i:Nat.beq m n=false:=by cases q:Nat.beq m n with|false=>rfl|true=>simp_all
 grind[je,Gx,Gy];rename_i k m j n;cases b:qh k j with
 |false=>grind
 |true=>
  rw[b] at h;cases h;obtain rfl:=AZ b;simp[aj] at c d;grind
 cases h;simp[aj] at c d;grind;rename_i m n;cases b:xK n m with
 |false=>grind
 |true=>
  rw[b] at h;cases h;obtain⟨x,rfl,c⟩:=c;have g:n<m:=by simpa[DS] using b
  exact .inl ⟨_,_,_,rfl,d,(Gy zo).symm⟩
 rename_i m n;cases b:xK m n with
 |false=>grind
 |true=>
  rw[b] at h;cases h;obtain⟨x,rfl,c⟩:=c;have g:m<n:=by simpa[DS] using b
  exact .inl ⟨_,_,_,rfl,d,(Gx zo).symm⟩
 grind
theorem anm{le:Bool}{x y:AV}{o:Nat}(h:qk x y=some o){u v:Value}(j:aj φ x u)(p:aj φ y v):
 ((if le then Builtin.min2 u v else Builtin.max2 u v).run P w)=.ok (if(cond le (Nat.ble o 1) (Nat.ble 1 o)) then u else v) w\/
 ((if le then Builtin.min2 u v else Builtin.max2 u v).run P w)=.ok (if(cond le (Nat.ble o 1) (Nat.ble 1 o)) then u else v) w/\True\/
 (u=v/\((if le then Builtin.min2 u v else Builtin.max2 u v).run P w)=.ok u w):=by
 rcases anl h j p with⟨k,m,n,rfl,rfl,rfl⟩|⟨s,t,rfl,rfl,l,n,b,n',d,g,rfl⟩;rcases axI m n with c|c|c;left;rw[Gx c];cases le with
 |true=>simp only[auo,Builtin.min2,Sem.run_pure];rw[if_neg zo];rfl
 |false=>simp_all[Builtin.max2]
 subst c;right;right;refine⟨rfl,?_⟩;simp_all[Builtin.min2,Builtin.max2];left;rw[Gy c];cases le with
 |true=>simp_all[Builtin.min2]
 |false=>simp only[at3,auM,Builtin.max2,Sem.run_pure];rw[if_neg zo];rfl
 left;have e:(if(cond le (Nat.ble (v8 l n b n') 1) (Nat.ble 1 (v8 l n b n'))) then Value.string s else Value.string t)=Value.string (if(cond le (Nat.ble (v8 l n b n') 1) (Nat.ble 1 (v8 l n b n'))) then s else t):=by grind
 rw[e];cases le with
 |true=>
  have:=R0 (P:=P) (w:=w) .leq (λo=>Nat.ble o 1) rfl 0 d g;have i:(Op.stringOp .leq s t).run P w=.ok (.bool (Nat.ble (v8 l n b n') 1)) w:=by grind[binOp]
  simp_all[Builtin.min2,asBool]
 |false=>
  have:=R0 (P:=P) (w:=w) .geq (λo=>Nat.ble 1 o) rfl 0 d g;have i:(Op.stringOp .geq s t).run P w=.ok (.bool (Nat.ble 1 (v8 l n b n'))) w:=by grind[binOp]
  simp_all[Builtin.max2,asBool]
theorem WD{le:Bool}:∀(l:List AV)(vs:List Value){x:AV}{u:Value},aj φ x u->z7 φ l vs->dI P φ w (vs.foldlM (if le then Builtin.min2 else Builtin.max2) u) (wq le x l)
 |[],vs,x,u,g,d=>by subst d;exact⟨u,rfl,g⟩
 |y::l,vs,x,u,g,d=>by
  obtain⟨v,r,rfl,m,hr⟩:=d;simp[wq];cases k:qk x y with
  |none=>trivial
  |some o=>
   simp only[];have key:∃z,((if le then Builtin.min2 u v else Builtin.max2 u v).run P w)=.ok z w/\aj φ (cond (cond le (Nat.ble o 1) (Nat.ble 1 o)) x y) z:=by rcases anm (P:=P) (w:=w) (le:=le) k g m with c|c|⟨h0,c⟩;grind;grind;grind
   obtain⟨z,t,p⟩:=key;have b:=WD (le:=le) l r p hr;have e:(if le then Builtin.min2 else Builtin.max2) u v=(if le then Builtin.min2 u v else Builtin.max2 u v):=by grind
   cases i:wq le (cond (cond le (Nat.ble o 1) (Nat.ble 1 o)) x y) l with
   |v q=>
    rw[i] at b;obtain⟨n,c,j⟩:=b;refine⟨n,?_,j⟩;simp_all
   |a s=>trivial
   |_=>rw[i] at b;exact b.elim
theorem R.rE{w':World}{b:Nat}(r:R φ h w)(p:∀i,dH (h.ab i)=true->φ.a i≠b) (j:w'.heap.size=w.heap.size) (q:∀c,c≠b->w'.heap[c]? =w.heap[c]?)
 (y:∀d g,w'.heap[b]? ≠some (.map d g)):R φ h w' where
 k:=r.k
 f:=λi=>by by_cases n:dH (h.ab i)=true;refine(r.f i).bc (.cg φ) ((r.k i).2 (uY n)) (avp j.symm) (q _ (p i n)) λt m aD todo s u d g v=>?_;by_cases e:φ.a m=b;grind;exact⟨d,g,by grind,at2 _,λ_=>⟨id,λ_=>rfl,λ_ _ _ h=>h,by simp⟩⟩;cases x:h.ab i<;>simp_all[dH,kM]
 inj:=r.inj
 l:=λi hi=>by rw[j];exact r.l i hi
theorem ad4:∀(l:List Nat)(b off:Nat)(e:ByteArray),(∀j c,l[j]? =some c->w.cell? ⟨b,off+j,none⟩=some (.int .u8 (Int.ofNat c)))->
 (loadBytes ⟨b,off,none⟩ e l.length).run P w=.ok ((l.map Int.ofNat).foldl (λr n=>r.push (UInt8.ofNat n.toNat)) e) w
 |[],_,_,_,_=>rfl
 |c::l,b,off,e,h=>by
  have h0:=h 0 c rfl;simp[atX,loadBytes,Sem.run_bind,run_load,Result.andThen];rw[xV];have g:=ad4 l b (off+1) (e.push (Int.ofNat c).toNat.toUInt8) λj d hj=>by have:=h (j+1) d qaa;grind
  grind
theorem ann{b off n:Nat}{d:Array Value}{e:TypeId}{j:Nat×Nat}(l:w.heap[b]? =some (.cells d e j))(k:n≠0):
 (w.freeze ⟨b,off,none⟩ n).heap.size=w.heap.size/\(∀c,c≠b->(w.freeze ⟨b,off,none⟩ n).heap[c]? =w.heap[c]?)/\(∀g i,(w.freeze ⟨b,off,none⟩ n).heap[b]? ≠some (.map g i))/\
  (w.freeze ⟨b,off,none⟩ n).os=w.os/\(w.freeze ⟨b,off,none⟩ n).output=w.output/\Tp w (w.freeze ⟨b,off,none⟩ n):=by
 have e:Tp w (w.freeze ⟨b,off,none⟩ n):=by unfold World.freeze;rw[if_neg k];exact⟨rfl,at2 _⟩
 refine⟨?_,?_,?_,?_,?_,e⟩<;>unfold World.freeze<;>grind
theorem ano{E lt ty u:TypeId}(r:R φ h w)(hp:P.underlying E=some (.pointer u))(hz:fI P u=some 1)(yh:sameLayout P P.depth u u=true){x y:AV}{v z:Value}(p:aj φ x v)(hy:aj φ y z):
 k6 P φ h w (Builtin.unsafeString_ #[E,lt] ty #[v,z]) (AL h u x y):=by
 unfold AL;cases Z:mM y with
 |none=>exact jY
 |some n=>
  obtain⟨k,rfl⟩:=tU hy Z;cases n with
  |zero=>
   have d:aj φ (.y 0 0) (.string .empty):=by exact⟨_,rfl,by simpa[cO] using MW .empty [] rfl⟩
   simp;split;subst p;exact⟨.string .empty,w,rfl,d,.cg w⟩;obtain⟨_,rfl⟩:=p;exact⟨.string .empty,w,rfl,d,.cg w⟩;exact jY
  |succ n=>
   simp only[];split;rename_i i off;split;rename_i el nN l5 fz t b;refine zH (λJ=>?_) λ_=>jY;rw[iH] at J;subst J;split;rename_i rs A;split;rename_i l Y;have rB:n+1<=1152921504606846976:=by have F:=(tW (i:=i) r (by rw[b];rfl)).g;rw[b] at F;have B:=(qt A).1;simp at B;have:=F.2.1;grind
   rw[<-b] at A;obtain⟨vs,v1,v2,_,v4⟩:=Nk r A;obtain⟨U,e2⟩:=Zm Y;subst U;obtain⟨Q,b2⟩:=agB v2 v1;simp only[aj] at p;obtain⟨O,rfl⟩:=p;have V:(h.ab i).gl=true:=by rw[b];rfl
   have ok:=tW r V;obtain⟨q,W,q1,q2,q3,q4,q5,q6⟩:=ok.b;rw[b] at q1;change w.heap[φ.a i]? =some (.cells q el W) at q1;have nU:∀j c,l[j]? =some c->w.cell? ⟨φ.a i,φ.c i+off+j,none⟩=some (.int .u8 (Int.ofNat c)):=λj c hj=>by grind
   have m:φ.c i+off+(n+1)<=q.size:=by omega
   have I:P.cellsOf el=1:=by grind[fI,Program.cellsOf]
   have N:liesAt P P.depth el q.size (φ.c i+off) el (n+1)=true:=by unfold Program.depth at yh|-;simp[liesAt,awq];left;unfold Program.depth;simp[rowAt,I,axW,axV,av8];grind
   have K:=ad4 (P:=P) (w:=w) l (φ.a i) (φ.c i+off) .empty nU;rw[Q] at K;obtain⟨G,H,f3,f4,f5,f6⟩:=ann (off:=φ.c i+off) (n:=n+1) q1 zo;have T:(Builtin.unsafeString_ #[E,lt] ty #[.pointer (some ⟨φ.a i,φ.c i+off,none⟩),.int k (Int.ofNat (n+1))]).run P w=
    .ok (.string ((l.map Int.ofNat).foldl (λr n=>r.push (UInt8.ofNat n.toNat)) .empty)) (w.freeze ⟨φ.a i,φ.c i+off,none⟩ (n+1)):=by
    have M:¬(Int.ofNat (n+1)>IntKind.i64.max):=by
     have:IntKind.i64.max=9223372036854775807:=by rfl
     grind
    have s:¬(Int.ofNat (n+1)<0):=by grind
    have D:¬(Int.ofNat (n+1)=0):=by grind
    have C:(Int.ofNat (n+1)).toNat=n+1:=rfl;change Sem.run P (Bind.bind (asInt (Value.int k (Int.ofNat (n+1)))) _) w=_;rw[Sem.run_bind,show(asInt (Value.int k (Int.ofNat (n+1)))).run P w=.ok (Int.ofNat (n+1)) w from rfl];simp only[Result.andThen];simp only[awy,avk];rw[if_neg s,if_neg M,if_neg D];simp only[Sem.run_bind,Sem.run_pure,Result.andThen,elemOf,bZ hp,variablesAt,run_program,run_shape,LK q1,I,axW,C,N,auo,K,run_freeze,Sem.run_bind,Sem.run_pure,Result.andThen]
   obtain⟨ψ,le,r1,L⟩:=r.Yf (g:=h.dT i .c) λj=>by grind[Dc]
   have jK:∀j,dH ((h.dT i .c).ab j)=true->ψ.a j≠φ.a i:=λj hj e=>by
    classical
    obtain⟨B,X⟩:=L j hj;rw[X] at e;have:=r.UV B (by rw[b];rfl) e;subst this;rw[Dc,if_pos rfl] at hj;cases hj
   refine⟨_,_,ψ,T,r1.rE jK G H f3,?_,?_⟩;refine⟨le,avp G.symm,λc hc S=>H c (Ne.symm (S i (by rw[b];rfl))),λj hj=>?_,f4,f5,f6⟩;grind;exact⟨_,rfl,by grind[agC]⟩;exact jY;exact jY;exact jY;exact jY
def ad5(n c:Nat):∀(k j:Nat),DC n c k j=match(List.range' j k).find? (λi=>Nat.beq (lF n i) c) with|some i=>Int.ofNat i|none=>-1
 |0,_=>rfl
 |k+1,j=>by
  simp[DC,awD,awM];cases b:Nat.beq (lF n j) c with
  |true=>rfl
  |false=>exact ad5 n c k (j+1)
def ad6{p q:Nat->Bool}:∀{l:List Nat},(∀x∈l,p x=q x)->l.find? p=l.find? q
 |[],_=>rfl
 |x::l,h=>by simp only[awM,h x au0,ad6 λy b=>h y (aug _ b)]
theorem anq{l n c:Nat}{s:ByteArray}(d:kR l n s)(m:c<=255):firstIdx s (Int.ofNat c).toNat.toUInt8=DC n c l 0:=by
 rw[ad5];unfold firstIdx;rw[d.qx,avQ];rw[ad6 (q:=λi=>Nat.beq (lF n i) c) λi hi=>?_];rfl;have j:i<l:=by grind
 obtain⟨b,k,g⟩:=d.ab j;have e:s[i]! =b:=by grind
 rw[e,avA,av9,iH,<-g,<-UInt8.toNat_inj];grind[UInt8.toNat_ofNat']
theorem ad7:∀(x y:List UInt8),Lib.compareBytes x y=if Op.bytesLess x y then-1 else if x=y then 0 else 1
 |[],[]=>rfl
 |[],b::y=>by rfl
 |a::x,[]=>by rfl
 |a::x,b::y=>by unfold Lib.compareBytes;simp[Op.bytesLess];rw[ad7 x y];grind
theorem Ft{fn:Func}{N:String}{e:Array Value->Sem Value}(m:fn.name=N)(n:fn.origin= "")(b:(Extern.allGenericRows.lookup N).isNone=true)(c:(Extern.allTypedRows.lookup N).isNone=true)(l:Extern.allRows.lookup N=some e)
 (d:(Extern.allNextRows.lookup N).isNone=true):Extern.find fn=some e/\Extern.findNext fn=none:=by
 have g:=awe.1 b;have i:=awe.1 c;have j:=awe.1 d;have k:Extern.allNextRows.lookup ""=none:=by rfl
 grind[Extern.find,Extern.findNext]
def Fu{g:Nat}{fn:Func}{vs:Array Value}{e:Array Value->Sem Value}(j:P.funcs[g]? =some fn)(k:(fn.name== "runtime.NumGoroutine")=false)(i:fn.body.isNone=true)(b:Extern.find fn=some e/\Extern.findNext fn=none)
 {x:OR} (c:dI P φ w (e vs) x):Gw P φ h w ((callFunc g vs).run P w) x:=by
 rw[run_callFunc_extern j k i b.2 b.1];cases x with
 |v y=>
  obtain⟨v,l,d⟩:=c;exact⟨.value v,v,w,by simp_all,.inl rfl,d,.cg w⟩
 |a s=>trivial
 |_=>exact c.elim
theorem anr{g:Nat}{fn:Func}{l:List AV}{vs:List Value}(p:P.funcs[g]? =some fn)(r:(fn.name== "runtime.NumGoroutine")=false)(m:fn.body.isNone=true)(q:fn.origin= "")(j:z7 φ l vs):
 Gw P φ h w ((callFunc g vs.toArray).run P w) (qo (Mx fn.name) l):=by
 unfold Mx;split
 ·rename_i k;have d:fn.name= "internal/bytealg.IndexByteString":=by grind
  have i:=Ft d q qab qab (e:=Extern.BytealgIndexByte.indexByte) qab qab;unfold qo;split
  case h_1=>
   rename_i st n c _;obtain⟨_,_,rfl,⟨s,rfl,u⟩,_,_,rfl,rfl,rfl⟩:=j;refine Fu p r m i ?_;cases A:Nat.ble c 255 with
   |false=>trivial
   |true=>
    exact⟨_,run_indexByte_string s (Int.ofNat c) w,by grind[aj,anq,Nat.le_of_ble_eq_true]⟩
  all_goals first|trivial|(rename_i b;cases b)
 ·split
  ·rename_i k;have d:fn.name= "internal/bytealg.abigen_runtime_cmpstring":=by grind
   have i:=Ft d q qab qab (e:=Extern.BytealgCompare.compare) qab qab;unfold qo;split
   case h_2=>
    rename_i B D C E _;obtain⟨_,_,rfl,⟨s,rfl,u⟩,_,_,rfl,⟨t,rfl,y⟩,rfl⟩:=j;refine Fu p r m i ?_;refine⟨_,Lib.run_compareString s t w,?_⟩;simp[aj];rw[ad7,Yo u y,Go.ByteArray.toList_eq,Go.ByteArray.toList_eq];grind
   all_goals first|trivial|(rename_i b;cases b)
  ·split
   ·rename_i k;have d:fn.name= "internal/abi.NoEscape":=by simpa using k
    have i:=Ft d q qad qad (e:=Extern.AbiNoEscape.same) qad qad;unfold qo;split
    case h_3=>
     rename_i x _;simp only[z7] at j;obtain⟨v,_,rfl,z,rfl⟩:=j;exact Fu p r m i ⟨v,rfl,z⟩
    all_goals first|trivial|(rename_i b;cases b)
   ·split
    ·rename_i k;have d:fn.name= "internal/strconv.float64frombits":=by simpa using k
     have i:=Ft d q qad qad (e:=Extern.MathFloatBits.float64frombits) qad qad;unfold qo;split
     case h_4=>
      rename_i n _;simp only[z7,aj] at j;obtain⟨_,_,rfl,rfl,rfl⟩:=j;exact Fu p r m i ⟨.float .f64 n.toNat,rfl,by simp only[aj]⟩
     all_goals first|trivial|(rename_i b;cases b)
    ·split
     ·rename_i k;have d:fn.name= "internal/strconv.float32frombits":=by simpa using k
      have i:=Ft d q qad qad (e:=Extern.MathFloatBits.float32frombits) qad qad;unfold qo;split
      case h_5=>
       rename_i n _;simp only[z7,aj] at j;obtain⟨_,_,rfl,rfl,rfl⟩:=j;exact Fu p r m i ⟨.float .f32 n.toNat,rfl,by simp only[aj]⟩
      all_goals first|trivial|(rename_i b;cases b)
     ·split
      ·rename_i k;have d:fn.name= "math.Float64frombits":=by simpa using k
       have i:=Ft d q qad qad (e:=Extern.MathFloatBits.float64frombits) qad qad;unfold qo;split
       case h_4=>
        rename_i n _;simp only[z7,aj] at j;obtain⟨_,_,rfl,rfl,rfl⟩:=j;exact Fu p r m i ⟨.float .f64 n.toNat,rfl,by simp only[aj]⟩
       all_goals first|trivial|(rename_i b;cases b)
      ·split
       ·rename_i k;have d:fn.name= "math.Float64bits":=by simpa using k
        have i:=Ft d q qad qad (e:=Extern.MathFloatBits.float64bits) qad qad;unfold qo;split
        case h_6=>
         rename_i n _;simp only[z7,aj] at j;obtain⟨_,_,rfl,rfl,rfl⟩:=j;exact Fu p r m i ⟨.int .u64 n,rfl,by simp only[aj];rfl⟩
        all_goals first|trivial|(rename_i b;cases b)
       ·unfold qo;split
        all_goals first|trivial|(rename_i b;cases b)
def PM{c:Option CX}{x:Option Operand}(h:Yj φ f a.eval c x):Cf φ (uS (λx=>x.ab f) c) (x.map a.eval):=by cases c<;>cases x<;>first|exact h|trivial
theorem ans{b:BinOp}(c:b≠.eql/\b≠.neq)(t:TypeId)(x y:Operand)(u v:Value):(do eqGuard b t x y u v;binOp b t u v:Sem Value).run P w=(binOp b t u v).run P w:=by cases b<;>first|rfl|grind|grind
def dI.congr{s s':Sem Value}{x:OR}(h:dI P φ w s x)(e:s'.run P w=s.run P w):dI P φ w s' x:=by cases x<;>first|(obtain⟨v,b,c⟩:=h;exact⟨v,e.trans b,c⟩)|exact h
def tI{b:BinOp}{t ty:TypeId}{x y:Operand}{co:CO}(d:o.op=.binOp b t x y ty)(c:b≠.eql/\b≠.neq)(e:dI P φ w (binOp b t (a.eval x) (a.eval y)) (aQ co f h)):Good P φ h w f a o co:=
 iO (s:=do eqGuard b t x y (a.eval x) (a.eval y);binOp b t (a.eval x) (a.eval y)) (by simp[execOp,d]) (e.congr (ans c t x y _ _))
theorem ant(G:jq φ P)(g:iq φ f a.tmps){b:BinOp}{t ty:TypeId}{x y:Operand}(i:o.op=.binOp b t x y ty):Good P φ h w f a o (F8 P b t x y):=by
 unfold F8;cases b<;>simp only[]
 case add=>exact kA G g λc d e hd=>tI i ⟨by simp,by simp⟩ (afo t e hd)
 case sub=>exact kA G g λc d e hd=>tI i ⟨by simp,by simp⟩ (afp t e hd)
 case mul=>exact kA G g λc d e hd=>tI i ⟨by simp,by simp⟩ (afq t e hd)
 case quo=>exact kA G g λc d e hd=>tI i ⟨by simp,by simp⟩ (afs t e hd)
 case rem=>exact kA G g λc d e hd=>tI i ⟨by simp,by simp⟩ (afu t e hd)
 case and=>exact kA G g λc d e hd=>tI i ⟨by simp,by simp⟩ (M6 (.inl ⟨rfl,rfl⟩) t e hd)
 case or=>exact kA G g λc d e hd=>tI i ⟨by simp,by simp⟩ (M6 (.inr (.inl ⟨rfl,rfl⟩)) t e hd)
 case xor=>exact cy
 case andNot=>exact kA G g λc d e hd=>tI i ⟨by simp,by simp⟩ (M6 (.inr (.inr (.inr ⟨rfl,rfl⟩))) t e hd)
 case shl=>exact kA G g λc d e hd=>tI i ⟨by simp,by simp⟩ (afv t e hd)
 case shr=>exact kA G g λc d e hd=>tI i ⟨by simp,by simp⟩ (afw t e hd)
 case lss=>exact kA G g λc d e hd=>tI i ⟨by simp,by simp⟩ (M7 .lss _ rfl t e hd)
 case leq=>exact kA G g λc d e hd=>tI i ⟨by simp,by simp⟩ (M7 .leq _ rfl t e hd)
 case gtr=>exact kA G g λc d e hd=>tI i ⟨by simp,by simp⟩ (M7 .gtr _ rfl t e hd)
 case geq=>exact kA G g λc d e hd=>tI i ⟨by simp,by simp⟩ (M7 .geq _ rfl t e hd)
 case eql=>
  cases l:B1 P t x y with
  |none=>exact cy
  |some k=>
   refine kA G g λc d e hd=>iO (s:=do eqGuard .eql t x y (a.eval x) (a.eval y);binOp .eql t (a.eval x) (a.eval y)) (by simp[execOp,i]) ?_;simp[aQ,Dv];cases j:cJ k (c.ab f) (d.ab f) with
   |none=>trivial
   |some r=>exact⟨_,Yx (.inl ⟨rfl,rfl⟩) l j e hd,by rfl⟩
 case neq=>
  cases l:B1 P t x y with
  |none=>exact cy
  |some k=>
   refine kA G g λc d e hd=>iO (s:=do eqGuard .neq t x y (a.eval x) (a.eval y);binOp .neq t (a.eval x) (a.eval y)) (by simp[execOp,i]) ?_;simp[aQ,Mo];cases j:cJ k (c.ab f) (d.ab f) with
   |none=>trivial
   |some r=>exact⟨_,Yx (.inr ⟨rfl,rfl⟩) l j e hd,by rfl⟩
theorem anu(G:jq φ P)(m:iq φ f a.tmps)(r:R φ h w){s d:TypeId}{x:Operand}(v:o.op=.convert s d x):Good P φ h w f a o (F9 P s d x):=by
 have l:execOp a.eval o=(do pure (.value (<-convert s d (a.eval x)))):=by simp[execOp,v]
 unfold F9;split;rename_i i k b g;exact gY G m λc j=>iO l (afF b g j);rename_i i k b g;exact gY G m λc j=>iO l (afG b g j);rename_i i k b g;exact gY G m λc j=>iO l (afH b g j);rename_i e b g;split;rename_i p q;exact gY G m λc j=>vf l (anh r b g p j);exact cy;rename_i t b g;split;rename_i n p;exact gY G m λc j=>iO l (ani r b g p j);exact cy;rename_i u b g;split;rename_i n p;split;rename_i q;exact gY G m λc j=>iO l (anj r b g p q j);exact cy;exact cy;exact cy
theorem ad8{b:EK}{i m:Nat}{aD:Nat}{todo:List AV}{c:Nat}{x:AV}(j:todo[c]? =some x):∀(n c0:Nat),c0<=c->c<c0+n->IS b h i m aD (todo.eraseIdx c) x∈AK b h i m aD todo n c0
 |0,c0,d,g=>zo
 |n+1,c0,d,g=>by simp[AK];by_cases e:c0=c;simp_all[Y2];have k:IS b h i m aD (todo.eraseIdx c) x∈AK b h i m aD todo n (Nat.succ c0):=ad8 j n (Nat.succ c0) zo zo;grind
theorem anv{x:AV}{u:Value}{ty:TypeId}(r:R φ h w)(y:aj φ x u):k6 P φ h w (Instr.next u false ty) (BV h x false):=by
 unfold BV;split;rename_i i off;refine zH (λp=>?_) λ_=>jY;rw[iH] at p;subst p;obtain⟨hd,rfl⟩:=y;split;rename_i q m aD todo C s;simp;split;rename_i D B t;refine zH (λl=>?_) λ_=>jY;rw[iH] at l;subst l;have j:=agi (P:=P) (ty:=ty) r s t;have n:∀v z,aj φ wm (.tuple #[.bool true,v,z]):=λv z=>by refine⟨_,rfl,qS.2 ⟨by rfl,qS.2 ⟨by simp only[aj],qS.2 ⟨by simp only[aj],sJ⟩⟩⟩⟩
 split;rcases j with⟨_,b⟩|⟨c,x,v,z,w',k,_⟩;exact⟨_,w,b,by exact⟨_,rfl,qS.2 ⟨by rfl,sJ⟩⟩,.cg w⟩;grind;rename_i e;rcases j with⟨h0,_⟩|⟨c,x,v,z,w',k,g,b,d⟩;grind;have A:c=0:=by grind
 subst A;simp at g;subst g;exact⟨_,w',φ,b,d.1,d.2,n v z⟩;rcases j with⟨h0,_⟩|⟨c,x,v,z,w',k,g,b,d⟩;grind;exact⟨_,w',φ,IS q h i m aD (todo.eraseIdx c) x,ad8 g _ 0 (auz _) (by rw[tR];omega),b,d.1,d.2,n v z⟩;exact jY;exact jY;exact jY
def anw{s:Sem Value}{x:AV}:k6 P φ h w s (BV h x true):=by unfold BV;split;refine zH (λ_=>?_) λ_=>jY;split<;>exact jY;exact jY
def anx(G:jq φ P)(e:iq φ f a.tmps)(r:R φ h w){x:Operand}{s:Bool}(g:o.op=.next x s):Good P φ h w f a o (ap P (λx=>.IF x s) x):=by
 have d:execOp a.eval o=(do pure (.value (<-Instr.next (a.eval x) s o.type))):=by simp[execOp,g]
 refine gY G e λc b=>vf d ?_;cases s with
 |true=>exact anw
 |false=>exact anv r b
theorem anz(G:jq φ P)(m:iq φ f a.tmps)(r:R φ h w){t u e:TypeId}{b:TypeDesc}{i:TypeInfo}{z:List AV}{s:Nat}{x y:Operand}(A:P.underlying t=some (.slice e))(B:P.underlying u=some b)(E:DJ b=true)
 (hi:P.info? e=some i) (v:i.size=s+1) (D:rO P e=some z) (n:gk z=s+1) (l:execOp a.eval o=(do pure (.value (<-Builtin.append_ #[t,u] o.type #[a.eval x,a.eval y])))):Good P φ h w f a o (jm P (.o e (s+1) i.bytes) x y):=by
 have j:(∃k,b=.slice k)\/b=.string:=by cases b<;>first|exact .inl ⟨_,rfl⟩|exact .inr rfl|grind[DJ]
 have g:z.length=i.size:=by grind[tR]
 refine kA G m λc d p hd=>vf l ?_;simp[aQ];cases C:c.ab f with
 |h=>
  grind[aj,agt]
 |c q off nN len cap ex=>grind[agy]
 |_=>
  grind[kJ,jY]
end
end Yv
namespace Go.Proofs
open Go.Shelf
def shR:Ren where
 f:=fun
  |143=>38
  |144=>21
  |219=>72
  |217=>78
  |225=>106
  |224=>107
  |267=>108
  |266=>111
  |314=>133
  |157=>44
  |199=>76
  |229=>75
  |261=>109
  |311=>134
  |312=>135
  |n=>n
 t:=fun
  |31=>53
  |40=>123
  |46=>152
  |49=>23
  |51=>156
  |119=>121
  |141=>158
  |152=>153
  |154=>155
  |193=>181
  |194=>182
  |196=>184
  |198=>186
  |201=>189
  |226=>216
  |227=>217
  |146=>179
  |n=>n
 g:=fun
  |0=>1
  |1=>0
  |6=>2
  |n=>n
def aIN:Lays.n157 Tryz.prog shR where
 mixed:=by rfl
 f157:=Tryz.func44.trans (by rfl)
 f199:=Tryz.func76.trans (by rfl)
 f229:=Tryz.func75.trans (by rfl)
 f261:=Tryz.func109.trans (by rfl)
 f311:=Tryz.func134.trans (by rfl)
 f312:=Tryz.func135.trans (by rfl)
 t0:=Tryz.underlying0
 a0:=Tryz.isAgg0
 z0:=Tryz.sizeOf0
 v0:=Tryz.zeroValue0
 t3:=Tryz.underlying3
 a3:=Tryz.isAgg3
 z3:=Tryz.sizeOf3
 v3:=Tryz.zeroValue3
 t4:=Tryz.underlying4
 a4:=Tryz.isAgg4
 z4:=Tryz.sizeOf4
 v4:=Tryz.zeroValue4
 t5:=Tryz.underlying5
 a5:=Tryz.isAgg5
 z5:=Tryz.sizeOf5
 v5:=Tryz.zeroValue5
 t9:=Tryz.underlying9
 a9:=Tryz.isAgg9
 z9:=Tryz.sizeOf9
 v9:=Tryz.zeroValue9
 t21:=Tryz.underlying21
 a21:=Tryz.isAgg21
 z21:=Tryz.sizeOf21
 v21:=Tryz.zeroValue21
 t31:=Tryz.underlying53
 a31:=Tryz.isAgg53
 z31:=Tryz.sizeOf53
 v31:=Tryz.zeroValue53
 t40:=Tryz.underlying123
 a40:=Tryz.isAgg123
 z40:=Tryz.sizeOf123
 v40:=Tryz.zeroValue123
 t46:=Tryz.underlying152
 a46:=Tryz.isAgg152
 z46:=Tryz.sizeOf152
 v46:=Tryz.zeroValue152
 t49:=Tryz.underlying23
 a49:=Tryz.isAgg23
 z49:=Tryz.sizeOf23
 v49:=Tryz.zeroValue23
 t51:=Tryz.underlying156
 a51:=Tryz.isAgg156
 z51:=Tryz.sizeOf156
 v51:=Tryz.zeroValue156
 t119:=Tryz.underlying121
 a119:=Tryz.isAgg121
 z119:=Tryz.sizeOf121
 t141:=Tryz.underlying158
 a141:=Tryz.isAgg158
 z141:=Tryz.sizeOf158
 v141:=Tryz.zeroValue158
 t152:=Tryz.underlying153
 a152:=Tryz.isAgg153
 z152:=Tryz.sizeOf153
 v152:=Tryz.zeroValue153
 t154:=Tryz.underlying155
 a154:=Tryz.isAgg155
 z154:=Tryz.sizeOf155
 v154:=Tryz.zeroValue155
 t193:=Tryz.underlying181
 a193:=Tryz.isAgg181
 z193:=Tryz.sizeOf181
 v193:=Tryz.zeroValue181
 t194:=Tryz.underlying182
 a194:=Tryz.isAgg182
 z194:=Tryz.sizeOf182
 v194:=Tryz.zeroValue182
 t196:=Tryz.underlying184
 a196:=Tryz.isAgg184
 z196:=Tryz.sizeOf184
 v196:=Tryz.zeroValue184
 t198:=Tryz.underlying186
 a198:=Tryz.isAgg186
 z198:=Tryz.sizeOf186
 v198:=Tryz.zeroValue186
 t201:=Tryz.underlying189
 a201:=Tryz.isAgg189
 z201:=Tryz.sizeOf189
 v201:=Tryz.zeroValue189
 t226:=Tryz.underlying216
 a226:=Tryz.isAgg216
 z226:=Tryz.sizeOf216
 v226:=Tryz.zeroValue216
 t227:=Tryz.underlying217
 a227:=Tryz.isAgg217
 z227:=Tryz.sizeOf217
 v227:=Tryz.zeroValue217
 g0:=by kernel_rfl
 g6:=by kernel_rfl
def aKa:Lays.n144 Tryz.prog shR:={aIN with
 f143:=Tryz.func38.trans (by rfl)
 f144:=Tryz.func21.trans (by rfl)
 f217:=Tryz.func78.trans (by rfl)
 f219:=Tryz.func72.trans (by rfl)
 f224:=Tryz.func107.trans (by rfl)
 f225:=Tryz.func106.trans (by rfl)
 f266:=Tryz.func111.trans (by rfl)
 f267:=Tryz.func108.trans (by rfl)
 f314:=Tryz.func133.trans (by rfl)
 t146:=Tryz.underlying179
 a146:=Tryz.isAgg179
 z146:=Tryz.sizeOf179
 v146:=Tryz.zeroValue179
 g1:=by kernel_rfl}
end Go.Proofs
namespace Yv
open Go Go.Proofs
theorem aMM:aHi Tryz.prog 0 21:=by
 intro args h k φ w vs hd r g j;refine⟨enters_of aKa.f144 (by rfl) rfl,?_⟩;have g0:0<Tryz.prog.globals.size:=aQb (by simp:0<19) (by rfl);unfold aFm at hd;split at hd;omega;omega;omega;rename_i l n e m _ q;cases b:Nat.ble 1 e&&Nat.ble l 1073741824 with
 |false=>rw[b] at hd;exact hd.elim
 |true=>
  rw[b] at hd;simp at b;obtain⟨_,_,t,⟨s,rfl,i⟩,_,_,rfl,⟨s',rfl,o⟩,rfl⟩:=j;obtain rfl:vs=#[.string s,.string s']:=by grind
  obtain⟨z,_,p,_,a⟩:=YA r q;obtain⟨u,_,rfl,⟨x,rfl⟩,rfl⟩:=p;have f:=a 0 _ rfl;obtain⟨_,c,d⟩:=g.2 0 g0 zm;have c:φ.a 0=0:=c;have d:φ.c 0=0:=d;rw[c,d] at f;refine(Any.strings_Contains aKa s s' x w (by rw[i.qx];omega) f).mono ?_;rintro v w' ⟨rfl,rfl⟩;refine⟨_,hd,φ,_,rfl,?_,r,.cg φ h w'⟩;unfold Lib.contains;rw[aMD i o b.1];simp[aj];generalize aeS n m e (Nat.sub (Nat.succ l) e) 0=y;cases y<;>simp
 exact hd.elim
end Yv
namespace Yv
variable {B:List Nat}{E rest:List DI}{P:Go.Program}{ds:List Df}{f f' f0:Fr}{listed:Array Bool}{nt:Nat}{oo:aK}{w:Go.World}{y:AV}{φ ψ:aH}
section
open Go
variable {h:Hp}{a:Act}{o:Oper}
theorem PN{l m:List AV}{b vs:List Value}(c:z7 φ l b)(d:z7 φ m vs):z7 φ (fF l m) (b++vs):=by grind[XW,XV]
theorem anA{b:Builtin}{c:Go.Call}(e:o.op=.call c)(d:c.callee=.builtin b):
 ∃cs,execOp a.eval o=builtin b c.argTypes o.type cs (c.args.map a.eval):=by
 refine⟨c.args.map fun|.const _=>true|_=>false,?_⟩;grind[execOp,resolve,invoke]
theorem toList_map(l:Array Operand):(l.map a.eval)=(l.toList.map a.eval).toArray:=by grind
theorem anB(G:jq φ P)(v:iq φ f a.tmps)(r:R φ h w){b:Builtin}{c:Go.Call}(L:o.op=.call c)(M:c.callee=.builtin b):Good P φ h w f a o (DL P b c.argTypes.toList c.args.toList):=by
 obtain⟨cs,m⟩:=anA (a:=a) L M;rw[toList_map] at m;have C:c.argTypes=c.argTypes.toList.toArray:=by simp
 rw[C] at m;generalize c.argTypes.toList=F at m|-;generalize c.args.toList=args at m|-;unfold DL;split;rename_i x y t u;split;rename_i e N g p;split;rename_i B;split;rename_i i H;split;rename_i s z I J;split;rename_i K;exact anz G v r g p B H I J K m;exact cy;exact cy;exact cy;exact cy;exact cy;rename_i x t;have j:=m;split;rename_i g;exact gY G v λc k=>iO j (Ss r g (.inl ⟨rfl,rfl⟩) k);rename_i e g;exact gY G v λc k=>iO j (Ss r g (.inr (.inl ⟨rfl,e,rfl⟩)) k);rename_i q e g;exact gY G v λc k=>iO j (Ss r g (.inr (.inr ⟨rfl,q,e,rfl⟩)) k);rename_i n e g;exact iO j ⟨.int .i64 n,by simp[Builtin.len_,bZ g,goInt],by rfl⟩;exact cy;rename_i x y t u;have j:=m;split;rename_i e g;split;rename_i s p;exact kA G v λc d k hd=>vf j (agA r g p (Nat.succ_pos s) k hd);exact cy;exact cy;have j:=m;refine Cc G v λcs A=>iO j ?_;simp[aQ];cases D:jc (λx=>x.ab f) cs with
 |nil=>trivial
 |cons q l=>
  rw[D] at A;obtain⟨u,vs,E,g,p⟩:=A;have:=WD (P:=P) (w:=w) (le:=true) l vs g p;rw[E];exact this
 have j:=m;refine Cc G v λcs A=>iO j ?_;simp[aQ];cases D:jc (λx=>x.ab f) cs with
 |nil=>trivial
 |cons q l=>
  rw[D] at A;obtain⟨u,vs,E,g,p⟩:=A;have:=WD (P:=P) (w:=w) (le:=false) l vs g p;rw[E];exact this
 rename_i x;have j:=m;exact gY G v λc k=>iO j (af' k);rename_i x n t lt;have j:=m;split;rename_i u g;split;rename_i p;split;rename_i B;simp at B;exact kA G v λc d k hd=>vf j (ano r g p B.2 k hd);exact cy;exact cy;exact cy;trivial;exact cy
theorem aea{b:Operand}{c:Go.Call}(e:o.op=.call c)(d:c.callee=.value b){g:Nat}{fs cs:Array Value}(i:a.eval b=.func (.func g) fs cs):
 execOp a.eval o=callFunc g ((fs++c.args.map a.eval)++cs):=by
 grind[execOp,resolve,Deferred.ofValue,invoke]
theorem anD(G:jq φ P)(b:iq φ f a.tmps)(r:R φ h w){c:Go.Call}(k:o.op=.call c):Good P φ h w f a o (AQ P c):=by
 unfold AQ;split;rename_i g j;have i:=aea (a:=a) k j (g:=g) (fs:=#[]) (cs:=#[]) rfl;have m:(#[]++c.args.map a.eval++#[]:Array Value)=(c.args.toList.map a.eval).toArray:=by grind
 rw[m] at i;split;rename_i fn u;split;exact cy;rename_i z;have e:(fn.name== "runtime.NumGoroutine")=false:=by grind
 split;rename_i p;split;rename_i q;refine Cc G b λcs d=>?_;unfold Good;rw[i];exact anr u e p qaa d;exact cy;refine Cc G b λcs d=>?_;unfold Good;rw[i];exact⟨_,w,rfl,.cg w,d⟩;exact cy;rename_i y _ j;refine gY G b λn l=>Cc G b λcs d=>?_;unfold Good;simp[aQ,Ms];cases t:n.ab f with
 |r g first cap=>
  rw[t] at l;obtain⟨fs,A,s,v,x⟩:=l;rw[aea (a:=a) k j s];refine⟨_,w,rfl,.cg w,?_⟩;simp_all[PN]
 |_=>trivial
 grind[cy];grind[anB]
end
section
open Go
structure Rc where
 d:DI
 f:Fr
 x:AV
def eI(c:CI)(p:Nat):Bool:=match c.c with|some q=>Qe q p|none=>false
theorem xE{c:CI}{p:Nat}:eI c p=true <-> c.c=some p:=by grind[eI,Wp]
def aeb{c:CI}{d:Option Nat}(h:c.c=d.map gz){p:Nat}:eI c p=true <-> ∃t,d=some t/\gz t=p:=by simp_all[xE]
def val:List Rc->Fr->Nat->AV
 |[],f0,p=>an p f0
 |r::T,f0,p=>cond (eI r.d.c p) r.x (val T f0 p)
def mF(listed:Array Bool):List Rc->Fr->Nat->AV
 |[],f0,p=>an p f0
 |r::T,f0,p=>cond (eI r.d.c p&&listed.getD r.d.i false) r.x (mF listed T f0 p)
def PO(f0:Fr):List Rc->Prop
 |[]=>True
 |r::T=>(∀p,an p r.f=val T f0 p)/\PO f0 T
theorem PS(d:Option Nat)(x:AV)(f:Fr)(c:CI)(g:c.c=d)(p:Nat):an p (put d x f)=cond (eI c p) x (an p f):=by
 classical
 subst g;cases hd:c.c with
 |none=>
  have:eI c p=false:=by unfold eI;grind
  rw[this];rfl
 |some q=>
  simp[put,tS];by_cases e:p=q;subst e;rw[if_pos rfl,xE.2 hd];rfl;grind[xE]
structure uK(B:List Nat)(q r:DI):Prop where
 h:pG B r.i q.i=false
 d:pG B q.i r.i=true\/F5 q.c r.c=true
 a:q.i≠r.i
 f:qO q.k=true->kK r.k=false->(zb q.k&&tM r.k&&Nat.beq q.a r.a)=false->pG B q.i r.i=true
 b:DE q.k=true->qO r.k=true->(r.a=q.a\/zb r.k=true\/tM r.k=true)->pG B q.i r.i=true
 g:kK q.k=true->kK r.k=true->F5 q.c r.c=true
theorem anF{B:List Nat}{q r:DI}(h:Qi B q r=true):uK B q r:=by simp only[Qi,atW,avT,awq] at h;obtain⟨⟨⟨⟨⟨j,k⟩,l⟩,m⟩,c⟩,o⟩:=h;refine⟨j,k,λe=>?_,λd g i=>?_,λd g i=>?_,λd g=>by grind⟩;simp_all;grind;rcases c with c|c;simp_all;omega
def aec{B:List Nat}:∀{l:List DI},Mv B l=true->l.Pairwise (uK B)
 |[],_=>.nil
 |q::l,h=>by simp only[Mv,atW] at h;exact .cons (λr hr=>anF (auO.1 h.1 r hr)) (aec h.2)
theorem WE{d:Option Nat}{l:List Nat}(h:aGB d l=true):∀p,d=some p->p∉l:=by rintro p rfl c;grind[aGB,am8]
theorem BK{x y:CI}(h:F5 x y=true){p:Nat}:(eI x p=true->p∉xN y)/\(eI y p=true->p∉xN x)/\¬(eI x p=true/\eI y p=true):=by simp[F5,atW] at h;refine⟨λe=>WE h.1.1 p (xE.1 e),λe=>WE h.1.2 p (xE.1 e),λ⟨c,d⟩=>?_⟩;have:=WE h.2 p (xE.1 c);grind[xE]
theorem WH{n:Nat}{p:Pd}:∀{l:List Pd},p∈l->n<=p.a->p∈mN n l
 |[],h,_=>by grind
 |q::l,h,c=>by simp[mN];rcases atZ.1 h with rfl|h;grind[Nat.ble_eq_true_of_le];have:=WH h c;grind
theorem Iq{h:Hp}{p:Pd}:∀{l:List Pd},AS h l=true->p∈l->aQ p.c.b p.f h=.v p.x
 |[],_,c=>by grind
 |q::l,d,c=>by simp[AS,atW] at d;rcases atZ.1 c with rfl|c;grind[Gf,RL];exact Iq d.2 c
theorem LO{K:List Pd}{n:Nat}{h:Hp}{k:List Pd->Prop}{oo:aK}(hd:Dn (qR K n h k) oo):AS h (mN n K)=true/\Dn (k (mN n K)) oo:=by
 unfold qR at hd;cases c:AS h (mN n K) with
 |false=>rw[c] at hd;exact hd.lh.elim
 |true=>grind
theorem Dd:∀{l:List DI}{n:Nat},qp n l=true->∀d∈l,qO d.k=true->n<=d.a
 |[],_,_,_,c,_=>by grind
 |q::l,n,h,d,c,e=>by simp[qp] at h;rcases atZ.1 c with rfl|c;cases g:d.k<;>rw[g] at h e<;>simp only[qO,at3] at e<;>simp only[atW] at h;simp_all;simp_all;simp_all;simp_all;cases g:q.k<;>rw[g] at h<;>simp only[atW] at h;exact Dd h d c e;exact Dd h.2 d c e;exact aw0 (Dd h.2 d c e);exact aw0 (Dd h.2 d c e);exact Dd h.2 d c e;exact aw0 (Dd h.2 d c e)
structure Stat(P:Program)(nt:Nat)(aF:Array Oper)(B:List Nat)(E:List DI):Prop where
 b:DD B 0 aF.toList=true
 g:E.Pairwise (uK B)
 f:∀d∈E,I5 d=true
 h:∀i,i<aF.size->∃d∈E,d.i=i
 a:∀d∈E,∃o,aF[d.i]? =some o/\kq P nt aF o=some d.c
structure Pre(P:Program)(b:kB)(nt:Nat)(B:List Nat)(E:List DI)(f0:Fr)(ds:List Df)(listed:Array Bool)(n:Nat)(rest:List DI)(rv:List Rc)(K:List Pd)(f:Fr)(h z:Hp)(L:Bool)(M:Nat->Nat)
 (φ:aH) (a:Act) (w:World):Prop where
 j:E=(rv.reverse.map (·.d))++rest
 s:PO f0 rv
 q:∀p,an p f=val rv f0 p
 m:∀p,(∀d∈rest,kK d.k=true->listed.getD d.i false=true->eI d.c p=false)->aj φ (mF listed rv f0 p) (a.tmps.getD p Go.undef)
 J:∀r∈rv,qO r.d.k=true->listed.getD r.d.i false=true
 H:∀r∈rv,listed.getD r.d.i false=false->(jO r.d.c.a r.f=some false/\r.x=undef)\/
  (jO r.d.c.a r.f=some true/\aQ r.d.c.b r.f z=.v r.x/\(AN r.d.c.b=true\/(DE r.d.k=true/\(⟨r.d.c,r.f,r.x,r.d.a⟩:Pd)∈K/\n<=r.d.a)))
 D:∀d∈rest,listed.getD d.i false=true->kK d.k=true\/(tM d.k=true/\L=true)
 y:∀d∈rest,kK d.k=true->listed.getD d.i false=true->∃o k v,F3 d.c.b=some (o,k)/\Fs φ z w b.w.heap.size (M d.i) o k v/\∀p,d.c.c=some p->a.tmps.getD p Go.undef=v
 G:∀d∈rest,∀e∈rest,kK d.k=true->kK e.k=true->listed.getD d.i false=true->listed.getD e.i false=true->d.i≠e.i->M d.i≠M e.i
 u:(L=false/\z=h)\/(L=true/\∃d e r' h1 h2 mZ,rest=d::e::r'/\zb d.k=true/\tM e.k=true/\listed.getD e.i false=true/\listed.getD d.i false=false/\
  aQ d.c.b f h=.b undef h1/\aQ e.c.b f h1=.b undef h2/\aQ d.c.b f z=.b undef mZ/\∀k,mZ.ab k=h2.ab k)
 C:qp n rest=true
 r:R φ z w
 F:eS b.φ b.h b.w φ w z
 I:Cm φ ds a.defers
 A:nt<=a.tmps.size
 g:jq φ P
section
variable {b:kB}{aF:Array Oper}{n:Nat}{rv:List Rc}{K:List Pd}{h z:Hp}{L:Bool}{M:Nat->Nat}{a:Act}
theorem aed{N T:List Rc}{p:Nat}(d:∀r∈N,eI r.d.c p=true->listed.getD r.d.i false=false) (e:∀r∈T,eI r.d.c p=true->listed.getD r.d.i false=true):mF listed (N++T) f0 p=val T f0 p:=by
 induction N with
 |nil=>
  induction T with
  |nil=>rfl
  |cons r T c=>
   grind[mF,val]
 |cons r N c=>
  grind[mF]
theorem LQ{xI:Array Bool}{p:Nat}:∀{rv:List Rc},(∀r∈rv,eI r.d.c p=true->xI.getD r.d.i false=listed.getD r.d.i false)->mF xI rv f0 p=mF listed rv f0 p
 |[],_=>rfl
 |r::T,h=>by simp only[mF];rw[LQ λs c=>h s (aug _ c)];grind
theorem aee(S:Stat P nt aF B E)(j:sy aF listed)(pre:Pre P b nt B E f0 ds listed n rest rv K f h z L M φ a w){q:DI}{l:Oper}(F:aF[q.i]? =some l)(Q:listed.getD q.i false=false)
 (y:∀e∈l.after,Region.binds .any e=true->listed.getD e.on false=true) {N T:List Rc} (H:rv=N++T) (C:∀t∈T,uK B t.d q) (A:∀t∈N,t.d=q\/uK B q t.d)
 (k:∀d∈rest,kK d.k=true->listed.getD d.i false=true->uK B q d) {s:Fr} (R:∀p,an p s=val T f0 p):xC φ s a.tmps q.c:=by
 intro p U;have I:∀i,pG B i q.i=true->listed.getD i false=true:=λi c=>yR S.b j q.i i l F y c;have x:∀d:DI,d∈E->listed.getD d.i false=true->pG B q.i d.i=true->False:=λd hd k c=>by obtain⟨o,u,_⟩:=S.a d hd;have:=yR S.b j d.i q.i o u (j d.i o u k) c;grind
 have J:∀t∈rv,t.d∈E:=λt g=>by rw[pre.j];grind
 have G:=pre.m p λd hd D r=>by
  cases hi:eI d.c p with
  |false=>rfl
  |true=>
   exfalso;rcases(k d hd D r).d with c|v;exact x d (by rw[pre.j];grind) r c;grind[BK]
 rw[H,aed] at G;grind;intro t g hi;cases O:listed.getD t.d.i false with
 |false=>rfl
 |true=>
  rcases A t g with e|m;grind;rcases m.d with c|v;grind;grind[BK]
 intro t g hi;rcases(C t g).d with c|v;grind;grind[BK]
end
theorem jw{listed:Array Bool}{i j:Nat}(hi:i<listed.size):(listed.setIfInBounds i true).getD j false=if j=i then true else listed.getD j false:=by by_cases e:j=i;simp_all;simp_all[Ne.symm]
theorem Fx{a:Act}{nt:Nat}{c:CI}{d:Option Nat}(j:nt<=a.tmps.size)(hd:∀t,d=some t->t<nt/\t<512) (i:c.c=d.map gz) (v:Value) (p:Nat):
 (a.put d v).tmps.getD p Go.undef=cond (eI c p) v (a.tmps.getD p Go.undef):=by
 cases d with
 |none=>
  have:eI c p=false:=by grind[eI]
  rw[this];rfl
 |some t=>
  obtain⟨k,l⟩:=hd t rfl;by_cases e:eI c p=true;obtain⟨t',o,m⟩:=(aeb i).1 e;cases o;rw[e,<-m,am6 l];simp only[Act.put,cond];have:t<a.tmps.size:=aur k j;simp_all;simp[Act.put,cond];have q:t≠p:=λh=>e ((aeb i).2 ⟨t,rfl,by rw[h,am7]⟩);simp_all
section
variable {b:kB}{aF:Array Oper}{n:Nat}{rv:List Rc}{z:List Pd}{h g:Hp}{x:Bool}{L:Nat->Nat}{a:Act}
theorem Pre.QP(pre:Pre P b nt B E f0 ds listed n rest rv z f h g x L φ a w){t:Rc}(c:t∈rv):t.d∈E:=by rw[pre.j];grind
theorem Pre.pj(pre:Pre P b nt B E f0 ds listed n rest rv z f h g x L φ a w){d:DI}(hd:d∈rest):d∈E:=by rw[pre.j];grind
theorem Pre.sw(S:Stat P nt aF B E)(pre:Pre P b nt B E f0 ds listed n rest rv z f h g x L φ a w){t:Rc}(c:t∈rv){d:DI}(hd:d∈rest):uK B t.d d:=by have:=S.g;rw[pre.j,au9] at this;grind
theorem Pre.aef(S:Stat P nt aF B E)(pre:Pre P b nt B E f0 ds listed n rest rv z f h g x L φ a w){N T:List Rc}{r:Rc}(c:rv=N++r::T):(∀t∈T,uK B t.d r.d)/\∀t∈N,uK B r.d t.d:=by have:=S.g;rw[pre.j,au9] at this;grind
theorem Pre.FS(S:Stat P nt aF B E)(pre:Pre P b nt B E f0 ds listed n rest rv z f h g x L φ a w){d:DI}{l:List DI}(hr:rest=d::l):∀e∈l,uK B d e:=by have:=S.g;rw[pre.j,au9,hr,avx] at this;grind
theorem aeg(S:Stat P nt aF B E)(gw:listed.size=aF.size)(hc:sy aF listed)(pre:Pre P b nt B E f0 ds listed n rest rv z f h g x L φ a w){N T:List Rc}{r:Rc}(O:rv=N++r::T)
 (dy:listed.getD r.d.i false=false) {o:Oper} (ho:aF[r.d.i]? =some o) (eO:kq P nt aF o=some r.d.c)
 {v:Value} (hv:aj φ r.x v) {w':World} (R:sL w w'):Pre P b nt B E f0 ds (listed.setIfInBounds r.d.i true) n rest rv z f h g x L φ (a.put o.dst v) w':=by
 have y:r.d.i<listed.size:=by grind
 obtain⟨jZ,X,_,_⟩:=wJ eO;have hr:r∈rv:=by grind
 obtain⟨oP,W⟩:=pre.aef S O;have V:∀d:DI,d∈E->listed.getD d.i false=true->pG B r.d.i d.i=true->False:=λd hd j ho=>by obtain⟨o',qy,_⟩:=S.a d hd;have:=yR S.b hc d.i r.d.i o' qy (hc d.i o' qy j) ho;grind
 have bg:∀d∈rest,d.i≠r.d.i:=λd hd e=>(pre.sw S hr hd).a e.symm;have m:∀d∈rest,(listed.setIfInBounds r.d.i true).getD d.i false=listed.getD d.i false:=λd hd=>by rw[jw y,if_neg (bg d hd)]
 refine⟨pre.j,pre.s,pre.q,λp F=>?_,λt q D=>?_,λt q G=>?_,λd hd j=>?_,λd hd I j=>?_,λd hd e D c l C Y=>?_,?_,pre.C,pre.r.lL R,pre.F.ba (eS.lL R),?_,by rw[MY];exact pre.A,pre.g⟩;have dj:∀d∈rest,kK d.k=true->listed.getD d.i false=true->eI d.c p=false:=λd hd I j=>F d hd I qaa;rw[Fx pre.A jZ X];cases hi:eI r.d.c p with
 |true=>
  simp only[cond];have e:mF (listed.setIfInBounds r.d.i true) rv f0 p=r.x:=by
   rw[O];have:∀M:List Rc,(∀t∈M,t∈N)->mF (listed.setIfInBounds r.d.i true) (M++r::T) f0 p=r.x:=by
    intro M;induction M with
    |nil=>
     simp_all[mF]
    |cons t M ih=>
     intro Z;have J:=Z t au0;simp only[auY,mF];have i:(eI t.d.c p&&(listed.setIfInBounds r.d.i true).getD t.d.i false)=false:=by
      cases hd:eI t.d.c p with
      |false=>rfl
      |true=>
       have A:=W t J;rw[jw y,if_neg (Ne.symm A.a)];cases aY:listed.getD t.d.i false with
       |false=>rfl
       |true=>
        exfalso;rcases A.d with Q|U;exact V t.d (pre.QP qaa) aY Q;exact(_root_.Yv.BK U).2.2 ⟨hi,hd⟩
     rw[i];exact ih λs hs=>Z s (aug _ hs)
   exact this N λ_ h=>h
  rw[e];exact hv
 |false=>
  simp only[cond];rw[LQ (listed:=listed) λt q hd=>by
   rw[jw y,if_neg];intro e;have K:t.d.c=r.d.c:=by rw[O] at q;rcases auj.1 q with c|c;exact absurd e.symm (W t c).a;rcases atZ.1 c with l|l;rw[l];exact absurd e (oP t l).a
   rw[K,hi] at hd;cases hd]
  exact pre.m p dj
 rw[jw y];split;rfl;exact pre.J t q D;rw[jw y] at G;split at G;cases G;exact pre.H t q G;rw[m d hd] at j;exact pre.D d hd j;rw[m d hd] at j;obtain⟨ob,k,u,c,l,C⟩:=pre.y d hd I j;refine⟨ob,k,u,c,l.GT (eS.lL R),λp F=>?_⟩;rw[Fx pre.A jZ X];cases hi:eI r.d.c p with
 |false=>exact C p F
 |true=>
  exfalso;rcases(pre.sw S hr hd).d with Q|U;exact V d (pre.pj hd) j Q;exact(_root_.Yv.BK U).2.2 ⟨hi,xE.2 F⟩
 rw[m d hd] at C;rw[m e D] at Y;exact pre.G d hd e D c l C Y;rcases pre.u with c|⟨c,d,e,r',g1,g2,mZ,H,e2,e3,e4,e5,e6⟩;exact .inl c;refine .inr ⟨c,d,e,r',g1,g2,mZ,H,e2,e3,?_,?_,e6⟩;rw[m e (by rw[H];simp)];exact e4;rw[m d (by rw[H];simp)];exact e5;rw[MZ];exact pre.I
theorem anG(O:mS P)(S:Stat P nt aF B E)(u:listed.size=aF.size)(m:sy aF listed)(pre:Pre P b nt B E f0 ds listed n rest rv z f h g x L φ a w){N T:List Rc}{r:Rc}(l:rv=N++r::T)
 (j:listed.getD r.d.i false=false) {o:Oper} (k:aF[r.d.i]? =some o) (i:kq P nt aF o=some r.d.c) (D:∀e∈o.after,Region.binds .any e=true->listed.getD e.on false=true)
 {K:Act->World->Prop} {Q:Exit->Act->World->Prop}
 (y:∀a' w',Pre P b nt B E f0 ds (listed.setIfInBounds r.d.i true) n rest rv z f h g x L φ a' w'->K a' w'):wpOp P aF Q r.d.i K a w:=by
 have hr:r∈rv:=by grind
 obtain⟨R,V⟩:=pre.aef S l;have c:xC φ r.f a.tmps r.d.c:=by
  refine aee S m pre k j D (N:=N++[r]) (T:=T) qaa R (λt X=>?_) (λd hd F W=>pre.sw S hr hd) (λp=>?_);grind;have:∀M:List Rc,PO f0 (M++r::T)->∀p,an p r.f=val T f0 p:=by
   intro M;induction M with
   |nil=>exact λh=>h.1
   |cons t M I=>exact λh=>I h.2
  exact this N (by rw[<-l];exact pre.s) p
 unfold wpOp;simp[k];rcases pre.H r hr j with⟨q,H⟩|⟨q,C,_⟩;have A:=Ws pre.A i c q;rw[if_neg qaa];exact y _ _ (aeg S u m pre l j k i (by rw[H];exact DX) (.cg w));have A:=Ws pre.A i c q;rw[if_pos A];refine .inl ?_;have s:=Wq O pre.r pre.g i c;rw[C] at s;obtain⟨Y,v,w',Z,G,J,U⟩:=s;unfold Oper.wp;have F:=y _ _ (aeg S u m pre l j k i J U);rcases G with rfl|⟨rfl,rfl⟩;grind[Oper.upon_value];grind[Oper.upon_skip]
end
end
section
open Go
variable {b:kB}{aF:Array Oper}{n:Nat}{rv:List Rc}{j:List Pd}{h c:Hp}{m:Bool}{g:Nat->Nat}{a:Act}
def WI{xI:Array Bool}{p:Nat}:∀{M:List Rc},(∀r∈M,eI r.d.c p=false)->mF xI (M++rv) f0 p=mF xI rv f0 p
 |[],_=>rfl
 |r::M,h=>by simp[auY,mF];rw[h r au0];exact WI λs d=>h s (aug _ d)
theorem PU(pre:Pre P b nt B E f0 ds listed n rest rv j f h c m g φ a w){L1 l:List DI}(t:rest=L1++l){M:List Rc}(S:M.reverse.map (·.d)=L1){xI:Array Bool}
 (U:∀r∈M,xI.getD r.d.i false=true) (u:∀d∈l,xI.getD d.i false=listed.getD d.i false) (D:∀r∈rv,xI.getD r.d.i false=listed.getD r.d.i false)
 {f':Fr} {n':Nat} {J:List Pd} {h':Hp} {ψ:aH} {a':Act} {w':World}
 (C:PO f0 (M++rv)) (W:∀p,an p f'=val (M++rv) f0 p)
 (s:∀p:Nat,(∀r∈M,eI r.d.c p=false)->a'.tmps.getD p Go.undef=a.tmps.getD p Go.undef)
 (mX:∀p:Nat,(∃r∈M,eI r.d.c p=true)->aj ψ (mF xI (M++rv) f0 p) (a'.tmps.getD p Go.undef))
 (le:φ.l ψ)
 (hu:∀r∈rv,listed.getD r.d.i false=false->aQ r.d.c.b r.f c=.v r.x->(AN r.d.c.b=true\/(DE r.d.k=true/\(⟨r.d.c,r.f,r.x,r.d.a⟩:Pd)∈j/\n<=r.d.a))->
  aQ r.d.c.b r.f h'=.v r.x/\(AN r.d.c.b=true\/(DE r.d.k=true/\(⟨r.d.c,r.f,r.x,r.d.a⟩:Pd)∈J/\n'<=r.d.a)))
 (y:∀d∈l,listed.getD d.i false=true->kK d.k=true)
 (V:∀d∈l,kK d.k=true->listed.getD d.i false=true->∀o k v,Fs φ c w b.w.heap.size (g d.i) o k v->Fs ψ h' w' b.w.heap.size (g d.i) o k v)
 (Z:∀r∈M,∀d∈l,kK d.k=true->listed.getD d.i false=true->∀p,¬(eI r.d.c p=true/\eI d.c p=true))
 (z:qp n' l=true) (Y:R ψ h' w') (G:eS b.φ b.h b.w ψ w' h') (A:Cm ψ ds a'.defers) (H:nt<=a'.tmps.size):
 Pre P b nt B E f0 ds xI n' l (M++rv) J f' h' h' false g ψ a' w':=by
 have T:∀d∈L1,∃r∈M,r.d=d:=λd hd=>by grind
 refine⟨?_,C,W,λp F=>?_,λr hr q=>?_,λr hr I=>?_,λd hd i=>?_,λd hd x i=>?_,λd hd e q O Q K L=>?_,.inl ⟨rfl,rfl⟩,z,Y,G,A,H,pre.g.bc le⟩;rw[pre.j,t,<-S];simp;by_cases c:∃r∈M,eI r.d.c p=true;grind;have N:∀r∈M,eI r.d.c p=false:=λr hr=>by grind
 rw[WI N,s p N,LQ (listed:=listed) λr hr _=>D r hr];refine nS le _ _ (pre.m p λd hd x i=>?_);grind;rcases auj.1 hr with hr|hr;grind;rw[D r hr];exact pre.J r hr q;rcases auj.1 hr with hr|hr;grind;rw[D r hr] at I;rcases pre.H r hr I with X|⟨X,q,hx⟩;grind;grind;rw[u d hd] at i;exact .inl (y d hd i);rw[u d hd] at i;obtain⟨o,k,v,q1,q2,q3⟩:=pre.y d (by rw[t];exact auj.2 (.inr hd)) x i;refine⟨o,k,v,q1,V d hd x i o k v q2,λp F=>?_⟩;rw[s p λr hr=>?_];exact q3 p F;cases hi:eI r.d.c p with
 |false=>rfl
 |true=>exact absurd ⟨hi,xE.2 F⟩ (Z r hr d hd x i p)
 rw[u d hd] at K;rw[u e q] at L;exact pre.G d (by rw[t];exact auj.2 (.inr hd)) e (by rw[t];exact auj.2 (.inr q)) O Q K L
theorem PV(pre:Pre P b nt B E f0 ds listed n rest rv j f h c false g φ a w){d:DI}{l:List DI}(u:rest=d::l)(K:qO d.k=false){x:AV}{s:List Pd}(y:∀p∈j,p∈s)
 (F:(jO d.c.a f=some false/\x=undef)\/(jO d.c.a f=some true/\aQ d.c.b f h=.v x/\(AN d.c.b=true\/(DE d.k=true/\(⟨d.c,f,x,d.a⟩:Pd)∈s/\n<=d.a)))):
 Pre P b nt B E f0 ds listed n l (⟨d,f,x⟩::rv) s (put d.c.c x f) h c false g φ a w:=by
 have H:c=h:=by rcases pre.u with k|k;grind;grind
 have I:listed.getD d.i false=false:=by
  cases q:listed.getD d.i false with
  |false=>rfl
  |true=>
   rcases pre.D d qaa q with k|k;grind[kK,qO];grind
 have o:∀e∈l,e∈rest:=λe i=>by grind
 refine⟨?_,⟨pre.q,pre.s⟩,λp=>?_,λp L=>?_,λr hr i=>?_,λr hr D=>?_,λe i q=>pre.D e (o e i) q,λe i k t=>pre.y e (o e i) k t,
  λe i v G k t z A=>pre.G e (o e i) v (o v G) k t z A,.inl ⟨rfl,H⟩,?_,pre.r,pre.F,pre.I,pre.A,pre.g⟩
 rw[pre.j,u];simp;rw[PS d.c.c x f d.c rfl p];simp[val];rw[pre.q p];have e:mF listed (⟨d,f,x⟩::rv) f0 p=mF listed rv f0 p:=by simp_all[mF]
 rw[e];refine pre.m p λe i J q=>?_;grind;rcases atZ.1 hr with rfl|hr;grind;exact pre.J r hr i;rcases atZ.1 hr with rfl|hr;grind;rcases pre.H r hr D with C|⟨C,i,F⟩;grind;grind;have:=pre.C;rw[u] at this;simp[qp] at this;grind[qO]
theorem anK(S:Stat P nt aF B E)(pre:Pre P b nt B E f0 ds listed n rest rv j f h c false g φ a w)(U:sy aF listed){d:DI}{l:List DI}(G:rest=d::l)(y:kK d.k=true)(D:listed.getD d.i false=true)
 {x:AV} {h':Hp} (Q:aQ d.c.b f h=.b x h') (jD:AS h' (mN (n+1) j)=true):
 ∃N,Pre P b nt B E f0 ds listed (n+1) l (⟨d,f,x⟩::rv) (mN (n+1) j) (put d.c.c x f) h' h' false g N a w:=by
 have rJ:c=h:=by rcases pre.u with q|q;grind;grind
 subst rJ;have hd:d∈rest:=by grind
 obtain⟨o,k,v,q1,q2,q3⟩:=pre.y d hd y D;obtain⟨F,PJ,I⟩:=ad0 q1;rw[F] at Q;have hn:=c.ui;obtain⟨rfl,rfl⟩:=Q;obtain⟨N,r',le,k8,u⟩:=ane pre.r hn PJ I q2;have X:=pre.FS S G;have T:∀r∈rv,listed.getD r.d.i false=false->DE r.d.k=true->d.a=r.d.a->False:=λr hr dy T s=>by
  have L:=pre.sw S hr hd;have WJ:qO d.k=true:=by cases K:d.k<;>rw[K] at y<;>simp[kK] at y;rfl
  have ho:=L.b T WJ (.inl s);obtain⟨od,qy,_⟩:=S.a d (pre.pj hd);have:=yR S.b U d.i r.d.i od qy (U d.i od qy D) ho;grind
 have t:=pre.C;rw[G] at t;simp[qp] at t;have K:d.k=.b:=by grind[kK]
 rw[K] at t;simp only[atW] at t;have pT:=at7 t.1;refine⟨N,PU pre (L1:=[d]) (l:=l) G (M:=[⟨d,f,k c.a⟩]) zm (λr hr=>by grind) (λ_ _=>rfl) (λ_ _=>rfl) ⟨pre.q,pre.s⟩ (λp=>?_) (λ_ _=>rfl) (λp J=>?_) le
  (λr hr dy s W=>?_) (λe s A=>?_) (λe s H A o' k' v' J=>?_) (λr hr e s H A p=>?_) t.2 r' ?_ (pre.I.bc le) pre.A⟩
 rw[PS d.c.c (k c.a) f d.c rfl p];simp[val];rw[pre.q p];obtain⟨r,hr,hi⟩:=J;simp only[avO,mF,D,cond];grind[xE];rcases W with W|⟨mV,kT,yq⟩;grind[LG];have O:n+1<=r.d.a:=by grind
 have V:=WH kT O;exact⟨Iq jD V,.inr ⟨mV,V,O⟩⟩;rcases pre.D e qaa A with q|q;omega;grind;obtain⟨ψ,z,Y,Z,p2,p3,p4,p5⟩:=J;refine⟨ψ,z,Y,Z,p2,p3,p4,λi hi R=>?_⟩;rcases u i hi with⟨q,C⟩|q;grind;rw[q] at R;exact pre.G d hd e qaa y H D A (X e s).a R;simp at hr;subst hr;rintro⟨q,C⟩;exact(_root_.Yv.BK ((X e s).g y H)).2.2 ⟨q,C⟩;refine⟨pre.F.n.ba le,pre.F.l,pre.F.f,λi hi=>?_,pre.F.p,pre.F.d,pre.F.m⟩;rcases u i hi with⟨q,C⟩|q;rw[C];exact pre.F.o i q;right;obtain⟨ψ,z,Y,Z,p2,p3,p4,p5⟩:=q2;omega
end
section
open Go
theorem aei{c:Type}{R:c->c->Prop}{g:c->Nat}(m:∀x y,R x y->g x≠g y):∀{l:List c},l.Pairwise R->∀{x y:c},x∈l->y∈l->g x=g y->x=y
 |[],_,_,_,k,_,_=>by grind
 |z::l,j,x,y,k,o,e=>by rw[avx] at j;rcases atZ.1 k with d|d<;>rcases atZ.1 o with i|i;grind;grind;grind;exact aei m j.2 d i e
theorem aej{c:Type}{R:c->c->Prop}:∀{l:List c},l.Pairwise R->∀{x y:c},x∈l->y∈l->x≠y->R x y\/R y x
 |[],_,_,_,j,_,_=>by grind
 |z::l,i,x,y,j,k,e=>by rw[avx] at i;rcases atZ.1 j with d|d<;>rcases atZ.1 k with g|g;grind;grind;grind;exact aej i.2 d g e
section
variable {b:kB}{aF:Array Oper}{n:Nat}{rv:List Rc}{M:List Pd}{h L:Hp}{N:Bool}{T:Nat->Nat}{a:Act}
theorem aek(S:Stat P nt aF B E)(Q:sy aF listed){y:mj}{kp:aT->Prop}{fm:Fr}{oo:aK}:∀(rest:List DI){n:Nat}{rv:List Rc}{M:List Pd}{f:Fr}{h L:Hp}{φ:aH},
 Pre P b nt B E f0 ds listed n rest rv M f h L N T φ a w->Dn (cE y kp fm ds rest n M f h) oo->
 ∃o n' C q f' h' u D,Pre P b nt B E f0 ds listed n' o C q f' h' u N T D a w/\Dn (cE y kp fm ds o n' q f' h') oo/\∀d l,o=d::l->qO d.k=true/\listed.getD d.i false=false:=by
 intro rest;induction rest with
 |nil=>grind
 |cons d l r=>
  intro n rv M f h L φ pre hd;have j:qO d.k=true->listed.getD d.i false=false->∃o n' C q f' h' u D,Pre P b nt B E f0 ds listed n' o C q f' h' u N T D a w/\Dn (cE y kp fm ds o n' q f' h') oo/\∀d l,o=d::l->qO d.k=true/\listed.getD d.i false=false:=
   λp O=>⟨d::l,n,rv,M,f,h,L,φ,pre,hd,λI X e=>by grind⟩
  cases N with
  |true=>
   rcases pre.u with p|⟨_,I,e,Y,p,O,u,J,F,V,W,K,_⟩;grind;cases J;refine j ?_ K;cases i:d.k<;>rw[i] at F<;>simp[zb] at F;rfl
  |false=>
   have Z:L=h:=by rcases pre.u with p|p;grind;grind
   have z:kK d.k=false->listed.getD d.i false=false:=λi=>by
    cases s:listed.getD d.i false with
    |false=>rfl
    |true=>
     rcases pre.D d zm s with p|p;grind;grind
   have A:=S.f d (pre.pj zm);cases i:d.k with
   |d=>
    simp only[cE,i] at hd;unfold I5 at A;rw[i] at A;cases m:jO d.c.a f with
    |none=>rw[m] at hd;exact hd.lh.elim
    |some t=>
     rw[m] at hd;cases t with
     |false=>
      exact r (PV pre rfl qaf (λ_ h=>h) (.inl ⟨m,rfl⟩)) hd
     |true=>
      cases k:aQ d.c.b f h with
      |v x=>
       rw[k] at hd;exact r (PV pre rfl qaf (λ_ h=>h) (.inr ⟨m,k,.inl A⟩)) hd
      |_=>rw[k] at hd;exact hd.lh.elim
   |f=>
    simp only[cE,i] at hd;have G:=pre.C;simp only[qp,i,atW] at G;cases m:jO d.c.a f with
    |none=>rw[m] at hd;exact hd.lh.elim
    |some t=>
     rw[m] at hd;cases t with
     |false=>
      simp only at hd;exact r (PV pre rfl qaf (λ_ h=>h) (.inl ⟨m,rfl⟩)) hd
     |true=>
      simp only at hd;cases k:aQ d.c.b f h with
      |v x=>
       rw[k] at hd;exact r (PV pre rfl qaf (λ_ h=>aug _ h) (.inr ⟨m,k,.inr ⟨by rw[i];rfl,au0,au1 G.1⟩⟩)) hd
      |_=>rw[k] at hd;exact hd.lh.elim
   |b=>
    cases s:listed.getD d.i false with
    |false=>exact j qaf s
    |true=>
     simp only[cE,i] at hd;cases k:aQ d.c.b f h with
     |b x h'=>
      rw[k] at hd;obtain⟨R,H⟩:=LO hd;obtain⟨χ,U⟩:=anK S pre Q rfl qaf s k R;exact r U H
     |_=>rw[k] at hd;exact hd.lh.elim
   |g=>exact j qaf (z qaf)
   |c=>exact j qaf (z qaf)
   |a=>exact j qaf (z qaf)
def Pre.uniq(S:Stat P nt aF B E){d e:DI}(hd:d∈E)(c:e∈E)(h:d.i=e.i):d=e:=aei (λ_ _ r=>r.a) S.g hd c h
theorem ael(O:mS P)(S:Stat P nt aF B E)(gw:listed.size=aF.size)(pre:Pre P b nt B E f0 ds listed n rest rv M f h L N T φ a w){d:DI}(hd:d∈rest)(t:kK d.k=true)
 (dy:listed.getD d.i false=false) {o:Oper} (ho:aF[d.i]? =some o) (eO:kq P nt aF o=some d.c) {K:Act->World->Prop} {Q:Exit->Act->World->Prop}
 (hK:∀R a' w',Pre P b nt B E f0 ds (listed.setIfInBounds d.i true) n rest rv M f h L N R φ a' w'->K a' w'):wpOp P aF Q d.i K a w:=by
 have l:d.i<listed.size:=by grind
 obtain⟨Z,U,_,Co⟩:=wJ eO;have D:=S.f d (pre.pj hd);have pR:d.k=.b:=by grind[kK]
 unfold I5 at D;rw[pR] at D;simp only[atW] at D;obtain⟨q,hq⟩:=awk.1 D.1;obtain⟨ob,k⟩:=q;have qz:Region.wanted o (yielded aF a.tmps)=true:=by grind[Region.wanted,B0]
 obtain⟨nx,v,w',vl,hn,F,ψ,z,c1,c2,c3,c4⟩:=anc (a:=a) (w:=w) O pre.g eO hq;have G:∀e∈E,e.i=d.i->e=d:=λe c h=>Pre.uniq S c (pre.pj hd) h;have Fz:∀r∈rv,(listed.setIfInBounds d.i true).getD r.d.i false=listed.getD r.d.i false:=λr hr=>by rw[jw l,if_neg (pre.sw S hr hd).a]
 have H:∀e∈rest,kK e.k=true->e.i≠d.i->∀p,¬(eI d.c p=true/\eI e.c p=true):=λe c s J p=>by
  have X:rest.Pairwise (uK B):=by have:=S.g;rw[pre.j,au9] at this;grind
  rcases aej X c hd (λh=>J (by rw[h])) with r|r;rintro⟨m,C⟩;exact(_root_.Yv.BK (r.g s t)).2.2 ⟨C,m⟩;exact(_root_.Yv.BK (r.g t s)).2.2
 have I:Pre P b nt B E f0 ds (listed.setIfInBounds d.i true) n rest rv M f h L N (λi=>if i=d.i then ψ.a z else T i) φ (a.put o.dst v) w':=by
  refine⟨pre.j,pre.s,pre.q,λp y=>?_,λr hr c=>by rw[Fz r hr];exact pre.J r hr c,λr hr hu=>pre.H r hr qaa,λe c u=>?_,λe c s u=>?_,λe c A qK m C V W h5=>?_,?_,pre.C,
   pre.r.ext F,pre.F.ba (eS.ext F),by rw[MZ];exact pre.I,by rw[MY];exact pre.A,pre.g⟩
  have jK:eI d.c p=false:=y d hd t qae;rw[Fx pre.A Z U,jK,LQ (listed:=listed) λr hr _=>Fz r hr];exact pre.m p λe c s u=>y e c s (by grind[jw]);rw[jw l] at u;split at u;rename_i g;rw[G e (pre.pj c) g];exact .inl t;exact pre.D e c u;by_cases g:e.i=d.i;have:=G e (pre.pj c) g;subst this;refine⟨ob,k,v,hq,?_,λp y=>?_⟩;rw[if_pos rfl];refine⟨ψ,z,rfl,c1,c2,at1 pre.F.l c3,c4,λi hi A=>?_⟩;have:=pre.r.l i hi;omega;rw[Fx pre.A Z U,xE.2 y];rfl;rw[jw l,if_neg g] at u;obtain⟨o',k',v',q1,q2,q3⟩:=pre.y e c s u;refine⟨o',k',v',q1,?_,λp y=>?_⟩;rw[if_neg g];exact q2.GT (eS.ext F);rw[Fx pre.A Z U];cases hi:eI d.c p with
  |false=>exact q3 p y
  |true=>exact absurd ⟨hi,xE.2 y⟩ (H e c s g p)
  have iI:∀x∈rest,kK x.k=true->(listed.setIfInBounds d.i true).getD x.i false=true->x.i≠d.i->T x.i<w.heap.size:=λx hx Y Dh J=>by rw[jw l,if_neg J] at Dh;obtain⟨_,_,_,_,⟨_,_,_,_,_,_,g4,_⟩,_⟩:=pre.y x hx Y Dh;exact g4
  by_cases g:e.i=d.i<;>by_cases j:A.i=d.i;exact absurd (g.trans j.symm) h5;rw[if_pos g,if_neg j];have:=iI A qK C W j;omega;rw[if_neg g,if_pos j];have:=iI e c m V g;omega;rw[if_neg g,if_neg j];rw[jw l,if_neg g] at V;rw[jw l,if_neg j] at W;exact pre.G e c A qK m C V W h5;rcases pre.u with m|⟨m,d',e,r',g1,g2,mZ,g,j,e3,e4,e5,e6⟩;exact .inl m;refine .inr ⟨m,d',e,r',g1,g2,mZ,g,j,e3,?_,?_,e6⟩;rw[jw l];split<;>first|rfl|exact e4
  rw[jw l,if_neg];exact e5;intro A;have:=G d' (pre.pj (by rw[g];simp)) A;rw[this,pR] at j;cases j
 unfold wpOp;simp only[ho];rw[if_pos qz];refine .inl ?_;unfold Oper.wp;rw[vl];have t:=hK _ _ _ I;rcases hn with rfl|⟨rfl,rfl⟩;rw[Oper.upon_value];exact t;rw[Oper.upon_skip];exact t
end
theorem aem{p q:Nat->Bool}{i:Nat}(m:p i=true)(o:q i=false)(d:∀j,j≠i->q j=p j):∀{l:List Nat},l.Nodup->i∈l->(l.filter q).length+1=(l.filter p).length
 |[],_,h=>by grind
 |x::l,c,h=>by
  rw[au6] at c;by_cases e:x=i;grind[List.filter_congr];have g:i∈l:=by grind
  have r:=aem m o d c.2 g;grind
section
variable {b:kB}{aF:Array Oper}{n:Nat}{rv:List Rc}{z:List Pd}{h k:Hp}{U:Bool}{L:Nat->Nat}{a:Act}
theorem Pre.Do(pre:Pre P b nt B E f0 ds listed n rest rv z f h k false L φ a w):k=h:=by rcases pre.u with c|c;grind;grind
theorem LW(S:Stat P nt aF B E)(j:sy aF listed)(pre:Pre P b nt B E f0 ds listed n rest rv z f h k U L φ a w){d:DI}(hd:d∈rest)(g:listed.getD d.i false=false)
 {o:Oper} (m:aF[d.i]? =some o) (i:∀e∈o.after,Region.binds .any e=true->listed.getD e.on false=true) (l:∀e∈rest,kK e.k=true->listed.getD e.i false=true->uK B d e):xC φ f a.tmps d.c:=
 aee S j pre m g i (N:=[]) (T:=rv) rfl (λ_ c=>pre.sw S c hd) (λ_ c=>by grind) l pre.q
theorem LX(S:Stat P nt aF B E)(gw:listed.size=aF.size)(u:sy aF listed)(pre:Pre P b nt B E f0 ds listed n rest rv z f h k false L φ a w){d:DI}{l:List DI}(m:rest=d::l)
 (D:d.k=.g\/d.k=.a) (dy:listed.getD d.i false=false) {o:Oper} (ho:aF[d.i]? =some o) (V:kq P nt aF o=some d.c) (W:∀e∈o.after,Region.binds .any e=true->listed.getD e.on false=true)
 {x:AV} {v:Value} {h':Hp} {w':World} (hx:aj ψ x v) (r':R ψ h' w') (g:eS φ h w ψ w' h') (jD:∀p∈mN (n+1) z,aQ p.c.b p.f h=.v p.x->aQ p.c.b p.f h'=.v p.x):
 Pre P b nt B E f0 ds (listed.setIfInBounds d.i true) (n+1) l (⟨d,f,x⟩::rv) (mN (n+1) z) (put d.c.c x f) h' h' false L ψ (a.put o.dst v) w':=by
 have rJ:=pre.Do;subst rJ;have A:d.i<listed.size:=by grind
 obtain⟨G,C,_,_⟩:=wJ V;have hd:d∈rest:=by grind
 have J:=pre.FS S m;have T:qO d.k=true:=by rcases D with e|e<;>rw[e]<;>rfl
 have j:=pre.C;rw[m] at j;simp only[qp] at j;have jB:d.a=n/\qp (n+1) l=true:=by rcases D with e|e<;>rw[e] at j<;>simp only[atW] at j<;>exact⟨at7 j.1,j.2⟩
 have O:∀e∈E,listed.getD e.i false=true->pG B d.i e.i=true->False:=λe c Z q=>by obtain⟨K,N,_⟩:=S.a e c;have:=yR S.b u e.i d.i K N (u e.i K N Z) q;grind
 refine PU pre (L1:=[d]) (l:=l) m (M:=[⟨d,f,x⟩]) zm (λr hr=>by simp_all) (λe c=>by rw[jw A,if_neg (Ne.symm (J e c).a)])
  (λr hr=>by rw[jw A,if_neg (pre.sw S hr hd).a]) ⟨pre.q,pre.s⟩ (λp=>?_) (λp t=>?_) (λp t=>?_) g.n (λr hr hu c H=>?_) (λe c s=>?_) (λe c X s o' k' v' t=>t.GT g) (λr hr e c X s p=>?_)
  jB.2 r' (pre.F.ba g) (by rw[MZ];exact pre.I.bc g.n) (by rw[MY];exact pre.A)
 rw[PS d.c.c x f d.c rfl p];simp[val];rw[pre.q p];rw[Fx pre.A G C,t ⟨d,f,x⟩ zm];rfl;rw[Fx pre.A G C];simp[mF];simp_all;rcases H with H|⟨I,kT,yq⟩;grind[LG];have y:n+1<=r.d.a:=by rcases avh n r.d.a with i|i;omega;have q:=(pre.sw S hr hd).b I T (.inl zo);have:=yR S.b u d.i r.d.i o ho W q;grind
 have F:=WH kT y;exact⟨jD _ F c,.inr ⟨I,F,y⟩⟩;rcases pre.D e (by rw[m];exact aug _ c) s with i|i;exact i;cases i.2;simp at hr;subst hr;rintro⟨i,Y⟩;rcases(J e c).d with q|tu;exact O e (pre.pj (by rw[m];exact aug _ c)) s q;exact(_root_.Yv.BK tu).2.2 ⟨i,Y⟩
def aHm(E:List DI)(f0 fm:Fr):Prop:=∀p:Nat,an p fm=.B\/(an p fm=an p f0/\∀d∈E,eI d.c p=false)
theorem aen:∀(E:List DI)(f0:Fr),aHm E f0 (ku E f0)
 |[],f0=>λp=>.inr ⟨rfl,λd hd=>by grind⟩
 |d::E,f0=>λp=>by simp[ku];rcases aen E (put d.c.c .B f0) p with c|⟨c,e⟩;grind;rw[PS d.c.c .B f0 d.c rfl p] at c;grind
def aeo{fm:Fr}(j:aHm E f0 fm)(pre:Pre P b nt B E f0 ds listed n rest rv z f h k U L φ a w)(le:φ.l ψ):iq ψ fm a.tmps:=by
 refine⟨λt=>?_⟩;rcases j (gz t) with c|⟨c,g⟩;rw[c];simp only[aj];have i:=pre.m (gz t) λd hd _ _=>g d (pre.pj hd);have e:mF listed rv f0 (gz t)=an (gz t) f0:=by
  have:∀r∈rv,eI r.d.c (gz t)=false:=λr hr=>g r.d (pre.QP hr);induction rv with
  |nil=>rfl
  |cons r T _=>
   have:=WI (M:=r::T) (rv:=[]) (xI:=listed) (f0:=f0) this;simpa[mF] using this
 rw[e] at i;rw[c];exact nS le _ _ i
variable {Q:mj}{kp:aT->Prop}{fm:Fr}
theorem anP(C:zN P Q)(O:mS P)(S:Stat P nt aF B E)(hm:aHm E f0 fm)(X:listed.size=aF.size)(M:sy aF listed)(pre:Pre P b nt B E f0 ds listed n rest rv z f h k false L φ a w){d:DI}{l:List DI}(y:rest=d::l)
 (N:d.k=.g) (I:listed.getD d.i false=false) {o:Oper} (F:aF[d.i]? =some o) (A:kq P nt aF o=some d.c) (J:∀e∈o.after,Region.binds .any e=true->listed.getD e.on false=true)
 (hd:Dn (cE Q kp fm ds rest n z f h) oo) {K:Act->World->Prop}
 (Y:∀tJ gC f' h' ψ a' w',Pre P b nt B E f0 ds (listed.setIfInBounds d.i true) (n+1) l tJ gC f' h' h' false L ψ a' w'->Dn (cE Q kp fm ds l (n+1) gC f' h') oo->K a' w'):
 wpOp P aF (aEM P b nt kp oo) d.i K a w:=by
 have rJ:=pre.Do;subst rJ;have pD:d∈rest:=by grind
 have j:xC φ f a.tmps d.c:=LW S M pre pD I F J λe D gy dA=>by rw[y] at D;rcases atZ.1 D with rfl|D;grind;exact pre.FS S y e D
 obtain⟨jZ,fK,_,_⟩:=wJ A;rw[y] at hd;simp only[cE,N] at hd;unfold wpOp;simp only[F];cases Z:jO d.c.a f with
 |none=>rw[Z] at hd;exact hd.lh.elim
 |some t=>
  rw[Z] at hd;have qz:=Ws pre.A A j Z;cases t with
  |false=>
   rw[if_neg qaa];exact Y _ _ _ _ _ _ _ (LX S X M pre y (.inl N) I F A J DX pre.r (.cg φ k w) λ_ _ h=>h) hd
  |true=>
   rw[if_pos qz];refine .inl ?_;have q:=Wq O pre.r pre.g A j;unfold Oper.wp;generalize vl:(execOp a.eval o).run P w=jk at q|-;cases H:aQ d.c.b f k with
   |v x=>
    rw[H] at hd q;obtain⟨nx,v,w',rfl,hn,r,s⟩:=q;simp[tO] at hd;obtain⟨T,G⟩:=LO hd;have fL:=Y _ _ _ _ _ _ _ (LX S X M pre y (.inl N) I F A J r (pre.r.lL s) (eS.lL s) λp R _=>Iq T R) G;rcases hn with rfl|⟨rfl,rfl⟩;grind[Oper.upon_value];grind[Oper.upon_skip]
   |b x h'=>
    rw[H] at hd q;obtain⟨nx,v,w',uM,rfl,hn,V,m,r⟩:=q;simp[tO] at hd;obtain⟨T,G⟩:=LO hd;have fL:=Y _ _ _ _ _ _ _ (LX S X M pre y (.inl N) I F A J r V m λp R _=>Iq T R) G;rcases hn with rfl|⟨rfl,rfl⟩;grind[Oper.upon_value];grind[Oper.upon_skip]
   |c g args=>
    rw[H] at hd q;obtain⟨vs,w',rfl,s,A4⟩:=q;obtain⟨Ec,SX⟩:=C g args k _ oo φ w' vs hd (pre.r.lL s) pre.g A4;rw[Ec vs w',Oper.upon_enter];refine SX.mono λe SP D=>?_;obtain⟨co,pT,J6⟩:=D;cases co with
    |a v h'=>
     obtain⟨uM,u,rfl,r,V,m⟩:=J6;obtain⟨T,G⟩:=LO pT;exact Y _ _ _ _ _ _ _ (LX S X M pre y (.inl N) I F A J r V ((eS.lL s).ba m) λp R _=>Iq T R) G
    |b v h'=>
     obtain⟨uM,u,rfl,r,V,m⟩:=J6;have W:=(eS.lL (φ:=φ) (h:=k) s).ba m;exact⟨.d v fm h' ds,pT,u,uM,rfl,r,⟨V,pre.F.ba W,aeo hm pre W.n,pre.I.bc W.n,pre.A,pre.g.bc W.n⟩⟩
   |i x=>
    rw[H] at hd q;obtain⟨v,w',rfl,s,r⟩:=q;exact⟨.d x fm k ds,hd,v,φ,rfl,r,⟨pre.r.lL s,pre.F.ba (eS.lL s),aeo hm pre (.cg φ),pre.I,pre.A,pre.g⟩⟩
   |_=>rw[H] at hd;exact hd.lh.elim
end
end
section
open Go
variable {b:kB}{aF:Array Oper}{n:Nat}{rv:List Rc}{m:List Pd}{h u:Hp}{z:Bool}{s:Nat->Nat}{a:Act}
variable {q:mj}{kp:aT->Prop}{fm:Fr}
def WR{d:DI}{r:List DI}(p:d.k=.c)(hd:Dn (cE q kp fm ds (d::r) n m f h) oo):∃e g i j t c,r=e::g/\sF d.c.b f=some i/\sF e.c.b f=some j/\i≠j/\aQ d.c.b f h=.b t c/\Dn (cE q kp fm ds r n m f c) oo:=by
 simp only[cE,p] at hd;cases r with
 |nil=>exact hd.lh.elim
 |cons e g=>
  simp only at hd;cases c:sF d.c.b f with
  |none=>rw[c] at hd;exact hd.lh.elim
  |some i=>
   cases l:sF e.c.b f with
   |none=>rw[c,l] at hd;exact hd.lh.elim
   |some j=>
    rw[c,l] at hd;simp only at hd;cases o:Nat.beq i j with
    |true=>rw[o] at hd;exact hd.lh.elim
    |false=>
     rw[o] at hd;cases k:aQ d.c.b f h with
     |b x h'=>
      rw[k] at hd;exact⟨e,g,i,j,x,h',rfl,by rfl,by omega,(λv=>by simp_all),by rfl,hd⟩
     |_=>rw[k] at hd;exact hd.lh.elim
theorem WT{d:DI}{r:List DI}(g:d.k=.a)(hd:Dn (cE q kp fm ds (d::r) n m f h) oo):∃i c,aQ d.c.b f h=.b i c/\AS c (mN (n+1) m)=true/\Dn (cE q kp fm ds r (n+1) (mN (n+1) m) f c) oo:=by
 simp[cE,g] at hd;cases e:aQ d.c.b f h with
 |b x h'=>
  rw[e] at hd;obtain⟨k,j⟩:=LO hd;grind
 |_=>rw[e] at hd;exact hd.lh.elim
theorem LY(S:Stat P nt aF B E){d:DI}(hd:d∈E)(k:d.k=.c\/d.k=.a){o:Oper}(e:kq P nt aF o=some d.c):o.dst=none/\d.c.c=none/\∀tmps,Region.wanted o (yielded aF tmps)=true:=by
 have g:=S.f d hd;unfold I5 at g;obtain⟨p,j,_,i⟩:=wJ e;have c:d.c.c=none:=by grind[I4]
 refine⟨?_,c,λtmps=>?_⟩;cases l:o.dst with
 |none=>rfl
 |some t=>grind
 grind[Region.wanted,B0]
def PX{d:DI}{x:AV}{T:List Rc}(h:d.c.c=none)(g:Fr)(p:Nat):val (⟨d,g,x⟩::T) f0 p=val T f0 p:=by simp_all[eI,val]
theorem Iu{c:CI}(h:c.c=none)(p:Nat):eI c p=false:=by unfold eI;rw[h]
theorem PY(O:mS P)(pre:Pre P b nt B E f0 ds listed n rest rv m f h u z s φ a w){d:DI}{o:Oper}(i:kq P nt aF o=some d.c)(l:o.dst=none)(j:xC φ f a.tmps d.c){x:AV}{h':Hp}(g:aQ d.c.b f u=.b x h')
 {K:Act->World->Prop} {Q:Exit->Act->World->Prop} (r:∀ψ w',R ψ h' w'->eS φ u w ψ w' h'->K a w'):o.wp P a w K Q:=by
 have c:=Wq O pre.r pre.g i j;unfold Oper.wp;generalize D:(execOp a.eval o).run P w=jk at c|-;rw[g] at c;obtain⟨y,v,w',C,rfl,k,A,p,t⟩:=c;have e:∀v,a.put o.dst v=a:=λv=>by rw[l];rfl
 rcases k with rfl|⟨rfl,rfl⟩;grind[Oper.upon_value];grind[Oper.upon_skip]
theorem anQ(O:mS P)(S:Stat P nt aF B E)(gw:listed.size=aF.size)(L:sy aF listed)(pre:Pre P b nt B E f0 ds listed n rest rv m f h u false s φ a w){d:DI}{l:List DI}(v:rest=d::l)
 (t:d.k=.c) (V:listed.getD d.i false=false) {o:Oper} (A:aF[d.i]? =some o) (G:kq P nt aF o=some d.c) (H:∀e∈o.after,Region.binds .any e=true->listed.getD e.on false=true)
 (hd:Dn (cE q kp fm ds rest n m f h) oo) {K:Act->World->Prop}
 (X:∀tJ h' ψ a' w',Pre P b nt B E f0 ds (listed.setIfInBounds d.i true) n l tJ m f h' h' false s ψ a' w'->Dn (cE q kp fm ds l n m f h') oo->K a' w'):
 wpOp P aF (aEM P b nt kp oo) d.i K a w:=by
 have rJ:=pre.Do;subst rJ;have y:d∈rest:=by grind
 have F:d.i<listed.size:=by grind
 have Z:=pre.FS S v;have c:=LW S L pre y V A H λe k I x=>by grind
 obtain⟨R,W,qz⟩:=LY S (pre.pj y) (.inl t) G;rw[v] at hd;obtain⟨e,Q,i,j,x1,J,_,_,_,_,U,T⟩:=WR t hd;have D:=pre.C;rw[v] at D;simp[qp,t,atW] at D;unfold wpOp;simp[A];rw[if_pos (qz _)];refine .inl (PY O pre G R c U λuM w' Q g=>X ([⟨d,f,undef⟩]++rv) _ uM a w' ?_ T);refine PU pre (L1:=[d]) (l:=l) v (M:=[⟨d,f,undef⟩]) zm (λr hr=>by simp_all) (λe k=>by rw[jw F,if_neg (Ne.symm (Z e k).a)])
  (λr hr=>by rw[jw F,if_neg (pre.sw S hr y).a]) ⟨pre.q,pre.s⟩ (λp=>?_) (λp C=>rfl) (λp C=>?_) g.n (λr hr hu k N=>?_) (λe k x=>?_) (λe k I x o' k' v' C=>C.GT g) (λr hr e k I x p=>?_)
  D.2 Q (pre.F.ba g) (pre.I.bc g.n) pre.A
 rw[avO,PX W];exact pre.q p;grind[Iu];rcases N with N|⟨Y,kT,yq⟩;grind[LG];have rI:=(pre.sw S hr y).b Y (by rw[t];rfl) (.inr (.inl (by rw[t];rfl)));have:=yR S.b L d.i r.d.i o A H rI;grind;rcases pre.D e qaa x with J|J;omega;grind;grind[Iu]
theorem anR(O:mS P)(S:Stat P nt aF B E)(L:listed.size=aF.size)(F:sy aF listed)(pre:Pre P b nt B E f0 ds listed n rest rv m f h u false s φ a w){d:DI}{l:List DI}(g:rest=d::l)
 (k:d.k=.a) (A:listed.getD d.i false=false) {o:Oper} (r:aF[d.i]? =some o) (j:kq P nt aF o=some d.c) (C:∀e∈o.after,Region.binds .any e=true->listed.getD e.on false=true)
 (hd:Dn (cE q kp fm ds rest n m f h) oo) {K:Act->World->Prop}
 (M:∀V D f' h' ψ a' w',Pre P b nt B E f0 ds (listed.setIfInBounds d.i true) (n+1) l V D f' h' h' false s ψ a' w'->Dn (cE q kp fm ds l (n+1) D f' h') oo->K a' w'):
 wpOp P aF (aEM P b nt kp oo) d.i K a w:=by
 have U:=pre.Do;subst U;have G:d∈rest:=by grind
 have c:=LW S F pre G A r C λe i X W=>by rw[g] at i;rcases atZ.1 i with rfl|i;grind;exact pre.FS S g e i
 obtain⟨y,J,R⟩:=LY S (pre.pj G) (.inr k) j;rw[g] at hd;obtain⟨x1,Y,I,Q,H⟩:=WT k hd;unfold wpOp;simp[r];rw[if_pos (R _)];refine .inl (PY O pre j y c I λZ w' T t=>?_);have:=LX S L F pre g (.inr k) A r j C (x:=undef) (v:=Go.undef) DX T t λp N _=>Iq Q N;rw[J] at this;rw[y] at this;exact M _ _ _ _ _ _ _ this H
theorem anS(O:mS P)(S:Stat P nt aF B E)(gw:listed.size=aF.size)(hc:sy aF listed)(pre:Pre P b nt B E f0 ds listed n rest rv m f h u false s φ a w){d e:DI}{l:List DI}(G:rest=d::e::l)
 (I:d.k=.c) (v:e.k=.a) (N:listed.getD d.i false=false) (dy:listed.getD e.i false=false) {o:Oper} (T:aF[e.i]? =some o) (X:kq P nt aF o=some e.c) (Y:∀x∈o.after,Region.binds .any x=true->listed.getD x.on false=true)
 (hd:Dn (cE q kp fm ds rest n m f h) oo) {K:Act->World->Prop}
 (hK:∀mZ ψ a' w',Pre P b nt B E f0 ds (listed.setIfInBounds e.i true) n rest rv m f h mZ true s ψ a' w'->K a' w'):
 wpOp P aF (aEM P b nt kp oo) e.i K a w:=by
 have rJ:=pre.Do;subst rJ;have F:e∈rest:=by grind
 have pD:d∈rest:=by grind
 have W:e.i<listed.size:=by grind
 have PZ:=pre.FS S G;have aep:∀x∈l,uK B e x:=by have:=S.g;rw[pre.j,au9,G,avx,avx] at this;grind
 have t:xC φ f a.tmps e.c:=LW S hc pre F dy T Y λx c C CN=>by grind
 obtain⟨Di,fK,qz⟩:=LY S (pre.pj F) (.inr v) X;rw[G] at hd;obtain⟨e',l',i,j,x1,A,qK,hi,hj,DV,V,bC⟩:=WR I hd;cases qK;obtain⟨x2,H,U,jD,lN⟩:=WT v bC;obtain⟨rfl,rfl,g,R,g',NQ,M⟩:=anf hi hj DV V U;have Q:∀x∈E,x≠e->(listed.setIfInBounds e.i true).getD x.i false=listed.getD x.i false:=λx c bg=>by rw[jw W,if_neg λh=>bg (Pre.uniq S c (pre.pj F) h)]
 have J:∀r∈rv,(listed.setIfInBounds e.i true).getD r.d.i false=listed.getD r.d.i false:=λr hr=>by rw[jw W,if_neg (pre.sw S hr F).a]
 have L:∀x∈rest,kK x.k=true->(listed.setIfInBounds e.i true).getD x.i false=listed.getD x.i false:=λx c C=>Q x (pre.pj c) λh=>by rw[h,v] at C;cases C
 unfold wpOp;simp only[T];rw[if_pos (qz _)];refine .inl (PY O pre X Di t R λuM w' r' k=>hK g uM a w' ?_);refine⟨pre.j,pre.s,pre.q,λp hp=>?_,λr hr he=>by rw[J r hr];exact pre.J r hr he,λr hr hu=>?_,λx c D=>?_,λx c C D=>?_,λx c y hy A H Z h4 h5=>?_,
  .inr ⟨rfl,d,e,l,A,H,g',G,by rw[I];rfl,by rw[v];rfl,by simp_all,?_,V,U,NQ,M⟩,pre.C,r',pre.F.ba k,pre.I.bc k.n,pre.A,pre.g.bc k.n⟩
 rw[LQ (listed:=listed) λr hr _=>J r hr];exact nS k.n _ _ (pre.m p λx c C D=>hp x c C qaa);rw[J r hr] at hu;rcases pre.H r hr hu with R|⟨R,he,c⟩;grind;rcases c with c|⟨mV,kT,yq⟩;grind[LG];exfalso;have rI:=(pre.sw S hr F).b mV (by rw[v];rfl) (.inr (.inr (by rw[v];rfl)));have:=yR S.b hc e.i r.d.i o T Y rI;grind;by_cases yS:x=e;subst yS;exact .inr ⟨by rw[v];rfl,rfl⟩;rw[Q x (pre.pj c) yS] at D;rcases pre.D x c D with A|A;exact .inl A;cases A.2;rw[L x c C] at D;obtain⟨o',k',v',q1,q2,q3⟩:=pre.y x c C D;exact⟨o',k',v',q1,q2.GT k,q3⟩;rw[L x c A] at Z;rw[L y hy H] at h4;exact pre.G x c y hy A H Z h4 h5;rw[Q d (pre.pj pD) λh=>by rw[h,v] at I;cases I];exact N
theorem anU(O:mS P)(S:Stat P nt aF B E)(gw:listed.size=aF.size)(D:sy aF listed)(pre:Pre P b nt B E f0 ds listed n rest rv m f h u true s φ a w){d:DI}{l:List DI}(v:rest=d::l)
 (dy:listed.getD d.i false=false) {o:Oper} (Q:aF[d.i]? =some o) (eO:kq P nt aF o=some d.c) (fe:∀x∈o.after,Region.binds .any x=true->listed.getD x.on false=true)
 (hd:Dn (cE q kp fm ds rest n m f h) oo) {K:Act->World->Prop}
 (hK:∀l' tJ gC f' h' ψ a' w',Pre P b nt B E f0 ds (listed.setIfInBounds d.i true) (n+1) l' tJ gC f' h' h' false s ψ a' w'->Dn (cE q kp fm ds l' (n+1) gC f' h') oo->K a' w'):
 wpOp P aF (aEM P b nt kp oo) d.i K a w:=by
 rcases pre.u with N|⟨_,c,e,T,N,h2,mZ,e1,e2,e3,e4,e5,e6,e7,e8,e9⟩;grind;have P1:c=d/\e::T=l:=by grind
 obtain⟨rfl,rfl⟩:=P1;have j:c.k=.c:=by grind[zb]
 have L:e.k=.a:=by grind[tM]
 have zM:e∈rest:=by grind
 have G:c∈rest:=by grind
 have ao:c.i<listed.size:=by grind
 have Z:=pre.FS S v;have aep:∀x∈T,uK B e x:=by have:=S.g;rw[pre.j,au9,v,avx,avx] at this;grind
 have g:xC φ f a.tmps c.c:=LW S D pre G dy Q fe λx i qL t=>by grind
 obtain⟨Di,J,qz⟩:=LY S (pre.pj G) (.inl j) eO;obtain⟨oe,LJ,H⟩:=S.a e (pre.pj zM);obtain⟨_,WU,_⟩:=LY S (pre.pj zM) (.inr L) H;rw[v] at hd;obtain⟨_,_,_,_,x1,h1',qK,_,_,_,Y,bC⟩:=WR j hd;cases qK;rw[e6] at Y;cases Y;obtain⟨x2,h2',X,jD,lN⟩:=WT L bC;rw[e7] at X;cases X;have A:=pre.C;rw[v] at A;simp only[qp,j,L,atW] at A;unfold wpOp;simp only[Q];rw[if_pos (qz _)];refine .inl (PY O pre eO Di g e8 λV w' rr It=>hK _ ([⟨e,f,undef⟩,⟨c,f,undef⟩]++rv) _ _ _ V a w' ?_ lN);have U:R V h2 w':=rr.AC λk=>(e9 k).symm;have C:eS φ u w V w' h2:=It.AC λk=>(e9 k).symm;refine PU pre (L1:=[c,e]) (l:=T) qaa (M:=[⟨e,f,undef⟩,⟨c,f,undef⟩]) zm (λr hr=>?_) (λx i=>by rw[jw ao,if_neg (Ne.symm (Z x (aug _ i)).a)])
  (λr hr=>by rw[jw ao,if_neg (pre.sw S hr G).a]) ⟨λp=>by show an p f=val (⟨c,f,undef⟩::rv) f0 p;rw[PX J];exact pre.q p,pre.q,pre.s⟩ (λp=>?_) (λp F=>rfl) (λp F=>?_) C.n (λr hr hu he kN=>?_) (λx i t=>?_) (λx i qL t o' k' v' F=>F.GT C) (λr hr x i qL t p=>?_)
  A.2.2 U (pre.F.ba C) (pre.I.bc C.n) pre.A
 simp at hr;rcases hr with rfl|rfl;grind[jw];simp_all;show an p f=val (⟨e,f,undef⟩::⟨c,f,undef⟩::rv) f0 p;rw[PX WU,PX J];exact pre.q p;obtain⟨r,hr,hi⟩:=F;simp at hr;rcases hr with rfl|rfl;grind[Iu];grind[Iu];rcases kN with kN|⟨mV,kT,yq⟩;grind[LG];have rI:=(pre.sw S hr G).b mV (by rw[j];rfl) (.inr (.inl zo));have:=yR S.b D c.i r.d.i o Q fe rI;grind;rcases pre.D x qaa t with N|N;omega;exfalso;have W:x.k=.a:=by grind[tM]
 have I:=Z x (aug _ i);have Cg:=Dd A.2.2 x i (by rw[W];rfl);have pT:c.a=n:=at7 A.1.1;have LS:=I.f (by rw[j];rfl) (by rw[W];rfl) (by
  rw[j,W];simp only[zb,tM,av8];cases hb:Nat.beq c.a x.a with
  |false=>rfl
  |true=>grind[Nat.eq_of_beq_eq_true])
 obtain⟨ox,y,_⟩:=S.a x (pre.pj (by rw[v];exact aug _ (aug _ i)));have:=yR S.b D x.i c.i ox y (D x.i ox y t) LS;rw[dy] at this;cases this;simp only[atZ,awg,axx] at hr;rcases hr with rfl|rfl;rw[Iu WU];simp;rw[Iu J];simp
end
section
open Go
theorem WV(B:List Nat):∀(l:List (Nat×CI))(pl:Nat)(a:List DI)(d:DI),d∈(wu B l pl a).2 ->d∈a\/(d.i,d.c)∈l
 |[],_,_,_,h=>.inl h
 |(i,c)::l,pl,a,d,h=>by simp[wu] at h;split at h;rcases WV B l _ _ d h with e|e;grind;grind;rcases WV B l _ _ d h with e|e;grind;grind
theorem P3(B:List Nat)(cs:List (Nat×CI))(a:Nat->Bool):∀(m n pl:Nat)(f:List DI),(∀d∈f,(d.i,d.c)∈cs)->∀d∈DH B cs a m n pl f,(d.i,d.c)∈cs
 |0,_,_,f,h,d,hd=>by grind[DH]
 |m+1,n,pl,f,h,d,hd=>by
  have p:∀x∈(wu B cs pl f).2,(x.i,x.c)∈cs:=λx g=>by grind[WV]
  simp only[DH] at hd;split at hd;rename_i i c rest l;have k:(i,c)∈cs:=by
   have:(i,c)∈(List.filter (λx=> !a x.1) (List.filter (λx=>F6 x.2.b&& !I7 (wu B cs pl f).1 x.1 &&I6 B (wu B cs pl f).1 x.1) cs)):=by grind
   grind
  split at hd;rename_i j e o;refine P3 B cs a m _ _ _ (λx g=>?_) d hd;grind;refine P3 B cs a m _ _ _ (λx g=>?_) d hd;grind;split at hd;rename_i i c rest l;have k:(i,c)∈cs:=by
   have:(i,c)∈(List.filter (λx=>F6 x.2.b&& !I7 (wu B cs pl f).1 x.1 &&I6 B (wu B cs pl f).1 x.1) cs):=by grind
   grind
  refine P3 B cs a m _ _ _ (λx g=>?_) d hd;grind;grind
theorem aeq(B:List Nat)(a:List DI)(nO:Nat)(d:DI):(Mw B a nO d).i=d.i/\(Mw B a nO d).c=d.c:=by unfold Mw;grind
theorem anX{aF:List Oper}{cs:List CI}{l:List DI}(h:Qk aF cs=some l):(∃B,Qj B aF l=true)/\∀d∈l,cs[d.i]? =some d.c:=by simp only[Qk] at h;split at h;rename_i f;simp at h;refine⟨⟨_,by rw[<-h];omega⟩,λd hd=>?_⟩;rw[<-h] at hd;obtain⟨e,a,rfl⟩:=auR.1 hd;have c:=P3 _ _ _ _ _ _ [] zm e a;grind[aeq,List.getElem?_of_mem];grind
section
variable {b:kB}{aF:Array Oper}
variable {q:mj}{kp:aT->Prop}{fm:Fr}
def left(aF:Array Oper)(listed:Array Bool):Nat:=((List.range aF.size).filter λi=> !listed.getD i false).length
theorem anY{listed:Array Bool}(d:listed.size=aF.size){i:Nat}(hi:i<aF.size)(c:listed.getD i false=false):left aF (listed.setIfInBounds i true)+1=left aF listed:=by have a:i<listed.size:=zo;refine aem (i:=i) qaa qae (λj hj=>by rw[jw a,if_neg hj]) List.nodup_range qaa
theorem anZ{listed:Array Bool}(l:listed.size=aF.size)(f:sy aF listed){i:Nat}{o:Oper}(m:aF[i]? =some o)(k:∀e∈o.after,Region.binds .any e=true->listed.getD e.on false=true):sy aF (listed.setIfInBounds i true):=by
 have c:i<listed.size:=by grind
 intro j h hj a e g d;rw[jw c];split;rfl;rw[jw c] at a;split at a;grind;exact f j h hj a e g d
theorem an0(c:DD B 0 aF.toList=true){listed:Array Bool}(d:listed.size=aF.size)(h0:Region.ready .any aF listed=[]):∀i,i<aF.size->listed.getD i false=true:=by
 intro i;induction i using Nat.strongRecOn with
 |_ i l=>
  intro hi;cases j:listed.getD i false with
  |true=>rfl
  |false=>
   have a:=au7 hi;have k:i∈Region.ready .any aF listed:=by rw[mem_ready];refine⟨?_,aF[i],a,λe h g=>?_⟩;grind;obtain⟨f,_⟩:=WA c i aF[i] qaa;grind
   grind
theorem aer{listed:Array Bool}{i:Nat}(h:listed.getD i true=false):listed.getD i false=false:=by grind
theorem aes(S:Stat P nt aF B E){listed:Array Bool}{n:Nat}{rest:List DI}{rv:List Rc}{k:List Pd}{f:Fr}{h g:Hp}{s:Bool}{p:Nat->Nat}{φ:aH}{a:Act}{w:World}(z:∀i,i<aF.size->listed.getD i false=true)
 (pre:Pre P b nt B E f0 ds listed n rest rv k f h g s p φ a w) (hd:Dn (cE q kp fm ds rest n k f h) oo) (m:∀d l,rest=d::l->qO d.k=true/\listed.getD d.i false=false):aEM P b nt kp oo .normal a w:=by
 have c:∀d∈E,listed.getD d.i false=true:=λd hd=>by obtain⟨o,y,_⟩:=S.a d hd;grind
 cases rest with
 |cons d l=>
  have:=(m d l rfl).2;rw[c d (pre.pj zm)] at this;grind
 |nil=>
  have u:g=h:=by rcases pre.u with x|⟨_,d,e,A,_,_,_,v,_⟩;grind;grind
  subst u;refine⟨.c f g ds,hd,rfl,φ,pre.r,pre.F,⟨λt=>?_⟩,pre.I,pre.A,pre.g⟩;have j:=pre.m (gz t) λd hd=>by grind
  have e:mF listed rv f0 (gz t)=val rv f0 (gz t):=aed (N:=[]) (λ_ h=>by grind) λr hr _=>c r.d (pre.QP hr);rw[e] at j;rw[pre.q];exact j
theorem an1(C:zN P q)(O:mS P)(S:Stat P nt aF B E)(hm:aHm E f0 fm):∀(A:Nat)(listed:Array Bool)(n:Nat)(rest:List DI)(rv:List Rc)(F:List Pd)(f:Fr)(h R:Hp)(u:Bool)(bo:Nat->Nat)(φ:aH)(a:Act)(w:World),
 listed.size=aF.size->sy aF listed->left aF listed=A->Pre P b nt B E f0 ds listed n rest rv F f h R u bo φ a w->Dn (cE q kp fm ds rest n F f h) oo->wpAny P .any aF (aEM P b nt kp oo) A listed a w:=by
 intro A;induction A with
 |zero=>
  intro listed n rest rv F f h R u bo φ a w v y H pre hd;obtain⟨rest,n,rv,F,f,h,R,φ,pre,hd,X⟩:=aek S y rest pre hd;have jD:∀i,i<aF.size->listed.getD i false=true:=λi hi=>by
   cases hl:listed.getD i false with
   |true=>rfl
   |false=>
    have:i∈(List.range aF.size).filter λi=> !listed.getD i false:=avv.2 ⟨by grind,by grind⟩;have h0:=auv H;grind
  refine⟨?_,aes S jD pre hd X⟩;simp_all[Region.ready]
 |succ A ih=>
  intro listed n rest rv F f h R u bo φ a w v y H pre hd;obtain⟨rest,n,rv,F,f,h,R,φ,pre,hd,X⟩:=aek S y rest pre hd;refine⟨λh0=>aes S (an0 S.b v h0) pre hd X,λi hi=>?_⟩;obtain⟨M,o,s,Z⟩:=mem_ready.1 hi;have L:=aer M;have aev:i<aF.size:=(auc.1 s).1;have j:(listed.setIfInBounds i true).size=aF.size:=by grind
  have jQ:=anZ v y s Z;have W:left aF (listed.setIfInBounds i true)=A:=by grind[anY]
  obtain⟨d,Q,hdi⟩:=S.h i aev;subst hdi;obtain⟨o',fS,Y⟩:=S.a d Q;rw[s] at fS;cases fS;have p:=Q;rw[pre.j] at p;rcases auj.1 p with p|p;obtain⟨r,hr,an2⟩:=auR.1 p;rw[avq] at hr;obtain⟨N,T,qf⟩:=List.append_of_mem hr;grind[anG];cases k:rest with
  |nil=>grind
  |cons e l=>
   obtain⟨K,I⟩:=X e l k;by_cases P1:d=e;subst P1;cases D:d.k with
   |d=>rw[D] at K;cases K
   |f=>rw[D] at K;cases K
   |b=>exact ael O S v pre zo (by rw[D];rfl) L s Y λbo' a' w' z=>ih _ _ _ _ _ _ _ _ _ _ _ _ _ j jQ W z hd
   |g=>
    cases u with
    |true=>
     rcases pre.u with M|⟨_,d',e',r',_,_,_,m,t,_⟩;grind;rw[k] at m;cases m;rw[D] at t;cases t
    |false=>grind[anP]
   |c=>
    cases u with
    |true=>grind[anU]
    |false=>grind[anQ]
   |a=>
    cases u with
    |true=>
     rcases pre.u with M|⟨_,d',e',r',_,_,_,m,t,_⟩;grind;rw[k] at m;cases m;rw[D] at t;cases t
    |false=>exact anR O S v y pre k D L s Y Z hd λtJ gC f' h' ψ a' w' z bC=>ih _ _ _ _ _ _ _ _ _ _ _ _ _ j jQ W z bC
   have mT:d∈l:=by rw[k] at p;rcases atZ.1 p with x|x;exact absurd x P1;exact x
   cases ao:kK d.k with
   |true=>exact ael O S v pre p ao L s Y λbo' a' w' z=>ih _ _ _ _ _ _ _ _ _ _ _ _ _ j jQ W z hd
   |false=>
    have rel:=pre.FS S k d mT;cases U:(zb e.k&&tM d.k&&Nat.beq e.a d.a) with
    |false=>
     exfalso;have LS:=rel.f K ao U;have:=yR S.b y d.i e.i o s Z LS;rw[I] at this;cases this
    |true=>
     simp only[atW] at U;have gy:e.k=.c:=by have:=U.1.1;cases G:e.k<;>rw[G] at this<;>first|rfl|(simp[zb] at this)
     have N8:d.k=.a:=by have:=U.1.2;cases G:d.k<;>rw[G] at this<;>first|rfl|(simp[tM] at this)
     have V:=pre.C;rw[k] at V;simp only[qp,gy,atW] at V;cases l with
     |nil=>cases mT
     |cons g l'=>
      have hkg:g.k=.a:=by have this:tM g.k=true:=V.1.2;cases G:g.k<;>rw[G] at this<;>first|rfl|(simp[tM] at this)
      have J:=V.2;simp only[qp,hkg,atW] at J;have hdg:d=g:=by rcases atZ.1 mT with x|x;exact x;exfalso;have:=Dd J.2 d x (by rw[N8];rfl);have m:=at7 V.1.1;have t:=at7 U.2;omega
      subst hdg;cases u with
      |true=>
       rcases pre.u with M|⟨_,d',e',r',_,_,_,m,t,e3,e4,_⟩;cases M.1;rw[k] at m;cases m;rw[L] at e4;cases e4
      |false=>exact anS O S v y pre k gy N8 I L s Y Z hd λmZ ψ a' w' z=>ih _ _ _ _ _ _ _ _ _ _ _ _ _ j jQ W z hd
theorem an3(t:P.follows .mixedOrders=true):Nz P:=by
 intro q C O ro nt id aF b φ f h ds a w k oo l z c s hd;simp only[comp] at c;split at c;rename_i cs I;simp at c;split at c;rename_i m o;injection c with c;subst c;obtain⟨⟨B,n⟩,D⟩:=anX o;simp only[Qj,atW] at n;obtain⟨⟨⟨⟨⟨u,v⟩,x⟩,y⟩,F⟩,G⟩:=n;have S:Stat P nt aF B m:=by refine⟨u,aec v,λd hd=>auO.1 x d hd,λi hi=>?_,λd hd=>?_⟩;simp_all;grind[Ny]
 have H:∀i,(Array.replicate aF.size false).getD i false=false:=λi=>by rcases avh i aF.size with h|h;simp[h];grind
 refine wpIn_region_any t (Zp (z.imp (λh=>h) Zr) agO _ _ _ _ ?_);have A:sL w {w with drawn:=w.drawn+1}:=⟨rfl,rfl,rfl,rfl,axX _⟩;have g:=s.lL A;refine an1 C O S (aen m f) aF.size (Array.replicate aF.size false) 0 m [] [] f h h false (λ_=>0) φ a {w with drawn:=w.drawn+1} zm (λj J _ c=>by grind) ?_ ?_ hd;grind[left,List.filter_eq_self];refine⟨rfl,auW,λp=>rfl,λp _=>?_,(λr hr=>by grind),(λr hr=>by grind),(λd _ c=>by grind),(λd _ _ c=>by grind),(λd _ e _ _ _ c=>by grind),.inl ⟨rfl,rfl⟩,y,g.r,g.c,g.j,g.k,g.g⟩;have:=g.i.b p;exact this;grind;grind
end
end
section
open Go
variable {h:Hp}{a:Act}{o:Oper}
def an4(G:jq φ P)(b:iq φ f a.tmps)(r:R φ h w){t:TypeId}{x:Operand}{lo hi l:Option Operand}(u:o.op=.slice t x lo hi l):Good P φ h w f a o (aGi P t x lo hi l):=by
 have k:execOp a.eval o=(do pure (.value (<-Instr.sliceAt t (a.eval x) (lo.map a.eval) (hi.map a.eval) (l.map a.eval)))):=by simp[execOp,u]
 unfold aGi;split;rename_i d;split;exact M1 G b λq i=>M1 G b λp hh=>gY G b λc g=>iO k (afO d g (PM i) (PM hh));exact cy;rename_i n e d;split;rename_i s m j;exact M1 G b λq i=>M1 G b λp hh=>gY G b λc g=>iO k (afT r (Nat.succ_ne_zero _) d j g (PM i) (PM hh));exact cy;rename_i e d;split;rename_i s j;exact M1 G b λq i=>M1 G b λp hh=>gY G b λc g=>iO k (aMA d j g (PM i) (PM hh));exact cy;exact cy
theorem an5(G:jq φ P)(j:iq φ f a.tmps)(r:R φ h w){t:TypeId}{x:Operand}(k:o.op=.range t x):Good P φ h w f a o (eX P (.range t x)):=by
 have i:execOp a.eval o=(do pure (.value (<-Instr.range t (a.eval x)))):=by simp[execOp,k]
 simp[eX];split
 ·rename_i m e d;split
  ·rename_i l b;refine gY G j λc g=>vf i (agh r d ?_ g);unfold qq at b;split at b<;>first|(cases b;rfl)|skip
   split at b<;>first|(cases b;rfl)|grind
   grind
  exact cy
 exact cy
theorem an6(G:jq φ P)(d:iq φ f a.tmps)(r:R φ h w){x:Operand}(e:o.op=.entry x):Good P φ h w f a o (ap P .G x):=by
 have b:execOp a.eval o=(do pure (.value (<-Instr.entry (a.eval x)))):=by simp[execOp,e]
 refine gY G d λc g=>iO b ?_;simp[aQ];cases j:c.ab f with
 |a i off=>
  grind[aj,agm]
 |_=>trivial
def an7(G:jq φ P)(b:iq φ f a.tmps){c:Go.Call}(p:o.op=.defer c):Good P φ h w f a o (eX P (.defer c)):=by
 simp[eX];split;rename_i n s;refine gY G b λi d=>Cc G b λcs l=>?_;unfold Good;simp[aQ,Mt];cases m:i.ab f with
 |r g first cap=>
  rw[m] at d;obtain⟨fs,e,q,j,k⟩:=d;refine⟨{target:=.fn (.func g.n) e,args:=fs++c.args.map a.eval},w,by simp_all[execOp,resolve,Deferred.ofValue],.cg w,e,_,_,rfl,rfl,PN j (PN l k),?_⟩;simp
 |_=>trivial
 exact cy
theorem an8(G:jq φ P)(d:iq φ f a.tmps){x:Operand}(g:o.op=.panic x):Good P φ h w f a o (ap P .C x):=by
 refine gY G d λc b=>?_;unfold Good;simp[aQ,Qd];cases e:c.ab f with
 |q t v=>
  have j:=b;rw[e] at b;obtain⟨y,i,hd⟩:=b;refine⟨a.eval x,w,by simp_all[execOp,Instr.panic],.cg w,by grind⟩
 |_=>trivial
theorem an9(P:Program):mS P:=by
 intro φ h w f a o r G l;cases p:o.op with
 |move x=>
  refine gY G l λc j=>?_;unfold Good;rw[show execOp a.eval o=pure (.value (a.eval x)) by simp[execOp,p]];exact RQ rfl j
 |assign x=>
  refine gY G l λc j=>?_;unfold Good;rw[show execOp a.eval o=pure (.value (a.eval x)) by simp[execOp,p]];exact RQ rfl j
 |pick c x y=>
  exact gY G l λcc J=>kA G l λd e hd A=>iO (s:=do pure (if<-asBool (a.eval c) then a.eval x else a.eval y)) qai (afN J hd A)
 |alloc t=>grind[eX,af4]
 |box t x=>
  simp[eX];split;exact gY G l λc j=>vf (s:=Instr.box t (a.eval x)) qai (afU r j);exact cy
 |build t ps=>grind[eX,afX]
 |buildSlice t n ps=>grind[eX,afZ]
 |load t x=>
  simp[eX,Je];have A:execOp a.eval o=(do pure (.value (<-Instr.loadAt t (a.eval x)))):=by simp[execOp,p]
  split;rename_i d n q B;cases H:oR d with
  |true=>exact gY G l λc j=>iO A (YC r q H B j)
  |false=>exact gY G l λc j=>iO A (YB r q H j)
  exact cy
 |store t x y=>
  simp[eX];split;rename_i n q;exact kA G l λc d j hd=>Si (s:=Instr.storeAt t (a.eval x) (a.eval y)) qai (afV r q j hd);exact cy
 |nilCheck x=>grind[eX,gY,af8]
 |binOp b t x y ty=>grind[eX,ant]
 |unOp u t x=>
  have A:execOp a.eval o=(do pure (.value (<-Op.unary u (a.eval x)))):=by simp[execOp,p]
  cases u with
  |neg=>exact gY G l λc j=>iO A (afC j)
  |not=>exact gY G l λc j=>iO A (afD j)
  |xor=>exact cy
  |plus=>exact cy
 |convert s d x=>grind[eX,anu]
 |makeInterface t x=>
  simp[eX];split;exact cy;rename_i d q B;exact gY G l λc j=>iO (s:=Instr.makeInterface t (a.eval x)) qai (afJ B (λms e=>q ms e) j);exact cy
 |makeFunc fn x y=>
  cases fn with
  |func g=>
   refine Cc G l λcs M=>Cc G l λds N=>?_;refine iO (s:=Instr.makeFunc (.func g) (x.map a.eval) (y.map a.eval)) qai ?_;have:=af7 (P:=P) (w:=w) (fn:=g) rfl M N;rw[toList_map,toList_map];exact this
  |_=>grind[eX,cy]
 |makeMap t x=>
  cases x with
  |none=>exact vf (s:=Instr.makeMap t none) qai (af6 r)
  |some x=>grind[eX,cy]
 |makeSlice t x y=>
  simp only[eX];split;rename_i e q;split;rename_i i z B C;split;rename_i s D;split;rename_i L;exact kA G l λc d j hd=>vf (s:=Instr.makeSlice t (a.eval x) (a.eval y)) qai (af5 r q B C D L j hd);exact cy;exact cy;exact cy;exact cy
 |slice t x lo hi Q=>simp only[eX];exact an4 G l r p
 |fieldAddr s x k=>
  have A:execOp a.eval o=(do pure (.value (<-Instr.fieldAt s (a.eval x) k))):=by simp[execOp,p]
  simp only[eX,Ja];split;rename_i fs q;split;rename_i K B;split;rename_i n C;exact gY G l λc j=>iO A (afK q B C j);exact cy;exact cy;exact cy
 |field s x k=>
  have A:execOp a.eval o=(do pure (.value (<-Instr.field s (a.eval x) k))):=by simp[execOp,p]
  simp only[eX,Jb];split;rename_i fs q;split;rename_i K B;split;rename_i n d C D;exact gY G l λc j=>iO A (afM q B C D j);exact cy;exact cy;exact cy
 |indexAddr t x y=>
  have A:execOp a.eval o=(do pure (.value (<-Instr.indexAt t (a.eval x) (a.eval y)))):=by simp[execOp,p]
  simp only[eX,Jc];split;rename_i e q;split;rename_i s B;exact kA G l λc d j hd=>iO A (afQ q B j hd);exact cy;rename_i n e q;split;rename_i s B;exact kA G l λc d j hd=>iO A (afR q B j hd);exact cy;exact cy
 |index t x y=>
  have A:execOp a.eval o=(do pure (.value (<-Instr.index t (a.eval x) (a.eval y)))):=by simp[execOp,p]
  simp only[eX,Jd];split;rename_i q;exact kA G l λc d j hd=>iO A (afS q j hd);exact cy
 |lookup t x k ok=>
  have A:execOp a.eval o=(do pure (.value (<-Instr.lookup t (a.eval x) (a.eval k) ok))):=by simp[execOp,p]
  simp only[eX];split;rename_i I e q;split;rename_i z F B C;exact kA G l λc d j hd=>iO A (agc r q C B j hd);exact cy;exact cy
 |mapUpdate t m k v=>
  have A:execOp a.eval o=(do Instr.mapUpdate t (a.eval m) (a.eval k) (a.eval v);pure .skip):=by simp[execOp,p]
  simp only[eX];split;rename_i I e q;split;rename_i F B;exact gY G l λc j=>kA G l λd e hd E=>Si A (Y0 r q B j hd E);exact cy;exact cy
 |insert t m k v=>
  have A:execOp a.eval o=(do Instr.mapUpdate t (a.eval m) (a.eval k) (a.eval v);pure .skip):=by simp[execOp,p]
  simp only[eX];split;rename_i I e q;split;rename_i F B;exact gY G l λc j=>kA G l λd e hd E=>Si A (Y0 r q B j hd E);exact cy;exact cy
 |mapEntry|entryStore=>exact cy
 |range t x=>exact an5 G l r p
 |next x s=>simp only[eX];exact anx G l r p
 |entry x=>simp only[eX];exact an6 G l r p
 |typeAssert x O t ok=>
  have A:execOp a.eval o=(do pure (.value (<-Instr.typeAssert (a.eval x) O t ok))):=by simp[execOp,p]
  simp only[eX];split;exact cy;rename_i d q B;split;rename_i z C;exact gY G l λc j=>iO A (af9 B (λms e=>q ms e) C j);exact cy;exact cy
 |extract x n=>simp only[eX];exact gY G l λc j=>iO (s:=Instr.extract (a.eval x) n) qai (afI j)
 |call c=>simp only[eX];exact anD G l r p
 |panic x=>simp only[eX];exact an8 G l p
 |defer c=>exact an7 G l p
 |_=>simp only[eX];exact cy
def an'(c:CO):Bool:=match c with|.g=>true|_=>false
def nR(c:CO):Prop:=an' c=false
def xJ{s:String}:nR (.d s):=rfl
theorem L9{c:CO}(h:nR c)(e:c=.g):False:=by subst e;cases h
theorem Dk{F:CX->CO}{x:Operand}(h:∀c,nR (F c)):nR (ap P F x):=by unfold ap;split;grind;rfl
theorem aey{F:Option CX->CO}{x:Option Operand}(h:∀c,nR (F c)):nR (zh P F x):=by unfold zh;grind[Dk]
theorem FA{F:List CX->CO}{x:List Operand}(h:∀c,nR (F c)):nR (qP P F x):=by unfold qP;split;grind;rfl
theorem aoa{op:Op}(e:∀c,op≠.call c):nR (eX P op):=by
 have one:∀{F:CX->CO}{x:Operand},(∀c,nR (F c))->nR (ap P F x):=λh=>Dk h;have wX:∀{F:CX->CX->CO}{x y:Operand},(∀c d,nR (F c d))->nR (jm P F x y):=λh=>Dk λc=>Dk λd=>h c d;cases op<;>simp only[eX,Je,Ja,Jb,Jc,Jd,aGi,F8,F9,Ga,Gb,Gc]
 case call c=>grind
 case makeFunc fn x y=>cases fn<;>first|exact xJ|exact FA λ_=>FA λ_=>rfl
 case makeMap t x=>cases x<;>first|exact xJ|rfl
 case unOp u t x=>cases u<;>first|exact xJ|exact one λ_=>rfl
 case binOp b t x y ty=>
  cases b<;>simp only[]<;>(repeat' split)<;>first|exact xJ|exact wX λ_ _=>rfl
 all_goals(repeat' split)
 all_goals first
  |exact xJ
  |exact rfl
  |exact one λ_=>rfl
  |exact wX λ_ _=>rfl
  |exact one λ_=>wX λ_ _=>rfl
  |exact aey λ_=>aey λ_=>one λ_=>rfl
  |exact one λ_=>FA λ_=>rfl
theorem aob(P:Program):Fo P:=by
 intro o h i w;by_cases d:∃c,o.op=.call c
 ·obtain⟨c,e⟩:=d;rw[e] at h;simp[eX] at h;unfold AQ at h;split at h;exfalso;refine L9 ?_ h;split;split;rfl;split;split;exact FA λ_=>rfl;rfl;exact FA λ_=>rfl;rfl;refine(L9 ?_ h).elim;exact Dk λ_=>FA λ_=>rfl;grind
  ·rename_i b g;unfold DL at h;split at h
   case h_8=>
    refine⟨w,?_,.cg w⟩;simp_all[execOp,resolve,invoke,builtin]
   all_goals
    exfalso;refine L9 ?_ h
    repeat' split
   all_goals first
    |exact xJ
    |exact Dk λ_=>rfl
    |exact Dk λ_=>Dk λ_=>rfl
    |exact FA λ_=>rfl
    |rfl
 grind[L9,aoa]
def aoc{b:aM->Option CF}(T:Ed P b)(c:P.follows .mixedOrders=true):zN P (aE b (W b)):=
 am4 T (an9 P) (aob P) (an3 c)
end
section
open Go (IntKind FloatKind)
def mvN(g d i:Nat):Nat:=if i<g then i else i+d
variable {g d:Nat}
theorem aHr(i j:Nat):Nat.beq (mvN g d i) (mvN g d j)=Nat.beq i j:=by rw[avA,Nat.beq_eq,Nat.beq_eq];grind[mvN]
section
variable (g d:Nat)
mutual
def kf:AV->AV
 |.B=>.B|.g b=>.g b|.i n=>.i n|.s n=>.s n|.d k n=>.d k n|.w k b=>.w k b|.y l n=>.y l n
 |.a i o=>.a (mvN g d i) o
 |.u=>.u
 |.c i a b c e f=>.c (mvN g d i) a b c e f
 |.h=>.h
 |.j i=>.j (mvN g d i)
 |.A=>.A
 |.r f a b=>.r f (R1 a) (R1 b)
 |.C=>.C
 |.q t v=>.q t (kf v)
 |.x=>.x
 |.p l=>.p (R1 l)
 |.o l=>.o (R1 l)
 |.D=>.D|.F n=>.F n|.G n=>.G n
def R1:List AV->List AV
 |[]=>[]
 |x::l=>kf x::R1 l
end
def mvT(t:Nat->List AV):Nat->List AV:=λi=>R1 g d (t i)
def mvR:List (List AV)->List (List AV)
 |[]=>[]
 |x::l=>R1 g d x::mvR l
def mvO:AO->AO
 |.a el l=>.a el (R1 g d l)
 |.b el rw c fz t=>.b el rw c fz (mvT g d t)
 |.f _ _=>.c
 |.d ..=>.c
 |.h rw c t=>.h rw c (mvT g d t)
 |.c=>.c
 |.g=>.g
end
structure HR(g d:Nat)(B:Nat->AO)(h h':Hp):Prop where
 a:∀i,h'.ab (mvN g d i)=mvO g d (h.ab i)
 c:∀i,g<=i->i<g+d->h'.ab i=B i
 f:h'.a=h.a+d
 b:g<=h.a
def FR(g d:Nat)(f f':Fr):Prop:=∀p,f' p=kf g d (f p)
inductive R2(g d:Nat)(B:Nat->AO)(L:List Nat):OR->OR->Prop
 |v (x):R2 g d B L (.v x) (.v (kf g d x))
 |i (x) {h h'}:HR g d B h h'->R2 g d B L (.b x h) (.b (kf g d x) h')
 |c (fn:aM) (a):L.contains fn.n=true->R2 g d B L (.c fn a) (.c fn (R1 g d a))
 |f (x):R2 g d B L (.i x) (.i (kf g d x))
 |b (s r):R2 g d B L (.a s) r
section
variable {B:Nat->AO}{h h':Hp}{x:AV}{l r:List AV}{o:AO}{L:List Nat}
def R2.v'{x y:AV}(e:y=kf g d x):R2 g d B L (.v x) (.v y):=e▸.v x
def aKh:∀l:List AV,R1 g d l=l.map (kf g d)
 |[]=>rfl
 |x::l=>by rw[R1,aKh l];rfl
theorem HR.am(H:HR g d B h h')(o:AO):HR g d B (h.am o) (h'.am (mvO g d o)):=by
 have:=H.f;have:=H.b
 refine⟨λi=>?_,λi j k=>?_,by simp[Hp.am];omega,by simp[Hp.am];omega⟩;have e:Nat.beq (mvN g d i) h'.a=Nat.beq i h.a:=by rw[show h'.a=mvN g d h.a by grind[mvN],aHr]
 show cond (Nat.beq (mvN g d i) h'.a) (mvO g d o) (h'.t (mvN g d i))=mvO g d (cond (Nat.beq i h.a) o (h.t i));rw[e];cases Nat.beq i h.a;exact H.a i;rfl;show cond (Nat.beq i h'.a) _ (h'.t i)=_;have e:Nat.beq i h'.a=false:=by grind[Nat.eq_of_beq_eq_true]
 rw[e];exact H.c i j k
theorem HR.dT(H:HR g d B h h')(j:Nat)(o:AO):HR g d B (h.dT j o) (h'.dT (mvN g d j) (mvO g d o)):=by
 have:=H.f;have:=H.b
 refine⟨λi=>?_,λi k m=>?_,by grind[Hp.dT,mvN],by simp[Hp.dT];omega⟩;show cond (Nat.beq (mvN g d i) (mvN g d j)) (mvO g d o) (h'.t (mvN g d i))=mvO g d (cond (Nat.beq i j) o (h.t i));rw[aHr];cases Nat.beq i j;exact H.a i;rfl;show cond (Nat.beq i _) _ (h'.t i)=_;have e:Nat.beq i (mvN g d j)=false:=by grind[Nat.eq_of_beq_eq_true,mvN]
 rw[e];exact H.c i k m
def aFH(k:IntKind)(n:Int):kf g d (mL k n)=mL k n:=by cases k<;>rfl
def aIS(op:Int->Int->Int)(x y:AV):R2 g d B L (arith op x y) (arith op (kf g d x) (kf g d y)):=by unfold arith;split;exact .v _;exact .v' (aFH ..).symm;simp[kf];rename_i k a j b;cases qh k j;exact .b ..;exact .v' (aFH ..).symm;exact .b ..
end
end
section
open Go (IntKind FloatKind)
variable {g d:Nat}{B:Nat->AO}{h h':Hp}{x z:AV}{l r:List AV}{o:AO}{L:List Nat}
theorem aEz{p q a b:OR}(c:Bool)(e:R2 g d B L p a)(i:R2 g d B L q b):R2 g d B L (cond c p q) (cond c a b):=by grind
def aHs(op:Ieee.Format->Nat->Nat->Option Nat)(x y:AV):R2 g d B L (FO op x y) (FO op (kf g d x) (kf g d y)):=by unfold FO;split;refine aEz _ ?_ (.b ..);split;exact .v _;exact .b ..;exact .b ..
def aM1(x y:AV):R2 g d B L (Mn x y) (Mn (kf g d x) (kf g d y)):=by unfold Mn;split;exact aEz _ (.v _) (.b ..);exact .b ..
def aM2(x y:AV):R2 g d B L (lG x y) (lG (kf g d x) (kf g d y)):=by unfold lG;cases x<;>simp only[kf]<;>first|exact aIS Int.add _ _|exact aHs Ieee.Format.add _ _|exact aM1 _ _
def aM3(x y:AV):R2 g d B L (jb x y) (jb (kf g d x) (kf g d y)):=by unfold jb;cases x<;>simp only[kf]<;>first|exact aIS Int.sub _ _|exact aHs Ieee.Format.sub _ _
def aM4(x y:AV):R2 g d B L (qj x y) (qj (kf g d x) (kf g d y)):=by unfold qj;cases x<;>simp only[kf]<;>first|exact aIS Int.mul _ _|exact aHs Ieee.Format.mul _ _
def aM5(x y:AV):R2 g d B L (IL x y) (IL (kf g d x) (kf g d y)):=by unfold IL;split;exact aEz _ (.b ..) (.v _);exact aEz _ (.b ..) (.v' (aFH ..).symm);exact aEz _ (.v' (aFH ..).symm) (.b ..);exact .b ..
def aM6(x y:AV):R2 g d B L (we x y) (we (kf g d x) (kf g d y)):=by unfold we;cases x<;>simp only[kf]<;>first|exact aM5 _ _|exact aHs Ieee.Format.div _ _
def aM7(x y:AV):R2 g d B L (AH x y) (AH (kf g d x) (kf g d y)):=by unfold AH;split;exact aEz _ (.b ..) (.v _);exact aEz _ (.b ..) (.v _);exact aEz _ (.v _) (.b ..);exact .b ..
def aIT(op:(n:Nat)->BitVec n->BitVec n->BitVec n)(x y:AV):R2 g d B L (jI op x y) (jI op (kf g d x) (kf g d y)):=by unfold jI;split;exact .v' (aFH ..).symm;exact .v' (aFH ..).symm;exact aEz _ (.v' (aFH ..).symm) (.b ..);exact .b ..
def aF0(x:AV):mM (kf g d x)=mM x:=by cases x<;>rfl
def aKi(x:AV):intOf (kf g d x)=intOf x:=by cases x<;>rfl
def aM8{F:IntKind->Int->Nat->AV}(b:∀k a n,kf g d (F k a n)=F k a n) (x y:AV):R2 g d B L (oQ F x y) (oQ F (kf g d x) (kf g d y)):=by unfold oQ;rw[aF0];split;unfold W9;split;exact .v' (b ..).symm;exact .v' (b ..).symm;exact .v' (b ..).symm;exact .b ..;exact .b ..
def aM9(x y:AV):R2 g d B L (sC x y) (sC (kf g d x) (kf g d y)):=by unfold sC;rw[aF0];split;unfold Xa;split;exact .v _;exact .v _;exact .v _;exact .b ..;exact .b ..
def aKj(k:FK)(x y:AV):sD k (kf g d x) (kf g d y)=sD k x y:=by cases x<;>cases y<;>rfl
def aKk:∀(k:List FK)(l r:List AV),yX k (R1 g d l) (R1 g d r)=yX k l r
 |[],l,r=>by cases l<;>cases r<;>rfl
 |k::ks,[],r=>by rfl
 |k::ks,x::l,[]=>rfl
 |k::ks,x::l,y::r=>by simp only[R1,yX,aKj,aKk ks l r]
theorem aKl(k:EK)(x y:AV):cJ k (kf g d x) (kf g d y)=cJ k x y:=by
 cases k with
 |a k=>exact aKj ..
 |b ks=>cases x<;>cases y<;>first|rfl|exact aKk ..
 |d=>
  cases x<;>cases y<;>first|rfl|skip
  grind[kf,cJ,IM,aHr]
 |i l=>
  cases x<;>cases y<;>first|rfl|skip
  rename_i a v b w;cases v<;>cases w<;>rfl
 |_=>cases x<;>cases y<;>rfl
def aM'(k:EK)(x y:AV):R2 g d B L (Dv k x y) (Dv k (kf g d x) (kf g d y)):=by unfold Dv;rw[aKl];split;exact .v _;exact .b ..
def aNa(k:EK)(x y:AV):R2 g d B L (Mo k x y) (Mo k (kf g d x) (kf g d y)):=by unfold Mo;rw[aKl];split;exact .v _;exact .b ..
def aNb(x y:AV):qk (kf g d x) (kf g d y)=qk x y:=by cases x<;>cases y<;>rfl
def aNc(x y:AV):tK (kf g d x) (kf g d y)=tK x y:=by cases x<;>cases y<;>rfl
def aHt(F:Nat->Bool)(x y:AV):R2 g d B L (mc F x y) (mc F (kf g d x) (kf g d y)):=by unfold mc;rw[aNc];split;exact .v _;exact .b ..
theorem aF1:∀(n:Nat)(l:List AV),gK n (R1 g d l)=(gK n l).map (R1 g d)
 |0,_=>rfl
 |n+1,[]=>rfl
 |n+1,x::l=>by simp[R1,gK,aF1 n l];cases gK n l<;>rfl
theorem aGb:∀(n:Nat)(l:List AV),kH n (R1 g d l)=R1 g d (kH n l)
 |0,_=>rfl
 |n+1,[]=>rfl
 |n+1,x::l=>aGb n l
def aKm:∀l r:List AV,fF (R1 g d l) (R1 g d r)=R1 g d (fF l r)
 |[],_=>rfl
 |x::l,r=>by simp only[R1,fF,aKm l r]
def aF2:∀l:List AV,gk (R1 g d l)=gk l
 |[]=>rfl
 |x::l=>by simp only[R1,gk,aF2 l]
def aIU:∀(n:Nat)(l:List AV),FN n (R1 g d l)=(FN n l).map (kf g d)
 |0,[]=>rfl
 |n+1,[]=>rfl
 |0,x::l=>rfl
 |n+1,x::l=>aIU n l
def aIV(t:N3 (List AV)):∀n k,xL (mvT g d t) n k=R1 g d (xL t n k)
 |0,_=>rfl
 |n+1,k=>by simp[xL,aIV t n,<-aKm];rfl
theorem aKn(o:AO)(a n:Nat):cellsOf (mvO g d o) a n=(cellsOf o a n).map (R1 g d):=by
 cases o with
 |a el l=>grind[mvO,cellsOf,aGb,aF1]
 |b el rw c fz t=>
  simp[mvO,cellsOf];cases(_&&_:Bool)<;>simp only[cond];cases(_&&_&&_:Bool)<;>simp only[cond,aIV,aF1,Option.map];rw[<-aF1,<-aGb];rfl
 |h rw c t=>
  simp[mvO,cellsOf];cases(_&&_:Bool)<;>simp only[cond];cases(_&&_&&_:Bool)<;>simp only[cond,aIV,aF1,Option.map];rw[<-aF1,<-aGb];rfl
 |_=>rfl
def aKo:∀l r:List AV,BQ (R1 g d l) (R1 g d r)=(BQ l r).map (R1 g d)
 |[],_=>rfl
 |x::l,[]=>rfl
 |x::l,y::r=>by simp[R1,BQ,aKo l r];cases BQ l r<;>rfl
theorem aHu:∀(n:Nat)(l r:List AV),mK n (R1 g d l) (R1 g d r)=(mK n l r).map (R1 g d)
 |0,l,r=>aKo l r
 |n+1,l,[]=>rfl
 |n+1,l,y::r=>by simp[R1,mK,aHu n l r];cases mK n l r<;>rfl
theorem aHv(t:N3 (List AV))(k:Nat)(r:List AV):cx (mvT g d t) k (R1 g d r)=mvT g d (cx t k r):=by funext j;show cond (Nat.beq j k) _ _=R1 g d (cond (Nat.beq j k) _ _);cases Nat.beq j k<;>rfl
theorem aHw:∀(t:N3 (List AV))(k:Nat)(l:List (List AV)),jy (mvT g d t) k (mvR g d l)=mvT g d (jy t k l)
 |_,_,[]=>rfl
 |t,k,r::l=>by simp only[mvR,jy,aHv,aHw _ _ l]
theorem aIW(rw:Nat):∀(n:Nat)(l:List AV),uO rw n (R1 g d l)=(uO rw n l).map (mvR g d)
 |0,_=>rfl
 |n+1,l=>by
  simp[uO,aF1,aGb];cases gK rw l with
  |none=>rfl
  |some r=>
   simp[Option.map,aIW rw n];cases uO rw n (kH rw l)<;>rfl
theorem aKp(o:AO)(a:Nat)(l:List AV):setCells (mvO g d o) a (R1 g d l)=(setCells o a l).map (mvO g d):=by
 cases o with
 |a el r=>
  grind[mvO,setCells,aHu]
 |b el rw c fz t=>
  simp[mvO,setCells,aF2];cases(_&&_&&_:Bool)<;>simp only[cond];cases(_&&_&&_&&_:Bool)<;>simp only[cond,aIW,Option.map];grind[aHw,mvO];show(match mK _ _ (R1 g d (dY t (Nat.div a rw))) with|some e=>_|none=>_)=_;grind[aHu,aHv,mvO]
 |_=>rfl
def aKq(t:N3 (List AV)):∀n k,dw (mvT g d t) n k=mvR g d (dw t n k)
 |0,_=>rfl
 |n+1,k=>by simp[dw,aKq t n,mvR];rfl
theorem aGn(o:AO)(a rw n:Nat):kZ (mvO g d o) a rw n=(kZ o a rw n).map (mvR g d):=by
 cases o with
 |a el l=>grind[mvO,kZ,aGb,aIW]
 |b el nN c fz t=>
  simp[mvO,kZ];cases(_&&_&&_:Bool)<;>simp only[cond,aKq,Option.map]
 |_=>rfl
def aIX:∀(l:List (List AV))(o:AO)(a rw:Nat),yW (mvO g d o) a rw (mvR g d l)=(yW o a rw l).map (mvO g d)
 |[],_,_,_=>rfl
 |r::l,o,a,rw=>by
  simp[mvR,yW,aKp];cases setCells o a r with
  |none=>rfl
  |some o'=>exact aIX l o' _ rw
theorem aHx:∀l r:List (List AV),mvR g d (l++r)=mvR g d l++mvR g d r
 |[],_=>rfl
 |x::l,r=>by simp only[auY,mvR,aHx l r]
def aHy(x:AV):bQ (kf g d x)=(bQ x).map (R1 g d):=by cases x<;>rfl
theorem aGo(el rw n:Nat)(l:List (List AV)):mvO g d (jJ el rw n l)=jJ el rw n (mvR g d l):=by show AO.b el rw n 0 (mvT g d _)=_;rw[<-aHw];rfl
theorem aHz:∀l n,mvR g d (mg l n)=mg l n
 |0,_=>rfl
 |l+1,n=>by simp[mg,mvR,aHz l];rfl
def aFS(H:HR g d B h h'){o o':AO}(e:o'=mvO g d o){k a:Nat->AV}(b:a h'.a=kf g d (k h.a)):R2 g d B L (alloc h o k) (alloc h' o' a):=by subst e;unfold alloc;rw[b];exact .i _ (H.am o)
theorem HR.WF(H:HR g d B h h'):h'.a=mvN g d h.a:=by have:=H.f;have:=H.b;grind[mvN]
def aKr(H:HR g d B h h')(x:AV):R2 g d B L (Dw h x) (Dw h' (kf g d x)):=by
 cases x<;>first|exact .b ..|skip
 rename_i i o;simp[kf,Dw,H.a,aKn];rcases cellsOf (h.ab i) o 1 with _|_|⟨v,l⟩;exact .b ..;exact .b ..;exact .v _
def aKs(H:HR g d B h h')(n:Nat)(x:AV):R2 g d B L (Dx h n x) (Dx h' n (kf g d x)):=by
 cases x<;>first|exact .b ..|skip
 rename_i i o;simp[kf,Dx,H.a,aKn];cases cellsOf (h.ab i) o n;exact .b ..;exact .v _
def aNd(H:HR g d B h h')(n:Nat)(x y:AV):R2 g d B L (FP h n x y) (FP h' n (kf g d x) (kf g d y)):=by
 cases x<;>first|exact .b ..|skip
 rename_i i o;simp[kf,FP,H.a,aHy];cases bQ y with
 |none=>exact .b ..
 |some l=>
  simp[Option.map,aF2,aKp];refine aEz _ ?_ (.b ..);cases setCells (h.ab i) o l with
  |none=>exact .b ..
  |some q=>exact .i undef (H.dT i q)
def aKt{G G':CX->AV}:∀(ps:List (Nat×Nat×CX))(l:List AV),(∀p∈ps,G' p.2.2 =kf g d (G p.2.2))->AI G' (R1 g d l) ps=(AI G l ps).map (R1 g d)
 |[],_,_=>rfl
 |(a,n,x)::ps,l,b=>by
  simp[AI];rw[b _ (au0 ..),aHy];cases bQ (G x) with
  |none=>rfl
  |some c=>
   simp[Option.map,aF2,aHu];cases Nat.beq (gk c) n<;>simp only[cond];cases mK a c l with
   |none=>rfl
   |some i=>exact aKt ps i λp e=>b p (aug _ e)
def aKu(rw n:Nat){G G':CX->AV}:∀(ps:List (Nat×CX))(t:N3 (List AV)),(∀p∈ps,G' p.2 =kf g d (G p.2))->wg rw n G' ps (mvT g d t)=(wg rw n G ps t).map (mvT g d)
 |[],_,_=>rfl
 |(j,x)::ps,t,a=>by
  simp[wg];rw[a _ (au0 ..),aHy];cases bQ (G x) with
  |none=>rfl
  |some c=>
   simp[Option.map,aF2];cases(_&&_:Bool)<;>simp only[cond];rw[aHv];exact aKu rw n ps _ λp b=>a p (aug _ b)
def aIY(r:List AV):∀(n k:Nat)(t:N3 (List AV)),qm (R1 g d r) n k (mvT g d t)=mvT g d (qm r n k t)
 |0,_,_=>rfl
 |n+1,k,t=>by simp only[qm,aHv,aIY r n]
def aHA(lo hi:Option AV)(a b:Nat):bounds (lo.map (kf g d)) (hi.map (kf g d)) a b=bounds lo hi a b:=by cases lo<;>cases hi<;>simp only[bounds,Option.map,aF0]
def aNe(x:AV)(lo hi:Option AV):R2 g d B L (wh x lo hi) (wh (kf g d x) (lo.map (kf g d)) (hi.map (kf g d))):=by
 cases x<;>first|exact .b ..|skip
 simp[kf,wh,aHA];split;exact .v _;exact .b ..
def aNf(o:AO):IN (mvO g d o)=IN o:=by cases o<;>first|rfl|exact aF2 _
def aNg(H:HR g d B h h')(rw n:Nat)(x:AV)(lo hi:Option AV):R2 g d B L (FQ h rw n x lo hi) (FQ h' rw n (kf g d x) (lo.map (kf g d)) (hi.map (kf g d))):=by
 cases x<;>first|exact .b ..|skip
 simp[kf,FQ,aHA,H.a,aNf];split;exact aEz _ (.v _) (.b ..);exact .b ..;simp[kf,FQ,aHA];refine aEz _ ?_ (.b ..);split;exact .v _;exact .b ..;simp[kf,FQ,aHA];refine aEz _ ?_ (.b ..);split;exact .v .h;exact .b ..
def aNh(rw:Nat)(x y:AV):R2 g d B L (Dy rw x y) (Dy rw (kf g d x) (kf g d y)):=by
 cases x<;>first|exact .b ..|skip
 simp[kf,Dy,aF0];split;exact aEz _ (.v _) (.b ..);exact .b ..
def aNi(rw n:Nat)(x y:AV):R2 g d B L (yY rw n x y) (yY rw n (kf g d x) (kf g d y)):=by
 cases x<;>first|exact .b ..|skip
 simp[kf,yY,aF0];split;exact aEz _ (.v _) (.b ..);exact .b ..
def aNj(x y:AV):R2 g d B L (nh x y) (nh (kf g d x) (kf g d y)):=by
 cases x<;>first|exact .b ..|skip
 simp[kf,nh,aF0];split;exact aEz _ (.v _) (.b ..);exact .b ..
def aNk(l:List AV)(a n:Nat)(b:Bool):R2 g d B L (IP l a n b) (IP (R1 g d l) a n b):=by unfold IP;cases b<;>simp only[cond];rw[aIU];cases FN a l;exact .b ..;exact .v _;rw[aGb,aF1];cases gK n (kH a l);exact .b ..;exact .v _
def aNl(x:AV)(a n:Nat)(b:Bool):R2 g d B L (IQ x a n b) (IQ (kf g d x) a n b):=by cases x<;>first|exact .b ..|exact aNk _ _ _ _
def aNm(x:AV)(n:Nat):R2 g d B L (IV x n) (IV (kf g d x) n):=by
 cases x<;>first|exact .b ..|skip
 simp[kf,IV,aIU];cases FN n _;exact .b ..;exact .v _
def aNn(ok:Bool)(v:AV)(b:Bool):R2 g d B L (y7 ok v b) (y7 ok (kf g d v) b):=by cases ok<;>exact .v _
theorem aNo(t:Nat){z a:AV}(b:a=kf g d z)(x:AV)(ok:Bool):R2 g d B L (IU t z x ok) (IU t a (kf g d x) ok):=by
 subst b;cases x<;>first|exact .b ..|skip
 exact aEz _ (aNn ..) (aEz _ (.v _) (.b ..));exact aEz _ (.v _) (.b ..)
def aNp(o:AO):wo (mvO g d o)=mvO g d (wo o):=by cases o<;>rfl
theorem aNq(H:HR g d B h h')(rw:Nat)(y:AV):rL h' rw (kf g d y)=(rL h rw y).map (mvR g d):=by
 cases y<;>first|rfl|skip
 grind[kf,rL,aHz];simp only[kf,rL,H.a,aNp,aGn]
def aKv(y:AV):lenOf (kf g d y)=lenOf y:=by cases y<;>rfl
theorem aNr(el:Nat)(o:AO)(a rw n m:Nat)(rs:List (List AV)):BW el (mvO g d o) a rw n m (mvR g d rs)=(BW el o a rw n m rs).map (mvO g d):=by
 cases o with
 |a e l=>
  simp[BW];rw[aGn];cases kZ (.a e l) a rw n with
  |none=>rfl
  |some iI=>
   simp[mvO,Option.map];cases Nat.beq el e;rfl;simp only[cond,<-aHx];exact aui some (aGo ..).symm
 |b e nN c fz t=>
  simp[BW];rw[aGn];simp[mvO];cases(_&&_:Bool)<;>simp only[cond];rfl;cases(_&&_&&_:Bool)<;>simp only[cond];grind[aHx,aGo];grind[aHw,mvO]
 |_=>rfl
def aNs(H:HR g d B h h')(el rw a:Nat)(x y:AV):R2 g d B L (kJ h el rw a x y) (kJ h' el rw a (kf g d x) (kf g d y)):=by
 simp[kJ,aNq H,aKv];cases rL h rw y with
 |none=>exact .b ..
 |some rs=>
  cases lenOf y with
  |none=>exact .b ..
  |some n=>
   cases n with
   |zero=>cases x<;>first|exact .b ..|exact .v _
   |succ n=>
    cases x<;>first|exact .b ..|skip
    rename_i i off nN len cap ex;refine aEz _ (aEz _ ?_ ?_) (.b ..);rw[H.a,aIX];cases yW (h.ab i) (Nat.add off (Nat.mul len rw)) rw rs with
    |none=>exact .b ..
    |some q=>exact .i _ (H.dT i q)
    rw[H.a];cases ex;simp[cond,aNr];cases BW el (h.ab i) off rw len (Nat.succ n) rs with
    |none=>exact .b ..
    |some q=>exact aFS (H.dT i .c) rfl (by rw[(H.dT i .c).WF];rfl)
    simp[cond,aGn];cases kZ (h.ab i) off rw len with
    |none=>exact .b ..
    |some iI=>exact aFS H (by rw[aGo,aHx]) qak
    exact aEz _ (aFS H (aGo ..).symm qak) (.b ..)
def aNt(H:HR g d B h h')(k:Nat)(a:k≠2)(x:AV):R2 g d B L (aEW k h x) (aEW k h' (kf g d x)):=by
 cases x<;>first|exact .b ..|exact aEz _ (.v _) (.b ..)|skip
 rename_i i;have:Nat.beq k 2=false:=by simp_all[aP3]
 simp[aEW,this,cond];split<;>exact .b ..
theorem aNu(H:HR g d B h h')(rw k:Nat)(y:AV):Mp h' rw k (kf g d y)=(Mp h rw k y).map (mvR g d):=by
 cases y<;>first|rfl|skip
 grind[kf,Mp,aHz];simp only[kf,Mp,H.a,aGn]
def aNv(H:HR g d B h h')(rw:Nat)(x y:AV):R2 g d B L (FV h rw x y) (FV h' rw (kf g d x) (kf g d y)):=by
 simp[FV,aKv];cases lenOf x with
 |none=>exact .b ..
 |some n=>
  cases lenOf y with
  |none=>exact .b ..
  |some m=>
   cases x<;>first|exact .b ..|exact .v _|skip
   rename_i i off _ _ _ _;simp[kf,aNu H,H.a];rcases Mp h rw (Nat.min m n) y with _|_|⟨r,rs⟩;exact .b ..;exact .v _;show R2 g d B L _ (match yW (mvO g d (h.ab i)) off rw (mvR g d (r::rs)) with|some o=>_|none=>_);rw[aIX];simp;cases yW (h.ab i) off rw (r::rs) with
   |none=>exact .b ..
   |some q=>exact .i _ (H.dT i q)
theorem aIZ(le:Bool):∀(l:List AV)(x:AV),R2 g d B L (wq le x l) (wq le (kf g d x) (R1 g d l))
 |[],x=>.v _
 |y::l,x=>by
  simp[R1,wq,aNb];cases qk x y with
  |none=>exact .b ..
  |some o=>
   simp;have e:∀c:Bool,(cond c (kf g d x) (kf g d y))=kf g d (cond c x y):=by grind
   rw[e];exact aIZ le l _
end
end Yv
