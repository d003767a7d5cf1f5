/- A part of the proof of 'TypesZeroUptoCardSaid'. No condition. -/
import Derived.Test.YtakmgamiepdiiaaGreatDoorX01
import Derived.Laws.BytesString
import Derived.RangeFuncLeaves
import Derived.OrdersIn
import Derived.RecoverIn
import Derived.Scope
import Derived.Laws.IdiomStrings
import Derived.Lib.Bytealg
import Derived.Laws.Externs
import Derived.Orders
set_option maxHeartbeats 64000000
set_option maxRecDepth 100000
set_option linter.all false
namespace Yv
open Go
variable {P:Program}{a:Act}{f:Fr}{h:Hp}{w:World}{φ:kf}
section
variable {o:Oper}
theorem Zm:∀{rs:List (List AV)}{l:List Nat},bytesRow rs=some l->rs=(l.map λb=>[.s b])/\∀b∈l,b<256
 |[],l,hh=>by simp[bytesRow,atU] at hh;grind
 |r::rs,l,hh=>by
  unfold bytesRow at hh;split at hh
  grind
  rename_i b k e;cases e;obtain⟨c,hh⟩:=qt hh;rw[je] at c;split at hh;rename_i j d;cases hh;obtain⟨g,i⟩:=Zm d
  grind
  grind
  grind
theorem Zn{rw n k:Nat}{y:AV}{v:Value}{rs:List (List AV)}(r:R φ h w)(q:aj φ y v)(e:Mp h rw k y=some rs)(p:lenOf y=some n)(D:k<=n):
 ∃(cs:Array Value) (c:Nat->Option AV),(Builtin.lenOf v).run P w=.ok n w/\(Builtin.firstCells rw k v).run P w=.ok cs w/\nj rs rw k c/\sS φ (k*rw) c cs.toList:=by
 cases y<;>simp only[Mp,reduceCtorEq] at e<;>simp only[lenOf,atU] at p<;>simp only[aj] at q
 case o=>
  subst q;subst p;have:k=0:=zo;subst this;cases e;exact⟨#[],λ_=>none,rfl,rfl,⟨rfl,by simp,λk j D=>absurd D (avm _)⟩,⟨by simp,λj x _ u=>zo,by simp⟩⟩
 case c i off nN len cap ex=>
  subst p;obtain⟨d,M,cc,rfl,g1,g2,O,Q⟩:=q;obtain⟨vs,g,H,_,T⟩:=Nk r e;refine⟨vs.toArray,_,rfl,?_,H,by omega⟩
  by_cases h0:k*rw=0
  have:vs=[]:=auv (by rw[g.1,h0]);simp_all[Builtin.firstCells,loadCells,loadCellsFrom];have I:=run_loadCells_list (P:=P) w ⟨φ.a i,φ.c i+off,none⟩ vs (λj v t=>by grind [xV]);rw[g.1] at I
  grind [Builtin.firstCells]
 case A l m=>
  subst p;obtain⟨s,rfl,E⟩:=q;obtain⟨B,e⟩:=qt e;rw[iH] at B;subst B;cases e;have z:=E.wa;have S:(s.extract 0 k).data=s.data.extract 0 k:=by simp
  have J:s.data.size=l:=z;refine⟨(s.extract 0 k).data.map λb=>.int .u8 b.toNat,_,by simp[Builtin.lenOf,z],rfl,Nl,?_⟩;refine⟨by grind,λj x C u=>?_,λv t=>?_⟩;rw[axu] at C;simp[atV C] at u;cases u;obtain⟨b,K,N⟩:=E.ac (show j<l by omega);have U:s.data[j]? =some b:=by obtain⟨F,G⟩:=awd.1 K;exact auc.2 ⟨F,G⟩
  have L:(s.data.extract 0 k)[j]? =some b:=by grind
  simp_all[aj];simp only[awC,auR] at t;obtain⟨b,_,rfl⟩:=t;rfl
theorem agA{t u ty e:TypeId}{rw:Nat}(r:R φ h w)(G:P.underlying t=some (.slice e))(Q:fI P e=some rw)(K:0<rw){x y:AV}{d v:Value}(q:aj φ x d)(b:aj φ y v):
 aEE P φ h w (Builtin.copy_ #[t,u] ty #[d,v]) (FV h rw x y):=by
 have C:=aEU Q;unfold FV;split
 ·rename_i n m p g;cases x<;>simp only[lenOf,atU,reduceCtorEq] at p<;>simp only[aj] at q
  case o=>
   subst p;subst q;have M:(Builtin.lenOf v).run P w=.ok m w:=by cases y<;>simp only[lenOf,atU,reduceCtorEq] at g<;>simp only[aj] at b;obtain⟨s,rfl,F⟩:=b;rw[<-g,<-F.wa];rfl;obtain⟨_,_,_,rfl,_⟩:=b;rw[<-g];rfl;subst b;rw[<-g];rfl
   have z:∃cs,(Builtin.firstCells rw 0 v).run P w=.ok cs w:=by cases y<;>simp only[lenOf,atU,reduceCtorEq] at g<;>simp only[aj] at b;obtain⟨s,rfl,F⟩:=b;exact⟨_,rfl⟩;obtain⟨_,J,_,rfl,_⟩:=b;simp_all[Builtin.firstCells,loadCells,loadCellsFrom];subst b;exact⟨_,rfl⟩
   obtain⟨cs,z⟩:=z;have L:Nat.min m 0=0:=Nat.min_zero m;refine⟨.int .i64 0,w,?_,by rfl,.da w⟩;simp[Builtin.copy_,bZ G,C,M,z,goInt]
  case A=>exact jY
  case c i off nN len cap ex=>
   subst p;obtain⟨hd,J,c,rfl,x1,x2,x3,V⟩:=q;simp;split;rename_i l;obtain⟨cs,cc,H,I,j,k⟩:=Zn (P:=P) r b l g (Nat.min_le_left m len);have h0:Nat.min m len=0:=by have:=j.a;grind
   have S:=auv (by rw[k.1,h0,awN]);refine⟨.int .i64 (Nat.min m len),w,?_,by rfl,.da w⟩;simp[Builtin.copy_,bZ G,C,H,I,goInt,S,storeCells];rename_i rs W l;obtain⟨cs,cc,H,I,j,k⟩:=Zn (P:=P) r b l g (Nat.min_le_left m len);split;rename_i o' E;have B:rs≠[]:=zo;have D:=Zi B E;have U:=SH (aEP r D).g B j.d E;obtain⟨T,st,N⟩:=Sm (P:=P) r D U (Za j k) k.2.2;have mO:0<Nat.min m len:=by
    have:=j.a
    grind
   have X:Nat.min m len<=len:=Nat.min_le_right m len;obtain⟨Y,Z⟩:=V zo;have O:=(N (φ.c i+off)).resolve_right zo;refine⟨.int .i64 (Nat.min m len),_,φ,?_,T,st,by rfl⟩;simp_all[Builtin.copy_,bZ,goInt];exact jY;exact jY
 exact jY
theorem agB{l:List Nat}{vs:List Value}{n:Nat}{c:Nat->Option AV}(d:nj (l.map λb=>[.s b]) 1 n c) (e:sS φ (n*1) c vs):l.length=n/\vs=l.map λb=>.int .u8 (Int.ofNat b):=by
 have i:l.length=n:=by simpa using d.a
 refine⟨i,avs λj=>?_⟩
 by_cases g:j<n
 have k:=d.b j 0 g zo;obtain⟨v,m,hd⟩:=e.2.1 j (.s l[j]) zo qaa
 grind [aj]
 rw[auI (by have:=e.1;omega),auI qaa]
def Zo:∀(l:List Nat)(s:ByteArray),((l.map Int.ofNat).foldl (λr n=>r.push (UInt8.ofNat n.toNat)) s).data.toList=s.data.toList++l.map UInt8.ofNat
 |[],s=>by simp
 |b::l,s=>by simp;rw[Zo l];simp
theorem agC{l:List Nat}(d:∀b∈l,b<256):kR l.length (cO l) ((l.map Int.ofNat).foldl (λr n=>r.push (UInt8.ofNat n.toNat)) ByteArray.empty):=by
 refine MW _ l ?_;rw[Zo];simp[ByteArray.empty,ByteArray.emptyWithCapacity,au4,av4];have:l.map (UInt8.toNat∘UInt8.ofNat)=l:=by
  conv=>rhs;rw[<-axU l]
  exact avB λb c=>by simp_all
 simp[this];rfl
end
abbrev FW(ro:Option Nat):Fence:={fn:=λ_=>True,depth:=none,alive:=false,round:=ro}
section
variable {ro:Option Nat}{n:Nat}
def J5(m:Machine):m.fenced P (FW ro):=fenced_wide P m
theorem agD{k:Nat}:(FW ro).room k:=λ_ h=>by grind
def Nu{m b:Machine}:StepsIn (Machine.fenced P (FW ro)) P m b <-> Steps P m b:=stepsIn_wide
def SO{f:FuncId}{args:Array Value}{w:World}{R:Ending->World->Prop}:CallsIn (FW ro) n P f args w R <-> Calls P f args w R:=callsIn_wide (n:=n)
def agE{row:String}{args:Array Value}{w:World}{R:Value->World->Prop}(h:Rows P row args w R):RowsIn (FW ro) n P row args w R:=
 λc cs _=>let⟨v,w',r,s⟩:=h c cs;⟨v,w',r,Nu.2 s⟩
theorem agF{o:Oper}{a:Act}{w:World}{K:Act->World->Prop}{Q:Exit->Act->World->Prop}(b:ro=none\/∀c,o.op≠.defer c) (h:o.wp P a w K Q):o.wpIn (FW ro) 0 P a w K Q:=by
 refine⟨λ_ _=>trivial,?_⟩;have d:o.semAt ro a.eval=execOp a.eval o:=by
  rcases b with rfl|b;rfl
  grind [Oper.semAt_eq]
 rw[d];unfold Oper.wp at h;generalize(execOp a.eval o).run P w=r at*;cases r with
 |ok x w'=>
  cases x<;>simp only[Oper.upon] at h<;>first|exact h|exact h.elim|skip
  refine⟨λc=>qaa,SO.2 (h.mono λe f g=>?_)⟩;omega;exact⟨λc=>qaa,agE h⟩
 |halt x w'=>cases x<;>simp only[Oper.upon] at h<;>first|exact h|exact h.elim
theorem agG{aF:Array Oper}{Q:Exit->Act->World->Prop}{i:Nat}{K b:Act->World->Prop}{a:Act}{w:World}(e:ro=none\/∀(i:Nat)(o:Oper),aF[i]? =some o->∀c,o.op≠.defer c) (k:¬LetsOut Q)
 (f:∀a w,K a w->b a w) (h:wpOp P aF Q i K a w):wpOpIn (FW ro) 0 P aF Q i b a w:=by
 unfold wpOp at h;unfold wpOpIn;cases d:aF[i]? with
 |none=>grind
 |some o=>
  rw[d] at h;simp only at h⊢;split at h;rename_i j;rw[atV j];rcases h with h|h;exact Oper.wpIn_mono f (agF (e.imp id λg=>g i o d) h)
  grind
  grind
def Zp{md:Region.Mode}{aF:Array Oper}{Q:Exit->Act->World->Prop}(d:ro=none\/∀(i:Nat)(o:Oper),aF[i]? =some o->∀c,o.op≠.defer c) (e:¬LetsOut Q):
 ∀(b:Nat)(listed:Array Bool)(a:Act)(w:World),wpAny P md aF Q b listed a w->wpAnyIn (FW ro) 0 P md aF Q b listed a w
 |0,_,_,_,h=>h
 |b+1,_,_,_,h=>⟨h.1,λi hi=>agG d e (λf w' h'=>Zp d e b _ f w' h') (h.2 i hi)⟩
def JQ(P:Program)(ro:Option Nat)(c:Code)(Q:Exit->Act->World->Prop):Nat->Exit->Act->World->Prop
 |0,e,a,w=>(match e with|.goto _=>False|e=>Q e a w)
 |n+1,e,a,w=>(match e with
  |.goto l=>(match findLabel c l with|some r=>r.wpIn (FW ro) 0 P (JQ P ro c Q n) a w|none=>Q (.goto l) a w)
  |e=>Q e a w)
def agH{c:Code}{Q:Exit->Act->World->Prop}{n:Nat}{a:Act}{w:World}(h:c.wpIn (FW ro) 0 P (JQ P ro c Q n) a w):(Code.scope c).wpIn (FW ro) 0 P Q a w:=by
 intro b k cs v s t;have E:Go.step P (lone (b.atR a (.code (.scope c)::k)) cs w)=.next (lone (b.atR a (.code c::.inScope c::k)) cs w):=step_lone_go qac;have u:∀(a:Act)(w:World),Go.step P (lone (b.atR a (.inScope c::k)) cs w)=.next (lone (b.atR a k) cs w):=λa w=>step_lone_go qac;have key:∀(n:Nat)(c':Code)(a:Act)(w:World),c'.wpIn (FW ro) 0 P (JQ P ro c Q n) a w->
  ∃e q w',Q e q w'/\ArrivesIn (Machine.fenced P (FW ro)) P (lone (b.atR a (.code c'::.inScope c::k)) cs w) b k cs e q w':=by
  intro n
  induction n with
  |zero=>
   intro c' a w h;obtain⟨e,g,i,d,f⟩:=h b (.inScope c::k) cs v s t;cases e with
   |normal=>exact⟨.normal,g,i,d,StepsIn.trans f (.one (J5 _) (u _ _))⟩
   |exit id=>exact⟨.exit id,g,i,d,λo j=>f.1 o qaC,λp j=>f.2 p qaC⟩
   |goto l=>exact d.elim
   |ret=>exact⟨_,g,i,d,f⟩
   |panic C=>exact⟨_,g,i,d,f⟩
   |outgrown=>exact⟨_,g,i,d,f⟩
  |succ n D=>
   intro c' a w h;obtain⟨e,g,i,d,f⟩:=h b (.inScope c::k) cs v s t;cases e with
   |normal=>exact⟨.normal,g,i,d,StepsIn.trans f (.one (J5 _) (u _ _))⟩
   |exit id=>exact⟨.exit id,g,i,d,λo j=>f.1 o qaC,λp j=>f.2 p qaC⟩
   |goto l=>
    simp[JQ] at d;cases m:findLabel c l with
    |some r=>
     rw[m] at d;obtain⟨x,y,z,A,B⟩:=D r g i d;exact⟨x,y,z,A,.of_steps (f.1 _ (by simp[gotoIn,m])) B⟩
    |none=>
     rw[m] at d;exact⟨.goto l,g,i,d,λo j=>f.1 o (by simp[gotoIn,m,j]),λp j=>f.2 p (by simp[gotoIn,m,j])⟩
   |ret=>exact⟨_,g,i,d,f⟩
   |panic C=>exact⟨_,g,i,d,f⟩
   |outgrown=>exact⟨_,g,i,d,f⟩
 obtain⟨e,g,i,d,f⟩:=key n c a w h;exact⟨e,g,i,d,.of_steps (.one (J5 _) E) f⟩
theorem agI{f:FuncId}{fn:Func}{c:Code}{args:Array Value}{u:FrameMode}{w:World}{R:Ending->FrameMode->World->Prop}
 (m:P.funcs[f]? =some fn) (s:fn.body=some c)
 (h:∀(nZ:Frame)(cs:List Frame),nZ.mode=u->c.wpS P (bodyPostS P fn nZ cs R) {tmps:=args++Array.replicate (fn.ntmps- args.size) Go.undef,defers:=[]} (nZ::cs) w):
 CallsDIn (FW none) n P f args u w R:=by
 refine⟨auW,λnZ cs q _=>?_⟩
 let b:Frame:={(default:Frame) with fn:=f,kind:=.deferred}
 have k:Frame.enter P f args .deferred=b.at {tmps:=args++Array.replicate (fn.ntmps- args.size) Go.undef,defers:=[]} [.code c]:=by grind [Frame.enter,Frame.at]
 obtain⟨e,r,t,w',i,j⟩:=h nZ cs q b [] rfl rfl;rw[<-k] at j;cases e with
 |normal=>
  obtain⟨hd,g,rfl,v,o,d⟩:=i;exact⟨.returned v,g,w',_,d,Nu.2 (Steps.trans j (.one step_end)),rfl,rfl,rfl,hd,fn,m,o⟩
 |ret=>
  obtain⟨hd,g,rfl,v,o,d⟩:=i;obtain⟨todo,p⟩:=j;exact⟨.returned v,g,w',_,d,Nu.2 p,rfl,rfl,rfl,hd,fn,m,o⟩
 |panic chain=>
  obtain⟨hd,g,rfl,d⟩:=i;obtain⟨todo,p⟩:=j;exact⟨.panicked chain,g,w',_,d,Nu.2 p,rfl,rfl,rfl,hd,fn,m⟩
 |exit id=>exact i.elim
 |goto l=>exact i.elim
 |outgrown=>
  obtain⟨g,d⟩:=i;exact⟨.outgrown,g,w',b,d,j.resolve_left qaa,rfl,rfl,auW⟩
def GW(ro:Option Nat)(P:Program)(c:Code)(Q:Exit->Act->World->Prop)(a:Act)(w:World):Prop:=
 ∀(b:Frame)(k:List Item)(cs:List Frame),b.roundOf=ro->∃e d w',Q e d w'/\ArrivesIn (Machine.fenced P (FW ro)) P (lone (b.atR a (.code c::.inLoop c::k)) cs w) b k cs e d w'
variable {c:Code}{Q:Exit->Act->World->Prop}
def agK(f:GW ro P c Q a w):(Code.loop c).wpIn (FW ro) 0 P Q a w:=
 λb k cs g _ _=>let⟨e,d,w',q,r⟩:=f b k cs g;⟨e,d,w',q,.of_steps (.one (J5 _) stepR_loop) r⟩
def agL(r:c.wpIn (FW ro) 0 P (Exit.then (GW ro P c Q) Q) a w):GW ro P c Q a w:=by
 intro b k cs i;obtain⟨e,g,h,d,f⟩:=r b (.inLoop c::k) cs i trivial agD;cases e with
 |normal=>
  obtain⟨j,m,o,p,q⟩:=d b k cs i;exact⟨j,m,o,p,.of_steps (StepsIn.trans f (.one (J5 _) stepR_inLoop)) q⟩
 |exit id=>exact⟨_,g,h,d,.pass (x:=.inLoop c) rfl (λ_ _=>.inl zm) f⟩
 |goto l=>exact⟨_,g,h,d,.pass (x:=.inLoop c) rfl (λ_ _=>.inl zm) f⟩
 |ret=>exact⟨_,g,h,d,.pass (x:=.inLoop c) rfl (λ_ _=>.inl zm) f⟩
 |panic s=>exact⟨_,g,h,d,.pass (x:=.inLoop c) rfl (λ_ _=>.inl zm) f⟩
 |outgrown=>exact⟨_,g,h,d,.pass (x:=.inLoop c) rfl (λ_ _=>.inl zm) f⟩
end
structure kB where
 φ:kf
 h:Hp
 w:World
def JG.aw{φ ψ:kf}(le:φ.k ψ){d:Df}{e:Deferred}(h:JG φ d e):JG ψ d e:=by
 cases d with
 |a g l=>
  obtain⟨cap,args,cs,c,i,j,k⟩:=h;exact⟨cap,args,cs,c,i,Gm le _ _ j,k⟩
def Cm(φ:kf):List Df->List Deferred->Prop
 |[],[]=>True
 |d::ds,e::c=>JG φ d e/\Cm φ ds c
 |_,_=>False
def Cm.aw{φ ψ:kf}(le:φ.k ψ):∀{ds:List Df}{c:List Deferred},Cm φ ds c->Cm ψ ds c
 |[],[],h=>h
 |_::_,_::_,h=>⟨h.1.aw le,h.2.aw le⟩
 |[],_::_,h=>h.elim
 |_::_,[],h=>h.elim
structure St(P:Program)(b:kB)(nt:Nat)(φ:kf)(f:Fr)(h:Hp)(ds:List Df)(a:Act)(w:World):Prop where
 r:R φ h w
 c:eS b.φ b.h b.w φ w h
 i:iq φ f a.tmps
 j:Cm φ ds a.defers
 k:nt<=a.tmps.size
 g:jq φ P
def Nv(P:Program)(b:kB)(nt:Nat):aT->Exit->Act->World->Prop
 |.d f h ds,e,a,w=>e=.normal/\∃φ,St P b nt φ f h ds a w
 |.a id f h ds,e,a,w=>e=.exit id/\∃φ,St P b nt φ f h ds a w
 |.g id f h ds,e,a,w=>e=.goto id/\∃φ,St P b nt φ f h ds a w
 |.b f h ds,e,a,w=>e=.ret/\∃φ,St P b nt φ f h ds a w
 |.c v f h ds,e,a,w=>∃c φ,e=.panic [{v:=c,recovered:=false}]/\aj φ v c/\St P b nt φ f h ds a w
def Nw(b:kB):aK->Ending->World->Prop
 |.a v h,e,w=>∃φ u,e=.returned u/\aj φ v u/\R φ h w/\eS b.φ b.h b.w φ w h
 |.b v h,e,w=>∃φ u,e=.panicked [{v:=u,recovered:=false}]/\aj φ v u/\R φ h w/\eS b.φ b.h b.w φ w h
def SW(P:Program)(g:Nat):Prop:=∀(vs:Array Value)(w:World),(callFunc g vs).run P w=.ok (.enter g vs) w
def zN(P:Program)(c:mj):Prop:=
 ∀(fn:aM)(args:List AV)(h:Hp)(k:aK->Prop)(o:aK)(φ:kf)(w:World)(vs:Array Value),Dn (c fn args h k) o->R φ h w->jq φ P->
  aEu φ args vs.toList->SW P fn.n/\Calls P fn.n vs w λe w'=>∃co,Dn (k co) o/\Nw ⟨φ,h,w⟩ co e w'
def mS(P:Program):Prop:=
 ∀(φ:kf)(h:Hp)(w:World)(f:Fr)(a:Act)(o:Oper),R φ h w->jq φ P->iq φ f a.tmps->Good P φ h w f a o (eX P o.op)
section
variable {b:kB}{nt:Nat}{ψ:kf}{ds:List Df}
theorem St.kw(s:St P b nt φ f h ds a w){w':World}{h':Hp}(n:R ψ h' w')(e:eS φ h w ψ w' h'){d:Option Nat}(hd:∀t,d=some t->t<nt/\t<512) {x:AV} {v:Value} (m:aj ψ x v):
 St P b nt ψ (Yv.put (d.map gz) x f) h' ds (a.put d v) w' where
 r:=n
 c:=s.c.ab e
 i:=(s.i.aw e.m).kw (λt l=>⟨aur (hd t l).1 s.k,(hd t l).2⟩) m
 j:=by rw[MZ];exact s.j.aw e.m
 k:=by rw[MY];exact s.k
 g:=s.g.aw e.m
def St.my(s:St P b nt φ f h ds a w){w':World}(d:sL w w'):St P b nt φ f h ds a w':=
 ⟨s.r.my d,s.c.ab (eS.my d),s.i,s.j,s.k,s.g⟩
def St.rp(s:St P b nt φ f h ds a w){w':World}(e:sL w w'){d:Option Nat}(hd:∀t,d=some t->t<nt/\t<512) {x:AV} {v:Value} (g:aj φ x v):
 St P b nt φ (Yv.put (d.map gz) x f) h ds (a.put d v) w':=s.kw (s.r.my e) (eS.my e) hd g
theorem wJ{aF:Array Oper}{o:Oper}{c:CI}(e:aEB P nt aF o=some c):
 (∀t,o.dst=some t->t<nt/\t<512)/\c.b=o.dst.map gz/\c.c=eX P o.op/\
  ((o.guard=none/\c.a=none)\/∃j bb d,o.guard=some (j,bb)/\(aF[j]?).bind (·.dst)=some d/\d<nt/\d<512/\c.a=some (gz d,bb)):=by
 grind [aEB]
theorem Zq(s:St P b nt φ f h ds a w){aF:Array Oper}{o:Oper}{c:CI}(e:aEB P nt aF o=some c){t:Bool}(i:jO c.a f=some t):
 Region.wanted o (yielded aF a.tmps)=t:=by
 obtain⟨_,_,_,⟨g,m⟩|⟨j,bb,d,g,p,k,l,m⟩⟩:=wJ e
 grind [jO,Region.wanted]
 simp[jO] at i;have r:=s.i.at_ d l;have n:=aur k s.k;have q:a.tmps[d]? =some (a.tmps.getD d Go.undef):=by simp_all
 grind [Region.wanted,yielded,aj]
theorem agM{I:mj}{ro:Option Nat}(C:zN P I)(O:mS P){aF:Array Oper}{o:Oper}{c:CI}(Z:aEB P nt aF o=some c){kp:aT->Prop}{k:AR}{oo:aK}
 (s:St P b nt φ f h ds a w) (J:ro=none\/∀c,o.op≠.defer c) (hd:Dn (sG I kp ds c.b f h (aQ c.c f h) k) oo)
 {K:Act->World->Prop} (B:∀ψ L h' N F w',St P b nt ψ L h' N F w'->Dn (k N L h') oo->K F w'):
 o.wpIn (FW ro) 0 P a w K (λe F w'=>∃out,Dn (kp out) oo/\Nv P b nt out e F w'):=by
 obtain⟨E,A,T,_⟩:=wJ Z;have eT:=O φ h w f a o s.r s.g s.i;rw[<-T] at eT;unfold Good at eT;refine⟨λ_ _=>trivial,?_⟩;have G:o.semAt ro a.eval=execOp a.eval o:=by
  rcases J with rfl|J;rfl
  grind [Oper.semAt_eq]
 rw[G];generalize W:(execOp a.eval o).run P w=jk at eT⊢;cases r:aQ c.c f h with
 |v x=>
  rw[r] at hd eT;obtain⟨n,v,w',rfl,D,p,z⟩:=eT;rw[A] at hd;have M:=B _ _ _ _ _ _ (s.rp z E p) hd;rcases D with rfl|⟨rfl,rfl⟩
  grind [Oper.uponIn_value]
  grind [Oper.uponIn_skip]
 |b x h'=>
  rw[r] at hd eT;obtain⟨n,v,w',ψ,rfl,D,y,q,p⟩:=eT;rw[A] at hd;have M:=B _ _ _ _ _ _ (s.kw y q E p) hd;rcases D with rfl|⟨rfl,rfl⟩
  grind [Oper.uponIn_value]
  grind [Oper.uponIn_skip]
 |g l=>
  rw[r] at hd eT;obtain⟨n,v,w',ψ,h',hm,rfl,D,y,q,p⟩:=eT;rw[A] at hd;have X:=afj hd h' hm;have M:=B _ _ _ _ _ _ (s.kw y q E p) X;rcases D with rfl|⟨rfl,rfl⟩
  grind [Oper.uponIn_value]
  grind [Oper.uponIn_skip]
 |c g args=>
  rw[r] at hd eT;obtain⟨vs,w',rfl,z,R⟩:=eT;rw[A] at hd;have m:=s.my z;obtain⟨S,U⟩:=C g args h _ oo φ w' vs hd m.r m.g R;rw[S vs w',Oper.uponIn_enter];refine⟨λc=>qaa,SO.2 (U.mono λe SP he=>?_)⟩;obtain⟨co,Q,H⟩:=he;cases co with
  |a v h'=>
   obtain⟨ψ,u,rfl,p,y,q⟩:=H;exact B _ _ _ _ _ _ (m.kw y q E p) Q
  |b v h'=>
   obtain⟨ψ,u,rfl,p,y,q⟩:=H;exact⟨.c v f h' ds,Q,u,ψ,rfl,p,⟨y,m.c.ab q,m.i.aw q.m,m.j.aw q.m,m.k,m.g.aw q.m⟩⟩
 |j d=>
  rw[r] at hd eT;obtain⟨Y,w',rfl,z,V⟩:=eT;rw[A] at hd;have m:=s.my z;have s2:St P b nt φ f h (d::ds) {a with defers:=Y::a.defers} w':=⟨m.r,m.c,m.i,⟨V,m.j⟩,m.k,m.g⟩;exact B _ _ _ _ _ _ (s2.rp (.da w') E DX) hd
 |i x=>
  rw[r] at hd eT;obtain⟨v,w',rfl,z,p⟩:=eT;exact⟨.c x f h ds,hd,v,φ,rfl,p,s.my z⟩
 |a t=>
  rw[r] at hd;exact hd.lL.elim
theorem aFb{q:mj}{ro:Option Nat}(C:zN P q)(O:mS P){aF:Array Oper}(d:ro=none\/∀(i:Nat)(o:Oper),aF[i]? =some o->∀c,o.op≠.defer c) {kp:aT->Prop} {oo:aK}:
 ∀(l:List CI)(k:Nat){φ:kf}{f:Fr}{h:Hp}{ds:List Df}{a:Act}{w:World},(∀(j:Nat)(c:CI),l[j]? =some c->∃o,aF[k+j]? =some o/\aEB P nt aF o=some c)->
  St P b nt φ f h ds a w->Dn (qQ q kp l ds f h) oo->
  wpOpsIn (FW ro) 0 P aF (λe p w'=>∃out,Dn (kp out) oo/\Nv P b nt out e p w') (List.range' k l.length) a w
 |[],k,_,f,h,ds,a,w,_,s,hd=>⟨.d f h ds,hd,rfl,_,s⟩
 |c::l,k,φ,f,h,ds,a,w,v,s,hd=>by
  obtain⟨o,z,m⟩:=v 0 c rfl;have r:aF[k]? =some o:=z;rw[atX,awD];simp only[wpOpsIn,r];simp[qQ] at hd;have u:∀(j:Nat)(c:CI),l[j]? =some c->∃o,aF[k+1+j]? =some o/\aEB P nt aF o=some c:=λj c' H=>by
   obtain⟨o',F,G⟩:=v (j+1) c' qaa
   grind
  cases n:jO c.a f with
  |none=>rw[n] at hd;exact hd.lL.elim
  |some t=>
   rw[n] at hd;have B:=Zq s m n;cases t with
   |true=>
    rw[atV B];exact agM C O m s (d.imp id λg=>g k o r) hd λψ E h' I p w' D x=>aFb C O d l (k+1) u D x
   |false=>
    rw[atS qaa];obtain⟨A,y,_,_⟩:=wJ m;rw[y] at hd;exact⟨λ_ _=>trivial,aFb C O d l (k+1) u (s.rp (.da w) A DX) hd⟩
theorem Ny{aF:Array Oper}{l:List CI}(e:iJ (aEB P nt aF) aF.toList=some l):l.length=aF.size/\∀(j:Nat)(c:CI),l[j]? =some c->∃o,aF[0+j]? =some o/\aEB P nt aF o=some c:=by
 obtain⟨g,d⟩:=RN e;refine⟨by omega,λj c k=>?_⟩;have n:j<aF.size:=by grind
 obtain⟨y,m,i⟩:=d j aF[j] qaa
 grind
end
def oa(P:Program)(b:kB)(nt:Nat)(k:aT->Prop)(oo:aK):Exit->Act->World->Prop:=
 λe a w=>∃out,Dn (k out) oo/\Nv P b nt out e a w
structure vo(P:Program)(rec:fJ):Prop where
 d:∀(ro:Option Nat)(nt:Nat)(c:Code)(b:kB)(φ:kf)(f:Fr)(h:Hp)(ds:List Df)(a:Act)(w:World)(k:aT->Prop)(oo:aK),(ro=none\/ni c=true)->
  St P b nt φ f h ds a w->Dn (rec (comp P nt c) f h ds k) oo->c.wpIn (FW ro) 0 P (oa P b nt k oo) a w
 g:∀(ro:Option Nat)(nt:Nat)(c:Code)(b:kB)(φ:kf)(f:Fr)(h:Hp)(ds:List Df)(a:Act)(w:World)(k:aT->Prop)(oo:aK),(ro=none\/ni c=true)->
  St P b nt φ f h ds a w->Dn (rec (.d (comp P nt c)) f h ds k) oo->GW ro P c (oa P b nt k oo) a w
def vo.wp{P:Program}{rec:fJ}(rs:vo P rec)(nt:Nat)(c:Code)(b:kB)(φ:kf)(f:Fr)(h:Hp)(ds:List Df)(a:Act)(w:World)(k:aT->Prop)(oo:aK)
 (s:St P b nt φ f h ds a w) (hd:Dn (rec (comp P nt c) f h ds k) oo):c.wp P (oa P b nt k oo) a w:=wpIn_wide.1 (rs.d none nt c b φ f h ds a w k oo (.inl rfl) s hd)
def Nz(P:Program):Prop:=
 ∀(c:mj),zN P c->mS P->∀(ro:Option Nat)(nt id:Nat)(aF:Array Oper)(b:kB)(φ:kf)(f:Fr)(h:Hp)(ds:List Df)(a:Act)(w:World)(k:aT->Prop)(oo:aK)(l:List DI),
  (ro=none\/ni (.region id aF true)=true)->comp P nt (.region id aF true)=.f l->St P b nt φ f h ds a w->Dn (Mz c k l ds f h) oo->(Code.region id aF true).wpIn (FW ro) 0 P (oa P b nt k oo) a w
theorem agO{P:Program}{b:kB}{nt:Nat}{k:aT->Prop}{oo:aK}:¬LetsOut (oa P b nt k oo):=by
 rintro⟨a,w,out,_,f⟩;cases out with
 |d=>cases f.1
 |a=>cases f.1
 |g=>cases f.1
 |b=>cases f.1
 |c=>obtain⟨_,_,e,_⟩:=f;grind
theorem Zr{id:Nat}{aF:Array Oper}{d:Bool}(h:ni (.region id aF d)=true):∀(i:Nat)(o:Oper),aF[i]? =some o->∀c,o.op≠.defer c:=by grind [ni]
def Zs{b:kB}{nt:Nat}{r:Fr->Hp->List Df->(aT->Prop)->Prop}{k:aT->Prop}{oo:aK}{next:Act->World->Prop}
 (l:∀φ f h ds a w,St P b nt φ f h ds a w->Dn (r f h ds k) oo->next a w):∀e a w,oa P b nt (bF r k) oo e a w->Exit.then next (oa P b nt k oo) e a w:=by
 rintro e a w ⟨out,hd,i⟩;cases out with
 |d f h ds=>
  obtain⟨rfl,φ,s⟩:=i;exact l φ f h ds a w s hd
 |a id f h ds=>have j:=i;obtain⟨rfl,_⟩:=i;exact⟨_,hd,j⟩
 |g id f h ds=>have j:=i;obtain⟨rfl,_⟩:=i;exact⟨_,hd,j⟩
 |b f h ds=>have j:=i;obtain⟨rfl,_⟩:=i;exact⟨_,hd,j⟩
 |c v f h ds=>have j:=i;obtain⟨_,_,rfl,_⟩:=i;exact⟨_,hd,j⟩
def agP{b:kB}{nt id:Nat}{k:aT->Prop}{oo:aK}:∀e a w,oa P b nt (bY id k) oo e a w->Exit.inBlock id (oa P b nt k oo) e a w:=by
 rintro e a w ⟨out,hd,i⟩;cases out with
 |d f h ds=>have j:=i;obtain⟨rfl,_⟩:=i;exact⟨_,hd,j⟩
 |a m f h ds=>
  have j:=i;obtain⟨rfl,φ,s⟩:=i;simp only[bY] at hd;simp[Exit.inBlock];cases l:Nat.beq m id with
  |true=>
   rw[l] at hd;rw[atV (at7 l)];exact⟨_,hd,rfl,φ,s⟩
  |false=>
   rw[l] at hd;rw[atS (Nat.ne_of_beq_eq_false l)];exact⟨_,hd,j⟩
 |g id f h ds=>have j:=i;obtain⟨rfl,_⟩:=i;exact⟨_,hd,j⟩
 |b f h ds=>have j:=i;obtain⟨rfl,_⟩:=i;exact⟨_,hd,j⟩
 |c v f h ds=>have j:=i;obtain⟨_,_,rfl,_⟩:=i;exact⟨_,hd,j⟩
def S0{nt l:Nat}:∀c:Code,xO l (comp P nt c)=(findLabel c l).map (comp P nt)
 |.seq a b=>by simp[comp,xO,findLabel,S0 a,S0 b];cases findLabel a l<;>rfl
 |.label i=>by simp_all[comp,xO,findLabel]
 |.skip|.block ..|.loop ..|.exit ..|.scope ..|.ret|.goto ..|.refuse ..=>rfl
 |.region ..=>by simp[comp,findLabel];(repeat' split)<;>rfl
 |.cond ..=>by simp[comp,findLabel];(repeat' split)<;>rfl
 |.rangeFunc ..=>by rfl
def S2{l:Nat}:∀{c r:Code},findLabel c l=some r->ni c=true->ni r=true
 |.seq a b,r,h,q=>by simp[findLabel] at h;simp[ni,atW] at q;split at h;rename_i d h';cases h;simp[ni,atW];exact⟨S2 h' q.1,q.2⟩;exact S2 h q.2
 |.label i,r,h,q=>by simp only[findLabel] at h;split at h<;>cases h;rfl
 |.skip,_,h,_|.block ..,_,h,_|.loop ..,_,h,_|.exit ..,_,h,_|.scope ..,_,h,_|.ret,_,h,_|.goto ..,_,h,_|.refuse ..,_,h,_|.region ..,_,h,_|.cond ..,_,h,_|.rangeFunc ..,_,h,_=>by cases h
def Zt{rec:fJ}(p:vo P rec){ro:Option Nat}{b:kB}{nt:Nat}{c:Code}{k:aT->Prop}{oo:aK}(o:ro=none\/ni c=true):∀n e a w,oa P b nt (pH rec (comp P nt c) k n) oo e a w->JQ P ro c (oa P b nt k oo) n e a w
 |0,e,a,w,⟨out,hd,i⟩=>by
  cases out with
  |d f h ds=>have j:=i;obtain⟨rfl,_⟩:=i;exact⟨_,hd,j⟩
  |a id f h ds=>have j:=i;obtain⟨rfl,_⟩:=i;exact⟨_,hd,j⟩
  |b f h ds=>have j:=i;obtain⟨rfl,_⟩:=i;exact⟨_,hd,j⟩
  |c v f h ds=>have j:=i;obtain⟨_,_,rfl,_⟩:=i;exact⟨_,hd,j⟩
  |g=>exact hd.lL.elim
 |n+1,e,a,w,⟨out,hd,i⟩=>by
  cases out with
  |d f h ds=>have j:=i;obtain⟨rfl,_⟩:=i;exact⟨_,hd,j⟩
  |a id f h ds=>have j:=i;obtain⟨rfl,_⟩:=i;exact⟨_,hd,j⟩
  |b f h ds=>have j:=i;obtain⟨rfl,_⟩:=i;exact⟨_,hd,j⟩
  |c v f h ds=>have j:=i;obtain⟨_,_,rfl,_⟩:=i;exact⟨_,hd,j⟩
  |g l f h ds=>
   have j:=i;obtain⟨rfl,φ,s⟩:=i;simp[pH,S0] at hd;simp[JQ];cases m:findLabel c l with
   |none=>rw[m] at hd;exact⟨_,hd,j⟩
   |some r=>
    rw[m] at hd;exact wpIn_mono (p.d ro nt r b φ f h ds a w _ oo (o.imp id (S2 m)) s hd) (Zt p o n)
theorem agQ{o:fJ->mj}(B:∀rec,vo P rec->zN P (o rec)) (O:mS P) (D:Nz P) {rec:fJ} (d:vo P rec):vo P (step o rec):=by
 have C:=B _ d;have A:∀(ro:Option Nat)(nt:Nat)(c:Code)(b:kB)(φ:kf)(f:Fr)(h:Hp)(ds:List Df)(a:Act)(w:World)(k:aT->Prop)(oo:aK),(ro=none\/ni c=true)->
  St P b nt φ f h ds a w->Dn (step o rec (.d (comp P nt c)) f h ds k) oo->GW ro P c (oa P b nt k oo) a w:=by
  intro ro nt c b φ f h ds a w k oo e s hd;exact agL (wpIn_mono (d.d ro nt c b φ f h ds a w _ oo e s hd) (Zs λz p h' u m w' v n=>d.g ro nt c b z p h' u m w' k oo e v n))
 refine⟨?_,A⟩;intro ro nt c b φ f h ds a w k oo e s hd;cases c with
 |skip=>exact wpIn_skip ⟨_,hd,rfl,φ,s⟩
 |label l=>exact wpIn_label ⟨_,hd,rfl,φ,s⟩
 |region id aF dr=>
  cases dr with
  |false=>
   simp[comp] at hd;split at hd;rename_i l i;obtain⟨E,F⟩:=Ny i;have:=aFb C O (e.imp (λh=>h) Zr) l 0 F s hd;rw[E,<-avQ] at this;exact wpIn_region this;exact hd.lL.elim
  |true=>
   cases i:comp P nt (.region id aF true) with
   |f l=>
    rw[i] at hd;exact D _ C O ro nt id aF b φ f h ds a w k oo l e i s hd
   |r t=>rw[i] at hd;exact hd.lL.elim
   |_=>simp[comp] at i;grind
 |seq x y=>
  have j:(ro=none\/ni x=true)/\(ro=none\/ni y=true):=by grind [ni]
  exact wpIn_seq (wpIn_mono (d.d ro nt x b φ f h ds a w _ oo j.1 s hd) (Zs λz p h' u m w' v n=>d.d ro nt y b z p h' u m w' k oo j.2 v n))
 |cond c x y=>
  simp[comp] at hd;split at hd;rename_i c' G;have q:=Gv s.g s.i G;simp[step] at hd;split at hd;rename_i t H;rw[H] at q;have j:(ro=none\/ni x=true)/\(ro=none\/ni y=true):=by grind [ni]
  cases t with
  |true=>exact wpIn_cond (t:=true) q (d.d ro nt x b φ f h ds a w k oo j.1 s hd)
  |false=>exact wpIn_cond (t:=false) q (d.d ro nt y b φ f h ds a w k oo j.2 s hd)
  exact hd.lL.elim;exact hd.lL.elim
 |block id c=>
  exact wpIn_block (wpIn_mono (d.d ro nt c b φ f h ds a w _ oo e s hd) agP)
 |loop c=>
  exact agK (A ro nt c b φ f h ds a w k oo e s hd)
 |exit id=>exact wpIn_exit ⟨_,hd,rfl,φ,s⟩
 |scope c=>
  exact agH (wpIn_mono (d.d ro nt c b φ f h ds a w _ oo e s hd) (Zt (c:=c) d e 8))
 |ret=>exact wpIn_ret ⟨_,hd,rfl,φ,s⟩
 |rangeFunc g ps I c=>exact hd.lL.elim
 |goto l=>exact wpIn_goto ⟨_,hd,rfl,φ,s⟩
 |refuse t=>exact hd.lL.elim
def S4(P:Program):fJ:=λcc f h ds k=>
 (∀(ro:Option Nat)(nt:Nat)(c:Code)(b:kB)(φ:kf)(a:Act)(w:World)(oo:aK),comp P nt c=cc->(ro=none\/ni c=true)->St P b nt φ f h ds a w->c.wpIn (FW ro) 0 P (oa P b nt k oo) a w)/\
 ∀(ro:Option Nat)(nt:Nat)(c:Code)(b:kB)(φ:kf)(a:Act)(w:World)(oo:aK),.d (comp P nt c)=cc->(ro=none\/ni c=true)->St P b nt φ f h ds a w->GW ro P c (oa P b nt k oo) a w
def agR:vo P (S4 P):=
 ⟨λro nt c b φ f h ds a w k oo d s hd=>hd.1 ro nt c b φ a w oo rfl d s,λro nt c b φ f h ds a w k oo d s hd=>hd.2 ro nt c b φ a w oo rfl d s⟩
def agS{e:aM->Option CF}(j:∀rec,vo P rec->zN P (aE e rec)) (O:mS P) (D:Nz P):vo P (W e):=by
 have S:=agQ j O D (agR (P:=P));have key:∀c f h ds k,W e c f h ds k->S4 P c f h ds k:=λc f h ds k l=>
  l (S4 P) λc f h ds k i=>⟨λro nt c' b φ a w oo g d st=>S.d ro nt c' b φ f h ds a w k oo d st (by rw[g];exact i),λro nt c' b φ a w oo g d st=>S.g ro nt c' b φ f h ds a w k oo d st (by rw[g];exact i)⟩
 exact⟨λro nt c b φ f h ds a w k oo d s hd=>(key _ _ _ _ _ hd).1 ro nt c b φ a w oo rfl d s,λro nt c b φ f h ds a w k oo d s hd=>(key _ _ _ _ _ hd).2 ro nt c b φ a w oo rfl d s⟩
def Ed(P:Program)(a:aM->Option CF):Prop:=
 ∀(i:aM)(c:CF),a i=some c->c.c=i.n->∃c',Ge P i.n=some c'/\c'.a=c.a/\c'.b=c.b
theorem Zu{n:Nat}{c:CF}(h:Ge P n=some c):∃fn body,P.funcs[n]? =some fn/\fn.body=some body/\c.a=comp P fn.ntmps body/\iJ (B4 P fn.ntmps) fn.results.toList=some c.b/\SW P n:=by
 unfold Ge at h;split at h
 grind
 rename_i fn d;split at h;rename_i body rs a b;split at h;rename_i e;cases h;refine⟨fn,body,d,a,rfl,b,λvs w=>?_⟩;simp_all[callFunc]
 grind
 grind
theorem agT{φ:kf}{h:Hp}{w:World}{f:Fr}{tmps:Array Value}(r:R φ h w)(l:iq φ f tmps){nt:Nat}{rv:ResultVar}{k:CR}(c:B4 P nt rv=some k){x:AV}(b:Jh h f k=.v x):
 ∃u,(match rv with|.tmp t=>pure (tmps.getD t Go.undef)|.cell a t=>do loadVar t (<-asAddr (tmps.getD a Go.undef)):Sem Value).run P w=.ok u w/\aj φ x u:=by
 cases rv with
 |tmp t=>
  simp only[B4] at c;split at c;rename_i j;cases c;simp[Jh,OR.v.injEq] at b;subst b;exact⟨_,rfl,l.at_ t j.2⟩
  grind
 |cell a t=>
  simp[B4] at c;split at c;rename_i d n hd s;split at c;rename_i j;cases c;have m:=l.at_ a j;have key:∀y:AV,aj φ y (tmps.getD a Go.undef)->(∃i o,y=.a i o)->∀(u:Value),(Instr.loadAt t (tmps.getD a Go.undef)).run P w=.ok u w->(do loadVar t (<-asAddr (tmps.getD a Go.undef)):Sem Value).run P w=.ok u w:=by
   rintro y z ⟨i,o,rfl⟩ u p
   grind [aj,Instr.loadAt,Instr.sureAddr,asAddr]
  simp[Jh] at b;cases g:oR d with
  |true=>
   rw[g] at b;simp at b;have e:=YC r hd g s m;have q:∃i o,cg (gz a) f=.a i o:=by unfold Dx at b;grind
   rw[b] at e;obtain⟨u,p,v⟩:=e
   grind
  |false=>
   rw[g] at b;simp at b;have e:=YB r hd g m;have q:∃i o,cg (gz a) f=.a i o:=by unfold Dw at b;grind
   rw[b] at e;obtain⟨u,p,v⟩:=e
   grind
  grind
  grind
theorem Zv{φ:kf}{h:Hp}{w:World}{f:Fr}{tmps:Array Value}(r:R φ h w)(e:iq φ f tmps){nt:Nat}:∀{d:List ResultVar}{rs:List CR}{l:List AV},iJ (B4 P nt) d=some rs->DN h f rs=some l->
 ∃us:List Value,(d.mapM (λrv=>(match rv with|.tmp t=>pure (tmps.getD t Go.undef)|.cell a t=>do loadVar t (<-asAddr (tmps.getD a Go.undef)):Sem Value))).run P w=.ok us w/\aEu φ l us
 |[],rs,l,c,b=>by simp_all[iJ,DN,sJ]
 |rv::d,rs,l,c,b=>by
  simp[iJ] at c;split at c;rename_i y q j k;cases c;simp[DN] at b;split at b;rename_i x i;split at b;rename_i o g;cases b;obtain⟨u,n,hd⟩:=agT r e j i;obtain⟨us,m,p⟩:=Zv r e k g;simp_all[qS]
  grind
  grind
  grind
theorem Zw{φ:kf}{h:Hp}{w:World}{f:Fr}{tmps:Array Value}{fn:Func}(r:R φ h w)(d:iq φ f tmps){rs:List CR}(g:iJ (B4 P fn.ntmps) fn.results.toList=some rs){k:aK->Prop}{oo:aK}(hd:Dn (wz h f rs k) oo):
 ∃x u,(results fn tmps).run P w=.ok u w/\aj φ x u/\Dn (k (.a x h)) oo:=by
 unfold wz at hd;cases a:DN h f rs with
 |none=>rw[a] at hd;exact hd.lL.elim
 |some l=>
  rw[a] at hd;obtain⟨us,b,i⟩:=Zv r d g a;have c:=tP i;have m:(results fn tmps).run P w=.ok (if h:us.toArray.size=1 then us.toArray[0] else .tuple us.toArray) w:=by unfold results;rw[Array.mapM_eq_mapM_toList];simp only[Sem.run_bind,Sem.run_map,Result.andThen];generalize e:Sem.run P (List.mapM _ fn.results.toList) w=q;obtain rfl:q=.ok us w:=e.symm.trans b;rfl
  rcases l with _|⟨v,_|⟨y,l⟩⟩<;>rcases us with _|⟨u,_|⟨j,us⟩⟩<;>simp only[atX,aup,aue,Nat.succ_ne_zero,reduceCtorEq] at c<;>try omega
  exact⟨.p [],.tuple #[],by grind,by simp[aj];grind,hd⟩
  grind [qS]
  exact⟨.p (v::y::l),.tuple (u::j::us).toArray,by grind,by simp[aj];grind,hd⟩
theorem agU(args:List AV)(t:Nat):cg (gz t) (nQ args)=.B\/args[t]? =some (cg (gz t) (nQ args)):=by grind [cg,nQ,gz]
theorem Zx{φ:kf}{args:List AV}{vs:Array Value}(hd:aEu φ args vs.toList)(n:Nat):iq φ (nQ args) (vs++Array.replicate n Go.undef):=by
 refine⟨λt=>?_⟩;rcases agU args t with h|h;rw[h];trivial;obtain⟨v,a,c⟩:=tQ hd t _ h;rw[at5] at a;have b:=(auc.1 a).1;have:(vs++Array.replicate n Go.undef).getD t Go.undef=v:=by simp_all[avI]
 grind
end Yv
namespace Yv
open Go.Proofs
noncomputable section
def jP(l:List (Nat×CF)):Prop:=l.map (λp=>(Ge Tryz.prog p.1).map λc=>(c.a,c.b))=l.map λp=>some (p.2.a,p.2.b)
def agV{l:List (Nat×CF)}(h:jP l):∀p∈l,∃c',Ge Tryz.prog p.1 =some c'/\c'.a=p.2.a/\c'.b=p.2.b:=by
 intro p d;obtain⟨i,hi⟩:=aum d;have a:=aui (·[i]?) h;simp only[auh,hi,au3,atU] at a;cases b:Ge Tryz.prog p.1 with
 |none=>rw[b] at a;cases a
 |some c=>
  rw[b] at a;simp only[au3,atU,avj] at a;exact⟨c,rfl,a.1,a.2⟩
def wK{l m:List (Nat×CF)}(h:jP l)(g:jP m):jP (l++m):=by unfold jP at*;rw[au4,au4,h,g]
def Zy:List (Nat×CF):=[(3,cf3),(4,cf4),(5,cf5),(6,cf6),(7,cf7),(8,cf8),(9,cf9),(10,cf10),(11,cf11),(12,cf12),(13,cf13),(14,cf14),(15,cf15),(16,cf16),(17,cf17),(18,cf18)]
def gb0:jP Zy:=by unfold jP;kernel_rfl
def Zz:List (Nat×CF):=[(19,cf19),(20,cf20),(21,cf21),(22,cf22),(23,cf23),(24,cf24),(25,cf25),(26,cf26),(27,cf27),(28,cf28),(29,cf29),(30,cf30),(31,cf31),(32,cf32),(33,cf33),(34,cf34)]
def J7:jP Zz:=by unfold jP;kernel_rfl
def ZA:List (Nat×CF):=[(35,cf35),(36,cf36),(37,cf37),(38,cf38),(39,cf39),(40,cf40),(41,cf41),(42,cf42),(43,cf43),(44,cf44),(45,cf45),(46,cf46),(47,cf47),(48,cf48),(49,cf49),(50,cf50)]
def gb2:jP ZA:=by unfold jP;kernel_rfl
def ZB:List (Nat×CF):=[(51,cf51),(52,cf52),(53,cf53),(54,cf54),(55,cf55),(56,cf56),(57,cf57),(58,cf58),(59,cf59),(60,cf60),(61,cf61),(62,cf62),(63,cf63),(64,cf64),(65,cf65),(66,cf66)]
def S8:jP ZB:=by unfold jP;kernel_rfl
def ZC:List (Nat×CF):=[(67,cf67),(68,cf68),(69,cf69),(70,cf70),(71,cf71),(73,cf73),(74,cf74),(75,cf75),(76,cf76),(77,cf77),(78,cf78),(79,cf79),(80,cf80),(81,cf81),(82,cf82),(83,cf83)]
def gb4:jP ZC:=by unfold jP;kernel_rfl
def ZD:List (Nat×CF):=[(84,cf84),(85,cf85),(86,cf86),(87,cf87),(88,cf88),(89,cf89),(90,cf90),(91,cf91),(92,cf92),(93,cf93),(94,cf94),(95,cf95),(96,cf96),(97,cf97),(98,cf98),(102,cf102)]
def gb5:jP ZD:=by unfold jP;kernel_rfl
def ZE:List (Nat×CF):=[(103,cf103),(106,cf106),(107,cf107),(108,cf108),(109,cf109),(110,cf110),(111,cf111),(112,cf112),(113,cf113),(114,cf114),(115,cf115),(116,cf116),(117,cf117),(118,cf118),(119,cf119),(120,cf120)]
def gb6:jP ZE:=by unfold jP;kernel_rfl
def ZF:List (Nat×CF):=[(121,cf121),(122,cf122),(123,cf123),(124,cf124),(125,cf125),(126,cf126),(127,cf127),(128,cf128),(129,cf129),(130,cf130),(131,cf131),(132,cf132),(136,cf136),(137,cf137),(138,cf138),(139,cf139)]
def gb7:jP ZF:=by unfold jP;kernel_rfl
def ZG:List (Nat×CF):=[(140,cf140),(141,cf141),(142,cf142),(143,cf143),(144,cf144),(145,cf145),(146,cf146),(147,cf147),(148,cf148),(149,cf149),(150,cf150),(151,cf151),(152,cf152),(153,cf153),(154,cf154),(155,cf155)]
def gb8:jP ZG:=by unfold jP;kernel_rfl
def ZH:List (Nat×CF):=[(156,cf156),(157,cf157),(158,cf158),(162,cf162),(163,cf163),(165,cf165),(166,cf166),(167,cf167),(168,cf168),(169,cf169),(170,cf170),(171,cf171),(172,cf172),(173,cf173),(174,cf174),(175,cf175)]
def gb9:jP ZH:=by unfold jP;kernel_rfl
def ZI:List (Nat×CF):=[(176,cf176),(177,cf177),(178,cf178),(179,cf179),(180,cf180),(181,cf181),(182,cf182),(183,cf183),(184,cf184),(185,cf185),(186,cf186),(187,cf187),(188,cf188),(189,cf189),(190,cf190),(192,cf192)]
def agW:jP ZI:=by unfold jP;kernel_rfl
def ZJ:List (Nat×CF):=[(193,cf193),(194,cf194),(197,cf197),(199,cf199),(200,cf200),(201,cf201),(202,cf202),(203,cf203),(204,cf204),(205,cf205),(206,cf206),(207,cf207),(208,cf208),(209,cf209),(210,cf210),(211,cf211)]
def agX:jP ZJ:=by unfold jP;kernel_rfl
def ZK:List (Nat×CF):=[(212,cf212),(213,cf213),(215,cf215),(217,cf217),(221,cf221),(222,cf222),(223,cf223),(224,cf224),(225,cf225),(226,cf226),(227,cf227),(230,cf230),(231,cf231),(237,cf237),(238,cf238),(239,cf239)]
def agY:jP ZK:=by unfold jP;kernel_rfl
def aBp:List (Nat×CF):=[(241,cf241),(242,cf242),(247,cf247),(248,cf248),(249,cf249),(250,cf250),(251,cf251),(253,cf253),(254,cf254),(255,cf255),(256,cf256),(261,cf261),(262,cf262),(263,cf263),(264,cf264),(268,cf268)]
def aCC:jP aBp:=by unfold jP;kernel_rfl
def aBq:List (Nat×CF):=[(269,cf269)]
def aCD:jP aBq:=by unfold jP;kernel_rfl
def agZ:List (Nat×CF):=Zy++(Zz++(ZA++(ZB++(ZC++(ZD++(ZE++(ZF++(ZG++(ZH++(ZI++(ZJ++(ZK++(aBp++(aBq))))))))))))))
def J8(i:aM):Option CF:=(agZ.find? λp=>p.1 ==i.n).map (·.2)
def ag0:aA J8:=⟨rfl,rfl,rfl,rfl,rfl,rfl,rfl,rfl,rfl,rfl,rfl,rfl,rfl,rfl,rfl,rfl,rfl,rfl,rfl,rfl,rfl,rfl,rfl,rfl,rfl,rfl,rfl,rfl,rfl,rfl,rfl,rfl,rfl,rfl,rfl,rfl,rfl,rfl,rfl,rfl,rfl,rfl,rfl,rfl,rfl,rfl,rfl,rfl,rfl,rfl,rfl,rfl,rfl,rfl,rfl,rfl,rfl,rfl,rfl,rfl,rfl,rfl,rfl,rfl,rfl,rfl,rfl,rfl,rfl,rfl,rfl,rfl,rfl,rfl,rfl,rfl,rfl,rfl,rfl,rfl,rfl,rfl,rfl,rfl,rfl,rfl,rfl,rfl,rfl,rfl,rfl,rfl,rfl,rfl,rfl,rfl,rfl,rfl,rfl,rfl,rfl,rfl,rfl,rfl,rfl,rfl,rfl,rfl,rfl,rfl,rfl,rfl,rfl,rfl,rfl,rfl,rfl,rfl,rfl,rfl,rfl,rfl,rfl,rfl,rfl,rfl,rfl,rfl,rfl,rfl,rfl,rfl,rfl,rfl,rfl,rfl,rfl,rfl,rfl,rfl,rfl,rfl,rfl,rfl,rfl,rfl,rfl,rfl,rfl,rfl,rfl,rfl,rfl,rfl,rfl,rfl,rfl,rfl,rfl,rfl,rfl,rfl,rfl,rfl,rfl,rfl,rfl,rfl,rfl,rfl,rfl,rfl,rfl,rfl,rfl,rfl,rfl,rfl,rfl,rfl,rfl,rfl,rfl,rfl,rfl,rfl,rfl,rfl,rfl,rfl,rfl,rfl,rfl,rfl,rfl,rfl,rfl,rfl,rfl,rfl,rfl,rfl,rfl,rfl,rfl,rfl,rfl,rfl,rfl,rfl,rfl,rfl,rfl,rfl,rfl,rfl,rfl,rfl,rfl,rfl,rfl,rfl,rfl⟩
def ZL:uU J8:=⟨ag0,rfl,rfl⟩
def ZM:Ed Tryz.prog J8:=by
 intro i c h _;obtain⟨p,a,rfl⟩:=au'.1 h;have b:=axf a;have d:p.1 =i.n:=by simpa using b
 rw[<-d];exact agV (wK gb0 (wK J7 (wK gb2 (wK S8 (wK gb4 (wK gb5 (wK gb6 (wK gb7 (wK gb8 (wK gb9 (wK agW (wK agX (wK agY (wK aCC (aCD))))))))))))))) p (avP a)
def ZN:Tryz.prog.follows .mixedOrders=true:=zk
end
end Yv
namespace Yv
open Go
variable {B:List Nat}{E rest:List DI}{L:Nat->Nat}{P:Program}{a:Act}{ds:List Df}{f f0:Fr}{h:Hp}{listed:Array Bool}{n nt:Nat}{oo:aK}{q:mj}{w:World}{φ ψ:kf}
section
variable {o:Oper}
theorem aAU{c:EK}{k:AV}:∀{n:Nat}{b:List (AV×AV)}{r:Option (Nat×AV)},aeQ c k n b=some r->
 (r=none/\∀e∈b,cJ c k e.1 =some false)\/
 (∃j i v,r=some (n+j,v)/\b[j]? =some (i,v)/\cJ c k i=some true/\∀(g:Nat)(e:AV×AV),b[g]? =some e->g≠j->cJ c k e.1 =some false)
 |n,[],r,hh=>by simp[aeQ,atU] at hh;grind
 |n,(i,t)::b,r,hh=>by
  simp[aeQ] at hh;split at hh;rename_i l;obtain⟨m,d⟩:=qt hh;simp at d;subst d;refine .inr ⟨0,i,t,rfl,rfl,l,λg e p q=>?_⟩
  grind [Sy]
  rename_i l;rcases aAU hh with⟨rfl,m⟩|⟨j,s,u,rfl,m,d,x⟩
  grind
  refine .inr ⟨j+1,s,u,by grind,by grind,d,λg e p q=>?_⟩
  grind
  grind
theorem aCA{v:AV}:∀{j:Nat}{c b:List (AV×AV)},aeR v j c=some b->∃e,c[j]? =some e/\b=c.set j (e.1,v)
 |_,[],_,hh=>by simp[aeR] at hh
 |0,e::r,_,hh=>by simp[aeR,atU] at hh;grind
 |j+1,e::r,b,hh=>by
  simp[aeR] at hh;split at hh;rename_i k d;cases hh;obtain⟨g,i,rfl⟩:=aCA d
  grind
  grind
theorem azM{b:List MapEntry}{aD:Nat}(c:b.map (·.born)=List.range aD){j:Nat}{m:MapEntry}(e:b[j]? =some m):m.born=j:=by
 have d:(b.map (·.born))[j]? =some m.born:=by grind
 grind
theorem aD1{t M e:TypeId}{U:EK}{z:AV}(r:R φ h w)(ht:P.underlying t=some (.map M e))(p:qq P M=some U)(hz:aEX P e=some z){x k:AV}{u v:Value}(E:aj φ x u)(y:aj φ k v):
 aEE P φ h w (Instr.mapEntry t u v) (ays U h z x k):=by
 obtain⟨ti,G,H8,zI,J⟩:=GH hz;unfold ays;refine zH (λGN=>?_) λ_=>trivial;have GO:=λb w=>YU p GN y b w;cases x<;>simp only[aj] at E<;>first|trivial|skip
 case h i'=>
  obtain⟨d,rfl⟩:=E;simp only[];split
  ·rename_i B aD Y;have ob:=r.f i';rw[Y] at ob;obtain⟨g,H,⟨l,A2,bz,pQ⟩,GP,xY,DZ,GQ⟩:=ob;subst A2;have zC:dH (h.ac i')=true:=by rw[Y];rfl
   have at_:∀(j:Nat)(m:MapEntry),g.toList[j]? =some m->∃e:AV×AV,B[j]? =some e/\aj φ e.1 m.key/\aj φ e.2 m.val:=λj m C=>by
    have kL:j<B.length:=by grind
    obtain⟨m',L,D,A⟩:=pQ j B[j] (atT kL)
    grind
   split
   ·rename_i j v0 O;rcases aAU O with⟨h0,_⟩|⟨j0,k',v0',h0,D,A,h4⟩
    grind
    ·simp only[atU,avj,aue] at h0;obtain⟨rfl,rfl⟩:=h0;obtain⟨F,p1,p2,p3⟩:=pQ j (k',v0) D;have Q:∀m∈g.toList,∃b,JX P M v m.key b:=λm s=>by
      obtain⟨q,I⟩:=aum s;obtain⟨e,q1,q3,_⟩:=at_ q m I
      by_cases C:q=j
      subst C;rw[D] at q1;cases q1;exact⟨_,xX p A y q3⟩;exact⟨_,xX p (h4 q e q1 C) y q3⟩
     have Ni:F∈g.toList:=aua p1;have js:v=F.key:=(xX p A y p2).2.1 rfl;rcases Nf p g.toList Q w with⟨q,m,g1,g2,V⟩|⟨_,g2⟩
     ·have Z:q=j:=by
       refine avt λC=>?_;obtain⟨e,q1,q3,_⟩:=at_ q m g2;have:=(xX p (h4 q e q1 C) y q3).2.2 V.symm
       grind
      subst Z;rw[p1] at g2;cases g2;have X:=azM GQ p1;have K:g[q]? =some F:=by grind
      have GR:=agd p A y p2;have GS:(Instr.keyThatStays F.key v).run P w=.ok v w:=by simp[Instr.keyThatStays,GR]
      have GU:(g.modify q λe=>{e with key:=v})=g:=by apply aEo;intro x;rw[av3];split;rename_i E;subst E;rw[K];simp only[au3,js];rfl
      have ao:φ.a i'<w.heap.size:=r.l i' zC;have S:w.heap.setIfInBounds (φ.a i') (.map g aD)=w.heap:=by apply aEo;intro x;rw[Array.getElem?_setIfInBounds];split;rename_i E;subst E;rw[H];rfl
      have T:(Instr.mapEntry t (.map (some (φ.a i'))) v).run P w=.ok (.tuple #[F.val,.int .i64 q]) w:=by simp[Instr.mapEntry,bZ ht,getObj,setObj,Sem.run,H,GO,g1,K,GS,GU,S,goInt,X]
      exact⟨_,w,φ,T,r,eS.da φ h w,by simp only[aj];exact⟨_,rfl,qS.2 ⟨p3,qS.2 ⟨by simp only[aj];try rfl,sJ⟩⟩⟩⟩
     exact absurd js.symm (g2 F Ni)
   ·rename_i O;rcases aAU O with⟨_,D⟩|⟨_,_,_,h0,_⟩
    ·have Q:∀m∈g.toList,∃b,JX P M v m.key b:=λm s=>by obtain⟨q,I⟩:=aum s;obtain⟨e,L,A,_⟩:=at_ q m I;exact⟨_,xX p (D e (aua L)) y A⟩
     have bg:∀m∈g.toList,m.key≠v:=λm s e=>by obtain⟨q,I⟩:=aum s;obtain⟨x,L,A,_⟩:=at_ q m I;have:=(xX p (D x (aua L)) y A).2.2 e.symm;cases this
     rcases Nf p g.toList Q w with⟨j,m,_,g2,V⟩|⟨g1,_⟩;exact absurd V (bg m (aua g2))
     ·have T:(Instr.mapEntry t (.map (some (φ.a i'))) v).run P w=.ok (.tuple #[G,.int .i64 aD]) {w with heap:=w.heap.setIfInBounds (φ.a i') (.map (g.push {key:=v,val:=G,born:=aD}) (aD+1))}:=by simp[Instr.mapEntry,bZ ht,getObj,setObj,Sem.run,H,GO,g1,DY H8 zI,goInt]
      have vi:=MapKept.heap_set (o':=.map (g.push {key:=v,val:=G,born:=aD}) (aD+1)) H;rw[XW];obtain⟨r',st⟩:=JC (h':=h.bj i' (.d (B++[(k,z)]) (aD+1))) (w':={w with heap:=w.heap.setIfInBounds (φ.a i') (.map (g.push {key:=v,val:=G,born:=aD}) (aD+1))}) (i:=i') (o':=.d (B++[(k,z)]) (aD+1)) r (by rw[Y];rfl) rfl (λj=>Hp.ma _ _ _ _) zm (λc hc=>vi.2 c hc)
       (by
        refine⟨_,vi.1,⟨g.toList++[{key:=v,val:=G,born:=aD}],by simp,by simp only[auk,atX,aup,bz],λj e n=>?_⟩,?_,?_,?_,?_⟩
        by_cases C:j<B.length
        rw[aun C] at n;obtain⟨m,q1,q2,q3⟩:=pQ j e n;exact⟨m,by rw[aun zo];exact q1,q2,q3⟩;have pO:j=B.length:=by have:=(at0.1 n).1;simp at this;omega
        subst pO;rw[auq zl] at n;simp at n;subst n;exact⟨{key:=v,val:=G,born:=aD},by rw[auq zo,bz];simp,y,J φ⟩;simp only[awZ,au4,aul,awx];refine av'.2 ⟨GP,by simp,λa W b N e=>?_⟩;simp at N;obtain⟨m,s,rfl⟩:=auR.1 W;exact bg m s (e.trans N);simp only[awZ,au4,aul,awx];refine av'.2 ⟨xY,by simp,λa W b N e=>?_⟩;simp at N;obtain⟨m,s,rfl⟩:=auR.1 W;have:=DZ m s;omega;intro e n;simp at n;rcases n with n|rfl;have:=DZ e (by simpa using n);omega;simp;simp only[awZ,au4,aul,awx,GQ,List.range_succ])
       (λj U m vr todo eC _ _ e D5 fQ n=>by rw[e,vi.1] at n;cases n;exact⟨g,aD,by rw[e];exact H,by omega,λh=>by omega⟩) rfl rfl rfl
      exact⟨_,_,φ,T,r',st,by simp only[aj];exact⟨_,rfl,qS.2 ⟨J φ,qS.2 ⟨by simp only[aj];try rfl,sJ⟩⟩⟩⟩
    cases h0
   trivial
  trivial
theorem aD3{t:TypeId}(r:R φ h w){x s y:AV}{u v z:Value}(C:aj φ x u)(Q:aj φ s v)(hy:aj φ y z):GG P φ h w (Instr.entryStore t u v z) (ayt h x s y):=by
 unfold ayt;cases x<;>simp only[aj] at C<;>first|trivial|skip
 case h i'=>
  obtain⟨d,rfl⟩:=C;simp only[];split;rename_i B aD p;have D:=r.f i';rw[p] at D;obtain⟨b,K,⟨l,G,bz,U⟩,GP,W,Z,A⟩:=D;subst G;have zC:dH (h.ac i')=true:=by rw[p];rfl
  split;rename_i j O;obtain⟨kk,rfl⟩:=aEY Q O;split;rename_i X n;obtain⟨k,J,rfl⟩:=aCA n;obtain⟨m,T,p2,p3⟩:=U j k J;have g:b[j]? =some m:=by grind
  have L:=azM A T;have SD:b.findIdx? (λe=>(e.born:Int)==(j:Int))=some j:=by
   have S:=(auc.1 g).1;rw[Array.findIdx?_eq_some_iff_getElem];refine⟨S,?_,λq hq=>?_⟩
   grind
   have I:b[q].born=q:=azM A (j:=q) qaa;rw[I];simp;omega
  have H:(Instr.entryStore t (.map (some (φ.a i'))) (.int kk j) z).run P w=.ok () {w with heap:=w.heap.setIfInBounds (φ.a i') (.map (b.modify j λe=>{e with val:=z}) aD)}:=by simp_all[Instr.entryStore,getObj,setObj,Sem.run,asInt,asIntOf]
  have E:=MapKept.heap_set (o':=.map (b.modify j λe=>{e with val:=z}) aD) K;have GU:=age (F:=λe=>{e with val:=z}) g W;have Y1:∀e:MapEntry,(if e.born=m.born then{e with val:=z} else e:MapEntry).key=e.key:=λe=>by grind
  have Nj:∀e:MapEntry,(if e.born=m.born then{e with val:=z} else e:MapEntry).born=e.born:=λe=>by grind
  have mP:(b.modify j λe=>{e with val:=z}).toList.map (·.born)=b.toList.map (·.born):=by grind [List.map_congr_left]
  obtain⟨V,st⟩:=JC (h':=h.bj i' (.d (B.set j (k.1,y)) aD)) (w':={w with heap:=w.heap.setIfInBounds (φ.a i') (.map (b.modify j λe=>{e with val:=z}) aD)}) (i:=i') (o':=.d (B.set j (k.1,y)) aD) r (by rw[p];rfl) rfl (λj=>Hp.ma _ _ _ _) zm (λc M=>E.2 c M)
   (by
    refine⟨_,E.1,⟨_,rfl,by grind,λq e N=>?_⟩,?_,?_,?_,?_⟩
    grind
    grind
    grind
    grind
    grind)
   (λq ek m' vr todo eC _ _ e Y fQ N=>by grind) rfl rfl rfl
  exact⟨rfl,_,φ,H,V,st⟩;trivial;trivial;trivial
end
def rH(φ:kf):Md->FrameMode->Prop
 |.a,u=>u=.returning
 |.b v,u=>∃a,u=.panicking [{v:=a,recovered:=false}]/\aj φ v a
 |.c v,u=>∃a,u=.panicking [{v:=a,recovered:=true}]/\aj φ v a
def rH.aw{φ ψ:kf}(le:φ.k ψ){m:Md}{u:FrameMode}(f:rH φ m u):rH ψ m u:=by
 cases m with
 |a=>exact f
 |b v=>obtain⟨g,e,d⟩:=f;exact⟨g,e,nS le _ _ d⟩
 |c v=>obtain⟨g,e,d⟩:=f;exact⟨g,e,nS le _ _ d⟩
def rH.WF{φ:kf}{m:Md}{u:FrameMode}(f:rH φ m u):rH φ (B7 m) (settle u):=by
 cases m with
 |a=>have e:=f;rw[e];rfl
 |b v=>obtain⟨g,e,d⟩:=f;rw[e];exact⟨g,rfl,d⟩
 |c v=>obtain⟨g,e,d⟩:=f;rw[e];rfl
theorem rH.Lk{φ:kf}{m:Md}{u:FrameMode}(f:rH φ m u):u≠.run:=by
 cases m with
 |a=>have e:u=.returning:=f;grind
 |b v=>obtain⟨g,e,d⟩:=f;grind
 |c v=>obtain⟨g,e,d⟩:=f;grind
def rH.rec{φ:kf}{m:Md}{u:FrameMode}{c:Frame}{cs:List Frame}(h:rH φ m u):
 (∃v g,recoverD ({c with mode:=u}::cs)=some (v,{c with mode:=g}::cs)/\aj φ m.qr.1 v/\rH φ m.qr.2 g)\/
 (recoverD ({c with mode:=u}::cs)=none/\aj φ m.qr.1 .nilIface/\rH φ m.qr.2 u):=by
 cases m with
 |a=>
  right;have e:u=.returning:=h;exact⟨by simp only[recoverD,e],by rfl,h⟩
 |b x=>
  left;obtain⟨f,e,d⟩:=h;exact⟨f,.panicking [{v:=f,recovered:=true}],by simp only[recoverD,e],d,f,rfl,d⟩
 |c x=>
  right;obtain⟨f,e,d⟩:=h;exact⟨by simp only[recoverD,e],by rfl,f,e,d⟩
def Fo(P:Program):Prop:=∀o:Oper,eX P o.op=.g->∀(a:Operand->Value)(w:World),∃w',(execOp a o).run P w=.ok .recover w'/\sL w w'
def St.IO{b:kB}{nt:Nat}{φ:kf}{f:Fr}{h:Hp}{ds:List Df}{a:Act}{w:World}(s:St P b nt φ f h ds a w):St P ⟨φ,h,w⟩ nt φ f h ds a w:=
 ⟨s.r,.da φ h w,s.i,s.j,s.k,s.g⟩
def amT(P:Program)(b:kB)(nt:Nat)(nZ:Frame)(cs:List Frame)(k:aT->Md->Prop)(oo:aK):Exit->Act->List Frame->World->Prop:=
 λe a d w=>∃out m u c,Dn (k out m) oo/\d={nZ with mode:=u}::cs/\rH c.φ m u/\eS b.φ b.h b.w c.φ c.w c.h/\Nv P c nt out e a w
theorem Fp(O:mS P)(d:Fo P){b:kB}{nt:Nat}{nZ:Frame}{cs:List Frame}{aF:Array Oper}{kk:Md->Fr->Hp->Prop}{oo:aK}{Q:Exit->Act->List Frame->World->Prop}
 (e:∀φ f h a w m u,St P b nt φ f h [] a w->rH φ m u->Dn (kk m f h) oo->Q .normal a ({nZ with mode:=u}::cs) w):
 ∀(l:List CI)(k:Nat){φ:kf}{f:Fr}{h:Hp}{a:Act}{w:World}{m:Md}{u:FrameMode},(∀(j:Nat)(c:CI),l[j]? =some c->∃o,aF[k+j]? =some o/\aEB P nt aF o=some c)->
  St P b nt φ f h [] a w->rH φ m u->Dn (aET kk l m f h) oo->
  wpOpsS P aF Q (List.range' k l.length) a ({nZ with mode:=u}::cs) w
 |[],k,φ,f,h,a,w,m,u,_,s,g,hd=>e φ f h a w m u s g hd
 |c::l,k,φ,f,h,a,w,m,u,I,s,g,hd=>by
  obtain⟨o,R,H⟩:=I 0 c rfl;have N:aF[k]? =some o:=R;have i:∀(j:Nat)(c:CI),l[j]? =some c->∃o,aF[k+1+j]? =some o/\aEB P nt aF o=some c:=λj c' W=>by
   obtain⟨o',U,V⟩:=I (j+1) c' qaa
   grind
  rw[atX,awD];simp[wpOpsS,N];simp[aET] at hd;obtain⟨p,q,J,_⟩:=wJ H;cases C:jO c.a f with
  |none=>rw[C] at hd;exact hd.lL.elim
  |some t=>
   rw[C] at hd;have S:=Zq s H C;cases t with
   |false=>
    rw[atS qaa];rw[q] at hd;exact Fp O d e l (k+1) i (s.rp (.da w) p DX) g hd
   |true=>
    rw[atV S];simp only at hd;split at hd;rename_i L;obtain⟨w',M,r⟩:=d o qaa a.eval w;rw[M];rw[q] at hd;rcases g.rec (c:=nZ) (cs:=cs) with⟨v,X,B,E,F⟩|⟨B,E,F⟩;rw[B];exact Fp O d e l (k+1) i (s.rp r p E) F hd;rw[B];exact Fp O d e l (k+1) i (s.rp r p E) F hd;have eT:=O φ h w f a o s.r s.g s.i;rw[<-J] at eT;unfold Good at eT;generalize K:(execOp a.eval o).run P w=jk at eT⊢;cases y:aQ c.c f h with
    |v x=>
     rw[y] at hd eT;obtain⟨n,v,w',rfl,A,D,r⟩:=eT;rw[q] at hd;have z:=Fp O d e l (k+1) i (s.rp r p D) g hd;rcases A with rfl|⟨rfl,rfl⟩<;>exact z
    |b x h'=>
     rw[y] at hd eT;obtain⟨n,v,w',ψ,rfl,A,T,G,D⟩:=eT;rw[q] at hd;have z:=Fp O d e l (k+1) i (s.kw T G p D) (g.aw G.m) hd;rcases A with rfl|⟨rfl,rfl⟩<;>exact z
    |_=>rw[y] at hd;exact hd.lL.elim
theorem amV{rec:fJ}(rs:vo P rec)(O:mS P)(V:Fo P){b:kB}{nt:Nat}{nZ:Frame}{cs:List Frame}{k:aT->Md->Prop}{oo:aK}(c:Code)
 {φ:kf} {f:Fr} {h:Hp} {a:Act} {w:World} {m:Md} {u:FrameMode} (s:St P b nt φ f h [] a w) (T:rH φ m u) (hd:Dn (aE4 rec (comp P nt c) m f h k) oo):
 c.wpS P (amT P b nt nZ cs k oo) a ({nZ with mode:=u}::cs) w:=by
 unfold aE4 at hd;split at hd
 ·rename_i l x y H;cases c<;>simp only[comp,reduceCtorEq] at H
  case region=>grind
  case cond=>grind
  case seq c12 c3=>
   injection H with F X;cases c12<;>simp only[comp,reduceCtorEq] at F
   case region=>grind
   case cond=>grind
   case seq c1 c2=>
    injection F with i S;cases c1<;>simp only[comp,reduceCtorEq] at i
    case cond=>grind
    case region id aF dr=>
     cases dr with
     |true=>grind
     |false=>
      split at i;rename_i U R;simp at i;subst i;obtain⟨M,N⟩:=Ny R;refine wpS_seq (wpS_seq (wpS_region ?_));rw[avQ,<-M];refine Fp O V (b:=b) (nt:=nt) (oo:=oo) (kk:=λm f h=>rec x f h [] (bF (rec y) λo=>k o m)) ?_ U 0 N s T hd;intro p Q i K r C E B D G;rw[<-S] at G;refine wpS_of_wp (wp_mono (rs.wp nt c2 ⟨p,i,r⟩ p Q i [] K r _ oo B.IO G) ?_);rintro e J w' ⟨out,q,z⟩;cases out with
      |d t g2 A=>
       obtain⟨rfl,j,n⟩:=z;rw[<-X] at q;refine wpS_of_wp (wp_mono (rs.wp nt c3 ⟨j,g2,w'⟩ j t g2 A J w' _ oo n.IO q) ?_);rintro e W SP ⟨out,L,rI⟩;exact⟨out,C,E,⟨j,g2,w'⟩,L,rfl,D.aw n.c.m,B.c.ab n.c,rI⟩
      |a I t g2 A=>
       obtain⟨rfl,j,n⟩:=z;exact⟨.a I t g2 A,C,E,⟨p,i,r⟩,q,rfl,D,B.c,rfl,j,n⟩
      |g I t g2 A=>
       obtain⟨rfl,j,n⟩:=z;exact⟨.g I t g2 A,C,E,⟨p,i,r⟩,q,rfl,D,B.c,rfl,j,n⟩
      |b t g2 A=>
       obtain⟨rfl,j,n⟩:=z;exact⟨.b t g2 A,C,E,⟨p,i,r⟩,q,rfl,D,B.c,rfl,j,n⟩
      |c v t g2 A=>
       obtain⟨Z,j,rfl,Y,n⟩:=z;exact⟨.c v t g2 A,C,E,⟨p,i,r⟩,q,rfl,D,B.c,Z,j,rfl,Y,n⟩
      grind
 ·rename_i l y H;cases c<;>simp only[comp,reduceCtorEq] at H
  case region=>grind
  case cond=>grind
  case seq c1 c2=>
   injection H with i S;cases c1<;>simp only[comp,reduceCtorEq] at i
   case cond=>grind
   case region id aF dr=>
    cases dr with
    |true=>grind
    |false=>
     split at i;rename_i U R;simp at i;subst i;obtain⟨M,N⟩:=Ny R;refine wpS_seq (wpS_region ?_);rw[avQ,<-M];refine Fp O V (b:=b) (nt:=nt) (oo:=oo) (kk:=λm f h=>rec y f h [] λo=>k o m) ?_ U 0 N s T hd;intro p Q i K r C E B D G;rw[<-S] at G;refine wpS_of_wp (wp_mono (rs.wp nt c2 ⟨p,i,r⟩ p Q i [] K r _ oo B.IO G) ?_);rintro e J w' ⟨out,q,z⟩;exact⟨out,C,E,⟨p,i,r⟩,q,rfl,D,B.c,z⟩
     grind
 refine wpS_of_wp (wp_mono (rs.wp nt c ⟨φ,h,w⟩ φ f h [] a w _ oo s.IO hd) ?_);rintro e J w' ⟨out,q,z⟩;exact⟨out,m,u,⟨φ,h,w⟩,q,rfl,T,s.c,z⟩
theorem PE{I:aM->Option CF}(T:Ed P I){rec:fJ}(rs:vo P rec)(O:mS P)(RO:Fo P){b:kB}{fn:Func}{jk:List CR}(z:iJ (B4 P fn.ntmps) fn.results.toList=some jk)
 {tmps:Array Value} {f:Fr} {J:aK->Prop} {oo:aK}:∀(ds:List Df){n:List Deferred}{m:Md}{u:FrameMode}{φ:kf}{h:Hp}{w:World},R φ h w->eS b.φ b.h b.w φ w h->jq φ P->iq φ f tmps->
  Cm φ ds n->rH φ m u->Dn (pJ I rec jk f J ds m h) oo->LeavesInM (FW none) 0 P fn tmps (λe w'=>∃co,Dn (J co) oo/\Nw b co e w') n u w
 |[],n,m,u,φ,h,w,r,st,g,Y,K,E,hd=>by
  cases n with
  |cons=>exact K.elim
  |nil=>
   cases m with
   |a=>
    have e:=E;subst e;obtain⟨x,v,W,hx,hk⟩:=Zw r Y z hd;exact⟨v,W,_,hk,φ,v,rfl,hx,r,st⟩
   |b v=>
    obtain⟨pv,rfl,hv⟩:=E;exact⟨_,hd,φ,pv,rfl,hv,r,st⟩
   |c v=>exact hd.lL.elim
 |d::ds,n,m,u,φ,h,w,r,st,g,Y,K,E,hd=>by
  cases n with
  |nil=>exact K.elim
  |cons e n=>
   obtain⟨Wl,S⟩:=K;refine⟨E.Lk,?_⟩;cases d with
   |a D C=>
   right;obtain⟨cap,args,sV,ht,ha,k8,oW⟩:=Wl;refine⟨λc=>qaa,?_⟩;simp only[pJ] at hd;cases L:I D with
   |none=>rw[L] at hd;exact hd.lL.elim
   |some c=>
    rw[L] at hd;simp only at hd;cases t:(Nat.beq c.c D.n&&Ql c.b) with
    |false=>rw[t] at hd;exact hd.lL.elim
    |true=>
     rw[t] at hd;simp only[atW] at t;obtain⟨c',jQ,Wn,U⟩:=T D c L (at7 t.1);obtain⟨H,body,V,oY,CD,EJ,Ec⟩:=Zu jQ;have M:c'.b=[]:=by
      have:=t.2;rw[<-U] at this;cases N:c'.b with
      |nil=>rfl
      |cons=>rw[N] at this;cases this
     refine⟨.func D.n,cap,D.n,args++cap,ht,?_,λ_ _=>trivial,?_⟩;rw[ht,ha];exact Ec (args++cap) w;refine agI V oY λnZ cs Q=>?_;have wE:nZ={nZ with mode:=u}:=by subst Q;rfl
     rw[wE];have Z:aEu φ C (args++cap).toList:=by grind
     have s:St P ⟨φ,h,w⟩ H.ntmps φ (nQ C) h [] {tmps:=(args++cap)++Array.replicate (H.ntmps- (args++cap).size) Go.undef,defers:=[]} w:=
      ⟨r,.da φ h w,Zx Z _,auW,by grind,g⟩
     rw[<-Wn,CD] at hd;have hw:=amV rs O RO (nZ:=nZ) (cs:=cs) body s E hd;intro bb kk VI vk;obtain⟨e',y,X,w',hq,jA⟩:=hw bb kk VI vk;refine⟨e',y,X,w',?_,jA⟩;obtain⟨out,m',u',b1,o,rfl,yg,F,ho⟩:=hq;have A:∀(p:kf)(l:Fr)(i:Hp),St P b1 H.ntmps p l i [] y w'->Dn (pJ I rec jk f J ds (B7 m') i) oo->
      y.defers=[]/\∃G,({{nZ with mode:=u} with mode:=u'}::cs:List Frame)={{nZ with mode:=u} with mode:=G}::cs/\∃v,(results H y.tmps).run P w'=.ok v w'/\
       LeavesInM (FW none) 0 P fn tmps (λe w'=>∃co,Dn (J co) oo/\Nw b co e w') n (settle G) w':=by
      intro p l i j lN;have dA:=j.c.m;have B:=F.m.ab dA;refine⟨?_,u',rfl,?_⟩;have:=j.j;cases SY:y.defers with
      |nil=>rfl
      |cons=>rw[SY] at this;exact this.elim
      rw[M] at EJ;obtain⟨x,v,W,_,_⟩:=Zw (k:=λ_=>True) (oo:=.a (.p []) i) j.r j.i EJ (show Dn (wz i l [] λ_=>True) _ from trivial);exact⟨v,W,PE T rs O RO z ds j.r (st.ab (F.ab j.c)) j.g (Y.aw B) (S.aw B) (yg.aw dA).WF lN⟩
     cases out with
     |d l i q=>
      obtain⟨rfl,p,j⟩:=ho;cases q with
      |cons=>exact o.lL.elim
      |nil=>exact A p l i j o
     |b l i q=>
      obtain⟨rfl,p,j⟩:=ho;cases q with
      |cons=>exact o.lL.elim
      |nil=>exact A p l i j o
     |a id l i q=>exact o.lL.elim
     |g id l i q=>exact o.lL.elim
     |c v l i q=>exact o.lL.elim
theorem am3{x:aM->Option CF}(T:Ed P x){rec:fJ}(rs:vo P rec)(O:mS P)(t:Fo P){i:aM}{c:CF}(G:x i=some c)(H:c.c=i.n)
 {args:List AV} {h:Hp} {k:aK->Prop} {oo:aK} {φ:kf} {w:World} {vs:Array Value} (r:R φ h w) (g:jq φ P) (A:aEu φ args vs.toList)
 (hd:Dn (rec c.a (nQ args) h [] (finish x rec c.b k)) oo):SW P i.n/\Calls P i.n vs w λe w'=>∃co,Dn (k co) oo/\Nw ⟨φ,h,w⟩ co e w':=by
 obtain⟨c',J,D,u⟩:=T i c G H;obtain⟨fn,body,L,E,B,q,C⟩:=Zu J;refine⟨C,SO.1 (callsIn_of_wp_marks (F:=FW none) (n:=0) L E trivial ?_)⟩;have s:St P ⟨φ,h,w⟩ fn.ntmps φ (nQ args) h [] {tmps:=vs++Array.replicate (fn.ntmps- vs.size) Go.undef,defers:=[]} w:=
  ⟨r,.da φ h w,Zx A _,auW,by grind,g⟩
 rw[<-D,B] at hd;refine wpIn_mono (rs.d none _ body _ φ _ h [] _ w _ oo (.inl rfl) s hd) ?_;rintro e a w' ⟨out,l,y⟩;rw[<-u] at l;cases out with
 |d o p j=>
  obtain⟨rfl,z,f⟩:=y;exact PE T rs O t q j f.r f.c f.g f.i f.j (m:=.a) rfl l
 |b o p j=>
  obtain⟨rfl,z,f⟩:=y;exact PE T rs O t q j f.r f.c f.g f.i f.j (m:=.a) rfl l
 |a id o p j=>exact l.lL.elim
 |g id o p j=>exact l.lL.elim
 |c v o p j=>
  obtain⟨K,z,rfl,I,f⟩:=y;exact PE T rs O t q j f.r f.c f.g f.i f.j (m:=.b v) ⟨K,rfl,I⟩ l
def adU{a:aM->Option CF}(T:Ed P a){rec:fJ}(rs:vo P rec)(O:mS P)(f:Fo P):zN P (aE a rec):=by
 intro i args h k oo φ w vs hd r g e;unfold aE at hd;cases b:a i with
 |none=>rw[b] at hd;exact hd.lL.elim
 |some c=>
  rw[b] at hd;simp only at hd;cases d:Nat.beq c.c i.n with
  |false=>rw[d] at hd;exact hd.lL.elim
  |true=>
   rw[d] at hd;have j:=at7 d;exact am3 T rs O f b j r g e hd
def am4{a:aM->Option CF}(T:Ed P a)(O:mS P)(b:Fo P)(D:Nz P):zN P (aE a (W a)):=
 adU T (agS (λ_ rs=>adU T rs O b) O D) O b
theorem BJ{g1 g2:CX->AV}:∀{l:List CX},(∀x∈l,g1 x=g2 x)->jc g1 l=jc g2 l
 |[],_=>rfl
 |x::l,h=>by
  have e:=BJ λy b=>h y (aug _ b)
  grind [jc]
theorem PG{g1 g2:CX->AV}{x:Option CX}(h:∀y∈oX x,g1 y=g2 y):uS g1 x=uS g2 x:=by
 cases x with
 |none=>rfl
 |some x=>grind [uS,oX]
theorem adV{g1 g2:CX->AV}:∀{ps:List (Nat×Nat×CX)}{l:List AV},(∀q∈ps,g1 q.2.2 =g2 q.2.2)->AI g1 l ps=AI g2 l ps
 |[],_,_=>rfl
 |(off,n,x)::r,l,h=>by have c:=h (off,n,x) zm;have b:∀q∈r,g1 q.2.2 =g2 q.2.2 :=λq d=>h q qaa;simp[AI,c];split;congr 1;split;exact adV b;rfl;rfl
theorem Wo{g1 g2:CX->AV}{rw len:Nat}:∀{ps:List (Nat×CX)}{t:N3 (List AV)},(∀q∈ps,g1 q.2 =g2 q.2)->wg rw len g1 ps t=wg rw len g2 ps t
 |[],_,_=>rfl
 |(j,x)::r,t,h=>by have c:=h (j,x) zm;have b:∀q∈r,g1 q.2 =g2 q.2 :=λq d=>h q qaa;simp[wg,c];split;rw[Wo b];rfl
theorem am5{c:CO}{f g:Fr}(h:∀x∈BZ c,x.ac f=x.ac g) (m:Hp):aQ c f m=aQ c g m:=by
 cases c
 case A z ps=>
  simp[aQ,FY];rw[adV (g1:=λx=>x.ac f) (g2:=λx=>x.ac g) λq o=>h _ (auR.2 ⟨q,o,rfl⟩)]
 case w el rw len z ps=>
  simp[aQ,FZ];rw[Wo (g1:=λx=>x.ac f) (g2:=λx=>x.ac g) λq o=>h _ (auR.2 ⟨q,o,rfl⟩)]
 case FG fn a b=>
  grind [BZ,aQ,BJ]
 case j fn l=>
  have i:jc (λx=>x.ac f) l=jc (λx=>x.ac g) l:=BJ λx d=>h x d;simp only[aQ,i]
 case min l=>
  have i:jc (λx=>x.ac f) l=jc (λx=>x.ac g) l:=BJ λx d=>h x d;simp only[aQ,i]
 case max l=>
  have i:jc (λx=>x.ac f) l=jc (λx=>x.ac g) l:=BJ λx d=>h x d;simp only[aQ,i]
 case J e l=>
  have i:jc (λx=>x.ac f) l=jc (λx=>x.ac g) l:=BJ λx d=>h x d;simp only[aQ,i]
 case D y l=>
  simp only[BZ,atZ] at h;simp[aQ];rw[h y (.inl rfl),BJ (g1:=λx=>x.ac f) (g2:=λx=>x.ac g) λx d=>h x (.inr d)]
 case IJ y l=>
  simp only[BZ,atZ] at h;simp[aQ];rw[h y (.inl rfl),BJ (g1:=λx=>x.ac f) (g2:=λx=>x.ac g) λx d=>h x (.inr d)]
 case I x a b=>
  simp only[BZ,atZ,auj] at h;simp[aQ];rw[h x (.inl rfl),PG (g1:=λx=>x.ac f) (g2:=λx=>x.ac g) λy k=>h y (.inr (.inl k)),PG (g1:=λx=>x.ac f) (g2:=λx=>x.ac g) λy k=>h y (.inr (.inr k))]
 case H rw n x a b=>
  simp only[BZ,atZ,auj] at h;simp[aQ];rw[h x (.inl rfl),PG (g1:=λx=>x.ac f) (g2:=λx=>x.ac g) λy k=>h y (.inr (.inl k)),PG (g1:=λx=>x.ac f) (g2:=λx=>x.ac g) λy k=>h y (.inr (.inr k))]
 all_goals
  simp_all[BZ,aQ]
theorem LG{c:CO}(b:AN c=true)(f:Fr)(m d:Hp):aQ c f m=aQ c f d:=by cases c<;>simp only[AN,at3] at b<;>simp only[aQ]
open Classical in
theorem tS(p q:Nat)(v:AV)(f:Fr)[Decidable (p=q)]:cg p (fO q v f)=if p=q then v else cg p f:=by grind [RM]
def am6{t:Nat}(_:t<512):gz t=t:=rfl
def am7(p:Nat):gz p=p:=rfl
theorem Wp{p q:Nat}:Qe p q=true <-> p=q:=iH
theorem am8{p:Nat}{l:List Nat}:Qg p l=true <-> p∈l:=by
 unfold Qg;rw[awE];constructor
 grind [Wp]
 intro h;exact⟨p,h,Wp.2 rfl⟩
def Db(f:Fr):List Nat->Fr
 |[]=>Fr.yk
 |p::l=>fO p (cg p f) (Db f l)
open Classical in
theorem PI(f:Fr)(p:Nat):∀l:List Nat,cg p (Db f l)=if p∈l then cg p f else .B
 |[]=>by rfl
 |q::l=>by
  simp[Db,tS,PI f p l]
  grind
theorem adW{x:CX}{p:Nat}:∀{l:List CX},x∈l->x=.t p->p∈F4 l
 |[],h,_=>by grind
 |y::l,h,e=>by
  rcases atZ.1 h with h|h
  grind [F4]
  have:=adW h e;cases y<;>simp[F4,this]
def xC(φ:kf)(f:Fr)(tmps:Array Value)(c:CI):Prop:=∀p∈xN c,aj φ (cg p f) (tmps.getD p Go.undef)
def adX{c:CI}(b:xC φ f a.tmps c):iq φ (Db f (xN c)) a.tmps:=by
 classical
 refine⟨λt=>?_⟩;rw[PI];split;rename_i d;exact b _ d;simp only[aj]
def am9(c:CI):aQ c.c (Db f (xN c)) h=aQ c.c f h:=by
 classical
 refine am5 (λx b=>?_) h;cases x with
 |k v=>rfl
 |t p=>
  simp[CX.ac];rw[PI,atV];exact auj.2 (.inr (adW b rfl))
theorem ana(c:CI):jO c.a (Db f (xN c))=jO c.a f:=by grind [jO,PI,xN]
def Wq(O:mS P)(r:R φ h w)(g:jq φ P){aF:Array Oper}{o:Oper}{c:CI}(b:aEB P nt aF o=some c)(d:xC φ f a.tmps c):
 Gw P φ h w ((execOp a.eval o).run P w) (aQ c.c f h):=by
 have:=O φ h w (Db f (xN c)) a o r g (adX d);unfold Good at this;rw[<-(wJ b).2.2.1,am9] at this;omega
theorem Ws(e:nt<=a.tmps.size){aF:Array Oper}{o:Oper}{c:CI}(g:aEB P nt aF o=some c)(l:xC φ f a.tmps c){t:Bool}(b:jO c.a f=some t):
 Region.wanted o (yielded aF a.tmps)=t:=by
 rw[<-ana] at b;obtain⟨_,_,_,⟨k,p⟩|⟨j,bb,d,k,r,m,n,p⟩⟩:=wJ g
 grind [jO,Region.wanted]
 have i:=adX l;simp[jO] at b;have u:=i.at_ d n;have q:=aur m e;have s:a.tmps[d]? =some (a.tmps.getD d Go.undef):=by simp_all
 grind [Region.wanted,yielded,aj]
theorem Wt{φ ψ:kf}:∀(n:Nat)(x:AV)(v:Value),za n x=true->aj φ x v->aj ψ x v
 |0,_,_,h,_=>by simp[za] at h
 |n+1,x,v,h,d=>by
  have k:∀(l:List AV)(vs:List Value),l.all (za n)=true->aEu φ l vs->aEu ψ l vs:=by
   intro l
   induction l with
   |nil=>grind [aEu]
   |cons x l i=>
    intro vs h d;simp only[aw2,atW] at h;obtain⟨u,r,rfl,c,e⟩:=d;exact⟨u,r,rfl,Wt n x u h.1 c,i r h.2 e⟩
  cases x<;>simp only[za,at3,atW] at h
  case q f a b=>
   simp[aj] at d⊢
   grind
  case r t x=>
   obtain⟨y,rfl,g⟩:=d;exact⟨y,rfl,Wt n x y h g⟩
  case j l=>
   simp[aj] at d⊢
   grind
  case p l=>
   simp[aj] at d⊢
   grind
  all_goals grind [aj]
def Wu(o:AO):Prop:=o.fp=true/\∀(j:Nat)(x:AV),o.iv j=some x->Qf x=true
theorem adY(t:N3 (List AV)):∀(n k j:Nat),j<n->dY t (k+j)∈aEt t n k
 |0,_,_,h=>zo
 |n+1,k,0,_=>by simp[aEt]
 |n+1,k,j+1,h=>by
  refine aug _ ?_;have:=adY t n (Nat.succ k) j zo
  grind
theorem adZ{o:AO}(h:F2 o=true):Wu o:=by
 cases o<;>simp only[F2,at3] at h
 case a el l=>
  refine⟨rfl,λj x c=>?_⟩
  grind [AO.iv]
 case b el rw vh fz t=>
  refine⟨rfl,λj x c=>?_⟩;simp only[AO.iv] at c;split at c;rename_i f;have e:0<rw:=by grind
  have d:j/rw<vh:=auw qaa;have:=adY t vh 0 (j/rw) d;rw[aue] at this;exact auO.1 (auO.1 h _ this) x (aua c)
  grind
def Wv(k:Nat->AV):Prop:=∀(ψ a:kf)(z r:Nat)(v:Value),a.f r->a.a r=ψ.a z->a.c r=ψ.c z->a.g r=ψ.g z->aj ψ (k z) v->aj a (k r) v
theorem ad0{c:CO}{o:AO}{k:Nat->AV}(h:F3 c=some (o,k)):(∀f h,aQ c f h=alloc h o k)/\Wu o/\Wv k:=by
 have kp:Wv λi=>.a i 0:=by
  intro ψ y z r v hd g j n d
  grind [aj]
 cases c<;>simp only[F3,reduceCtorEq] at h
 case o el l=>
  cases a:F2 (.a el l) with
  |false=>grind
  |true=>
   rw[a] at h;obtain⟨rfl,rfl⟩:=h;exact⟨λ_ _=>rfl,adZ a,kp⟩
 case w el rw len z ps=>
  cases b:ps.all λq=>Xb q.2 with
  |false=>grind
  |true=>
   rw[b] at h;split at h;rename_i t u;cases a:F2 (.b el rw len 0 t) with
   |false=>grind
   |true=>
    rw[a] at h;obtain⟨rfl,rfl⟩:=h;refine⟨λf m=>?_,adZ a,?_⟩;simp[aQ,FZ];rw[Wo (g1:=λx=>x.ac f) (g2:=λx=>x.ac Fr.yk) λq s=>?_,u];have:=auO.1 b q s;cases e:q.2 with
    |t p=>rw[e] at this;cases this
    |k v=>rfl
    intro ψ y z r v hd g j n d;simp[aj] at d⊢
    grind
   grind
structure Ww(w w':World):Prop where
 b:w.heap.size<=w'.heap.size
 a:∀c,c<w.heap.size->w'.heap[c]? =w.heap[c]?
 g:w'.os=w.os
 d:w'.output=w.output
 f:w'.tape=w.tape
def R.ext{φ:kf}{h:Hp}{w w':World}(r:R φ h w)(e:Ww w w'):R φ h w' where
 k:=r.k
 f:=λi=>by
  by_cases c:dH (h.ac i)=true
  have g:=r.l i c;refine(r.f i).aw (.da φ) ((r.k i).2 (uY c)) e.b (e.a _ g) λp m aD todo o j d n q=>?_;have b:=r.f i;rw[j] at b;obtain⟨_,_,a,_⟩:=b;exact⟨d,n,by rw[<-e.a _ a];omega,at2 _,λ_=>⟨id,λ_=>rfl,λ_ _ _ h=>h,by simp⟩⟩;cases s:h.ac i<;>simp_all[dH,kM]
 inj:=r.inj
 l:=λi hi=>aur (r.l i hi) e.b
def eS.ext{φ:kf}{h:Hp}{w w':World}(e:Ww w w'):eS φ h w φ w' h:=
 ⟨.da φ,e.b,λc a _=>e.a c a,λi hi=>.inl ⟨i,hi,rfl⟩,e.g,e.d,e.f⟩
def R.Hk{φ:kf}{h g:Hp}{w:World}(r:R φ h w)(e:∀i,g.ac i=h.ac i):R φ g w where
 k:=λi=>by rw[e];exact r.k i
 f:=λi=>by rw[e];exact r.f i
 inj:=λi j=>by rw[e,e];exact r.inj i j
 l:=λi=>by rw[e];exact r.l i
def eS.Hk{φ ψ:kf}{h h' g:Hp}{w w':World}(s:eS φ h w ψ w' h')(e:∀i,g.ac i=h'.ac i):eS φ h w ψ w' g where
 m:=s.m
 l:=s.l
 f:=s.f
 o:=λi=>by rw[e];exact s.o i
 p:=s.p
 d:=s.d
 n:=s.n
def Fs(φ:kf)(h:Hp)(w:World)(b a:Nat)(o:AO)(k:Nat->AV)(v:Value):Prop:=
 ∃(ψ:kf) (z:Nat),ψ.a z=a/\qu ψ w z o/\aj ψ (k z) v/\b<=a/\a<w.heap.size/\∀i,dH (h.ac i)=true->φ.a i≠a
theorem qu.my{ψ:kf}{w w':World}{z:Nat}{o:AO}(c:qu ψ w z o)(h:w'.heap[ψ.a z]? =w.heap[ψ.a z]?):qu ψ w' z o:=by obtain⟨wf,i,m,a,d,j,e⟩:=c;exact⟨wf,i,λl=>by grind,a,d,by grind,e⟩
theorem Fs.Vo{φ d:kf}{h h':Hp}{w w':World}{a b:Nat}{o:AO}{k:Nat->AV}{v:Value}(p:Fs φ h w a b o k v)(s:eS φ h w d w' h'):Fs d h' w' a b o k v:=by
 obtain⟨ψ,z,h0,f,g,l,c,h5⟩:=p;subst h0;refine⟨ψ,z,rfl,f.my (s.f _ c h5),g,l,aur c s.l,λi hi e=>?_⟩;rcases s.o i hi with⟨j,q,n⟩|m
 grind
 omega
def Hd(n:Nat):Hp:=⟨λi=>if i<n then .f else .h,n,[],λi h=>atS (axJ.2 h)⟩
def Ip{n:Nat}(i:Nat):(Hd n).ac i=.f/\i<n\/(Hd n).ac i=.h/\¬i<n:=by
 by_cases e:i<n
 exact .inl ⟨atV e,e⟩;exact .inr ⟨atS e,e⟩
theorem anc{P:Program}{nt:Nat}{φ:kf}{a:Act}{w:World}(O:mS P)(g:jq φ P){aF:Array Oper}{o:Oper}{c:CI}(A:aEB P nt aF o=some c)
 {e:AO} {k:Nat->AV} (C:F3 c.c=some (e,k)):∃m v w',(execOp a.eval o).run P w=.ok m w'/\M0 m v/\Ww w w'/\
  ∃(ψ:kf) (z:Nat),qu ψ w' z e/\aj ψ (k z) v/\w.heap.size<=ψ.a z/\ψ.a z<w'.heap.size:=by
 obtain⟨x,p,_⟩:=ad0 C
 let l:kf:=⟨λi=>i<P.globals.size,φ.a,φ.c,φ.g,φ.m,φ.l⟩
 have r:R l (Hd P.globals.size) w:=by refine⟨λi=>?_,λi=>?_,λi j hi=>?_,λi hi=>?_⟩;rcases Ip i with⟨b,d⟩|⟨b,d⟩;rw[b];exact⟨λ_=>rfl,λ_=>d⟩;rw[b];exact⟨λh=>absurd h d,λh=>by cases h⟩;rcases Ip i with⟨b,_⟩|⟨b,_⟩<;>rw[b]<;>trivial;rcases Ip i with⟨b,_⟩|⟨b,_⟩<;>rw[b] at hi<;>cases hi;rcases Ip i with⟨b,_⟩|⟨b,_⟩<;>rw[b] at hi<;>cases hi
 have y:jq l P:=⟨g.1,λn b d=>⟨b,(g.2 n b d).2⟩⟩;have B:iq l Fr.yk a.tmps:=⟨λt=>by
  have:cg (gz t) Fr.yk=.B:=rfl
  grind [aj]⟩
 have eT:=O l (Hd P.globals.size) w Fr.yk a o r y B;unfold Good at eT;rw[<-(wJ A).2.2.1,x] at eT;obtain⟨m,v,w',ψ,b,d,s,st,hd⟩:=eT;have D:∀j:Nat,((Hd P.globals.size).am e).ac j=if j=P.globals.size then e else(Hd P.globals.size).ac j:=λj=>Hp.pi ..
 have G:dH e=true:=by have:=p.1;cases e<;>first|rfl|cases this
 refine⟨m,v,w',b,d,⟨st.l,λcc u=>st.f cc u λi hi=>?_,st.p,st.d,st.n⟩,ψ,P.globals.size,?_,hd,?_,?_⟩;rcases Ip i with⟨f,_⟩|⟨f,_⟩<;>rw[f] at hi<;>cases hi;have:=s.f P.globals.size;rw[D,atV rfl] at this;have E:=p.1;cases e<;>first|exact this|cases E
 rcases st.o P.globals.size qaa with⟨j,q,_⟩|F;rcases Ip j with⟨f,_⟩|⟨f,_⟩<;>rw[f] at q<;>cases q;omega;exact s.l P.globals.size qaa
theorem ane{φ:kf}{h:Hp}{w:World}{C q:Nat}{o:AO}{k:Nat->AV}{v:Value}(r:R φ h w)(N:jN (h.ac h.a)=true)(l:Wu o)(L:Wv k)(p:Fs φ h w C q o k v):
 ∃c:kf,R c (h.am o) w/\φ.k c/\aj c (k h.a) v/\
  (∀i,dH ((h.am o:Hp).ac i)=true->(dH (h.ac i)=true/\c.a i=φ.a i)\/c.a i=q):=by
 obtain⟨ψ,z,Q,J,hd,P,S,X⟩:=p;have a:∀j:Nat,(h.am o:Hp).ac j=if j=h.a then o else h.ac j:=λj=>by exact Hp.pi ..
 have t:dH o=true:=by have:=l.1;cases o<;>first|rfl|cases this
 have D:¬φ.f h.a:=λd=>by rw[(r.k _).1 d] at N;grind
 have le:φ.k (φ.kw h.a (ψ.a z) (ψ.c z) (ψ.g z)):=kf.tz D;have E:(φ.kw h.a (ψ.a z) (ψ.c z) (ψ.g z)).a h.a=ψ.a z:=by simp[kf.kw]
 have F:(φ.kw h.a (ψ.a z) (ψ.c z) (ψ.g z)).c h.a=ψ.c z:=by simp[kf.kw]
 have G:(φ.kw h.a (ψ.a z) (ψ.c z) (ψ.g z)).g h.a=ψ.g z:=by simp[kf.kw]
 have n:∀j,j≠h.a->(φ.kw h.a (ψ.a z) (ψ.c z) (ψ.g z)).a j=φ.a j:=λj b=>by simp[kf.kw,b]
 refine⟨φ.kw h.a (ψ.a z) (ψ.c z) (ψ.g z),⟨λi=>?_,λi=>?_,λi j hi b e=>?_,λi hi=>?_⟩,le,L _ _ _ _ _ (.inl rfl) E F G hd,λi hi=>?_⟩;rw[a]
 by_cases e:i=h.a
 rw[atV e];exact⟨λ_=>uY t,λ_=>.inl e⟩;rw[atS e,<-r.k i];simp[kf.kw,e];rw[a]
 by_cases e:i=h.a
 subst e;rw[atV rfl];have key:qu (φ.kw h.a (ψ.a z) (ψ.c z) (ψ.g z)) w h.a o:=by obtain⟨wf,O,W,A,I,q1,q2,q3,q4,q5,q6⟩:=J;refine⟨wf,λh=>by grind,λV=>by grind,A,I,by grind,by omega,by omega,λj x s=>?_,q5,by grind⟩;obtain⟨u,O,y⟩:=q4 j x s;exact⟨u,by grind,Wt 4 x u (l.2 j x s) y⟩
 have:=l.1;cases o<;>first|exact key|cases this
 rw[atS e]
 by_cases M:dH (h.ac i)=true
 exact(r.f i).aw le ((r.k i).2 (uY M)) zl rfl λ_ m aD todo T _ B H K=>⟨B,H,K,at2 _,λ_=>⟨id,λ_=>rfl,λ_ _ _ hd=>nS le _ _ hd,by simp⟩⟩;cases U:h.ac i<;>simp_all[dH,kM];rw[a] at hi b
 by_cases f:i=h.a<;>by_cases g:j=h.a
 omega
 grind
 grind
 rw[atS f] at hi;rw[atS g] at b;rw[n i f,n j g] at e;rw[a i,a j,atS f,atS g];exact r.inj i j hi b e;rw[a] at hi
 by_cases e:i=h.a
 grind
 rw[atS e] at hi;rw[n i e];exact r.l i hi
 grind
theorem ad1{c:CO}{f:Fr}{i:Nat}(a:sF c f=some i):(∀h,∃s,aQ c f h=.a s)\/
 ∃off l,∀h,aQ c f h=(match setCells (h.ac i) off l with|some d=>.b undef (h.bj i d)|none=>.a "store"):=by
 cases c<;>simp only[sF,reduceCtorEq] at a
 case st n x v=>
  split at a;rename_i j off b;cases a;simp[aQ,FP,b];cases g:bQ (v.ac f) with
  |none=>grind
  |some l=>
   cases e:Nat.beq (gk l) n with
   |false=>simp_all
   |true=>exact .inr ⟨off,l,λh=>by grind⟩
  grind
theorem Dc(h:Hp)(i j:Nat)(o:AO)[Decidable (j=i)]:(h.bj i o).ac j=if j=i then o else h.ac j:=by grind [Hp.ma]
theorem anf{c1 c2:CO}{f:Fr}{i j:Nat}(t:sF c1 f=some i)(u:sF c2 f=some j)(z:i≠j){h g1 g2:Hp}{o p:AV}(c:aQ c1 f h=.b o g1)(b:aQ c2 f g1=.b p g2):
 o=undef/\p=undef/\∃g,aQ c2 f h=.b undef g/\∃n,aQ c1 f g=.b undef n/\∀k,n.ac k=g2.ac k:=by
 classical
 rcases ad1 t with l|⟨D,B,x⟩;obtain⟨s,w⟩:=l h;grind;rcases ad1 u with l|⟨E,C,y⟩;obtain⟨s,w⟩:=l g1;grind;rw[x] at c;split at c;rename_i a F;injection c with e d;subst d;rw[y] at b;have v:(h.bj i a).ac j=h.ac j:=by simp_all[Dc,Ne.symm]
 rw[v] at b;split at b;rename_i m A;injection b with q r;refine⟨e.symm,q.symm,h.bj j m,by grind,(h.bj j m).bj i a,?_,λk=>?_⟩;simp_all[Dc]
 grind [Dc]
 grind
 grind
theorem ad2(B:List Nat)(i:Nat):∀(l:List Edge)(s:Nat),(l.foldl (λs e=>if Region.binds .any e then s|||(2^e.on|||B.getD e.on 0) else s) s).testBit i=true->
 s.testBit i=true\/∃e∈l,Region.binds .any e=true/\(e.on=i\/pG B i e.on=true)
 |[],s,h=>.inl h
 |e::l,s,h=>by
  simp only[aEd] at h;rcases ad2 B i l _ h with h|⟨b,d,a,c⟩;split at h;rename_i a;simp only[Nat.testBit_or,awq] at h;rcases h with h|h|h
  grind
  grind
  exact .inr ⟨e,by simp,a,.inr h⟩;exact .inl h;exact .inr ⟨b,by simp[d],a,c⟩
theorem WA{B:List Nat}:∀{aF:List Oper}{k:Nat},DD B k aF=true->∀(j:Nat)(o:Oper),aF[j]? =some o->
 (∀e∈o.after,Region.binds .any e=true->e.on<k+j)/\B.getD (k+j) 0=Qh B o.after.toList
 |[],_,_,j,o,a=>by grind
 |x::l,k,h,j,o,a=>by
  simp only[DD,atW] at h;cases j with
  |zero=>
   simp at a;subst a;refine⟨λe c b=>?_,at7 h.1.2⟩;have:=auO.1 h.1.1 e (axn.2 c);rw[b] at this;exact au1 this
  |succ j=>
   have:=WA h.2 j o qaa
   grind
def sy(aF:Array Oper)(listed:Array Bool):Prop:=∀(j:Nat)(a:Oper),aF[j]? =some a->listed.getD j false=true->∀e∈a.after,Region.binds .any e=true->listed.getD e.on false=true
theorem yR{B:List Nat}{aF:Array Oper}(hB:DD B 0 aF.toList=true){listed:Array Bool}(n:sy aF listed):∀(j i:Nat)(a:Oper),aF[j]? =some a->
 (∀e∈a.after,Region.binds .any e=true->listed.getD e.on false=true)->pG B i j=true->listed.getD i false=true:=by
 intro j
 induction j using Nat.strongRecOn with
 |_ j r=>
  intro i a s q b;obtain⟨f,g⟩:=WA hB j a qaa;rw[aue] at f g;unfold pG at b;rw[g] at b;rcases ad2 B i _ _ b with h|⟨e,o,k,c⟩
  grind
  have m:=axn.1 o;have p:=q e m k;rcases c with rfl|c;omega;cases d:aF[e.on]? with
  |none=>
   grind
  |some l=>exact r e.on (f e m k) i l d (n e.on l d p) c
section
variable {o:Oper}
theorem ang{s d e:TypeId}(r:R φ h w)(H:P.underlying s=some .string)(hd:P.underlying d=some (.slice e))(D:P.underlying e=some (.int .u8)){l n:Nat}{st:ByteArray}(i:kR l n st):
 aEE P φ h w (convert s d (.string st)) (BX h e (.A l n)):=by
 refine zH (λM=>?_) λ_=>jY;have G:=h.xf;have E:=au1 M;have p:=run_bytes_of_string (P:=P) w s d e st H hd D;have S:=i.wa;generalize m:Go.bytesRow st (grownCap w st.size 0 e)=A at p;generalize V:grownCap w st.size 0 e=g at p m;have O:st.size<=g:=by grind [grownCap_ge]
 have q:A.size=g:=by rw[<-m];unfold Go.bytesRow;simp_all
 have L:(w.drew.alloc (.cells A e (A.size,A.size+1))).heap[w.heap.size]? =some (.cells A e (A.size,A.size+1)):=avw;obtain⟨J,Z⟩:=Gs (el:=e) (rw:=1) zo zo (Nl (l:=l) (n:=n));have N:qu (φ.kw h.a w.heap.size 0 g) (w.drew.alloc (.cells A e (A.size,A.size+1))) h.a (jJ e 1 l (mg l n)):=by
  refine⟨J,(λh=>by cases h),(λh=>by cases h),A,(A.size,A.size+1),?_,?_,?_,λj x I=>?_,λj v t=>?_,λj k T U=>?_⟩;have B:(φ.kw h.a w.heap.size 0 g).a h.a=w.heap.size:=atV rfl;rw[B];exact L;simp[kf.kw,q];have:(jJ e 1 l (mg l n)).ip=l*1:=rfl
  grind [kf.kw]
  obtain⟨Y,y⟩:=Np (el:=e) (rw:=1) zo zo (Nl (l:=l) (n:=n)) j x I;have u:j<l:=zo;simp[atV u,atU] at y;subst y;obtain⟨b,W,Q⟩:=i.ac u;refine⟨.int .u8 b.toNat,?_,by simp[aj];grind⟩;have h0:(φ.kw h.a w.heap.size 0 g).c h.a=0:=atV rfl;rw[h0,aue,<-m];unfold Go.bytesRow;have:st.data[j]? =some b:=by
   have h5:st[j]? =st.data[j]? :=by rfl
   grind
  grind
  rw[<-m] at t;have F:=Array.mem_of_getElem? t;rcases Array.mem_append.1 F with k|k;obtain⟨b,_,rfl⟩:=Array.mem_map.1 k;rfl;have:=(Array.mem_replicate.1 k).2;subst this;rfl;omega
 obtain⟨K,C⟩:=MT (h':=h.am (jJ e 1 l (mg l n))) (w':=w.drew.alloc (.cells A e (A.size,A.size+1))) (n:=h.a) (o':=jJ e 1 l (mg l n)) (b:=w.heap.size) (s:=0) (z:=g) (qv:=none) (r.my (Ck w)) G rfl zm
  (λj=>by rw[Hp.pi];rfl) (.inl rfl) zm zm (λc X _=>by grind [MapKept.heap_alloc]) (λ_ _=>.inr rfl) N rfl rfl rfl
 refine⟨_,_,_,p,K,(eS.my (Ck w)).ab C,?_⟩;simp_all[JU]
theorem anh{s d e:TypeId}(r:R φ h w)(c:P.underlying s=some .string)(hd:P.underlying d=some (.slice e))(b:P.underlying e=some (.int .u8)){x:AV}{v:Value}(g:aj φ x v):
 aEE P φ h w (convert s d v) (BX h e x):=by
 have key:∀(l n:Nat)(st:ByteArray),kR l n st->aEE P φ h w (convert s d (.string st)) (BX h e (.A l n)):=by grind [ang]
 cases x with
 |A l n=>
  grind [aj]
 |_=>exact jY
def LK{w:World}{b:Nat}{c:Array Value}{e:TypeId}{d:Nat×Nat}(g:w.heap[b]? =some (.cells c e d)):w.shape? b=some (e,c.size):=by simp[World.shape?,g]
def WB{b off:Nat}{c:Array Value}{e:TypeId}{d:Nat×Nat}(g:w.heap[b]? =some (.cells c e d)):(Conv.seenAt ⟨b,off,none⟩).run P w=.ok ⟨b,off,none⟩ w:=by simp[Conv.seenAt,viewAt,LK g]
def ad3{i:Nat}{el:Nat}{l:List AV}(r:R φ h w)(d:h.ac i=.a el l):φ.c i=0/\∃b c,w.heap[φ.a i]? =some (.cells b el c)/\b.size=l.length:=by have ok:=aEP (i:=i) r (by rw[d];rfl);rw[d] at ok;obtain⟨b,c,g,j,_⟩:=ok.b;have e:=ok.f rfl;exact⟨e.1,b,c,g,by rw[j,e.2];rfl⟩
def ani{s d t:TypeId}{n:Nat}(r:R φ h w)(m:P.underlying s=some (.pointer t))(hd:P.underlying d=some .unsafePointer)(p:fI P t=some (n+1)){x:AV}{u:Value}(b:aj φ x u):
 dI P φ w (convert s d u) (Dz h t (n+1) x):=by
 unfold Dz;split;rename_i i off;split;rename_i el l j;cases e:(Nat.beq el t&&Nat.beq off 0&&Nat.beq (gk l) (n+1)) with
 |false=>trivial
 |true=>
  simp[atW,tR] at e;obtain⟨⟨rfl,rfl⟩,k⟩:=e;have q:=b;obtain⟨_,rfl⟩:=b;obtain⟨h0,v,y,c,g⟩:=ad3 r j;refine⟨_,?_,q⟩;rw[h0,aue];simp[convert,bZ m,bZ hd,Conv.unsafePointer,WB c,cellsIn,LK c,aEU p,g,k]
 trivial;simp[aj] at b;exact⟨.pointer none,by simp_all[convert,bZ,Conv.unsafePointer],by rfl⟩;trivial
theorem anj{s d t:TypeId}{n:Nat}(r:R φ h w)(j:P.underlying s=some .unsafePointer)(hd:P.underlying d=some (.pointer t))(k:fI P t=some n)(m:liesAt P P.depth t 1 0 t 1=true){x:AV}{u:Value}(e:aj φ x u):
 dI P φ w (convert s d u) (Dz h t n x):=by
 unfold Dz;split;rename_i i off;split;rename_i el l v;cases g:(Nat.beq el t&&Nat.beq off 0&&Nat.beq (gk l) n) with
 |false=>trivial
 |true=>
  simp[atW,tR] at g;obtain⟨⟨rfl,rfl⟩,y⟩:=g;have A:=e;obtain⟨_,rfl⟩:=e;obtain⟨h0,p,C,b,q⟩:=ad3 r v;refine⟨_,?_,A⟩;rw[h0,aue];have B:P.cellsOf el=n:=by grind [fI,Program.cellsOf]
  by_cases z:n=0
  subst z;simp[convert,bZ j,bZ hd,Conv.unsafePointer,WB b,aEU k,variablesAt,LK b];have c:p.size/P.cellsOf el=1:=by rw[q,y,B];exact Nat.div_self zo
  simp[convert,bZ j,bZ hd,Conv.unsafePointer,WB b,aEU k,variablesAt,LK b,c,m]
 trivial;simp[aj] at e;exact⟨.pointer none,by simp_all[convert,bZ,Conv.unsafePointer],by rfl⟩;trivial
theorem anl{x y:AV}{o:Nat}(h:qk x y=some o){u v:Value}(c:aj φ x u)(d:aj φ y v):
 (∃k m n,u=.int k m/\v=.int k n/\o=uQ m n)\/(∃s t,u=.string s/\v=.string t/\∃l n e n',kR l n s/\kR e n' t/\o=aEV l n e n'):=by
 unfold qk at h;split at h;cases h;simp[aj] at c d;grind;rename_i m n;cases h;refine .inl ⟨_,_,_,c,d,?_⟩
 by_cases p:m=n
 grind [Nat.beq_refl,RY]
 have i:Nat.beq m n=false:=by cases q:Nat.beq m n with|false=>rfl|true=>simp_all
 grind [je,Gx,Gy]
 rename_i k m j n;cases b:qh k j with
 |false=>grind
 |true=>
  rw[b] at h;cases h;obtain rfl:=AZ b;simp[aj] at c d
  grind
 cases h;simp[aj] at c d
 grind
 rename_i m n;cases b:xK n m with
 |false=>grind
 |true=>
  rw[b] at h;cases h;obtain⟨x,rfl,c⟩:=c;have g:n<m:=by simpa[DS] using b
  exact .inl ⟨_,_,_,rfl,d,(Gy zo).symm⟩
 rename_i m n;cases b:xK m n with
 |false=>grind
 |true=>
  rw[b] at h;cases h;obtain⟨x,rfl,c⟩:=c;have g:m<n:=by simpa[DS] using b
  exact .inl ⟨_,_,_,rfl,d,(Gx zo).symm⟩
 grind
theorem anm{le:Bool}{x y:AV}{o:Nat}(h:qk x y=some o){u v:Value}(j:aj φ x u)(p:aj φ y v):
 ((if le then Builtin.min2 u v else Builtin.max2 u v).run P w)=.ok (if(cond le (Nat.ble o 1) (Nat.ble 1 o)) then u else v) w\/
 ((if le then Builtin.min2 u v else Builtin.max2 u v).run P w)=.ok (if(cond le (Nat.ble o 1) (Nat.ble 1 o)) then u else v) w/\True\/
 (u=v/\((if le then Builtin.min2 u v else Builtin.max2 u v).run P w)=.ok u w):=by
 rcases anl h j p with⟨k,m,n,rfl,rfl,rfl⟩|⟨s,t,rfl,rfl,l,n,b,n',d,g,rfl⟩;rcases axI m n with c|c|c;left;rw[Gx c];cases le with
 |true=>simp only[auo,Builtin.min2,Sem.run_pure];rw[atS zo];rfl
 |false=>simp_all[Builtin.max2]
 subst c;right;right;refine⟨rfl,?_⟩;simp_all[Builtin.min2,Builtin.max2];left;rw[Gy c];cases le with
 |true=>simp_all[Builtin.min2]
 |false=>simp only[at3,auM,Builtin.max2,Sem.run_pure];rw[atS zo];rfl
 left;have e:(if(cond le (Nat.ble (aEV l n b n') 1) (Nat.ble 1 (aEV l n b n'))) then Value.string s else Value.string t)=Value.string (if(cond le (Nat.ble (aEV l n b n') 1) (Nat.ble 1 (aEV l n b n'))) then s else t):=by grind
 rw[e];cases le with
 |true=>
  have:=R0 (P:=P) (w:=w) .leq (λo=>Nat.ble o 1) rfl 0 d g;have i:(Op.stringOp .leq s t).run P w=.ok (.bool (Nat.ble (aEV l n b n') 1)) w:=by grind [binOp]
  simp_all[Builtin.min2,asBool]
 |false=>
  have:=R0 (P:=P) (w:=w) .geq (λo=>Nat.ble 1 o) rfl 0 d g;have i:(Op.stringOp .geq s t).run P w=.ok (.bool (Nat.ble 1 (aEV l n b n'))) w:=by grind [binOp]
  simp_all[Builtin.max2,asBool]
theorem WD{le:Bool}:∀(l:List AV)(vs:List Value){x:AV}{u:Value},aj φ x u->aEu φ l vs->dI P φ w (vs.foldlM (if le then Builtin.min2 else Builtin.max2) u) (wq le x l)
 |[],vs,x,u,g,d=>by subst d;exact⟨u,rfl,g⟩
 |y::l,vs,x,u,g,d=>by
  obtain⟨v,r,rfl,n,m⟩:=d;simp[wq];cases k:qk x y with
  |none=>trivial
  |some o=>
   simp only[];have key:∃z,((if le then Builtin.min2 u v else Builtin.max2 u v).run P w)=.ok z w/\aj φ (cond (cond le (Nat.ble o 1) (Nat.ble 1 o)) x y) z:=by
    rcases anm (P:=P) (w:=w) (le:=le) k g n with c|c|⟨h0,c⟩
    grind
    grind
    grind
   obtain⟨z,A,t⟩:=key;have b:=WD (le:=le) l r t m;have e:(if le then Builtin.min2 else Builtin.max2) u v=(if le then Builtin.min2 u v else Builtin.max2 u v):=by grind
   cases i:wq le (cond (cond le (Nat.ble o 1) (Nat.ble 1 o)) x y) l with
   |v q=>
    rw[i] at b;obtain⟨p,c,j⟩:=b;refine⟨p,?_,j⟩;simp_all
   |a s=>trivial
   |_=>rw[i] at b;exact b.elim
theorem R.rE{w':World}{b:Nat}(r:R φ h w)(p:∀i,dH (h.ac i)=true->φ.a i≠b) (j:w'.heap.size=w.heap.size) (q:∀c,c≠b->w'.heap[c]? =w.heap[c]?)
 (y:∀d g,w'.heap[b]? ≠some (.map d g)):R φ h w' where
 k:=r.k
 f:=λi=>by
  by_cases n:dH (h.ac i)=true
  refine(r.f i).aw (.da φ) ((r.k i).2 (uY n)) (avp j.symm) (q _ (p i n)) λt m aD todo s u d g v=>?_
  by_cases e:φ.a m=b
  grind
  exact⟨d,g,by grind,at2 _,λ_=>⟨id,λ_=>rfl,λ_ _ _ h=>h,by simp⟩⟩;cases x:h.ac i<;>simp_all[dH,kM]
 inj:=r.inj
 l:=λi hi=>by rw[j];exact r.l i hi
theorem ad4:∀(l:List Nat)(b off:Nat)(e:ByteArray),(∀j c,l[j]? =some c->w.cell? ⟨b,off+j,none⟩=some (.int .u8 (Int.ofNat c)))->
 (loadBytes ⟨b,off,none⟩ e l.length).run P w=.ok ((l.map Int.ofNat).foldl (λr n=>r.push (UInt8.ofNat n.toNat)) e) w
 |[],_,_,_,_=>rfl
 |c::l,b,off,e,h=>by
  have h0:=h 0 c rfl;simp[atX,loadBytes,Sem.run_bind,run_load,Result.andThen];rw[xV];have i:=ad4 l b (off+1) (e.push (Int.ofNat c).toNat.toUInt8) λj d g=>by
   have:=h (j+1) d qaa
   grind
  grind
theorem ann{b off n:Nat}{d:Array Value}{e:TypeId}{j:Nat×Nat}(k:w.heap[b]? =some (.cells d e j))(l:n≠0):
 (w.freeze ⟨b,off,none⟩ n).heap.size=w.heap.size/\(∀c,c≠b->(w.freeze ⟨b,off,none⟩ n).heap[c]? =w.heap[c]?)/\(∀g i,(w.freeze ⟨b,off,none⟩ n).heap[b]? ≠some (.map g i))/\
  (w.freeze ⟨b,off,none⟩ n).os=w.os/\(w.freeze ⟨b,off,none⟩ n).output=w.output/\(w.freeze ⟨b,off,none⟩ n).tape=w.tape:=by
 unfold World.freeze
 grind
theorem ano{F lt ty u:TypeId}(r:R φ h w)(hp:P.underlying F=some (.pointer u))(hz:fI P u=some 1)(yh:sameLayout P P.depth u u=true){x y:AV}{v z:Value}(q:aj φ x v)(hy:aj φ y z):
 aEE P φ h w (Builtin.unsafeString_ #[F,lt] ty #[v,z]) (AL h u x y):=by
 unfold AL;cases hn:mM y with
 |none=>exact jY
 |some n=>
  obtain⟨k,rfl⟩:=aEY hy hn;cases n with
  |zero=>
   have m:aj φ (.A 0 0) (.string .empty):=by exact⟨_,rfl,by simpa[cO] using MW .empty [] rfl⟩
   simp;split;subst q;exact⟨.string .empty,w,rfl,m,.da w⟩;obtain⟨_,rfl⟩:=q;exact⟨.string .empty,w,rfl,m,.da w⟩;exact jY
  |succ n=>
   simp only[];split;rename_i i off;split;rename_i el nN vh fz t b;refine zH (λK=>?_) λ_=>jY;rw[iH] at K;subst K;split;rename_i rs B;split;rename_i l Z;have rB:n+1<=1152921504606846976:=by
    have G:=(aEP (i:=i) r (by rw[b];rfl)).g;rw[b] at G;have C:=(qt B).1;simp at C;have:=G.2.1
    grind
   rw[<-b] at B;obtain⟨vs,v1,v2,_,v4⟩:=Nk r B;obtain⟨V,e2⟩:=Zm Z;subst V;obtain⟨S,b2⟩:=agB v2 v1;simp only[aj] at q;obtain⟨Q,rfl⟩:=q;have W:(h.ac i).fp=true:=by rw[b];rfl
   have ok:=aEP r W;obtain⟨s,X,q1,q2,q3,q4,q5,q6⟩:=ok.b;rw[b] at q1;change w.heap[φ.a i]? =some (.cells s el X) at q1;have nU:∀j c,l[j]? =some c->w.cell? ⟨φ.a i,φ.c i+off+j,none⟩=some (.int .u8 (Int.ofNat c)):=λj c d=>by grind
   have p:φ.c i+off+(n+1)<=s.size:=by omega
   have J:P.cellsOf el=1:=by grind [fI,Program.cellsOf]
   have O:liesAt P P.depth el s.size (φ.c i+off) el (n+1)=true:=by
    unfold Program.depth at yh⊢;simp[liesAt,awq];left;unfold Program.depth;simp[rowAt,J,axW,axV,av8]
    grind
   have L:=ad4 (P:=P) (w:=w) l (φ.a i) (φ.c i+off) .empty nU;rw[S] at L;obtain⟨H,I,f3,f4,f5,f6⟩:=ann (off:=φ.c i+off) (n:=n+1) q1 zo;have U:(Builtin.unsafeString_ #[F,lt] ty #[.pointer (some ⟨φ.a i,φ.c i+off,none⟩),.int k (Int.ofNat (n+1))]).run P w=
    .ok (.string ((l.map Int.ofNat).foldl (λr n=>r.push (UInt8.ofNat n.toNat)) .empty)) (w.freeze ⟨φ.a i,φ.c i+off,none⟩ (n+1)):=by
    have N:¬(Int.ofNat (n+1)>IntKind.i64.max):=by
     have:IntKind.i64.max=9223372036854775807:=by rfl
     grind
    have A:¬(Int.ofNat (n+1)<0):=by grind
    have E:¬(Int.ofNat (n+1)=0):=by grind
    have D:(Int.ofNat (n+1)).toNat=n+1:=rfl;change Sem.run P (Bind.bind (asInt (Value.int k (Int.ofNat (n+1)))) _) w=_;rw[Sem.run_bind,show(asInt (Value.int k (Int.ofNat (n+1)))).run P w=.ok (Int.ofNat (n+1)) w from rfl];simp only[Result.andThen];simp only[awy,avk];rw[atS A,atS N,atS E];simp only[Sem.run_bind,Sem.run_pure,Result.andThen,elemOf,bZ hp,variablesAt,run_program,run_shape,LK q1,J,axW,D,O,auo,L,run_freeze,Sem.run_bind,Sem.run_pure,Result.andThen]
   obtain⟨ψ,le,r1,M⟩:=r.Yf (g:=h.bj i .f) λj=>by grind [Dc]
   have jK:∀j,dH ((h.bj i .f).ac j)=true->ψ.a j≠φ.a i:=λj d e=>by
    classical
    obtain⟨C,Y⟩:=M j d;rw[Y] at e;have:=r.IR C (by rw[b];rfl) e;subst this;rw[Dc,atV rfl] at d;cases d
   refine⟨_,_,ψ,U,r1.rE jK H I f3,?_,?_⟩;refine⟨le,avp H.symm,λc hc T=>I c (Ne.symm (T i (by rw[b];rfl))),λj d=>?_,f4,f5,f6⟩
   grind
   exact⟨_,rfl,by grind [agC]⟩;exact jY;exact jY;exact jY;exact jY
def ad5(n c:Nat):∀(k j:Nat),DC n c k j=match(List.range' j k).find? (λi=>Nat.beq (lF n i) c) with|some i=>Int.ofNat i|none=>-1
 |0,_=>rfl
 |k+1,j=>by
  simp[DC,awD,awM];cases b:Nat.beq (lF n j) c with
  |true=>rfl
  |false=>exact ad5 n c k (j+1)
def ad6{p q:Nat->Bool}:∀{l:List Nat},(∀x∈l,p x=q x)->l.find? p=l.find? q
 |[],_=>rfl
 |x::l,h=>by simp only[awM,h x au0,ad6 λy b=>h y (aug _ b)]
theorem anq{l n c:Nat}{s:ByteArray}(d:kR l n s)(m:c<=255):firstIdx s (Int.ofNat c).toNat.toUInt8=DC n c l 0:=by
 rw[ad5];unfold firstIdx;rw[d.wa,avQ];rw[ad6 (q:=λi=>Nat.beq (lF n i) c) λi hi=>?_];rfl;have j:i<l:=by grind
 obtain⟨b,k,g⟩:=d.ac j;have e:s[i]! =b:=by grind
 rw[e,avA,av9,iH,<-g,<-avi]
 grind [UInt8.toNat_ofNat']
theorem ad7:∀(x y:List UInt8),Lib.compareBytes x y=if Op.bytesLess x y then-1 else if x=y then 0 else 1
 |[],[]=>rfl
 |[],b::y=>by rfl
 |a::x,[]=>by rfl
 |a::x,b::y=>by
  unfold Lib.compareBytes;simp[Op.bytesLess];rw[ad7 x y]
  grind
theorem Ft{fn:Func}{N:String}{e:Array Value->Sem Value}(m:fn.name=N)(n:fn.origin= "")(b:(Extern.allGenericRows.lookup N).isNone=true)(c:(Extern.allTypedRows.lookup N).isNone=true)(l:Extern.allRows.lookup N=some e)
 (d:(Extern.allNextRows.lookup N).isNone=true):Extern.find fn=some e/\Extern.findNext fn=none:=by
 have g:=awe.1 b;have i:=awe.1 c;have j:=awe.1 d;have k:Extern.allNextRows.lookup ""=none:=by rfl
 grind [Extern.find,Extern.findNext]
def Fu{g:Nat}{fn:Func}{vs:Array Value}{e:Array Value->Sem Value}(j:P.funcs[g]? =some fn)(k:(fn.name== "runtime.NumGoroutine")=false)(i:fn.body.isNone=true)(b:Extern.find fn=some e/\Extern.findNext fn=none)
 {x:OR} (c:dI P φ w (e vs) x):Gw P φ h w ((callFunc g vs).run P w) x:=by
 rw[run_callFunc_extern j k i b.2 b.1];cases x with
 |v y=>
  obtain⟨v,l,d⟩:=c;exact⟨.value v,v,w,by simp_all,.inl rfl,d,.da w⟩
 |a s=>trivial
 |_=>exact c.elim
theorem anr{g:Nat}{fn:Func}{l:List AV}{vs:List Value}(p:P.funcs[g]? =some fn)(r:(fn.name== "runtime.NumGoroutine")=false)(m:fn.body.isNone=true)(q:fn.origin= "")(j:aEu φ l vs):
 Gw P φ h w ((callFunc g vs.toArray).run P w) (qo (Mx fn.name) l):=by
 unfold Mx;split
 ·rename_i k;have d:fn.name= "internal/bytealg.IndexByteString":=by grind
  have i:=Ft d q qac qac (e:=Extern.BytealgIndexByte.indexByte) qac qac;unfold qo;split
  case h_1=>
   rename_i st n c _;obtain⟨_,_,rfl,⟨s,rfl,u⟩,_,_,rfl,rfl,rfl⟩:=j;refine Fu p r m i ?_;cases A:Nat.ble c 255 with
   |false=>trivial
   |true=>
    exact⟨_,run_indexByte_string s (Int.ofNat c) w,by grind [aj,anq,Nat.le_of_ble_eq_true]⟩
  all_goals first|trivial|(rename_i b;cases b)
 ·split
  ·rename_i k;have d:fn.name= "internal/bytealg.abigen_runtime_cmpstring":=by grind
   have i:=Ft d q qac qac (e:=Extern.BytealgCompare.compare) qac qac;unfold qo;split
   case h_2=>
    rename_i B D C E _;obtain⟨_,_,rfl,⟨s,rfl,u⟩,_,_,rfl,⟨t,rfl,y⟩,rfl⟩:=j;refine Fu p r m i ?_;refine⟨_,Lib.run_compareString s t w,?_⟩;simp[aj];rw[ad7,Yo u y,Go.ByteArray.toList_eq,Go.ByteArray.toList_eq]
    grind
   all_goals first|trivial|(rename_i b;cases b)
  ·split
   ·rename_i k;have d:fn.name= "internal/abi.NoEscape":=by simpa using k
    have i:=Ft d q qae qae (e:=Extern.AbiNoEscape.same) qae qae;unfold qo;split
    case h_3=>
     rename_i x _;simp only[aEu] at j;obtain⟨v,_,rfl,z,rfl⟩:=j;exact Fu p r m i ⟨v,rfl,z⟩
    all_goals first|trivial|(rename_i b;cases b)
   ·split
    ·rename_i k;have d:fn.name= "internal/strconv.float64frombits":=by simpa using k
     have i:=Ft d q qae qae (e:=Extern.MathFloatBits.float64frombits) qae qae;unfold qo;split
     case h_4=>
      rename_i n _;simp only[aEu,aj] at j;obtain⟨_,_,rfl,rfl,rfl⟩:=j;exact Fu p r m i ⟨.float .f64 n.toNat,rfl,by simp only[aj]⟩
     all_goals first|trivial|(rename_i b;cases b)
    ·split
     ·rename_i k;have d:fn.name= "internal/strconv.float32frombits":=by simpa using k
      have i:=Ft d q qae qae (e:=Extern.MathFloatBits.float32frombits) qae qae;unfold qo;split
      case h_5=>
       rename_i n _;simp only[aEu,aj] at j;obtain⟨_,_,rfl,rfl,rfl⟩:=j;exact Fu p r m i ⟨.float .f32 n.toNat,rfl,by simp only[aj]⟩
      all_goals first|trivial|(rename_i b;cases b)
     ·split
      ·rename_i k;have d:fn.name= "math.Float64frombits":=by simpa using k
       have i:=Ft d q qae qae (e:=Extern.MathFloatBits.float64frombits) qae qae;unfold qo;split
       case h_4=>
        rename_i n _;simp only[aEu,aj] at j;obtain⟨_,_,rfl,rfl,rfl⟩:=j;exact Fu p r m i ⟨.float .f64 n.toNat,rfl,by simp only[aj]⟩
       all_goals first|trivial|(rename_i b;cases b)
      ·split
       ·rename_i k;have d:fn.name= "math.Float64bits":=by simpa using k
        have i:=Ft d q qae qae (e:=Extern.MathFloatBits.float64bits) qae qae;unfold qo;split
        case h_6=>
         rename_i n _;simp only[aEu,aj] at j;obtain⟨_,_,rfl,rfl,rfl⟩:=j;exact Fu p r m i ⟨.int .u64 n,rfl,by simp only[aj];rfl⟩
        all_goals first|trivial|(rename_i b;cases b)
       ·unfold qo;split
        all_goals first|trivial|(rename_i b;cases b)
def PM{c:Option CX}{x:Option Operand}(h:Yj φ f a.eval c x):Cf φ (uS (λx=>x.ac f) c) (x.map a.eval):=by cases c<;>cases x<;>first|exact h|trivial
theorem ans{b:BinOp}(c:b≠.eql/\b≠.neq)(t:TypeId)(x y:Operand)(u v:Value):(do eqGuard b t x y u v;binOp b t u v:Sem Value).run P w=(binOp b t u v).run P w:=by cases b<;>first|rfl|grind|grind
def dI.congr{s b:Sem Value}{x:OR}(h:dI P φ w s x)(e:b.run P w=s.run P w):dI P φ w b x:=by cases x<;>first|(obtain⟨v,c,d⟩:=h;exact⟨v,e.trans c,d⟩)|exact h
def tI{b:BinOp}{t ty:TypeId}{x y:Operand}{co:CO}(d:o.op=.binOp b t x y ty)(c:b≠.eql/\b≠.neq)(e:dI P φ w (binOp b t (a.eval x) (a.eval y)) (aQ co f h)):Good P φ h w f a o co:=
 iO (s:=do eqGuard b t x y (a.eval x) (a.eval y);binOp b t (a.eval x) (a.eval y)) (by simp[execOp,d]) (e.congr (ans c t x y _ _))
theorem ant(G:jq φ P)(g:iq φ f a.tmps){b:BinOp}{t ty:TypeId}{x y:Operand}(i:o.op=.binOp b t x y ty):Good P φ h w f a o (F8 P b t x y):=by
 unfold F8;cases b<;>simp only[]
 case add=>exact kA G g λc d e hd=>tI i ⟨by simp,by simp⟩ (afo t e hd)
 case sub=>exact kA G g λc d e hd=>tI i ⟨by simp,by simp⟩ (afp t e hd)
 case mul=>exact kA G g λc d e hd=>tI i ⟨by simp,by simp⟩ (afq t e hd)
 case quo=>exact kA G g λc d e hd=>tI i ⟨by simp,by simp⟩ (afs t e hd)
 case rem=>exact kA G g λc d e hd=>tI i ⟨by simp,by simp⟩ (afu t e hd)
 case and=>exact kA G g λc d e hd=>tI i ⟨by simp,by simp⟩ (M6 (.inl ⟨rfl,rfl⟩) t e hd)
 case or=>exact kA G g λc d e hd=>tI i ⟨by simp,by simp⟩ (M6 (.inr (.inl ⟨rfl,rfl⟩)) t e hd)
 case xor=>exact kA G g λc d e hd=>tI i ⟨by simp,by simp⟩ (M6 (.inr (.inr (.inl ⟨rfl,rfl⟩))) t e hd)
 case andNot=>exact kA G g λc d e hd=>tI i ⟨by simp,by simp⟩ (M6 (.inr (.inr (.inr ⟨rfl,rfl⟩))) t e hd)
 case shl=>exact kA G g λc d e hd=>tI i ⟨by simp,by simp⟩ (afv t e hd)
 case shr=>exact kA G g λc d e hd=>tI i ⟨by simp,by simp⟩ (afw t e hd)
 case lss=>exact kA G g λc d e hd=>tI i ⟨by simp,by simp⟩ (M7 .lss _ rfl t e hd)
 case leq=>exact kA G g λc d e hd=>tI i ⟨by simp,by simp⟩ (M7 .leq _ rfl t e hd)
 case gtr=>exact kA G g λc d e hd=>tI i ⟨by simp,by simp⟩ (M7 .gtr _ rfl t e hd)
 case geq=>exact kA G g λc d e hd=>tI i ⟨by simp,by simp⟩ (M7 .geq _ rfl t e hd)
 case eql=>
  cases l:eqK P t x y with
  |none=>exact cy
  |some k=>
   refine kA G g λc d e hd=>iO (s:=do eqGuard .eql t x y (a.eval x) (a.eval y);binOp .eql t (a.eval x) (a.eval y)) (by simp[execOp,i]) ?_;simp[aQ,Dv];cases j:cJ k (c.ac f) (d.ac f) with
   |none=>trivial
   |some r=>exact⟨_,Yx (.inl ⟨rfl,rfl⟩) l j e hd,by rfl⟩
 case neq=>
  cases l:eqK P t x y with
  |none=>exact cy
  |some k=>
   refine kA G g λc d e hd=>iO (s:=do eqGuard .neq t x y (a.eval x) (a.eval y);binOp .neq t (a.eval x) (a.eval y)) (by simp[execOp,i]) ?_;simp[aQ,Mo];cases j:cJ k (c.ac f) (d.ac f) with
   |none=>trivial
   |some r=>exact⟨_,Yx (.inr ⟨rfl,rfl⟩) l j e hd,by rfl⟩
theorem anu(G:jq φ P)(m:iq φ f a.tmps)(r:R φ h w){s d:TypeId}{x:Operand}(v:o.op=.convert s d x):Good P φ h w f a o (F9 P s d x):=by
 have l:execOp a.eval o=(do pure (.value (<-convert s d (a.eval x)))):=by simp[execOp,v]
 unfold F9;split;rename_i i k b g;exact aEz G m λc j=>iO l (afF b g j);rename_i i k b g;exact aEz G m λc j=>iO l (afG b g j);rename_i i k b g;exact aEz G m λc j=>iO l (afH b g j);rename_i e b g;split;rename_i p q;exact aEz G m λc j=>vf l (anh r b g p j);exact cy;rename_i t b g;split;rename_i n p;exact aEz G m λc j=>iO l (ani r b g p j);exact cy;rename_i u b g;split;rename_i n p;split;rename_i q;exact aEz G m λc j=>iO l (anj r b g p q j);exact cy;exact cy;exact cy
theorem ad8{b:EK}{i m:Nat}{aD:Nat}{todo:List AV}{c:Nat}{x:AV}(j:todo[c]? =some x):∀(n c0:Nat),c0<=c->c<c0+n->IS b h i m aD (todo.eraseIdx c) x∈AK b h i m aD todo n c0
 |0,c0,d,g=>zo
 |n+1,c0,d,g=>by
  simp[AK]
  by_cases e:c0=c
  simp_all[Y2];have k:IS b h i m aD (todo.eraseIdx c) x∈AK b h i m aD todo n (Nat.succ c0):=ad8 j n (Nat.succ c0) zo zo
  grind
theorem anv{x:AV}{u:Value}{ty:TypeId}(r:R φ h w)(y:aj φ x u):aEE P φ h w (Instr.next u false ty) (BV h x false):=by
 unfold BV;split;rename_i i off;refine zH (λp=>?_) λ_=>jY;rw[iH] at p;subst p;obtain⟨hd,rfl⟩:=y;split;rename_i q m aD todo C s;simp;split;rename_i D B t;refine zH (λl=>?_) λ_=>jY;rw[iH] at l;subst l;have j:=agi (P:=P) (ty:=ty) r s t;have n:∀v z,aj φ wm (.tuple #[.bool true,v,z]):=λv z=>by refine⟨_,rfl,qS.2 ⟨by rfl,qS.2 ⟨by simp only[aj],qS.2 ⟨by simp only[aj],sJ⟩⟩⟩⟩
 split;rcases j with⟨_,b⟩|⟨c,x,v,z,w',k,_⟩;exact⟨_,w,b,by exact⟨_,rfl,qS.2 ⟨by rfl,sJ⟩⟩,.da w⟩
 grind
 rename_i e;rcases j with⟨h0,_⟩|⟨c,x,v,z,w',k,g,b,d⟩
 grind
 have A:c=0:=by grind
 subst A;simp at g;subst g;exact⟨_,w',φ,b,d.1,d.2,n v z⟩;rcases j with⟨h0,_⟩|⟨c,x,v,z,w',k,g,b,d⟩
 grind
 exact⟨_,w',φ,IS q h i m aD (todo.eraseIdx c) x,ad8 g _ 0 (auz _) (by rw[tR];omega),b,d.1,d.2,n v z⟩;exact jY;exact jY;exact jY
def anw{s:Sem Value}{x:AV}:aEE P φ h w s (BV h x true):=by unfold BV;split;refine zH (λ_=>?_) λ_=>jY;split<;>exact jY;exact jY
def anx(G:jq φ P)(e:iq φ f a.tmps)(r:R φ h w){x:Operand}{s:Bool}(g:o.op=.next x s):Good P φ h w f a o (ap P (λx=>.IF x s) x):=by
 have d:execOp a.eval o=(do pure (.value (<-Instr.next (a.eval x) s o.type))):=by simp[execOp,g]
 refine aEz G e λc b=>vf d ?_;cases s with
 |true=>exact anw
 |false=>exact anv r b
theorem anz(G:jq φ P)(m:iq φ f a.tmps)(r:R φ h w){t u e:TypeId}{b:TypeDesc}{i:TypeInfo}{z:List AV}{s:Nat}{x y:Operand}(A:P.underlying t=some (.slice e))(B:P.underlying u=some b)(E:DJ b=true)
 (hi:P.info? e=some i) (v:i.size=s+1) (D:rO P e=some z) (n:gk z=s+1) (l:execOp a.eval o=(do pure (.value (<-Builtin.append_ #[t,u] o.type #[a.eval x,a.eval y])))):Good P φ h w f a o (jm P (.r e (s+1) i.bytes) x y):=by
 have j:(∃k,b=.slice k)\/b=.string:=by cases b<;>first|exact .inl ⟨_,rfl⟩|exact .inr rfl|grind [DJ]
 have g:z.length=i.size:=by grind [tR]
 refine kA G m λc d p hd=>vf l ?_;simp[aQ];cases C:c.ac f with
 |o=>
  grind [aj,agt]
 |c q off nN len cap ex=>grind [agy]
 |_=>
  grind [kJ,jY]
theorem PN{l m:List AV}{us vs:List Value}(b:aEu φ l us)(c:aEu φ m vs):aEu φ (fF l m) (us++vs):=by grind [XW,XV]
theorem anA{b:Builtin}{c:Go.Call}(e:o.op=.call c)(d:c.callee=.builtin b):
 ∃cs,execOp a.eval o=builtin b c.argTypes o.type cs (c.args.map a.eval):=by
 refine⟨c.args.map fun|.const _=>true|_=>false,?_⟩
 grind [execOp,resolve,invoke]
theorem toList_map(l:Array Operand):(l.map a.eval)=(l.toList.map a.eval).toArray:=by grind
theorem anB(G:jq φ P)(v:iq φ f a.tmps)(r:R φ h w){b:Builtin}{c:Go.Call}(J:o.op=.call c)(K:c.callee=.builtin b):Good P φ h w f a o (DL P b c.argTypes.toList c.args.toList):=by
 obtain⟨cs,m⟩:=anA (a:=a) J K;rw[toList_map] at m;have C:c.argTypes=c.argTypes.toList.toArray:=by simp
 rw[C] at m;generalize c.argTypes.toList=at_ at m⊢;generalize c.args.toList=args at m⊢;unfold DL;split;rename_i x y t u;split;rename_i e L j p;split;rename_i B;split;rename_i i F;split;rename_i s z h5 H;split;rename_i I;exact anz G v r j p B F h5 H I m;exact cy;exact cy;exact cy;exact cy;exact cy;rename_i x t;have g:=m;split;rename_i j;exact aEz G v λc k=>iO g (Ss r j (.inl ⟨rfl,rfl⟩) k);rename_i e j;exact aEz G v λc k=>iO g (Ss r j (.inr (.inl ⟨rfl,e,rfl⟩)) k);rename_i q e j;exact aEz G v λc k=>iO g (Ss r j (.inr (.inr ⟨rfl,q,e,rfl⟩)) k);rename_i n e j;exact iO g ⟨.int .i64 n,by simp[Builtin.len_,bZ j,goInt],by rfl⟩;exact cy;rename_i x y t u;have g:=m;split;rename_i e j;split;rename_i s p;exact kA G v λc d k hd=>vf g (agA r j p (Nat.succ_pos s) k hd);exact cy;exact cy;have g:=m;refine Cc G v λcs A=>iO g ?_;simp[aQ];cases D:jc (λx=>x.ac f) cs with
 |nil=>trivial
 |cons q l=>
  rw[D] at A;obtain⟨u,vs,E,j,p⟩:=A;have:=WD (P:=P) (w:=w) (le:=true) l vs j p;rw[E];exact this
 have g:=m;refine Cc G v λcs A=>iO g ?_;simp[aQ];cases D:jc (λx=>x.ac f) cs with
 |nil=>trivial
 |cons q l=>
  rw[D] at A;obtain⟨u,vs,E,j,p⟩:=A;have:=WD (P:=P) (w:=w) (le:=false) l vs j p;rw[E];exact this
 rename_i x;have g:=m;exact aEz G v λc k=>iO g (af' k);rename_i x n t lt;have g:=m;split;rename_i u j;split;rename_i p;split;rename_i B;simp at B;exact kA G v λc d k hd=>vf g (ano r j p B.2 k hd);exact cy;exact cy;exact cy;trivial;exact cy
theorem aea{b:Operand}{c:Go.Call}(e:o.op=.call c)(d:c.callee=.value b){g:Nat}{fs cs:Array Value}(i:a.eval b=.func (.func g) fs cs):
 execOp a.eval o=callFunc g ((fs++c.args.map a.eval)++cs):=by
 grind [execOp,resolve,Deferred.ofValue,invoke]
theorem anD(G:jq φ P)(b:iq φ f a.tmps)(r:R φ h w){c:Go.Call}(k:o.op=.call c):Good P φ h w f a o (AQ P c):=by
 unfold AQ;split;rename_i g j;have i:=aea (a:=a) k j (g:=g) (fs:=#[]) (cs:=#[]) rfl;have m:(#[]++c.args.map a.eval++#[]:Array Value)=(c.args.toList.map a.eval).toArray:=by grind
 rw[m] at i;split;rename_i fn v;split;exact cy;rename_i A;have e:(fn.name== "runtime.NumGoroutine")=false:=by grind
 split;rename_i p;split;rename_i s;refine Cc G b λcs d=>?_;unfold Good;rw[i];exact anr v e p qaa d;exact cy;refine Cc G b λcs d=>?_;unfold Good;rw[i];exact⟨_,w,rfl,.da w,d⟩;exact cy;rename_i z _ j;refine aEz G b λn l=>Cc G b λcs d=>?_;unfold Good;simp[aQ,Ms];cases u:n.ac f with
 |q g first cap=>
  rw[u] at l;obtain⟨fs,B,t,x,y⟩:=l;rw[aea (a:=a) k j t];refine⟨_,w,rfl,.da w,?_⟩;simp_all[PN]
 |_=>trivial
 grind [cy]
 grind [anB]
end
structure Rc where
 d:DI
 f:Fr
 x:AV
def eI(c:CI)(p:Nat):Bool:=match c.b with|some q=>Qe q p|none=>false
theorem xE{c:CI}{p:Nat}:eI c p=true <-> c.b=some p:=by grind [eI,Wp]
def aeb{c:CI}{d:Option Nat}(h:c.b=d.map gz){p:Nat}:eI c p=true <-> ∃t,d=some t/\gz t=p:=by simp_all[xE]
def val:List Rc->Fr->Nat->AV
 |[],f0,p=>cg p f0
 |r::T,f0,p=>cond (eI r.d.c p) r.x (val T f0 p)
def mF(listed:Array Bool):List Rc->Fr->Nat->AV
 |[],f0,p=>cg p f0
 |r::T,f0,p=>cond (eI r.d.c p&&listed.getD r.d.i false) r.x (mF listed T f0 p)
def PO(f0:Fr):List Rc->Prop
 |[]=>True
 |r::T=>(∀p,cg p r.f=val T f0 p)/\PO f0 T
theorem PS(d:Option Nat)(x:AV)(f:Fr)(c:CI)(g:c.b=d)(p:Nat):cg p (put d x f)=cond (eI c p) x (cg p f):=by
 classical
 subst g;cases hd:c.b with
 |none=>
  have:eI c p=false:=by unfold eI;grind
  rw[this];rfl
 |some q=>
  simp[put,tS]
  by_cases e:p=q
  subst e;rw[atV rfl,xE.2 hd];rfl
  grind [xE]
structure uK(B:List Nat)(q r:DI):Prop where
 h:pG B r.i q.i=false
 d:pG B q.i r.i=true\/F5 q.c r.c=true
 a:q.i≠r.i
 f:aEN q.k=true->kK r.k=false->(aE2 q.k&&tM r.k&&Nat.beq q.a r.a)=false->pG B q.i r.i=true
 b:DE q.k=true->aEN r.k=true->(r.a=q.a\/aE2 r.k=true\/tM r.k=true)->pG B q.i r.i=true
 g:kK q.k=true->kK r.k=true->F5 q.c r.c=true
theorem anF{B:List Nat}{q r:DI}(h:Qi B q r=true):uK B q r:=by
 simp only[Qi,atW,avT,awq] at h;obtain⟨⟨⟨⟨⟨i,j⟩,k⟩,l⟩,h5⟩,m⟩:=h;refine⟨i,j,λe=>?_,λc d g=>?_,λc d g=>?_,λc d=>by grind⟩;simp_all
 grind
 rcases h5 with h5|h5;simp_all;omega
def aec{B:List Nat}:∀{l:List DI},Mv B l=true->l.Pairwise (uK B)
 |[],_=>.nil
 |q::l,h=>by simp only[Mv,atW] at h;exact .cons (λr c=>anF (auO.1 h.1 r c)) (aec h.2)
theorem WE{d:Option Nat}{l:List Nat}(h:I3 d l=true):∀p,d=some p->p∉l:=by
 rintro p rfl c
 grind [I3,am8]
theorem BK{x y:CI}(h:F5 x y=true){p:Nat}:(eI x p=true->p∉xN y)/\(eI y p=true->p∉xN x)/\¬(eI x p=true/\eI y p=true):=by
 simp[F5,atW] at h;refine⟨λe=>WE h.1.1 p (xE.1 e),λe=>WE h.1.2 p (xE.1 e),λ⟨c,d⟩=>?_⟩;have:=WE h.2 p (xE.1 c)
 grind [xE]
theorem WH{n:Nat}{p:Pd}:∀{l:List Pd},p∈l->n<=p.a->p∈aEJ n l
 |[],h,_=>by grind
 |q::l,h,c=>by
  simp[aEJ];rcases atZ.1 h with rfl|h
  grind [Nat.ble_eq_true_of_le]
  have:=WH h c
  grind
theorem Iq{h:Hp}{p:Pd}:∀{l:List Pd},AS h l=true->p∈l->aQ p.c.c p.f h=.v p.x
 |[],_,c=>by grind
 |q::l,d,c=>by
  simp[AS,atW] at d;rcases atZ.1 c with rfl|c
  grind [Gf,RL]
  exact Iq d.2 c
theorem LO{K:List Pd}{n:Nat}{h:Hp}{k:List Pd->Prop}{oo:aK}(hd:Dn (qR K n h k) oo):AS h (aEJ n K)=true/\Dn (k (aEJ n K)) oo:=by
 unfold qR at hd;cases c:AS h (aEJ n K) with
 |false=>rw[c] at hd;exact hd.lL.elim
 |true=>grind
theorem Dd:∀{l:List DI}{n:Nat},qp n l=true->∀d∈l,aEN d.k=true->n<=d.a
 |[],_,_,_,c,_=>by grind
 |q::l,n,h,d,c,e=>by simp[qp] at h;rcases atZ.1 c with rfl|c;cases g:d.k<;>rw[g] at h e<;>simp only[aEN,at3] at e<;>simp only[atW] at h;simp_all;simp_all;simp_all;simp_all;cases g:q.k<;>rw[g] at h<;>simp only[atW] at h;exact Dd h d c e;exact Dd h.2 d c e;exact aw0 (Dd h.2 d c e);exact aw0 (Dd h.2 d c e);exact Dd h.2 d c e;exact aw0 (Dd h.2 d c e)
structure Stat(P:Program)(nt:Nat)(aF:Array Oper)(B:List Nat)(E:List DI):Prop where
 b:DD B 0 aF.toList=true
 g:E.Pairwise (uK B)
 f:∀d∈E,I5 d=true
 h:∀i,i<aF.size->∃d∈E,d.i=i
 a:∀d∈E,∃o,aF[d.i]? =some o/\aEB P nt aF o=some d.c
structure Pre(P:Program)(b:kB)(nt:Nat)(B:List Nat)(E:List DI)(f0:Fr)(ds:List Df)(listed:Array Bool)(n:Nat)(rest:List DI)(rv:List Rc)(K:List Pd)(f:Fr)(h z:Hp)(L:Bool)(M:Nat->Nat)
 (φ:kf) (a:Act) (w:World):Prop where
 j:E=(rv.reverse.map (·.d))++rest
 s:PO f0 rv
 q:∀p,cg p f=val rv f0 p
 m:∀p,(∀d∈rest,kK d.k=true->listed.getD d.i false=true->eI d.c p=false)->aj φ (mF listed rv f0 p) (a.tmps.getD p Go.undef)
 J:∀r∈rv,aEN r.d.k=true->listed.getD r.d.i false=true
 H:∀r∈rv,listed.getD r.d.i false=false->(jO r.d.c.a r.f=some false/\r.x=undef)\/
  (jO r.d.c.a r.f=some true/\aQ r.d.c.c r.f z=.v r.x/\(AN r.d.c.c=true\/(DE r.d.k=true/\(⟨r.d.c,r.f,r.x,r.d.a⟩:Pd)∈K/\n<=r.d.a)))
 D:∀d∈rest,listed.getD d.i false=true->kK d.k=true\/(tM d.k=true/\L=true)
 y:∀d∈rest,kK d.k=true->listed.getD d.i false=true->∃o k v,F3 d.c.c=some (o,k)/\Fs φ z w b.w.heap.size (M d.i) o k v/\∀p,d.c.b=some p->a.tmps.getD p Go.undef=v
 G:∀d∈rest,∀e∈rest,kK d.k=true->kK e.k=true->listed.getD d.i false=true->listed.getD e.i false=true->d.i≠e.i->M d.i≠M e.i
 u:(L=false/\z=h)\/(L=true/\∃d e r' h1 h2 mZ,rest=d::e::r'/\aE2 d.k=true/\tM e.k=true/\listed.getD e.i false=true/\listed.getD d.i false=false/\
  aQ d.c.c f h=.b undef h1/\aQ e.c.c f h1=.b undef h2/\aQ d.c.c f z=.b undef mZ/\∀k,mZ.ac k=h2.ac k)
 C:qp n rest=true
 r:R φ z w
 F:eS b.φ b.h b.w φ w z
 I:Cm φ ds a.defers
 A:nt<=a.tmps.size
 g:jq φ P
section
variable {b:kB}{aF:Array Oper}{rv:List Rc}{K:List Pd}{z:Hp}{L:Bool}{M:Nat->Nat}
theorem aed{N T:List Rc}{p:Nat}(d:∀r∈N,eI r.d.c p=true->listed.getD r.d.i false=false) (e:∀r∈T,eI r.d.c p=true->listed.getD r.d.i false=true):mF listed (N++T) f0 p=val T f0 p:=by
 induction N with
 |nil=>
  induction T with
  |nil=>rfl
  |cons r T c=>
   grind [mF,val]
 |cons r N c=>
  grind [mF]
theorem LQ{xI:Array Bool}{p:Nat}:∀{rv:List Rc},(∀r∈rv,eI r.d.c p=true->xI.getD r.d.i false=listed.getD r.d.i false)->mF xI rv f0 p=mF listed rv f0 p
 |[],_=>rfl
 |r::T,h=>by
  simp only[mF];rw[LQ λs c=>h s (aug _ c)]
  grind
theorem aee(S:Stat P nt aF B E)(j:sy aF listed)(pre:Pre P b nt B E f0 ds listed n rest rv K f h z L M φ a w){q:DI}{l:Oper}(F:aF[q.i]? =some l)(Q:listed.getD q.i false=false)
 (y:∀e∈l.after,Region.binds .any e=true->listed.getD e.on false=true) {N T:List Rc} (H:rv=N++T) (C:∀t∈T,uK B t.d q) (A:∀t∈N,t.d=q\/uK B q t.d)
 (k:∀d∈rest,kK d.k=true->listed.getD d.i false=true->uK B q d) {s:Fr} (R:∀p,cg p s=val T f0 p):xC φ s a.tmps q.c:=by
 intro p U;have I:∀i,pG B i q.i=true->listed.getD i false=true:=λi c=>yR S.b j q.i i l F y c;have x:∀d:DI,d∈E->listed.getD d.i false=true->pG B q.i d.i=true->False:=λd hd k c=>by
  obtain⟨o,u,_⟩:=S.a d hd;have:=yR S.b j d.i q.i o u (j d.i o u k) c
  grind
 have J:∀t∈rv,t.d∈E:=λt g=>by
  rw[pre.j]
  grind
 have G:=pre.m p λd hd D r=>by
  cases hi:eI d.c p with
  |false=>rfl
  |true=>
   exfalso;rcases(k d hd D r).d with c|v;exact x d (by rw[pre.j];grind) r c
   grind [BK]
 rw[H,aed] at G
 grind
 intro t g hi;cases O:listed.getD t.d.i false with
 |false=>rfl
 |true=>
  rcases A t g with e|m
  grind
  rcases m.d with c|v
  grind
  grind [BK]
 intro t g hi;rcases(C t g).d with c|v
 grind
 grind [BK]
end
theorem jw{listed:Array Bool}{i j:Nat}(hi:i<listed.size):(listed.setIfInBounds i true).getD j false=if j=i then true else listed.getD j false:=by
 by_cases e:j=i
 simp_all;simp_all[Ne.symm]
theorem Fx{a:Act}{nt:Nat}{c:CI}{d:Option Nat}(j:nt<=a.tmps.size)(hd:∀t,d=some t->t<nt/\t<512) (i:c.b=d.map gz) (v:Value) (p:Nat):
 (a.put d v).tmps.getD p Go.undef=cond (eI c p) v (a.tmps.getD p Go.undef):=by
 cases d with
 |none=>
  have:eI c p=false:=by grind [eI]
  rw[this];rfl
 |some t=>
  obtain⟨k,l⟩:=hd t rfl
  by_cases e:eI c p=true
  obtain⟨t',o,m⟩:=(aeb i).1 e;cases o;rw[e,<-m,am6 l];simp only[Act.put,cond];have:t<a.tmps.size:=aur k j;simp_all;simp[Act.put,cond];have q:t≠p:=λh=>e ((aeb i).2 ⟨t,rfl,by rw[h,am7]⟩);simp_all
section
variable {b:kB}{aF:Array Oper}{rv:List Rc}{z:List Pd}{g:Hp}{x:Bool}
theorem Pre.IH(pre:Pre P b nt B E f0 ds listed n rest rv z f h g x L φ a w){t:Rc}(c:t∈rv):t.d∈E:=by
 rw[pre.j]
 grind
theorem Pre.py(pre:Pre P b nt B E f0 ds listed n rest rv z f h g x L φ a w){d:DI}(hd:d∈rest):d∈E:=by rw[pre.j];grind
theorem Pre.vd(S:Stat P nt aF B E)(pre:Pre P b nt B E f0 ds listed n rest rv z f h g x L φ a w){t:Rc}(c:t∈rv){d:DI}(hd:d∈rest):uK B t.d d:=by
 have:=S.g;rw[pre.j,au9] at this
 grind
theorem Pre.aef(S:Stat P nt aF B E)(pre:Pre P b nt B E f0 ds listed n rest rv z f h g x L φ a w){N T:List Rc}{r:Rc}(c:rv=N++r::T):(∀t∈T,uK B t.d r.d)/\∀t∈N,uK B r.d t.d:=by
 have:=S.g;rw[pre.j,au9] at this
 grind
theorem Pre.Vm(S:Stat P nt aF B E)(pre:Pre P b nt B E f0 ds listed n rest rv z f h g x L φ a w){d:DI}{l:List DI}(c:rest=d::l):∀e∈l,uK B d e:=by
 have:=S.g;rw[pre.j,au9,c,avx] at this
 grind
theorem aeg(S:Stat P nt aF B E)(gw:listed.size=aF.size)(hc:sy aF listed)(pre:Pre P b nt B E f0 ds listed n rest rv z f h g x L φ a w){N T:List Rc}{r:Rc}(O:rv=N++r::T)
 (dy:listed.getD r.d.i false=false) {o:Oper} (ho:aF[r.d.i]? =some o) (eO:aEB P nt aF o=some r.d.c)
 {v:Value} (hv:aj φ r.x v) {w':World} (R:sL w w'):Pre P b nt B E f0 ds (listed.setIfInBounds r.d.i true) n rest rv z f h g x L φ (a.put o.dst v) w':=by
 have y:r.d.i<listed.size:=by grind
 obtain⟨jZ,X,_,_⟩:=wJ eO;have hr:r∈rv:=by grind
 obtain⟨oP,W⟩:=pre.aef S O;have V:∀d:DI,d∈E->listed.getD d.i false=true->pG B r.d.i d.i=true->False:=λd hd j ho=>by
  obtain⟨o',qy,_⟩:=S.a d hd;have:=yR S.b hc d.i r.d.i o' qy (hc d.i o' qy j) ho
  grind
 have bg:∀d∈rest,d.i≠r.d.i:=λd hd e=>(pre.vd S hr hd).a e.symm;have m:∀d∈rest,(listed.setIfInBounds r.d.i true).getD d.i false=listed.getD d.i false:=λd hd=>by rw[jw y,atS (bg d hd)]
 refine⟨pre.j,pre.s,pre.q,λp F=>?_,λt q D=>?_,λt q G=>?_,λd hd j=>?_,λd hd I j=>?_,λd hd e D c l C Y=>?_,?_,pre.C,pre.r.my R,pre.F.ab (eS.my R),?_,by rw[MY];exact pre.A,pre.g⟩;have dj:∀d∈rest,kK d.k=true->listed.getD d.i false=true->eI d.c p=false:=λd hd I j=>F d hd I qaa;rw[Fx pre.A jZ X];cases hi:eI r.d.c p with
 |true=>
  simp only[cond];have e:mF (listed.setIfInBounds r.d.i true) rv f0 p=r.x:=by
   rw[O];have:∀M:List Rc,(∀t∈M,t∈N)->mF (listed.setIfInBounds r.d.i true) (M++r::T) f0 p=r.x:=by
    intro M
    induction M with
    |nil=>
     simp_all[mF]
    |cons t M ih=>
     intro Z;have J:=Z t au0;simp only[auY,mF];have i:(eI t.d.c p&&(listed.setIfInBounds r.d.i true).getD t.d.i false)=false:=by
      cases hd:eI t.d.c p with
      |false=>rfl
      |true=>
       have A:=W t J;rw[jw y,atS (Ne.symm A.a)];cases aY:listed.getD t.d.i false with
       |false=>rfl
       |true=>
        exfalso;rcases A.d with Q|U;exact V t.d (pre.IH qaa) aY Q;exact(_root_.Yv.BK U).2.2 ⟨hi,hd⟩
     rw[i];exact ih λs hs=>Z s (aug _ hs)
   exact this N λ_ h=>h
  rw[e];exact hv
 |false=>
  simp only[cond];rw[LQ (listed:=listed) λt q hd=>by
   rw[jw y,atS];intro e;have K:t.d.c=r.d.c:=by rw[O] at q;rcases auj.1 q with c|c;exact absurd e.symm (W t c).a;rcases atZ.1 c with l|l;rw[l];exact absurd e (oP t l).a
   rw[K,hi] at hd;cases hd]
  exact pre.m p dj
 rw[jw y];split;rfl;exact pre.J t q D;rw[jw y] at G;split at G;cases G;exact pre.H t q G;rw[m d hd] at j;exact pre.D d hd j;rw[m d hd] at j;obtain⟨ob,k,u,c,l,C⟩:=pre.y d hd I j;refine⟨ob,k,u,c,l.Vo (eS.my R),λp F=>?_⟩;rw[Fx pre.A jZ X];cases hi:eI r.d.c p with
 |false=>exact C p F
 |true=>
  exfalso;rcases(pre.vd S hr hd).d with Q|U;exact V d (pre.py hd) j Q;exact(_root_.Yv.BK U).2.2 ⟨hi,xE.2 F⟩
 rw[m d hd] at C;rw[m e D] at Y;exact pre.G d hd e D c l C Y;rcases pre.u with c|⟨c,d,e,r',g1,g2,mZ,H,e2,e3,e4,e5,e6⟩;exact .inl c;refine .inr ⟨c,d,e,r',g1,g2,mZ,H,e2,e3,?_,?_,e6⟩;rw[m e (by rw[H];simp)];exact e4;rw[m d (by rw[H];simp)];exact e5;rw[MZ];exact pre.I
theorem anG(O:mS P)(S:Stat P nt aF B E)(u:listed.size=aF.size)(m:sy aF listed)(pre:Pre P b nt B E f0 ds listed n rest rv z f h g x L φ a w){N T:List Rc}{r:Rc}(l:rv=N++r::T)
 (j:listed.getD r.d.i false=false) {o:Oper} (k:aF[r.d.i]? =some o) (i:aEB P nt aF o=some r.d.c) (G:∀e∈o.after,Region.binds .any e=true->listed.getD e.on false=true)
 {K:Act->World->Prop} {Q:Exit->Act->World->Prop}
 (y:∀s w',Pre P b nt B E f0 ds (listed.setIfInBounds r.d.i true) n rest rv z f h g x L φ s w'->K s w'):wpOp P aF Q r.d.i K a w:=by
 have A:r∈rv:=by grind
 obtain⟨V,X⟩:=pre.aef S l;have c:xC φ r.f a.tmps r.d.c:=by
  refine aee S m pre k j G (N:=N++[r]) (T:=T) qaa V (λt Z=>?_) (λd hd H Y=>pre.vd S A hd) (λp=>?_)
  grind
  have:∀M:List Rc,PO f0 (M++r::T)->∀p,cg p r.f=val T f0 p:=by
   intro M
   induction M with
   |nil=>exact λh=>h.1
   |cons t M R=>exact λh=>R h.2
  exact this N (by rw[<-l];exact pre.s) p
 unfold wpOp;simp[k];rcases pre.H r A j with⟨q,J⟩|⟨q,F,_⟩;have C:=Ws pre.A i c q;rw[atS qaa];exact y _ _ (aeg S u m pre l j k i (by rw[J];exact DX) (.da w));have C:=Ws pre.A i c q;rw[atV C];refine .inl ?_;have eT:=Wq O pre.r pre.g i c;rw[F] at eT;obtain⟨nx,v,w',D,I,U,W⟩:=eT;unfold Oper.wp;have H:=y _ _ (aeg S u m pre l j k i U W);rcases I with rfl|⟨rfl,rfl⟩
 grind [Oper.upon_value]
 grind [Oper.upon_skip]
end
section
variable {b:kB}{aF:Array Oper}{rv:List Rc}{j:List Pd}{c:Hp}{m:Bool}{g:Nat->Nat}
def WI{xI:Array Bool}{p:Nat}:∀{M:List Rc},(∀r∈M,eI r.d.c p=false)->mF xI (M++rv) f0 p=mF xI rv f0 p
 |[],_=>rfl
 |r::M,h=>by simp[auY,mF];rw[h r au0];exact WI λs d=>h s (aug _ d)
theorem PU(pre:Pre P b nt B E f0 ds listed n rest rv j f h c m g φ a w){L1 l:List DI}(y:rest=L1++l){M:List Rc}(V:M.reverse.map (·.d)=L1){xI:Array Bool}
 (X:∀r∈M,xI.getD r.d.i false=true) (z:∀d∈l,xI.getD d.i false=listed.getD d.i false) (H:∀r∈rv,xI.getD r.d.i false=listed.getD r.d.i false)
 {L:Fr} {n':Nat} {x:List Pd} {h':Hp} {ψ:kf} {s:Act} {w':World}
 (G:PO f0 (M++rv)) (Z:∀p,cg p L=val (M++rv) f0 p)
 (u:∀p:Nat,(∀r∈M,eI r.d.c p=false)->s.tmps.getD p Go.undef=a.tmps.getD p Go.undef)
 (mX:∀p:Nat,(∃r∈M,eI r.d.c p=true)->aj ψ (mF xI (M++rv) f0 p) (s.tmps.getD p Go.undef))
 (le:φ.k ψ)
 (hu:∀r∈rv,listed.getD r.d.i false=false->aQ r.d.c.c r.f c=.v r.x->(AN r.d.c.c=true\/(DE r.d.k=true/\(⟨r.d.c,r.f,r.x,r.d.a⟩:Pd)∈j/\n<=r.d.a))->
  aQ r.d.c.c r.f h'=.v r.x/\(AN r.d.c.c=true\/(DE r.d.k=true/\(⟨r.d.c,r.f,r.x,r.d.a⟩:Pd)∈x/\n'<=r.d.a)))
 (C:∀d∈l,listed.getD d.i false=true->kK d.k=true)
 (Y:∀d∈l,kK d.k=true->listed.getD d.i false=true->∀o k v,Fs φ c w b.w.heap.size (g d.i) o k v->Fs ψ h' w' b.w.heap.size (g d.i) o k v)
 (tu:∀r∈M,∀d∈l,kK d.k=true->listed.getD d.i false=true->∀p,¬(eI r.d.c p=true/\eI d.c p=true))
 (D:qp n' l=true) (r':R ψ h' w') (S:eS b.φ b.h b.w ψ w' h') (F:Cm ψ ds s.defers) (J:nt<=s.tmps.size):
 Pre P b nt B E f0 ds xI n' l (M++rv) x L h' h' false g ψ s w':=by
 have W:∀d∈L1,∃r∈M,r.d=d:=λd hd=>by grind
 refine⟨?_,G,Z,λp I=>?_,λr i t=>?_,λr i K=>?_,λd hd q=>?_,λd hd A q=>?_,λd hd e t T U N O=>?_,.inl ⟨rfl,rfl⟩,D,r',S,F,J,pre.g.aw le⟩;rw[pre.j,y,<-V];simp
 by_cases c:∃r∈M,eI r.d.c p=true
 grind
 have Q:∀r∈M,eI r.d.c p=false:=λr i=>by grind
 rw[WI Q,u p Q,LQ (listed:=listed) λr i _=>H r i];refine nS le _ _ (pre.m p λd hd A q=>?_)
 grind
 rcases auj.1 i with i|i
 grind
 rw[H r i];exact pre.J r i t;rcases auj.1 i with i|i
 grind
 rw[H r i] at K;rcases pre.H r i K with hg|⟨hg,t,hx⟩
 grind
 grind
 rw[z d hd] at q;exact .inl (C d hd q);rw[z d hd] at q;obtain⟨o,k,v,q1,q2,q3⟩:=pre.y d (by rw[y];exact auj.2 (.inr hd)) A q;refine⟨o,k,v,q1,Y d hd A q o k v q2,λp I=>?_⟩;rw[u p λr i=>?_];exact q3 p I;cases hi:eI r.d.c p with
 |false=>rfl
 |true=>exact absurd ⟨hi,xE.2 I⟩ (tu r i d hd A q p)
 rw[z d hd] at N;rw[z e t] at O;exact pre.G d (by rw[y];exact auj.2 (.inr hd)) e (by rw[y];exact auj.2 (.inr t)) T U N O
theorem PV(pre:Pre P b nt B E f0 ds listed n rest rv j f h c false g φ a w){d:DI}{l:List DI}(v:rest=d::l)(L:aEN d.k=false){x:AV}{s:List Pd}(z:∀p∈j,p∈s)
 (G:(jO d.c.a f=some false/\x=undef)\/(jO d.c.a f=some true/\aQ d.c.c f h=.v x/\(AN d.c.c=true\/(DE d.k=true/\(⟨d.c,f,x,d.a⟩:Pd)∈s/\n<=d.a)))):
 Pre P b nt B E f0 ds listed n l (⟨d,f,x⟩::rv) s (put d.c.b x f) h c false g φ a w:=by
 have I:c=h:=by
  rcases pre.u with o|o
  grind
  grind
 have J:listed.getD d.i false=false:=by
  cases t:listed.getD d.i false with
  |false=>rfl
  |true=>
   rcases pre.D d qaa t with o|o
   grind [kK,aEN]
   grind
 have k:∀e∈l,e∈rest:=λe i=>by grind
 refine⟨?_,⟨pre.q,pre.s⟩,λp=>?_,λp M=>?_,λr q i=>?_,λr q F=>?_,λe i t=>pre.D e (k e i) t,λe i o u=>pre.y e (k e i) o u,
  λe i y H o u A C=>pre.G e (k e i) y (k y H) o u A C,.inl ⟨rfl,I⟩,?_,pre.r,pre.F,pre.I,pre.A,pre.g⟩
 rw[pre.j,v];simp;rw[PS d.c.b x f d.c rfl p];simp[val];rw[pre.q p];have e:mF listed (⟨d,f,x⟩::rv) f0 p=mF listed rv f0 p:=by simp_all[mF]
 rw[e];refine pre.m p λe i K t=>?_
 grind
 rcases atZ.1 q with rfl|q
 grind
 exact pre.J r q i;rcases atZ.1 q with rfl|q
 grind
 rcases pre.H r q F with D|⟨D,i,G⟩
 grind
 grind
 have:=pre.C;rw[v] at this;simp[qp] at this
 grind [aEN]
theorem anK(S:Stat P nt aF B E)(pre:Pre P b nt B E f0 ds listed n rest rv j f h c false g φ a w)(V:sy aF listed){d:DI}{l:List DI}(H:rest=d::l)(A:kK d.k=true)(F:listed.getD d.i false=true)
 {x:AV} {h':Hp} (R:aQ d.c.c f h=.b x h') (jD:AS h' (aEJ (n+1) j)=true):
 ∃O,Pre P b nt B E f0 ds listed (n+1) l (⟨d,f,x⟩::rv) (aEJ (n+1) j) (put d.c.b x f) h' h' false g O a w:=by
 have rJ:c=h:=by
  rcases pre.u with q|q
  grind
  grind
 subst rJ;have hd:d∈rest:=by grind
 obtain⟨o,k,v,q1,q2,q3⟩:=pre.y d hd A F;obtain⟨G,PJ,J⟩:=ad0 q1;rw[G] at R;have hn:=c.xf;obtain⟨rfl,rfl⟩:=R;obtain⟨O,r',le,k8,y⟩:=ane pre.r hn PJ J q2;have Y:=pre.Vm S H;have U:∀r∈rv,listed.getD r.d.i false=false->DE r.d.k=true->d.a=r.d.a->False:=λr t dy U s=>by
  have N:=pre.vd S t hd;have WJ:aEN d.k=true:=by cases L:d.k<;>rw[L] at A<;>simp[kK] at A;rfl
  have ho:=N.b U WJ (.inl s);obtain⟨Z,qy,_⟩:=S.a d (pre.py hd);have:=yR S.b V d.i r.d.i Z qy (V d.i Z qy F) ho
  grind
 have u:=pre.C;rw[H] at u;simp[qp] at u;have L:d.k=.b:=by grind [kK]
 rw[L] at u;simp only[atW] at u;have pT:=at7 u.1;refine⟨O,PU pre (L1:=[d]) (l:=l) H (M:=[⟨d,f,k c.a⟩]) zm (λr t=>by grind) (λ_ _=>rfl) (λ_ _=>rfl) ⟨pre.q,pre.s⟩ (λp=>?_) (λ_ _=>rfl) (λp K=>?_) le
  (λr t dy s X=>?_) (λe s C=>?_) (λe s I C o' k' v' K=>?_) (λr t e s I C p=>?_) u.2 r' ?_ (pre.I.aw le) pre.A⟩
 rw[PS d.c.b (k c.a) f d.c rfl p];simp[val];rw[pre.q p];obtain⟨r,t,hi⟩:=K;simp only[avO,mF,F,cond]
 grind [xE]
 rcases X with X|⟨mV,kT,yq⟩
 grind [LG]
 have Q:n+1<=r.d.a:=by grind
 have W:=WH kT Q;exact⟨Iq jD W,.inr ⟨mV,W,Q⟩⟩;rcases pre.D e qaa C with q|q;omega
 grind
 obtain⟨ψ,z,p0,p1,p2,p3,p4,p5⟩:=K;refine⟨ψ,z,p0,p1,p2,p3,p4,λi hi T=>?_⟩;rcases y i hi with⟨q,D⟩|q
 grind
 rw[q] at T;exact pre.G d hd e qaa A I F C (Y e s).a T;simp at t;subst t;rintro⟨q,D⟩;exact(_root_.Yv.BK ((Y e s).g A I)).2.2 ⟨q,D⟩;refine⟨pre.F.m.ab le,pre.F.l,pre.F.f,λi hi=>?_,pre.F.p,pre.F.d,pre.F.n⟩;rcases y i hi with⟨q,D⟩|q;rw[D];exact pre.F.o i q;right;obtain⟨ψ,z,p0,p1,p2,p3,p4,p5⟩:=q2;omega
end
theorem aei{c:Type}{R:c->c->Prop}{g:c->Nat}(m:∀x y,R x y->g x≠g y):∀{l:List c},l.Pairwise R->∀{x y:c},x∈l->y∈l->g x=g y->x=y
 |[],_,_,_,k,_,_=>by grind
 |z::l,j,x,y,k,o,e=>by
  rw[avx] at j;rcases atZ.1 k with d|d<;>rcases atZ.1 o with i|i
  grind
  grind
  grind
  exact aei m j.2 d i e
theorem aej{c:Type}{R:c->c->Prop}:∀{l:List c},l.Pairwise R->∀{x y:c},x∈l->y∈l->x≠y->R x y\/R y x
 |[],_,_,_,j,_,_=>by grind
 |z::l,i,x,y,j,k,e=>by
  rw[avx] at i;rcases atZ.1 j with d|d<;>rcases atZ.1 k with g|g
  grind
  grind
  grind
  exact aej i.2 d g e
section
variable {b:kB}{aF:Array Oper}{rv:List Rc}{M:List Pd}{L:Hp}{N:Bool}{T:Nat->Nat}
theorem aek(S:Stat P nt aF B E)(R:sy aF listed){z:mj}{kp:aT->Prop}{fm:Fr}{oo:aK}:∀(rest:List DI){n:Nat}{rv:List Rc}{M:List Pd}{f:Fr}{h L:Hp}{φ:kf},
 Pre P b nt B E f0 ds listed n rest rv M f h L N T φ a w->Dn (cE z kp fm ds rest n M f h) oo->
 ∃o n' D k r h' y F,Pre P b nt B E f0 ds listed n' o D k r h' y N T F a w/\Dn (cE z kp fm ds o n' k r h') oo/\∀d l,o=d::l->aEN d.k=true/\listed.getD d.i false=false:=by
 intro rest
 induction rest with
 |nil=>grind
 |cons d l s=>
  intro n rv M f h L φ pre hd;have q:aEN d.k=true->listed.getD d.i false=false->∃o n' D k r h' y F,Pre P b nt B E f0 ds listed n' o D k r h' y N T F a w/\Dn (cE z kp fm ds o n' k r h') oo/\∀d l,o=d::l->aEN d.k=true/\listed.getD d.i false=false:=
   λp Q=>⟨d::l,n,rv,M,f,h,L,φ,pre,hd,λJ Y e=>by grind⟩
  cases N with
  |true=>
   rcases pre.u with p|⟨_,J,e,Z,p,Q,y,K,G,W,X,O,_⟩
   grind
   cases K;refine q ?_ O;cases i:d.k<;>rw[i] at G<;>simp[aE2] at G;rfl
  |false=>
   have rJ:L=h:=by
    rcases pre.u with p|p
    grind
    grind
   have A:kK d.k=false->listed.getD d.i false=false:=λi=>by
    cases u:listed.getD d.i false with
    |false=>rfl
    |true=>
     rcases pre.D d zm u with p|p
     grind
     grind
   have C:=S.f d (pre.py zm);cases i:d.k with
   |d=>
    simp only[cE,i] at hd;unfold I5 at C;rw[i] at C;cases m:jO d.c.a f with
    |none=>rw[m] at hd;exact hd.lL.elim
    |some t=>
     rw[m] at hd;cases t with
     |false=>
      exact s (PV pre rfl qai (λ_ h=>h) (.inl ⟨m,rfl⟩)) hd
     |true=>
      cases j:aQ d.c.c f h with
      |v x=>
       rw[j] at hd;exact s (PV pre rfl qai (λ_ h=>h) (.inr ⟨m,j,.inl C⟩)) hd
      |_=>rw[j] at hd;exact hd.lL.elim
   |f=>
    simp only[cE,i] at hd;have H:=pre.C;simp only[qp,i,atW] at H;cases m:jO d.c.a f with
    |none=>rw[m] at hd;exact hd.lL.elim
    |some t=>
     rw[m] at hd;cases t with
     |false=>
      simp only at hd;exact s (PV pre rfl qai (λ_ h=>h) (.inl ⟨m,rfl⟩)) hd
     |true=>
      simp only at hd;cases j:aQ d.c.c f h with
      |v x=>
       rw[j] at hd;exact s (PV pre rfl qai (λ_ h=>aug _ h) (.inr ⟨m,j,.inr ⟨by rw[i];rfl,au0,au1 H.1⟩⟩)) hd
      |_=>rw[j] at hd;exact hd.lL.elim
   |b=>
    cases u:listed.getD d.i false with
    |false=>exact q qai u
    |true=>
     simp only[cE,i] at hd;cases j:aQ d.c.c f h with
     |b x h'=>
      rw[j] at hd;obtain⟨U,I⟩:=LO hd;obtain⟨χ,V⟩:=anK S pre R rfl qai u j U;exact s V I
     |_=>rw[j] at hd;exact hd.lL.elim
   |g=>exact q qai (A qai)
   |c=>exact q qai (A qai)
   |a=>exact q qai (A qai)
def Pre.AC(S:Stat P nt aF B E){d e:DI}(hd:d∈E)(c:e∈E)(h:d.i=e.i):d=e:=aei (λ_ _ r=>r.a) S.g hd c h
theorem ael(O:mS P)(S:Stat P nt aF B E)(gw:listed.size=aF.size)(pre:Pre P b nt B E f0 ds listed n rest rv M f h L N T φ a w){d:DI}(hd:d∈rest)(u:kK d.k=true)
 (dy:listed.getD d.i false=false) {o:Oper} (ho:aF[d.i]? =some o) (eO:aEB P nt aF o=some d.c) {K:Act->World->Prop} {Q:Exit->Act->World->Prop}
 (hK:∀WL a' w',Pre P b nt B E f0 ds (listed.setIfInBounds d.i true) n rest rv M f h L N WL φ a' w'->K a' w'):wpOp P aF Q d.i K a w:=by
 have l:d.i<listed.size:=by grind
 obtain⟨jZ,V,_,Co⟩:=wJ eO;have F:=S.f d (pre.py hd);have pR:d.k=.b:=by grind [kK]
 unfold I5 at F;rw[pR] at F;simp only[atW] at F;obtain⟨q,hq⟩:=awk.1 F.1;obtain⟨ob,k⟩:=q;have qz:Region.wanted o (yielded aF a.tmps)=true:=by grind [Region.wanted,B0]
 obtain⟨nx,v,w',I,hn,G,ψ,z,c1,c2,c3,c4⟩:=anc (a:=a) (w:=w) O pre.g eO hq;have H:∀e∈E,e.i=d.i->e=d:=λe c h=>Pre.AC S c (pre.py hd) h;have Fz:∀r∈rv,(listed.setIfInBounds d.i true).getD r.d.i false=listed.getD r.d.i false:=λr s=>by rw[jw l,atS (pre.vd S s hd).a]
 have J:∀e∈rest,kK e.k=true->e.i≠d.i->∀p,¬(eI d.c p=true/\eI e.c p=true):=λe c t U p=>by
  have Y:rest.Pairwise (uK B):=by
   have:=S.g;rw[pre.j,au9] at this
   grind
  rcases aej Y c hd (λh=>U (by rw[h])) with r|r;rintro⟨m,D⟩;exact(_root_.Yv.BK (r.g t u)).2.2 ⟨D,m⟩;exact(_root_.Yv.BK (r.g u t)).2.2
 have R:Pre P b nt B E f0 ds (listed.setIfInBounds d.i true) n rest rv M f h L N (λi=>if i=d.i then ψ.a z else T i) φ (a.put o.dst v) w':=by
  refine⟨pre.j,pre.s,pre.q,λp A=>?_,λr s c=>by rw[Fz r s];exact pre.J r s c,λr s hu=>pre.H r s qaa,λe c y=>?_,λe c t y=>?_,λe c C qK m D W X h5=>?_,?_,pre.C,
   pre.r.ext G,pre.F.ab (eS.ext G),by rw[MZ];exact pre.I,by rw[MY];exact pre.A,pre.g⟩
  have jK:eI d.c p=false:=A d hd u qap;rw[Fx pre.A jZ V,jK,LQ (listed:=listed) λr s _=>Fz r s];exact pre.m p λe c t y=>A e c t (by grind [jw]);rw[jw l] at y;split at y;rename_i g;rw[H e (pre.py c) g];exact .inl u;exact pre.D e c y
  by_cases g:e.i=d.i
  have:=H e (pre.py c) g;subst this;refine⟨ob,k,v,hq,?_,λp A=>?_⟩;rw[atV rfl];refine⟨ψ,z,rfl,c1,c2,at1 pre.F.l c3,c4,λi hi C=>?_⟩;have:=pre.r.l i hi;omega;rw[Fx pre.A jZ V,xE.2 A];rfl;rw[jw l,atS g] at y;obtain⟨o',k',v',q1,q2,q3⟩:=pre.y e c t y;refine⟨o',k',v',q1,?_,λp A=>?_⟩;rw[atS g];exact q2.Vo (eS.ext G);rw[Fx pre.A jZ V];cases hi:eI d.c p with
  |false=>exact q3 p A
  |true=>exact absurd ⟨hi,xE.2 A⟩ (J e c t g p)
  have iI:∀x∈rest,kK x.k=true->(listed.setIfInBounds d.i true).getD x.i false=true->x.i≠d.i->T x.i<w.heap.size:=λx hx Z Dh U=>by rw[jw l,atS U] at Dh;obtain⟨_,_,_,_,⟨_,_,_,_,_,_,g4,_⟩,_⟩:=pre.y x hx Z Dh;exact g4
  by_cases g:e.i=d.i<;>by_cases j:C.i=d.i
  exact absurd (g.trans j.symm) h5;rw[atV g,atS j];have:=iI C qK D X j;omega;rw[atS g,atV j];have:=iI e c m W g;omega;rw[atS g,atS j];rw[jw l,atS g] at W;rw[jw l,atS j] at X;exact pre.G e c C qK m D W X h5;rcases pre.u with m|⟨m,d',e,r',g1,g2,mZ,g,j,e3,e4,e5,e6⟩;exact .inl m;refine .inr ⟨m,d',e,r',g1,g2,mZ,g,j,e3,?_,?_,e6⟩;rw[jw l];split<;>first|rfl|exact e4
  rw[jw l,atS];exact e5;intro C;have:=H d' (pre.py (by rw[g];simp)) C;rw[this,pR] at j;cases j
 unfold wpOp;simp only[ho];rw[atV qz];refine .inl ?_;unfold Oper.wp;rw[I];have u:=hK _ _ _ R;rcases hn with rfl|⟨rfl,rfl⟩;rw[Oper.upon_value];exact u;rw[Oper.upon_skip];exact u
end
theorem aem{p q:Nat->Bool}{i:Nat}(m:p i=true)(o:q i=false)(d:∀j,j≠i->q j=p j):∀{l:List Nat},l.Nodup->i∈l->(l.filter q).length+1=(l.filter p).length
 |[],_,h=>by grind
 |x::l,c,h=>by
  rw[au6] at c
  by_cases e:x=i
  grind [List.filter_congr]
  have g:i∈l:=by grind
  have r:=aem m o d c.2 g
  grind
section
variable {b:kB}{aF:Array Oper}{rv:List Rc}{z:List Pd}{k:Hp}{U:Bool}
theorem Pre.yv(pre:Pre P b nt B E f0 ds listed n rest rv z f h k false L φ a w):k=h:=by
 rcases pre.u with c|c
 grind
 grind
theorem LW(S:Stat P nt aF B E)(j:sy aF listed)(pre:Pre P b nt B E f0 ds listed n rest rv z f h k U L φ a w){d:DI}(hd:d∈rest)(g:listed.getD d.i false=false)
 {o:Oper} (m:aF[d.i]? =some o) (i:∀e∈o.after,Region.binds .any e=true->listed.getD e.on false=true) (l:∀e∈rest,kK e.k=true->listed.getD e.i false=true->uK B d e):xC φ f a.tmps d.c:=
 aee S j pre m g i (N:=[]) (T:=rv) rfl (λ_ c=>pre.vd S c hd) (λ_ c=>by grind) l pre.q
theorem LX(S:Stat P nt aF B E)(gw:listed.size=aF.size)(y:sy aF listed)(pre:Pre P b nt B E f0 ds listed n rest rv z f h k false L φ a w){d:DI}{l:List DI}(m:rest=d::l)
 (F:d.k=.g\/d.k=.a) (dy:listed.getD d.i false=false) {o:Oper} (ho:aF[d.i]? =some o) (W:aEB P nt aF o=some d.c) (X:∀e∈o.after,Region.binds .any e=true->listed.getD e.on false=true)
 {x:AV} {v:Value} {h':Hp} {w':World} (hx:aj ψ x v) (r':R ψ h' w') (t:eS φ h w ψ w' h') (jD:∀p∈aEJ (n+1) z,aQ p.c.c p.f h=.v p.x->aQ p.c.c p.f h'=.v p.x):
 Pre P b nt B E f0 ds (listed.setIfInBounds d.i true) (n+1) l (⟨d,f,x⟩::rv) (aEJ (n+1) z) (put d.c.b x f) h' h' false L ψ (a.put o.dst v) w':=by
 have rJ:=pre.yv;subst rJ;have C:d.i<listed.size:=by grind
 obtain⟨H,D,_,_⟩:=wJ W;have hd:d∈rest:=by grind
 have K:=pre.Vm S m;have V:aEN d.k=true:=by rcases F with e|e<;>rw[e]<;>rfl
 have j:=pre.C;rw[m] at j;simp only[qp] at j;have jB:d.a=n/\qp (n+1) l=true:=by rcases F with e|e<;>rw[e] at j<;>simp only[atW] at j<;>exact⟨at7 j.1,j.2⟩
 have T:∀e∈E,listed.getD e.i false=true->pG B d.i e.i=true->False:=λe c hl q=>by
  obtain⟨N,O,_⟩:=S.a e c;have:=yR S.b y e.i d.i N O (y e.i N O hl) q
  grind
 refine PU pre (L1:=[d]) (l:=l) m (M:=[⟨d,f,x⟩]) zm (λr i=>by simp_all) (λe c=>by rw[jw C,atS (Ne.symm (K e c).a)])
  (λr i=>by rw[jw C,atS (pre.vd S i hd).a]) ⟨pre.q,pre.s⟩ (λp=>?_) (λp u=>?_) (λp u=>?_) t.m (λr i hu c I=>?_) (λe c s=>?_) (λe c Y s o' k' v' u=>u.Vo t) (λr i e c Y s p=>?_)
  jB.2 r' (pre.F.ab t) (by rw[MZ];exact pre.I.aw t.m) (by rw[MY];exact pre.A)
 rw[PS d.c.b x f d.c rfl p];simp[val];rw[pre.q p];rw[Fx pre.A H D,u ⟨d,f,x⟩ zm];rfl;rw[Fx pre.A H D];simp[mF];simp_all;rcases I with I|⟨J,kT,yq⟩
 grind [LG]
 have A:n+1<=r.d.a:=by
  rcases avh n r.d.a with g|g;omega;have q:=(pre.vd S i hd).b J V (.inl zo);have:=yR S.b y d.i r.d.i o ho X q
  grind
 have G:=WH kT A;exact⟨jD _ G c,.inr ⟨J,G,A⟩⟩;rcases pre.D e (by rw[m];exact aug _ c) s with g|g;exact g;cases g.2;simp at i;subst i;rintro⟨g,Z⟩;rcases(K e c).d with q|tu;exact T e (pre.py (by rw[m];exact aug _ c)) s q;exact(_root_.Yv.BK tu).2.2 ⟨g,Z⟩
def PW(E:List DI)(f0 fm:Fr):Prop:=∀p:Nat,cg p fm=.B\/(cg p fm=cg p f0/\∀d∈E,eI d.c p=false)
theorem aen:∀(E:List DI)(f0:Fr),PW E f0 (ku E f0)
 |[],f0=>λp=>.inr ⟨rfl,λd hd=>by grind⟩
 |d::E,f0=>λp=>by
  simp[ku];rcases aen E (put d.c.b .B f0) p with c|⟨c,e⟩
  grind
  rw[PS d.c.b .B f0 d.c rfl p] at c
  grind
def aeo{fm:Fr}(j:PW E f0 fm)(pre:Pre P b nt B E f0 ds listed n rest rv z f h k U L φ a w)(le:φ.k ψ):iq ψ fm a.tmps:=by
 refine⟨λt=>?_⟩;rcases j (gz t) with c|⟨c,g⟩;rw[c];simp only[aj];have i:=pre.m (gz t) λd hd _ _=>g d (pre.py hd);have e:mF listed rv f0 (gz t)=cg (gz t) f0:=by
  have:∀r∈rv,eI r.d.c (gz t)=false:=λr l=>g r.d (pre.IH l)
  induction rv with
  |nil=>rfl
  |cons r T _=>
   have:=WI (M:=r::T) (rv:=[]) (xI:=listed) (f0:=f0) this;simpa[mF] using this
 rw[e] at i;rw[c];exact nS le _ _ i
variable {Q:mj}{kp:aT->Prop}{fm:Fr}
theorem anP(C:zN P Q)(O:mS P)(S:Stat P nt aF B E)(hm:PW E f0 fm)(Y:listed.size=aF.size)(M:sy aF listed)(pre:Pre P b nt B E f0 ds listed n rest rv z f h k false L φ a w){d:DI}{l:List DI}(r:rest=d::l)
 (N:d.k=.g) (H:listed.getD d.i false=false) {o:Oper} (D:aF[d.i]? =some o) (s:aEB P nt aF o=some d.c) (J:∀e∈o.after,Region.binds .any e=true->listed.getD e.on false=true)
 (hd:Dn (cE Q kp fm ds rest n z f h) oo) {K:Act->World->Prop}
 (Z:∀tJ V f' h' ψ a' w',Pre P b nt B E f0 ds (listed.setIfInBounds d.i true) (n+1) l tJ V f' h' h' false L ψ a' w'->Dn (cE Q kp fm ds l (n+1) V f' h') oo->K a' w'):
 wpOp P aF (oa P b nt kp oo) d.i K a w:=by
 have rJ:=pre.yv;subst rJ;have pD:d∈rest:=by grind
 have j:xC φ f a.tmps d.c:=LW S M pre pD H D J λe A gy dA=>by
  rw[r] at A;rcases atZ.1 A with rfl|A
  grind
  exact pre.Vm S r e A
 obtain⟨jZ,fK,_,_⟩:=wJ s;rw[r] at hd;simp only[cE,N] at hd;unfold wpOp;simp only[D];cases hg:jO d.c.a f with
 |none=>rw[hg] at hd;exact hd.lL.elim
 |some t=>
  rw[hg] at hd;have qz:=Ws pre.A s j hg;cases t with
  |false=>
   rw[atS qaa];exact Z _ _ _ _ _ _ _ (LX S Y M pre r (.inl N) H D s J DX pre.r (.da φ k w) λ_ _ h=>h) hd
  |true=>
   rw[atV qz];refine .inl ?_;have eT:=Wq O pre.r pre.g s j;unfold Oper.wp;generalize aEZ:(execOp a.eval o).run P w=jk at eT⊢;cases G:aQ d.c.c f k with
   |v x=>
    rw[G] at hd eT;obtain⟨nx,v,w',rfl,hn,m,q⟩:=eT;simp[tO] at hd;obtain⟨T,F⟩:=LO hd;have fL:=Z _ _ _ _ _ _ _ (LX S Y M pre r (.inl N) H D s J m (pre.r.my q) (eS.my q) λp R _=>Iq T R) F;rcases hn with rfl|⟨rfl,rfl⟩
    grind [Oper.upon_value]
    grind [Oper.upon_skip]
   |b x h'=>
    rw[G] at hd eT;obtain⟨nx,v,w',y,rfl,hn,W,I,m⟩:=eT;simp[tO] at hd;obtain⟨T,F⟩:=LO hd;have fL:=Z _ _ _ _ _ _ _ (LX S Y M pre r (.inl N) H D s J m W I λp R _=>Iq T R) F;rcases hn with rfl|⟨rfl,rfl⟩
    grind [Oper.upon_value]
    grind [Oper.upon_skip]
   |c g args=>
    rw[G] at hd eT;obtain⟨vs,w',rfl,q,A4⟩:=eT;obtain⟨Ec,SX⟩:=C g args k _ oo φ w' vs hd (pre.r.my q) pre.g A4;rw[Ec vs w',Oper.upon_enter];refine SX.mono λe SP A=>?_;obtain⟨co,pT,J6⟩:=A;cases co with
    |a v h'=>
     obtain⟨y,u,rfl,m,W,I⟩:=J6;obtain⟨T,F⟩:=LO pT;exact Z _ _ _ _ _ _ _ (LX S Y M pre r (.inl N) H D s J m W ((eS.my q).ab I) λp R _=>Iq T R) F
    |b v h'=>
     obtain⟨y,u,rfl,m,W,I⟩:=J6;have X:=(eS.my (φ:=φ) (h:=k) q).ab I;exact⟨.c v fm h' ds,pT,u,y,rfl,m,⟨W,pre.F.ab X,aeo hm pre X.m,pre.I.aw X.m,pre.A,pre.g.aw X.m⟩⟩
   |i x=>
    rw[G] at hd eT;obtain⟨v,w',rfl,q,m⟩:=eT;exact⟨.c x fm k ds,hd,v,φ,rfl,m,⟨pre.r.my q,pre.F.ab (eS.my q),aeo hm pre (.da φ),pre.I,pre.A,pre.g⟩⟩
   |_=>rw[G] at hd;exact hd.lL.elim
end
section
variable {b:kB}{aF:Array Oper}{rv:List Rc}{m:List Pd}{u:Hp}{z:Bool}{s:Nat->Nat}
variable {kp:aT->Prop}{fm:Fr}
def WR{d:DI}{r:List DI}(p:d.k=.c)(hd:Dn (cE q kp fm ds (d::r) n m f h) oo):∃e g i j t c,r=e::g/\sF d.c.c f=some i/\sF e.c.c f=some j/\i≠j/\aQ d.c.c f h=.b t c/\Dn (cE q kp fm ds r n m f c) oo:=by
 simp only[cE,p] at hd;cases r with
 |nil=>exact hd.lL.elim
 |cons e g=>
  simp only at hd;cases c:sF d.c.c f with
  |none=>rw[c] at hd;exact hd.lL.elim
  |some i=>
   cases l:sF e.c.c f with
   |none=>rw[c,l] at hd;exact hd.lL.elim
   |some j=>
    rw[c,l] at hd;simp only at hd;cases o:Nat.beq i j with
    |true=>rw[o] at hd;exact hd.lL.elim
    |false=>
     rw[o] at hd;cases k:aQ d.c.c f h with
     |b x h'=>
      rw[k] at hd;exact⟨e,g,i,j,x,h',rfl,by rfl,by omega,(λv=>by simp_all),by rfl,hd⟩
     |_=>rw[k] at hd;exact hd.lL.elim
theorem WT{d:DI}{r:List DI}(g:d.k=.a)(hd:Dn (cE q kp fm ds (d::r) n m f h) oo):∃i c,aQ d.c.c f h=.b i c/\AS c (aEJ (n+1) m)=true/\Dn (cE q kp fm ds r (n+1) (aEJ (n+1) m) f c) oo:=by
 simp[cE,g] at hd;cases e:aQ d.c.c f h with
 |b x h'=>
  rw[e] at hd;obtain⟨k,j⟩:=LO hd
  grind
 |_=>rw[e] at hd;exact hd.lL.elim
theorem LY(S:Stat P nt aF B E){d:DI}(hd:d∈E)(k:d.k=.c\/d.k=.a){o:Oper}(e:aEB P nt aF o=some d.c):o.dst=none/\d.c.b=none/\∀tmps,Region.wanted o (yielded aF tmps)=true:=by
 have g:=S.f d hd;unfold I5 at g;obtain⟨p,j,_,i⟩:=wJ e;have c:d.c.b=none:=by grind [I4]
 refine⟨?_,c,λtmps=>?_⟩;cases l:o.dst with
 |none=>rfl
 |some t=>grind
 grind [Region.wanted,B0]
def PX{d:DI}{x:AV}{T:List Rc}(h:d.c.b=none)(g:Fr)(p:Nat):val (⟨d,g,x⟩::T) f0 p=val T f0 p:=by simp_all[eI,val]
theorem Iu{c:CI}(h:c.b=none)(p:Nat):eI c p=false:=by unfold eI;rw[h]
theorem PY(O:mS P)(pre:Pre P b nt B E f0 ds listed n rest rv m f h u z s φ a w){d:DI}{o:Oper}(i:aEB P nt aF o=some d.c)(l:o.dst=none)(j:xC φ f a.tmps d.c){x:AV}{h':Hp}(g:aQ d.c.c f u=.b x h')
 {K:Act->World->Prop} {Q:Exit->Act->World->Prop} (t:∀ψ w',R ψ h' w'->eS φ u w ψ w' h'->K a w'):o.wp P a w K Q:=by
 have eT:=Wq O pre.r pre.g i j;unfold Oper.wp;generalize c:(execOp a.eval o).run P w=jk at eT⊢;rw[g] at eT;obtain⟨A,v,w',p,rfl,k,C,r,y⟩:=eT;have e:∀v,a.put o.dst v=a:=λv=>by rw[l];rfl
 rcases k with rfl|⟨rfl,rfl⟩
 grind [Oper.upon_value]
 grind [Oper.upon_skip]
theorem anQ(O:mS P)(S:Stat P nt aF B E)(gw:listed.size=aF.size)(R:sy aF listed)(pre:Pre P b nt B E f0 ds listed n rest rv m f h u false s φ a w){d:DI}{l:List DI}(v:rest=d::l)
 (k:d.k=.c) (Y:listed.getD d.i false=false) {o:Oper} (C:aF[d.i]? =some o) (J:aEB P nt aF o=some d.c) (L:∀e∈o.after,Region.binds .any e=true->listed.getD e.on false=true)
 (hd:Dn (cE q kp fm ds rest n m f h) oo) {K:Act->World->Prop}
 (hK:∀tJ h' ψ H w',Pre P b nt B E f0 ds (listed.setIfInBounds d.i true) n l tJ m f h' h' false s ψ H w'->Dn (cE q kp fm ds l n m f h') oo->K H w'):
 wpOp P aF (oa P b nt kp oo) d.i K a w:=by
 have rJ:=pre.yv;subst rJ;have A:d∈rest:=by grind
 have I:d.i<listed.size:=by grind
 have oP:=pre.Vm S v;have c:=LW S R pre A Y C L λe g N x=>by grind
 obtain⟨V,Z,qz⟩:=LY S (pre.py A) (.inl k) J;rw[v] at hd;obtain⟨e,U,i,j,x1,Q,_,_,_,_,X,W⟩:=WR k hd;have F:=pre.C;rw[v] at F;simp[qp,k,atW] at F;unfold wpOp;simp[C];rw[atV (qz _)];refine .inl (PY O pre J V c X λG w' U y=>hK ([⟨d,f,undef⟩]++rv) _ G a w' ?_ W);refine PU pre (L1:=[d]) (l:=l) v (M:=[⟨d,f,undef⟩]) zm (λr t=>by simp_all) (λe g=>by rw[jw I,atS (Ne.symm (oP e g).a)])
  (λr t=>by rw[jw I,atS (pre.vd S t A).a]) ⟨pre.q,pre.s⟩ (λp=>?_) (λp D=>rfl) (λp D=>?_) y.m (λr t hu g T=>?_) (λe g x=>?_) (λe g N x o' k' v' D=>D.Vo y) (λr t e g N x p=>?_)
  F.2 U (pre.F.ab y) (pre.I.aw y.m) pre.A
 rw[avO,PX Z];exact pre.q p
 grind [Iu]
 rcases T with T|⟨mV,kT,yq⟩
 grind [LG]
 have rI:=(pre.vd S t A).b mV (by rw[k];rfl) (.inr (.inl (by rw[k];rfl)));have:=yR S.b R d.i r.d.i o C L rI
 grind
 rcases pre.D e qaa x with Q|Q;omega
 grind
 grind [Iu]
theorem anR(O:mS P)(S:Stat P nt aF B E)(N:listed.size=aF.size)(G:sy aF listed)(pre:Pre P b nt B E f0 ds listed n rest rv m f h u false s φ a w){d:DI}{l:List DI}(i:rest=d::l)
 (r:d.k=.a) (C:listed.getD d.i false=false) {o:Oper} (t:aF[d.i]? =some o) (k:aEB P nt aF o=some d.c) (F:∀e∈o.after,Region.binds .any e=true->listed.getD e.on false=true)
 (hd:Dn (cE q kp fm ds rest n m f h) oo) {K:Act->World->Prop}
 (Q:∀X g D h' ψ A w',Pre P b nt B E f0 ds (listed.setIfInBounds d.i true) (n+1) l X g D h' h' false s ψ A w'->Dn (cE q kp fm ds l (n+1) g D h') oo->K A w'):
 wpOp P aF (oa P b nt kp oo) d.i K a w:=by
 have W:=pre.yv;subst W;have H:d∈rest:=by grind
 have c:=LW S G pre H C t F λe j gy Z=>by
  rw[i] at j;rcases atZ.1 j with rfl|j
  grind
  exact pre.Vm S i e j
 obtain⟨y,M,U⟩:=LY S (pre.py H) (.inr r) k;rw[i] at hd;obtain⟨x1,h1,J,T,I⟩:=WT r hd;unfold wpOp;simp[t];rw[atV (U _)];refine .inl (PY O pre k y c J λY w' V L=>?_);have:=LX S N G pre i (.inr r) C t k F (x:=undef) (v:=Go.undef) DX V L λp R _=>Iq T R;rw[M] at this;rw[y] at this;exact Q _ _ _ _ _ _ _ this I
theorem anS(O:mS P)(S:Stat P nt aF B E)(gw:listed.size=aF.size)(hc:sy aF listed)(pre:Pre P b nt B E f0 ds listed n rest rv m f h u false s φ a w){d e:DI}{l:List DI}(I:rest=d::e::l)
 (L:d.k=.c) (A:e.k=.a) (Q:listed.getD d.i false=false) (dy:listed.getD e.i false=false) {o:Oper} (U:aF[e.i]? =some o) (Z:aEB P nt aF o=some e.c) (fe:∀x∈o.after,Region.binds .any x=true->listed.getD x.on false=true)
 (hd:Dn (cE q kp fm ds rest n m f h) oo) {K:Act->World->Prop}
 (hK:∀mZ ψ X w',Pre P b nt B E f0 ds (listed.setIfInBounds e.i true) n rest rv m f h mZ true s ψ X w'->K X w'):
 wpOp P aF (oa P b nt kp oo) e.i K a w:=by
 have rJ:=pre.yv;subst rJ;have H:e∈rest:=by grind
 have pD:d∈rest:=by grind
 have Y:e.i<listed.size:=by grind
 have PZ:=pre.Vm S I;have aep:∀x∈l,uK B e x:=by
  have:=S.g;rw[pre.j,au9,I,avx,avx] at this
  grind
 have v:xC φ f a.tmps e.c:=LW S hc pre H dy U fe λx c k CN=>by grind
 obtain⟨Di,fK,qz⟩:=LY S (pre.py H) (.inr A) Z;rw[I] at hd;obtain⟨e',l',i,j,x1,C,qK,hi,hj,DV,W,bC⟩:=WR L hd;cases qK;obtain⟨x2,J,F,jD,lN⟩:=WT A bC;obtain⟨rfl,rfl,g,T,g',NQ,ij⟩:=anf hi hj DV W F;have R:∀x∈E,x≠e->(listed.setIfInBounds e.i true).getD x.i false=listed.getD x.i false:=λx c bg=>by rw[jw Y,atS λh=>bg (Pre.AC S c (pre.py H) h)]
 have M:∀r∈rv,(listed.setIfInBounds e.i true).getD r.d.i false=listed.getD r.d.i false:=λr t=>by rw[jw Y,atS (pre.vd S t H).a]
 have N:∀x∈rest,kK x.k=true->(listed.setIfInBounds e.i true).getD x.i false=listed.getD x.i false:=λx c k=>R x (pre.py c) λh=>by rw[h,A] at k;cases k
 unfold wpOp;simp only[U];rw[atV (qz _)];refine .inl (PY O pre Z Di v T λV w' r' G=>hK g V a w' ?_);refine⟨pre.j,pre.s,pre.q,λp hp=>?_,λr t he=>by rw[M r t];exact pre.J r t he,λr t hu=>?_,λx c D=>?_,λx c k D=>?_,λx c y hy C J h3 h4 h5=>?_,
  .inr ⟨rfl,d,e,l,C,J,g',I,by rw[L];rfl,by rw[A];rfl,by simp_all,?_,W,F,NQ,ij⟩,pre.C,r',pre.F.ab G,pre.I.aw G.m,pre.A,pre.g.aw G.m⟩
 rw[LQ (listed:=listed) λr t _=>M r t];exact nS G.m _ _ (pre.m p λx c k D=>hp x c k qaa);rw[M r t] at hu;rcases pre.H r t hu with T|⟨T,he,c⟩
 grind
 rcases c with c|⟨mV,kT,yq⟩
 grind [LG]
 exfalso;have rI:=(pre.vd S t H).b mV (by rw[A];rfl) (.inr (.inr (by rw[A];rfl)));have:=yR S.b hc e.i r.d.i o U fe rI
 grind
 by_cases yS:x=e
 subst yS;exact .inr ⟨by rw[A];rfl,rfl⟩;rw[R x (pre.py c) yS] at D;rcases pre.D x c D with C|C;exact .inl C;cases C.2;rw[N x c k] at D;obtain⟨o',k',v',q1,q2,q3⟩:=pre.y x c k D;exact⟨o',k',v',q1,q2.Vo G,q3⟩;rw[N x c C] at h3;rw[N y hy J] at h4;exact pre.G x c y hy C J h3 h4 h5;rw[R d (pre.py pD) λh=>by rw[h,A] at L;cases L];exact Q
theorem anU(O:mS P)(S:Stat P nt aF B E)(gw:listed.size=aF.size)(J:sy aF listed)(pre:Pre P b nt B E f0 ds listed n rest rv m f h u true s φ a w){d:DI}{l:List DI}(D:rest=d::l)
 (dy:listed.getD d.i false=false) {o:Oper} (X:aF[d.i]? =some o) (eO:aEB P nt aF o=some d.c) (fe:∀x∈o.after,Region.binds .any x=true->listed.getD x.on false=true)
 (hd:Dn (cE q kp fm ds rest n m f h) oo) {K:Act->World->Prop}
 (hK:∀l' tJ I f' h' ψ a' w',Pre P b nt B E f0 ds (listed.setIfInBounds d.i true) (n+1) l' tJ I f' h' h' false s ψ a' w'->Dn (cE q kp fm ds l' (n+1) I f' h') oo->K a' w'):
 wpOp P aF (oa P b nt kp oo) d.i K a w:=by
 rcases pre.u with W|⟨_,c,e,Y,W,h2,mZ,e1,e2,e3,e4,e5,e6,e7,e8,e9⟩
 grind
 have P1:c=d/\e::Y=l:=by grind
 obtain⟨rfl,rfl⟩:=P1;have y:c.k=.c:=by grind [aE2]
 have V:e.k=.a:=by grind [tM]
 have zM:e∈rest:=by grind
 have N:c∈rest:=by grind
 have ao:c.i<listed.size:=by grind
 have PZ:=pre.Vm S D;have aep:∀x∈Y,uK B e x:=by
  have:=S.g;rw[pre.j,au9,D,avx,avx] at this
  grind
 have j:xC φ f a.tmps c.c:=LW S J pre N dy X fe λx t F A=>by grind
 obtain⟨Di,U,qz⟩:=LY S (pre.py N) (.inl y) eO;obtain⟨oe,LJ,Q⟩:=S.a e (pre.py zM);obtain⟨_,WU,_⟩:=LY S (pre.py zM) (.inr V) Q;rw[D] at hd;obtain⟨_,_,_,_,x1,h1',qK,_,_,_,LZ,bC⟩:=WR y hd;cases qK;rw[e6] at LZ;cases LZ;obtain⟨x2,h2',C,jD,lN⟩:=WT V bC;rw[e7] at C;cases C;have H:=pre.C;rw[D] at H;simp only[qp,y,V,atW] at H;unfold wpOp;simp only[X];rw[atV (qz _)];refine .inl (PY O pre eO Di j e8 λv w' rr It=>hK _ ([⟨e,f,undef⟩,⟨c,f,undef⟩]++rv) _ _ _ v a w' ?_ lN);have Z:R v h2 w':=rr.Hk λk=>(e9 k).symm;have i:eS φ u w v w' h2:=It.Hk λk=>(e9 k).symm;refine PU pre (L1:=[c,e]) (l:=Y) qaa (M:=[⟨e,f,undef⟩,⟨c,f,undef⟩]) zm (λr g=>?_) (λx t=>by rw[jw ao,atS (Ne.symm (PZ x (aug _ t)).a)])
  (λr g=>by rw[jw ao,atS (pre.vd S g N).a]) ⟨λp=>by show cg p f=val (⟨c,f,undef⟩::rv) f0 p;rw[PX U];exact pre.q p,pre.q,pre.s⟩ (λp=>?_) (λp L=>rfl) (λp L=>?_) i.m (λr g hu he kN=>?_) (λx t A=>?_) (λx t F A o' k' v' L=>L.Vo i) (λr g x t F A p=>?_)
  H.2.2 Z (pre.F.ab i) (pre.I.aw i.m) pre.A
 simp at g;rcases g with rfl|rfl
 grind [jw]
 simp_all;show cg p f=val (⟨e,f,undef⟩::⟨c,f,undef⟩::rv) f0 p;rw[PX WU,PX U];exact pre.q p;obtain⟨r,g,hi⟩:=L;simp at g;rcases g with rfl|rfl
 grind [Iu]
 grind [Iu]
 rcases kN with kN|⟨mV,kT,yq⟩
 grind [LG]
 have rI:=(pre.vd S g N).b mV (by rw[y];rfl) (.inr (.inl zo));have:=yR S.b J c.i r.d.i o X fe rI
 grind
 rcases pre.D x qaa A with W|W;omega;exfalso;have yS:x.k=.a:=by grind [tM]
 have T:=PZ x (aug _ t);have Cg:=Dd H.2.2 x t (by rw[yS];rfl);have pT:c.a=n:=at7 H.1.1;have LS:=T.f (by rw[y];rfl) (by rw[yS];rfl) (by
  rw[y,yS];simp only[aE2,tM,av8];cases hb:Nat.beq c.a x.a with
  |false=>rfl
  |true=>grind [Nat.eq_of_beq_eq_true])
 obtain⟨ox,G,_⟩:=S.a x (pre.py (by rw[D];exact aug _ (aug _ t)));have:=yR S.b J x.i c.i ox G (J x.i ox G A) LS;rw[dy] at this;cases this;simp only[atZ,awg,axx] at g;rcases g with rfl|rfl;rw[Iu WU];simp;rw[Iu U];simp
end
theorem WV(B:List Nat):∀(l:List (Nat×CI))(pl:Nat)(a:List DI)(d:DI),d∈(wu B l pl a).2 ->d∈a\/(d.i,d.c)∈l
 |[],_,_,_,h=>.inl h
 |(i,c)::l,pl,a,d,h=>by
  simp[wu] at h;split at h;rcases WV B l _ _ d h with e|e
  grind
  grind
  rcases WV B l _ _ d h with e|e
  grind
  grind
theorem P3(B:List Nat)(cs:List (Nat×CI))(a:Nat->Bool):∀(m n pl:Nat)(f:List DI),(∀d∈f,(d.i,d.c)∈cs)->∀d∈DH B cs a m n pl f,(d.i,d.c)∈cs
 |0,_,_,f,h,d,hd=>by grind [DH]
 |m+1,n,pl,f,h,d,hd=>by
  have p:∀x∈(wu B cs pl f).2,(x.i,x.c)∈cs:=λx g=>by grind [WV]
  simp only[DH] at hd;split at hd;rename_i i c rest l;have k:(i,c)∈cs:=by
   have:(i,c)∈(List.filter (λx=> !a x.1) (List.filter (λx=>F6 x.2.c&& !I7 (wu B cs pl f).1 x.1 &&I6 B (wu B cs pl f).1 x.1) cs)):=by grind
   grind
  split at hd;rename_i j e o;refine P3 B cs a m _ _ _ (λx g=>?_) d hd
  grind
  refine P3 B cs a m _ _ _ (λx g=>?_) d hd
  grind
  split at hd;rename_i i c rest l;have k:(i,c)∈cs:=by
   have:(i,c)∈(List.filter (λx=>F6 x.2.c&& !I7 (wu B cs pl f).1 x.1 &&I6 B (wu B cs pl f).1 x.1) cs):=by grind
   grind
  refine P3 B cs a m _ _ _ (λx g=>?_) d hd
  grind
  grind
theorem aeq(B:List Nat)(a:List DI)(nO:Nat)(d:DI):(Mw B a nO d).i=d.i/\(Mw B a nO d).c=d.c:=by
 unfold Mw
 grind
theorem anX{aF:List Oper}{cs:List CI}{l:List DI}(h:Qk aF cs=some l):(∃B,Qj B aF l=true)/\∀d∈l,cs[d.i]? =some d.c:=by
 simp only[Qk] at h;split at h;rename_i f;simp at h;refine⟨⟨_,by rw[<-h];omega⟩,λd hd=>?_⟩;rw[<-h] at hd;obtain⟨e,a,rfl⟩:=auR.1 hd;have c:=P3 _ _ _ _ _ _ [] zm e a
 grind [aeq,List.getElem?_of_mem]
 grind
section
variable {b:kB}{aF:Array Oper}
variable {kp:aT->Prop}{fm:Fr}
def left(aF:Array Oper)(listed:Array Bool):Nat:=((List.range aF.size).filter λi=> !listed.getD i false).length
theorem anY{listed:Array Bool}(e:listed.size=aF.size){i:Nat}(hi:i<aF.size)(d:listed.getD i false=false):left aF (listed.setIfInBounds i true)+1=left aF listed:=by have a:i<listed.size:=zo;refine aem (i:=i) qaa qap (λj c=>by rw[jw a,atS c]) List.nodup_range qaa
theorem anZ{listed:Array Bool}(m:listed.size=aF.size)(f:sy aF listed){i:Nat}{o:Oper}(n:aF[i]? =some o)(l:∀e∈o.after,Region.binds .any e=true->listed.getD e.on false=true):sy aF (listed.setIfInBounds i true):=by
 have c:i<listed.size:=by grind
 intro j k h a e g d;rw[jw c];split;rfl;rw[jw c] at a;split at a
 grind
 exact f j k h a e g d
theorem an0(hB:DD B 0 aF.toList=true){listed:Array Bool}(c:listed.size=aF.size)(h0:Region.ready .any aF listed=[]):∀i,i<aF.size->listed.getD i false=true:=by
 intro i
 induction i using Nat.strongRecOn with
 |_ i k=>
  intro hi;cases h:listed.getD i false with
  |true=>rfl
  |false=>
   have a:=au7 hi;have j:i∈Region.ready .any aF listed:=by
    rw[mem_ready];refine⟨?_,aF[i],a,λe g f=>?_⟩
    grind
    obtain⟨d,_⟩:=WA hB i aF[i] qaa
    grind
   grind
theorem aer{listed:Array Bool}{i:Nat}(h:listed.getD i true=false):listed.getD i false=false:=by grind
theorem aes(S:Stat P nt aF B E){listed:Array Bool}{n:Nat}{rest:List DI}{rv:List Rc}{k:List Pd}{f:Fr}{h g:Hp}{s:Bool}{p:Nat->Nat}{φ:kf}{a:Act}{w:World}(A:∀i,i<aF.size->listed.getD i false=true)
 (pre:Pre P b nt B E f0 ds listed n rest rv k f h g s p φ a w) (hd:Dn (cE q kp fm ds rest n k f h) oo) (m:∀d l,rest=d::l->aEN d.k=true/\listed.getD d.i false=false):oa P b nt kp oo .normal a w:=by
 have c:∀d∈E,listed.getD d.i false=true:=λd hd=>by
  obtain⟨o,z,_⟩:=S.a d hd
  grind
 cases rest with
 |cons d l=>
  have:=(m d l rfl).2;rw[c d (pre.py zm)] at this;grind
 |nil=>
  have v:g=h:=by
   rcases pre.u with y|⟨_,d,e,C,_,_,_,x,_⟩
   grind
   grind
  subst v;refine⟨.d f g ds,hd,rfl,φ,pre.r,pre.F,⟨λt=>?_⟩,pre.I,pre.A,pre.g⟩;have j:=pre.m (gz t) λd hd=>by grind
  have e:mF listed rv f0 (gz t)=val rv f0 (gz t):=aed (N:=[]) (λ_ h=>by grind) λr u _=>c r.d (pre.IH u);rw[e] at j;rw[pre.q];exact j
theorem an1(C:zN P q)(O:mS P)(S:Stat P nt aF B E)(hm:PW E f0 fm):∀(A:Nat)(listed:Array Bool)(n:Nat)(rest:List DI)(rv:List Rc)(F:List Pd)(f:Fr)(h R:Hp)(u:Bool)(bo:Nat->Nat)(φ:kf)(a:Act)(w:World),
 listed.size=aF.size->sy aF listed->left aF listed=A->Pre P b nt B E f0 ds listed n rest rv F f h R u bo φ a w->Dn (cE q kp fm ds rest n F f h) oo->wpAny P .any aF (oa P b nt kp oo) A listed a w:=by
 intro A
 induction A with
 |zero=>
  intro listed n rest rv F f h R u bo φ a w v y H pre hd;obtain⟨rest,n,rv,F,f,h,R,φ,pre,hd,X⟩:=aek S y rest pre hd;have jD:∀i,i<aF.size->listed.getD i false=true:=λi hi=>by
   cases hl:listed.getD i false with
   |true=>rfl
   |false=>
    have:i∈(List.range aF.size).filter λi=> !listed.getD i false:=avv.2 ⟨by grind,by grind⟩;have h0:=auv H
    grind
  refine⟨?_,aes S jD pre hd X⟩;simp_all[Region.ready]
 |succ A ih=>
  intro listed n rest rv F f h R u bo φ a w v y H pre hd;obtain⟨rest,n,rv,F,f,h,R,φ,pre,hd,X⟩:=aek S y rest pre hd;refine⟨λh0=>aes S (an0 S.b v h0) pre hd X,λi hi=>?_⟩;obtain⟨M,o,s,Z⟩:=mem_ready.1 hi;have L:=aer M;have aev:i<aF.size:=(auc.1 s).1;have j:(listed.setIfInBounds i true).size=aF.size:=by grind
  have jQ:=anZ v y s Z;have W:left aF (listed.setIfInBounds i true)=A:=by grind [anY]
  obtain⟨d,Q,hdi⟩:=S.h i aev;subst hdi;obtain⟨o',fS,Y⟩:=S.a d Q;rw[s] at fS;cases fS;have k:=Q;rw[pre.j] at k;rcases auj.1 k with k|k;obtain⟨r,hr,an2⟩:=auR.1 k;rw[avq] at hr;obtain⟨N,T,qf⟩:=List.append_of_mem hr
  grind [anG]
  cases m:rest with
  |nil=>grind
  |cons e l=>
   obtain⟨K,I⟩:=X e l m
   by_cases P1:d=e
   subst P1;cases D:d.k with
   |d=>rw[D] at K;cases K
   |f=>rw[D] at K;cases K
   |b=>exact ael O S v pre zo (by rw[D];rfl) L s Y λWL a' w' z=>ih _ _ _ _ _ _ _ _ _ _ _ _ _ j jQ W z hd
   |g=>
    cases u with
    |true=>
     rcases pre.u with M|⟨_,d',e',r',_,_,_,p,t,_⟩
     grind
     rw[m] at p;cases p;rw[D] at t;cases t
    |false=>grind [anP]
   |c=>
    cases u with
    |true=>grind [anU]
    |false=>grind [anQ]
   |a=>
    cases u with
    |true=>
     rcases pre.u with M|⟨_,d',e',r',_,_,_,p,t,_⟩
     grind
     rw[m] at p;cases p;rw[D] at t;cases t
    |false=>exact anR O S v y pre m D L s Y Z hd λtJ pd' f' h' ψ a' w' z bC=>ih _ _ _ _ _ _ _ _ _ _ _ _ _ j jQ W z bC
   have mT:d∈l:=by rw[m] at k;rcases atZ.1 k with x|x;exact absurd x P1;exact x
   cases ao:kK d.k with
   |true=>exact ael O S v pre k ao L s Y λWL a' w' z=>ih _ _ _ _ _ _ _ _ _ _ _ _ _ j jQ W z hd
   |false=>
    have rel:=pre.Vm S m d mT;cases U:(aE2 e.k&&tM d.k&&Nat.beq e.a d.a) with
    |false=>
     exfalso;have LS:=rel.f K ao U;have:=yR S.b y d.i e.i o s Z LS;rw[I] at this;cases this
    |true=>
     simp only[atW] at U;have gy:e.k=.c:=by have:=U.1.1;cases G:e.k<;>rw[G] at this<;>first|rfl|(simp[aE2] at this)
     have N8:d.k=.a:=by have:=U.1.2;cases G:d.k<;>rw[G] at this<;>first|rfl|(simp[tM] at this)
     have V:=pre.C;rw[m] at V;simp only[qp,gy,atW] at V;cases l with
     |nil=>cases mT
     |cons g l'=>
      have hkg:g.k=.a:=by have this:tM g.k=true:=V.1.2;cases G:g.k<;>rw[G] at this<;>first|rfl|(simp[tM] at this)
      have J:=V.2;simp only[qp,hkg,atW] at J;have hdg:d=g:=by rcases atZ.1 mT with x|x;exact x;exfalso;have:=Dd J.2 d x (by rw[N8];rfl);have p:=at7 V.1.1;have t:=at7 U.2;omega
      subst hdg;cases u with
      |true=>
       rcases pre.u with M|⟨_,d',e',r',_,_,_,p,t,e3,e4,_⟩;cases M.1;rw[m] at p;cases p;rw[L] at e4;cases e4
      |false=>exact anS O S v y pre m gy N8 I L s Y Z hd λmZ ψ a' w' z=>ih _ _ _ _ _ _ _ _ _ _ _ _ _ j jQ W z hd
theorem an3(o:P.follows .mixedOrders=true):Nz P:=by
 intro q C O ro nt id aF b φ f h ds a w k oo l y c s hd;simp only[comp] at c;split at c;rename_i cs H;simp at c;split at c;rename_i m n;injection c with c;subst c;obtain⟨⟨B,hB⟩,D⟩:=anX n;simp only[Qj,atW] at hB;obtain⟨⟨⟨⟨⟨t,u⟩,v⟩,x⟩,h5⟩,F⟩:=hB;have S:Stat P nt aF B m:=by
  refine⟨t,aec u,λd hd=>auO.1 v d hd,λi hi=>?_,λd hd=>?_⟩;simp_all
  grind [Ny]
 have G:∀i,(Array.replicate aF.size false).getD i false=false:=λi=>by
  rcases avh i aF.size with h|h;simp[h]
  grind
 refine wpIn_region_any o (Zp (y.imp (λh=>h) Zr) agO _ _ _ _ ?_);have A:sL w {w with drawn:=w.drawn+1}:=⟨rfl,rfl,rfl,rfl⟩;have g:=s.my A;refine an1 C O S (aen m f) aF.size (Array.replicate aF.size false) 0 m [] [] f h h false (λ_=>0) φ a {w with drawn:=w.drawn+1} zm (λj I _ c=>by grind) ?_ ?_ hd
 grind [left,List.filter_eq_self]
 refine⟨rfl,auW,λp=>rfl,λp _=>?_,(λr z=>by grind),(λr z=>by grind),(λd _ c=>by grind),(λd _ _ c=>by grind),(λd _ e _ _ _ c=>by grind),.inl ⟨rfl,rfl⟩,x,g.r,g.c,g.j,g.k,g.g⟩;have:=g.i.b p;exact this
 grind
 grind
end
end Yv
