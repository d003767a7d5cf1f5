/- A part of the proof of 'TypesZeroUptoCardSaid'. No condition. -/
import Derived.Test.YtakmgamiepdiiaaGreatDoorX02
import Derived.OpenShut
import Derived.LaidSub
import Derived.MakeChecks
import Derived.Deep.Slices
import Derived.Laws.BitsLemmas
import Derived.Laws.BitsAllLaws
import Derived.Laws.Bits64
set_option maxHeartbeats 64000000
set_option maxRecDepth 100000
set_option linter.all false
namespace Yv
variable {P:Go.Program}{T:aM->Option CF}{a op:Int}{c:UInt8}{f:Fr}{i len m n rw tb:Nat}{p s:List UInt8}{w:Go.World}{y:AV}
section
open Go
variable {φ:kf}{h:Hp}{a:Act}{o:Oper}
def an4(G:jq φ P)(b:iq φ f a.tmps)(r:R φ h w){t:TypeId}{x:Operand}{lo hi mx:Option Operand}(p:o.op=.slice t x lo hi mx):Good P φ h w f a o (Gd P t x lo hi mx):=by
 have j:execOp a.eval o=(do pure (.value (<-Instr.sliceAt t (a.eval x) (lo.map a.eval) (hi.map a.eval) (mx.map a.eval)))):=by simp[execOp,p]
 unfold Gd;split;rename_i d;split;exact aE8 G b λl i=>aE8 G b λk hh=>aEz G b λc g=>iO j (afO d g (PM i) (PM hh));exact cy;rename_i n e d;split;rename_i s m;exact aE8 G b λl i=>aE8 G b λk hh=>aEz G b λc g=>iO j (afT r d m g (PM i) (PM hh));exact cy;exact cy
theorem an5(G:jq φ P)(j:iq φ f a.tmps)(r:R φ h w){t:TypeId}{x:Operand}(k:o.op=.range t x):Good P φ h w f a o (eX P (.range t x)):=by
 have i:execOp a.eval o=(do pure (.value (<-Instr.range t (a.eval x)))):=by simp[execOp,k]
 simp[eX];split
 ·rename_i m e d;split
  ·rename_i l b;refine aEz G j λc g=>vf i (agh r d ?_ g);unfold qq at b;split at b<;>first|(cases b;rfl)|skip
   split at b<;>first|(cases b;rfl)|grind
   grind
  exact cy
 exact cy
theorem an6(G:jq φ P)(d:iq φ f a.tmps)(r:R φ h w){x:Operand}(e:o.op=.entry x):Good P φ h w f a o (ap P .B x):=by
 have b:execOp a.eval o=(do pure (.value (<-Instr.entry (a.eval x)))):=by simp[execOp,e]
 refine aEz G d λc g=>iO b ?_;simp[aQ];cases j:c.ac f with
 |a i off=>
  grind [aj,agm]
 |_=>trivial
def an7(G:jq φ P)(b:iq φ f a.tmps){c:Go.Call}(p:o.op=.defer c):Good P φ h w f a o (eX P (.defer c)):=by
 simp[eX];split;rename_i n s;refine aEz G b λi d=>Cc G b λcs l=>?_;unfold Good;simp[aQ,Mt];cases m:i.ac f with
 |q g first cap=>
  rw[m] at d;obtain⟨fs,e,r,j,k⟩:=d;refine⟨{target:=.fn (.func g.n) e,args:=fs++c.args.map a.eval},w,by simp_all[execOp,resolve,Deferred.ofValue],.da w,e,_,_,rfl,rfl,PN j (PN l k),?_⟩;simp
 |_=>trivial
 exact cy
theorem an8(G:jq φ P)(d:iq φ f a.tmps){x:Operand}(g:o.op=.panic x):Good P φ h w f a o (ap P .G x):=by
 refine aEz G d λc b=>?_;unfold Good;simp[aQ,Qd];cases e:c.ac f with
 |r t v=>
  have j:=b;rw[e] at b;obtain⟨y,i,hd⟩:=b;refine⟨a.eval x,w,by simp_all[execOp,Instr.panic],.da w,by grind⟩
 |_=>trivial
theorem an9(P:Program):mS P:=by
 intro φ h w f a o r G l;cases q:o.op with
 |move x=>
  refine aEz G l λc j=>?_;unfold Good;rw[show execOp a.eval o=pure (.value (a.eval x)) by simp[execOp,q]];exact RQ rfl j
 |assign x=>
  refine aEz G l λc j=>?_;unfold Good;rw[show execOp a.eval o=pure (.value (a.eval x)) by simp[execOp,q]];exact RQ rfl j
 |pick c x y=>
  exact aEz G l λcc J=>kA G l λd e hd p=>iO (s:=do pure (if<-asBool (a.eval c) then a.eval x else a.eval y)) qal (afN J hd p)
 |alloc t=>grind [eX,af4]
 |box t x=>
  simp[eX];split;exact aEz G l λc j=>vf (s:=Instr.box t (a.eval x)) qal (afU r j);exact cy
 |build t ps=>grind [eX,afX]
 |buildSlice t n ps=>grind [eX,afZ]
 |load t x=>
  simp[eX,Je];have p:execOp a.eval o=(do pure (.value (<-Instr.loadAt t (a.eval x)))):=by simp[execOp,q]
  split;rename_i d n A B;cases I:oR d with
  |true=>exact aEz G l λc j=>iO p (YC r A I B j)
  |false=>exact aEz G l λc j=>iO p (YB r A I j)
  exact cy
 |store t x y=>
  simp[eX];split;rename_i n A;exact kA G l λc d j hd=>Si (s:=Instr.storeAt t (a.eval x) (a.eval y)) qal (afV r A j hd);exact cy
 |nilCheck x=>grind [eX,aEz,af8]
 |binOp b t x y ty=>grind [eX,ant]
 |unOp u t x=>
  have p:execOp a.eval o=(do pure (.value (<-Op.unary u (a.eval x)))):=by simp[execOp,q]
  cases u with
  |neg=>exact aEz G l λc j=>iO p (afC j)
  |not=>exact aEz G l λc j=>iO p (afD j)
  |xor=>exact aEz G l λc j=>iO p (afE j)
  |plus=>exact cy
 |convert s d x=>grind [eX,anu]
 |makeInterface t x=>
  simp[eX];split;exact cy;rename_i d A B;exact aEz G l λc j=>iO (s:=Instr.makeInterface t (a.eval x)) qal (afJ B (λms e=>A ms e) j);exact cy
 |makeFunc fn x y=>
  cases fn with
  |func g=>
   refine Cc G l λcs L=>Cc G l λds M=>?_;refine iO (s:=Instr.makeFunc (.func g) (x.map a.eval) (y.map a.eval)) qal ?_;have:=af7 (P:=P) (w:=w) (fn:=g) rfl L M;rw[toList_map,toList_map];exact this
  |_=>grind [eX,cy]
 |makeMap t x=>
  cases x with
  |none=>exact vf (s:=Instr.makeMap t none) qal (af6 r)
  |some x=>grind [eX,cy]
 |makeSlice t x y=>
  simp only[eX];split;rename_i e A;split;rename_i i z B C;split;rename_i s F;split;rename_i h5;exact kA G l λc d j hd=>vf (s:=Instr.makeSlice t (a.eval x) (a.eval y)) qal (af5 r A B C F h5 j hd);exact cy;exact cy;exact cy;exact cy
 |slice t x lo hi mx=>simp only[eX];exact an4 G l r q
 |fieldAddr s x k=>
  have p:execOp a.eval o=(do pure (.value (<-Instr.fieldAt s (a.eval x) k))):=by simp[execOp,q]
  simp only[eX,Ja];split;rename_i fs A;split;rename_i K B;split;rename_i n C;exact aEz G l λc j=>iO p (afK A B C j);exact cy;exact cy;exact cy
 |field s x k=>
  have p:execOp a.eval o=(do pure (.value (<-Instr.field s (a.eval x) k))):=by simp[execOp,q]
  simp only[eX,Jb];split;rename_i fs A;split;rename_i K B;split;rename_i n d C F;exact aEz G l λc j=>iO p (afM A B C F j);exact cy;exact cy;exact cy
 |indexAddr t x y=>
  have p:execOp a.eval o=(do pure (.value (<-Instr.indexAt t (a.eval x) (a.eval y)))):=by simp[execOp,q]
  simp only[eX,Jc];split;rename_i e A;split;rename_i s B;exact kA G l λc d j hd=>iO p (afQ A B j hd);exact cy;rename_i n e A;split;rename_i s B;exact kA G l λc d j hd=>iO p (afR A B j hd);exact cy;exact cy
 |index t x y=>
  have p:execOp a.eval o=(do pure (.value (<-Instr.index t (a.eval x) (a.eval y)))):=by simp[execOp,q]
  simp only[eX,Jd];split;rename_i A;exact kA G l λc d j hd=>iO p (afS A j hd);exact cy
 |lookup t x k ok=>
  have p:execOp a.eval o=(do pure (.value (<-Instr.lookup t (a.eval x) (a.eval k) ok))):=by simp[execOp,q]
  simp only[eX];split;rename_i H e A;split;rename_i z E B C;exact kA G l λc d j hd=>iO p (agc r A C B j hd);exact cy;exact cy
 |mapUpdate t m k v=>
  have p:execOp a.eval o=(do Instr.mapUpdate t (a.eval m) (a.eval k) (a.eval v);pure .skip):=by simp[execOp,q]
  simp only[eX];split;rename_i H e A;split;rename_i E B;exact aEz G l λc j=>kA G l λd e hd D=>Si p (Y0 r A B j hd D);exact cy;exact cy
 |insert t m k v=>
  have p:execOp a.eval o=(do Instr.mapUpdate t (a.eval m) (a.eval k) (a.eval v);pure .skip):=by simp[execOp,q]
  simp only[eX];split;rename_i H e A;split;rename_i E B;exact aEz G l λc j=>kA G l λd e hd D=>Si p (Y0 r A B j hd D);exact cy;exact cy
 |mapEntry t m k=>
  have p:execOp a.eval o=(do pure (.value (<-Instr.mapEntry t (a.eval m) (a.eval k)))):=by simp[execOp,q]
  simp only[eX];split;rename_i H e A;split;rename_i z E B C;exact kA G l λc d j hd=>vf p (aD1 r A C B j hd);exact cy;exact cy
 |entryStore t m s v=>
  have p:execOp a.eval o=(do Instr.entryStore t (a.eval m) (a.eval s) (a.eval v);pure .skip):=by simp[execOp,q]
  simp only[eX];exact aEz G l λc j=>kA G l λd e hd D=>Si p (aD3 r j hd D)
 |range t x=>exact an5 G l r q
 |next x s=>simp only[eX];exact anx G l r q
 |entry x=>simp only[eX];exact an6 G l r q
 |typeAssert x N t ok=>
  have p:execOp a.eval o=(do pure (.value (<-Instr.typeAssert (a.eval x) N t ok))):=by simp[execOp,q]
  simp only[eX];split;exact cy;rename_i d A B;split;rename_i z C;exact aEz G l λc j=>iO p (af9 B (λms e=>A ms e) C j);exact cy;exact cy
 |extract x n=>simp only[eX];exact aEz G l λc j=>iO (s:=Instr.extract (a.eval x) n) qal (afI j)
 |call c=>simp only[eX];exact anD G l r q
 |panic x=>simp only[eX];exact an8 G l q
 |defer c=>exact an7 G l q
 |_=>simp only[eX];exact cy
def an'(c:CO):Bool:=match c with|.g=>true|_=>false
def nR(c:CO):Prop:=an' c=false
def xJ{s:String}:nR (.d s):=rfl
theorem L9{c:CO}(h:nR c)(e:c=.g):False:=by subst e;cases h
theorem Dk{F:CX->CO}{x:Operand}(h:∀c,nR (F c)):nR (ap P F x):=by
 unfold ap;split
 grind
 rfl
theorem aey{F:Option CX->CO}{x:Option Operand}(h:∀c,nR (F c)):nR (zh P F x):=by unfold zh;grind [Dk]
theorem FA{F:List CX->CO}{x:List Operand}(h:∀c,nR (F c)):nR (qP P F x):=by
 unfold qP;split
 grind
 rfl
theorem aoa{op:Op}(e:∀c,op≠.call c):nR (eX P op):=by
 have one:∀{F:CX->CO}{x:Operand},(∀c,nR (F c))->nR (ap P F x):=λh=>Dk h;have wX:∀{F:CX->CX->CO}{x y:Operand},(∀c d,nR (F c d))->nR (jm P F x y):=λh=>Dk λc=>Dk λd=>h c d;cases op<;>simp only[eX,Je,Ja,Jb,Jc,Jd,Gd,F8,F9,Ga,Gb,Gc]
 case call c=>grind
 case makeFunc fn x y=>cases fn<;>first|exact xJ|exact FA λ_=>FA λ_=>rfl
 case makeMap t x=>cases x<;>first|exact xJ|rfl
 case unOp u t x=>cases u<;>first|exact xJ|exact one λ_=>rfl
 case binOp b t x y ty=>
  cases b<;>simp only[]<;>(repeat' split)<;>first|exact xJ|exact wX λ_ _=>rfl
 all_goals(repeat' split)
 all_goals first
  |exact xJ
  |exact rfl
  |exact one λ_=>rfl
  |exact wX λ_ _=>rfl
  |exact one λ_=>wX λ_ _=>rfl
  |exact aey λ_=>aey λ_=>one λ_=>rfl
  |exact one λ_=>FA λ_=>rfl
theorem aob(P:Program):Fo P:=by
 intro o h i w
 by_cases d:∃c,o.op=.call c
 ·obtain⟨c,e⟩:=d;rw[e] at h;simp[eX] at h;unfold AQ at h;split at h;exfalso;refine L9 ?_ h;split;split;rfl;split;split;exact FA λ_=>rfl;rfl;exact FA λ_=>rfl;rfl;refine(L9 ?_ h).elim;exact Dk λ_=>FA λ_=>rfl
  grind
  ·rename_i b g;unfold DL at h;split at h
   case h_8=>
    refine⟨w,?_,.da w⟩;simp_all[execOp,resolve,invoke,builtin]
   all_goals
    exfalso;refine L9 ?_ h
    repeat' split
   all_goals first
    |exact xJ
    |exact Dk λ_=>rfl
    |exact Dk λ_=>Dk λ_=>rfl
    |exact FA λ_=>rfl
    |rfl
 grind [L9,aoa]
def aoc{b:aM->Option CF}(T:Ed P b)(c:P.follows .mixedOrders=true):zN P (aE b (W b)):=
 am4 T (an9 P) (aob P) (an3 c)
end
section
open Go
variable {H:Type}{di:TypeId×Value->H}{base:Nat}{f:Nat->Bool}{held:Bool}{c:Nat}{t e:TypeId}{cs:List Value}{p:List MemPlace}
def WZ:Lit->Value
 |.bool b=>.bool b
 |.int k n=>.int k n
 |.float k b=>.float k b
 |.string s=>.string ⟨s.toArray⟩
 |.nil=>.nilIface
theorem aeB{l:Lit}(h:DataW.trod di P w base f held c t cs=some (.lit l,p)):cs=[WZ l]:=by
 cases c with
 |zero=>simp[DataW.trod] at h
 |succ n=>
  unfold DataW.trod at h;split at h<;>first
   |(cases h;rfl)
   |(split at h<;>first|(cases h;rfl)|(cases h;done)|(simp[au',aw4] at h;done))
   |(simp[au',aw4] at h;done)
   |skip
  all_goals(repeat' split at h)<;>simp_all
  all_goals exact h.1 ▸rfl
def P5(P:Program)(t:TypeId)(n:Nat):Bool:=P.cellsOf t==n&&(match P.underlying t with|some (.struct fs)=>fs.size==n&&(fs.toList.zipIdx.all λx=>x.1.offset==x.2 &&P.cellsOf x.1.type==1)|_=>false)
theorem aoe{a:Type}{l:List a}{i:Nat}{x:a}(h:(l.drop i).take 1=[x]):l[i]? =some x:=by
 have:=aui (·[0]?) h
 grind
theorem aof{d:List Lit}{n:Nat}(a:P5 P t n=true)(h:DataW.trod di P w base f held c t cs=some (.agg (d.map .lit),p)):cs=d.map WZ:=by
 unfold P5 at a;simp at a;obtain⟨r,a⟩:=a;split at a;rename_i fs k;simp only[atW,av9] at a;obtain⟨s,g⟩:=a;obtain⟨xs,m,rfl,b,q,l,v⟩:=DataW.trod_struct k h;simp at b;obtain⟨b,_⟩:=b;have j:d.length=n:=by
  have:=aui List.length b
  grind
 refine avs λi=>?_
 by_cases hi:i<n
 have u:=auO.1 g (fs[i],i) qaa
 have o:(d.map DataW.lit:List (DataW H))[i]? =some xs[i].1 :=by grind
 grind [aoe,aeB]
 grind
 grind
theorem aog{n:Nat}{ds:List (DataW H)}(a:P.underlying t=some (.array n e))(h:DataW.trod di P w base f held c t cs=some (.agg ds,p)):
 ds.length=n/\cs.length=P.cellsOf t/\∀(i:Nat) d,ds[i]? =some d->∃m q,DataW.trod di P w base f held m e ((cs.drop (i*P.cellsOf e)).take (P.cellsOf e))=some (d,q):=by
 obtain⟨xs,m,rfl,j,g,b,k⟩:=DataW.trod_array a h
 grind
theorem aeC{a:Addr}{k n:Nat}{l:List Value}(h:w.cells? base (a.add k) n=some l)(s:0<n):
 l.length=n/\(k=0->a.spot=none)/\∃b el d,w.heap[a.block]? =some (.cells b el d)/\∀j,j<n->b[a.off+(k+j)]? =l[j]? /\∃v,l[j]? =some v:=by
 obtain⟨_,r,m⟩:=World.cells?_some h;have g:k=0->a.spot=none:=λo=>by
  have i:(a.add 0).add 0=a:=by rfl
  cases u:a.spot with
  |none=>rfl
  |some q=>
   grind [World.cell?]
 grind [Addr.add,World.cell?]
theorem aeD{ds rest:List (DataW H)}(A:P.underlying t=some (.slice e))(B:0<P.cellsOf e)(h:DataW.trod di P w base (λ_=>true) held c t cs=some (.slice ds rest,p)):
 ∃a,cs=[.slice (some a) ds.length (ds.length+rest.length)]/\(0<ds.length+rest.length->a.spot=none/\∃b el k,w.heap[a.block]? =some (.cells b el k)/\a.off+(ds.length+rest.length)*P.cellsOf e<=b.size/\
  ∀(i:Nat) d,(ds++rest)[i]? =some d->∃l m q,DataW.trod di P w base (λ_=>true) held m e l=some (d,q)/\l.length=P.cellsOf e/\∀(j:Nat) v,l[j]? =some v->b[a.off+(i*P.cellsOf e+j)]? =some v):=by
 rcases Deep.open_slice A h with⟨_,o⟩|⟨a,len,cap,m,n,D,E,rfl,_,F,_,r,o,C⟩
 grind
 simp only[auo] at r;subst r;simp only[avj,DataW.slice.injEq] at o;obtain⟨⟨N,G⟩,_⟩:=o;have L:ds.length=len:=by grind
 have M:rest.length=m- len:=by grind
 have g:ds.length+rest.length=m:=zo;refine⟨a,by grind,λs=>?_⟩;rw[g] at s⊢;obtain⟨c0,h0,_⟩:=C 0 s;rw[awN] at h0;obtain⟨_,u,b,el,k,y,_⟩:=aeC h0 B;have at_:∀i,i<m->∃l q,DataW.trod di P w base (λ_=>true) held n e l=some (D i,q)/\l.length=P.cellsOf e/\∀(j:Nat) v,l[j]? =some v->b[a.off+(i*P.cellsOf e+j)]? =some v:=λi hi=>by grind [aeC]
 refine⟨u rfl,b,el,k,y,?_,λi d hd=>?_⟩;obtain⟨l,q,_,K,z⟩:=at_ (m- 1) zo;have x:=z (P.cellsOf e- 1) _ (atT zo);have I:=(auc.1 x).1;have J:(m- 1)*P.cellsOf e+P.cellsOf e=m*P.cellsOf e:=by rw[<-Nat.succ_mul];grind
 omega;have hi:i<m:=by grind
 grind
theorem aoh{n:String}{g:Nat}{cs:Array Value}(b:P.globalNamed n=some g)(d:w.var? P n=some cs):∃el a,w.heap[g]? =some (.cells cs el a):=by grind [World.var?]
theorem yT{laid:List (String×DataW Unit)}{n:String}{d:DataW Unit}{g:Nat}{t:TypeId}(h:laidMetH P laid w)(i:(laid.filter λx=>x.1 ==n)=[(n,d)]) (hh:d.handleName?.isNone=true) (m:P.globalNamed n=some g) (o:(P.globals[g]?).map (·.type)=some t):
 ∃cs el b c p,w.heap[g]? =some (.cells cs el b)/\DataW.trod (λ_=>()) P w 0 (λ_=>true) false c t cs.toList=some (d,p):=by
 have a:=laidMetH.filter (λx=>x.1 ==n) h;rw[i,MakeChecks.laidMetH_plain _ _ _ qaa] at a;obtain⟨ps,⟨l,t',cs,c,p,q,j,k,r,hd,_⟩,_⟩:=a
 grind [aoh]
end
@[simp] def tZ(a b:Nat):Nat.beq a b=decide (a=b):=by
 by_cases h:a=b
 subst h;simp;rw[Jy h];simp[h]
@[simp] def ny(a b:Nat):Nat.ble a b=decide (a<=b):=by
 by_cases h:a<=b
 rw[awz h];simp[h];have:Nat.ble a b=false:=by cases c:Nat.ble a b with|false=>rfl|true=>exact absurd (au1 c) h
 rw[this];simp[h]
@[simp] def vp(a b:Nat):Nat.add a b=a+b:=(rfl)
@[simp] def S9(a b:Nat):Nat.mul a b=a*b:=(rfl)
def J9(a:Nat):Nat.succ a=a+1:=rfl
@[simp] def wL(a:Nat):Nat.succ a=a+1:=(rfl)
@[simp] def Ee(a b:Nat):Nat.div a b=a/b:=(rfl)
@[simp] def Ef(a b:Nat):Nat.mod a b=a% b:=(rfl)
def NA{a:Type _}(p:Prop)[Decidable p](x y:a):cond (decide p) x y=if p then x else y:=by by_cases h:p<;>simp[h]
attribute [simp] NA
@[simp ↓] def qA{p q:Nat}{v:AV}{f:Fr}:cg p (fO q v f)=if p=q then v else cg p f:=by
 unfold cg fO
 by_cases h:p=q
 subst h;simp;simp[h]
def J':List AV->Nat->AV
 |[],_=>.B
 |x::_,0=>x
 |_::l,n+1=>J' l n
@[simp] def ao3{x l}:J' (x::l) 0=x:=(rfl)
@[simp] def ao4{x l n}:J' (x::l) (n+1)=J' l n:=(rfl)
@[simp ↓] def ao5{p:Nat}{l:List AV}:cg p (nQ l)=J' l p:=by
 unfold cg nQ
 induction l generalizing p with
 |nil=>rfl
 |cons x l a=>cases p with|zero=>rfl|succ p=>simpa using a
@[simp ↓] def ao6{p:Nat}{f:Fr}:CX.ac (.t p) f=cg p f:=(rfl)
@[simp ↓] def ao7{v:AV}{f:Fr}:CX.ac (.k v) f=v:=(rfl)
@[simp ↓] def GX{p:Nat}{v:AV}{f:Fr}:put (some p) v f=fO p v f:=(rfl)
@[simp ↓] def GY{v:AV}{f:Fr}:put none v f=f:=(rfl)
section
variable {A:mj}{kp:aT->Prop}{ds:List Df}{h:Hp}{k:AR}{d:Option Nat}
@[simp ↓] def ao8:qQ A kp [] ds f h=kp (.d f h ds):=(rfl)
@[simp ↓] def ao9{o:CO}{r:List CI}:qQ A kp (⟨d,o,none⟩::r) ds f h=sG A kp ds d f h (aQ o f h) (qQ A kp r):=(rfl)
def rU(v:AV)(b:Bool)(x y:Prop):Prop:=
 match v with
 |.d t=>cond (cond t b (!b)) x y
 |.p _=>y
 |_=>False
@[congr] def ao'{v w:AV}{b:Bool}{x y:Prop}(e:v=w):rU v b x y=rU w b x y:=by rw[e]
@[simp ↓] def apa{t:Bool}{x y:Prop}:rU (.d t) true x y=if t=true then x else y:=by cases t<;>simp[rU]
@[simp ↓] def apb{t:Bool}{x y:Prop}:rU (.d t) false x y=if t=true then y else x:=by cases t<;>simp[rU]
@[simp ↓] def apd{o:CO}{r:List CI}{p:Nat}{b:Bool}:qQ A kp (⟨d,o,some (p,b)⟩::r) ds f h=
 rU (cg p f) b (sG A kp ds d f h (aQ o f h) (qQ A kp r)) (qQ A kp r ds (put d undef f) h):=by
 simp only[qQ,jO,rU];cases cg p f<;>first|rfl|skip
 rename_i t;cases t<;>cases b<;>rfl
@[congr] def ape{r a:OR}(e:r=a):sG A kp ds d f h r k=sG A kp ds d f h a k:=by rw[e]
@[simp ↓] def apf{x:AV}:sG A kp ds d f h (.v x) k=k ds (put d x f) h:=(rfl)
@[simp ↓] def apg{x:AV}{h':Hp}:sG A kp ds d f h (.b x h') k=k ds (put d x f) h':=(rfl)
def NB(kp:aT->Prop)(ds:List Df)(d:Option Nat)(f:Fr)(k:AR)(o:aK):Prop:=
 match o with|.a v h'=>k ds (put d v f) h'|.b v h'=>kp (.c v f h' ds)
@[simp ↓] def aph{v h'}:NB kp ds d f k (.a v h')=k ds (put d v f) h':=(rfl)
@[simp ↓] def api{v h'}:NB kp ds d f k (.b v h')=kp (.c v f h' ds):=(rfl)
@[simp ↓] def apj{g:aM}{a:List AV}:sG A kp ds d f h (.c g a) k=A g a h (NB kp ds d f k):=(rfl)
@[simp ↓] def apl{x:Df}:sG A kp ds d f h (.j x) k=k (x::ds) (put d undef f) h:=(rfl)
@[simp ↓] def apn{r:Fr->Hp->List Df->(aT->Prop)->Prop}{k:aT->Prop}:bF r k (.d f h ds)=r f h ds k:=(rfl)
@[simp ↓] def apo{r:Fr->Hp->List Df->(aT->Prop)->Prop}{k:aT->Prop}:bF r k (.b f h ds)=k (.b f h ds):=(rfl)
@[simp ↓] def apq{r:Fr->Hp->List Df->(aT->Prop)->Prop}{k:aT->Prop}{i}:bF r k (.a i f h ds)=k (.a i f h ds):=(rfl)
@[simp ↓] def apr{r:Fr->Hp->List Df->(aT->Prop)->Prop}{k:aT->Prop}{v}:bF r k (.c v f h ds)=k (.c v f h ds):=(rfl)
@[simp ↓] def aps{i}{k:aT->Prop}:bY i k (.d f h ds)=k (.d f h ds):=(rfl)
@[simp ↓] def apt{i}{k:aT->Prop}:bY i k (.b f h ds)=k (.b f h ds):=(rfl)
@[simp ↓] def apu{i v}{k:aT->Prop}:bY i k (.c v f h ds)=k (.c v f h ds):=(rfl)
@[simp ↓] def apv{r:Fr->Hp->List Df->(aT->Prop)->Prop}{k:aT->Prop}{i}:bF r k (.g i f h ds)=k (.g i f h ds):=(rfl)
@[simp ↓] def Ta{r:fJ}{c n}{k:aT->Prop}:pH r c k n (.b f h ds)=k (.b f h ds):=by cases n<;>rfl
def Eg(r:fJ)(c:CC)(k:aT->Prop)(n l:Nat)(f:Fr)(h:Hp)(ds:List Df)(o:Option CC):Prop:=match o with|some c'=>r c' f h ds (pH r c k n)|none=>k (.g l f h ds)
@[simp ↓] def ZO{r:fJ}{c i}{k:aT->Prop}:pH r c k 8 (.g i f h ds)=Eg r c k 7 i f h ds (xO i c):=(rfl)
@[congr] def apC{r:fJ}{c k n i f h ds}{o o':Option CC}(e:o=o'):Eg r c k n i f h ds o=Eg r c k n i f h ds o':=by rw[e]
@[simp ↓] def ZP{r:fJ}{c c' k n i f h ds}:Eg r c k n i f h ds (some c')=r c' f h ds (pH r c k n):=(rfl)
@[simp ↓] def apE{i j}{k:aT->Prop}:bY i k (.a j f h ds)=if j=i then k (.d f h ds) else k (.a j f h ds):=by simp[bY]
@[simp ↓] def mu{l:List DI}:Mz A kp l ds f h=cE A kp (ku l f) ds l 0 [] f h:=(rfl)
variable {fm:Fr}{hi:Nat}{B:List Pd}{r:List DI}{o:CO}
@[simp ↓] def apF:cE A kp fm ds [] n B f h=kp (.d f h ds):=(rfl)
def dV(x:OR)(k:AV->Prop):Prop:=match x with|.v x=>k x|_=>False
@[congr] def apG{r a:OR}{k}(e:r=a):dV r k=dV a k:=by rw[e]
@[simp ↓] def apH{x k}:dV (.v x) k=k x:=(rfl)
@[simp ↓] def apI:cE A kp fm ds (⟨i,⟨d,o,none⟩,.d,hi⟩::r) n B f h=dV (aQ o f h) λx=>cE A kp fm ds r n B (put d x f) h:=by simp only[cE,jO,dV];cases aQ o f h<;>rfl
@[simp ↓] def apJ:cE A kp fm ds (⟨i,⟨d,o,none⟩,.f,hi⟩::r) n B f h=dV (aQ o f h) λx=>cE A kp fm ds r n (⟨⟨d,o,none⟩,f,x,hi⟩::B) (put d x f) h:=by simp only[cE,jO,dV];cases aQ o f h<;>rfl
@[simp ↓] def Cp:cE A kp fm ds (⟨i,⟨d,o,none⟩,.g,hi⟩::r) n B f h=tO A kp fm ds d f h (aQ o f h) λc h'=>qR B (n+1) h' λa=>cE A kp fm ds r (n+1) a c h':=(rfl)
@[simp ↓] def apK{p b}:cE A kp fm ds (⟨i,⟨d,o,some (p,b)⟩,.d,hi⟩::r) n B f h=rU (cg p f) b (dV (aQ o f h) λx=>cE A kp fm ds r n B (put d x f) h) (cE A kp fm ds r n B (put d undef f) h):=by
 simp only[cE,jO,rU,dV];cases cg p f<;>first|rfl|skip
 rename_i t;cases t<;>cases b<;>first|rfl|(cases aQ o f h<;>rfl)
@[simp ↓] def ya{p b}:cE A kp fm ds (⟨i,⟨d,o,some (p,b)⟩,.f,hi⟩::r) n B f h=rU (cg p f) b (dV (aQ o f h) λx=>cE A kp fm ds r n (⟨⟨d,o,some (p,b)⟩,f,x,hi⟩::B) (put d x f) h) (cE A kp fm ds r n B (put d undef f) h):=by
 simp only[cE,jO,rU,dV];cases cg p f<;>first|rfl|skip
 rename_i t;cases t<;>cases b<;>first|rfl|(cases aQ o f h<;>rfl)
@[simp ↓] def Ka{p b}:cE A kp fm ds (⟨i,⟨d,o,some (p,b)⟩,.g,hi⟩::r) n B f h=rU (cg p f) b (tO A kp fm ds d f h (aQ o f h) λc h'=>qR B (n+1) h' λa=>cE A kp fm ds r (n+1) a c h') (cE A kp fm ds r (n+1) (aEJ (n+1) B) (put d undef f) h):=by
 simp only[cE,jO,rU];cases cg p f<;>first|rfl|skip
 rename_i t;cases t<;>cases b<;>rfl
def zP(x:OR)(k:AV->Hp->Prop):Prop:=match x with|.b x h=>k x h|_=>False
@[congr] def apM{r a:OR}{k}(e:r=a):zP r k=zP a k:=by rw[e]
@[simp ↓] def apN{x h k}:zP (.b x h) k=k x h:=(rfl)
@[simp ↓] def apP{g}:cE A kp fm ds (⟨i,⟨d,o,g⟩,.b,hi⟩::r) n B f h=zP (aQ o f h) λx h'=>qR B (n+1) h' λa=>cE A kp fm ds r (n+1) a (put d x f) h':=by simp only[cE,zP];cases aQ o f h<;>rfl
@[simp ↓] def apQ{g}:cE A kp fm ds (⟨i,⟨d,o,g⟩,.a,hi⟩::r) n B f h=zP (aQ o f h) λ_ h'=>qR B (n+1) h' λa=>cE A kp fm ds r (n+1) a f h':=by simp only[cE,zP];cases aQ o f h<;>rfl
def dF(a b:Option Nat)(x:OR)(k:Hp->Prop):Prop:=match a,b with|some i,some j=>if i=j then False else zP x λ_=>k|_,_=>False
@[congr] def apR{a c b g:Option Nat}{x l:OR}{k:Hp->Prop}(e:a=c)(m:b=g)(p:x=l):dF a b x k=dF c g l k:=by rw[e,m,p]
@[simp ↓] def apS{i j x k}:dF (some i) (some j) x k=if i=j then False else zP x λ_=>k:=(rfl)
@[simp ↓] def apT{g e}:cE A kp fm ds (⟨i,⟨d,o,g⟩,.c,hi⟩::e::r) n B f h=dF (sF o f) (sF e.c.c f) (aQ o f h) λh'=>cE A kp fm ds (e::r) n B f h':=by
 simp only[cE,dF];cases sF o f<;>first|rfl|skip
 cases sF e.c.c f<;>first|rfl|skip
 simp only[tZ,NA,zP];split;rfl;cases aQ o f h<;>rfl
@[simp] def apU{m:Nat}{a v:CX}:sF (.st m a v) f=match a.ac f with|.a i _=>some i|_=>none:=(rfl)
variable {kd:Fr->Hp->Prop}
@[congr] def apV{r a:OR}(e:r=a):tO A kp fm ds d f h r kd=tO A kp fm ds d f h a kd:=by rw[e]
@[simp ↓] def apW{x:AV}:tO A kp fm ds d f h (.v x) kd=kd (put d x f) h:=(rfl)
@[simp ↓] def apX{x:AV}{h'}:tO A kp fm ds d f h (.b x h') kd=kd (put d x f) h':=(rfl)
def NC(kp:aT->Prop)(fm:Fr)(ds:List Df)(d:Option Nat)(f:Fr)(k:Fr->Hp->Prop)(o:aK):Prop:=
 match o with|.a v h'=>k (put d v f) h'|.b v h'=>kp (.c v fm h' ds)
@[simp ↓] def apY{v h'}:NC kp fm ds d f kd (.a v h')=kd (put d v f) h':=(rfl)
@[simp ↓] def apZ{v h'}:NC kp fm ds d f kd (.b v h')=kp (.c v fm h' ds):=(rfl)
@[simp ↓] def ZQ{g:aM}{a:List AV}:tO A kp fm ds d f h (.c g a) kd=A g a h (NC kp fm ds d f kd):=(rfl)
@[simp ↓] def ap0{m:Nat}{k:List Pd->Prop}:qR [] m h k=k []:=(rfl)
@[simp ↓] def ap1{m:Nat}{p:Pd}{k:List Pd->Prop}:qR (p::B) m h k=if m<=p.a then(Gf h p=true/\qR B m h λl=>k (p::l)) else qR B m h k:=by
 simp only[qR,aEJ,ny,NA]
 by_cases c:m<=p.a
 simp only[c,auo,AS];cases Gf h p<;>simp[jX.lL];simp only[c,auM]
end
@[simp] def ap3{m}:aEJ m []=[]:=(rfl)
def ZR:∀b,Jf b b=true:=by intro b;cases b<;>rfl
def ND(a:Int):mJ a a=true:=by cases a<;>simp[mJ]
def ag1(k):qh k k=true:=by cases k<;>rfl
mutual
theorem Eh:∀x:AV,fP x x=true
 |.B=>rfl|.d b=>ZR b|.i n=>ND n|.s n=>by simp[fP]|.g k n=>by simp[fP,ag1,ND]|.u k b=>by cases k<;>simp[fP,uP]
 |.A a b=>by simp[fP]|.a i o=>by simp[fP]|.w=>rfl|.c i o r l c e=>by simp[fP,ZR]|.o=>rfl|.h i=>by simp[fP]|.y=>rfl
 |.q f a b=>by simp[fP,Kb a,Kb b]|.C=>rfl|.r t v=>by simp[fP,Eh v]|.x=>rfl|.j l=>by simp[fP,Kb l]|.p l=>by simp[fP,Kb l]
 |.D=>rfl|.F a=>ND a|.G a=>ND a
theorem Kb:∀l:List AV,zj l l=true
 |[]=>rfl
 |x::l=>by simp[zj,Eh x,Kb l]
end
attribute [simp] Eh
@[simp] def ap5{h:Hp}{c:CI}{f:Fr}{x:AV}{m:Nat}:(Gf h ⟨c,f,x,m⟩=true)=(match aQ c.c f h with|.v y=>fP y x=true|_=>False):=by simp only[Gf];cases aQ c.c f h<;>simp
@[simp] def ap6{b}:bQ (.d b)=some [.d b]:=(rfl)
@[simp] def ap7{n}:bQ (.i n)=some [.i n]:=(rfl)
@[simp] def ap8{n}:bQ (.s n)=some [.s n]:=(rfl)
@[simp] def ap9{k n}:bQ (.g k n)=some [.g k n]:=(rfl)
@[simp] def aqa{i o}:bQ (.a i o)=some [.a i o]:=(rfl)
@[simp] def aqc{i o r l c e}:bQ (.c i o r l c e)=some [.c i o r l c e]:=(rfl)
@[simp] def aqd:bQ .o=some [.o]:=(rfl)
@[simp] def aqe{i}:bQ (.h i)=some [.h i]:=(rfl)
@[simp] def aqg{f a b}:bQ (.q f a b)=some [.q f a b]:=(rfl)
@[simp] def aqi{t v}:bQ (.r t v)=some [.r t v]:=(rfl)
@[simp] def aqk{l}:bQ (.j l)=some l:=(rfl)
@[simp] theorem Hp.io{h:Hp}{j:Nat}{o:AO}(c:j<h.a):(h.am o).ac j=h.ac j:=by rw[Hp.pi,atS (Nat.ne_of_lt c)]
@[simp] theorem Hp.ba{h:Hp}{j:Nat}{o:AO}(c:j=h.a):(h.am o).ac j=o:=by rw[Hp.pi,atV c]
@[simp] theorem Hp.du{h:Hp}{i j:Nat}{o:AO}(c:j≠i):(h.bj i o).ac j=h.ac j:=by rw[Hp.ma,atS c]
@[simp] def Hp.dq{h:Hp}{i j:Nat}{o:AO}(c:j=i):(h.bj i o).ac j=o:=by rw[Hp.ma,atV c]
theorem Hp.ii{h:Hp}{i:Nat}{o:AO}:(h.bj i o).a=max h.a (i+1):=rfl
@[simp] theorem Hp.dC{h:Hp}{o:AO}:(h.am o).a=h.a+1:=(rfl)
def Hp.lt{h:Hp}{i:Nat}{o:AO}(e:h.ac i=o)(n:jN o=false):i<h.a:=Hp.Id (by rw[e];exact n)
structure ah(M:Nat->Prop)(h h':Hp):Prop where
 g:h.a<=h'.a
 f:∀i,i<h.a->¬M i->h'.ac i=h.ac i
abbrev ax:=ah λ_=>False
theorem ah.da{M:Nat->Prop}(h:Hp):ah M h h:=⟨at2 _,λ_ _ _=>rfl⟩
def ah.ab{M:Nat->Prop}{a b c:Hp}(x:ah M a b)(y:ah M b c):ah M a c:=⟨at1 x.g y.g,λi hi e=>(y.f i (aur hi x.g) e).trans (x.f i hi e)⟩
def ah.aw{M N:Nat->Prop}{a b:Hp}(x:ah M a b)(le:∀i,i<a.a->M i->N i):ah N a b:=⟨x.g,λi hi e=>x.f i hi λc=>e (le i hi c)⟩
def ah.ka{N:Nat->Prop}{a b:Hp}(x:ax a b):ah N a b:=x.aw λ_ _=>False.elim
theorem ah.am{M:Nat->Prop}{a b:Hp}(x:ah M a b)(o:AO):ah M a (b.am o):=⟨awv x.g,λi hi c=>(Hp.io (aur hi x.g)).trans (x.f i hi c)⟩
theorem ah.bj{M:Nat->Prop}{a b:Hp}(x:ah M a b){i:Nat}(o:AO)(hi:a.a<=i\/M i):ah M a (b.bj i o):=by refine⟨at1 x.g (by unfold Hp.bj;simp only;omega),λj e c=>(Hp.du ?_).trans (x.f j e c)⟩;rintro rfl;rcases hi with hi|hi;omega;exact c hi
section
def Kc(v:AV)(x y:Prop):Prop:=match v with|.d t=>cond t x y|_=>False
def ag2{x a b f h ds k}:W T (.i x a b) f h ds k=Kc (x.ac f) (W T a f h ds k) (W T b f h ds k):=ae6
@[congr] def aql{v w:AV}{x y:Prop}(e:v=w):Kc v x y=Kc w x y:=by rw[e]
@[simp ↓] def aqm{t:Bool}{x y:Prop}:Kc (.d t) x y=if t=true then x else y:=by cases t<;>simp[Kc]
@[congr] def aqn{c f h ds k}:W T c f h ds k=W T c f h ds k:=(rfl)
@[congr] def aqo{X:fJ}{g a c h k}(e:a=c):aE T X g a h k=aE T X g c h k:=by rw[e]
attribute [simp ↓] Qq ae1 lI Gi ae2 ae3 ae4 Xg Qr ae5 ag2
def aEr{n:Nat}{b:Bool}{c:CC}{rs:List CR}{args h k}(a:T ⟨n⟩=some ⟨n,b,c,rs⟩):aE T (W T) ⟨n⟩ args h k=W T c (nQ args) h [] (finish T (W T) rs k):=by unfold aE;simp[a]
variable {X:fJ}{rs:List CR}{C:aK->Prop}{h:Hp}
@[simp ↓] def aqp:finish T X rs C (.d f h [])=wz h f rs C:=(rfl)
@[simp ↓] def aqq:finish T X rs C (.b f h [])=wz h f rs C:=(rfl)
@[simp ↓] def aqr{v}:finish T X rs C (.c v f h [])=C (.b v h):=(rfl)
end
attribute [simp] wz DN Jh
@[simp] theorem dZ{t:N3 (List AV)}{k j:Nat}{r:List AV}:cx t k r j=if j=k then r else t j:=by unfold cx;simp
attribute [simp] FZ wg qm
def ua(x y:AV):OR:=mc (λo=>Nat.beq o 0) x y
def vq(x y:AV):OR:=mc (λo=>Nat.ble o 1) x y
def uc(x y:AV):OR:=mc (λo=>Nat.beq o 2) x y
def vt(x y:AV):OR:=mc (λo=>Nat.ble 1 o) x y
@[simp ↓] def aqs{f:Fr}{h:Hp}{x}:aQ (.mv x) f h=.v (x.ac f):=(rfl)
@[simp ↓] def aqt{f:Fr}{h:Hp}{c a b}:aQ (.P c a b) f h=IW (c.ac f) (a.ac f) (b.ac f):=(rfl)
@[simp ↓] def aqu{f:Fr}{h:Hp}{el l}:aQ (.o el l) f h=alloc h (.a el l) λi=>.a i 0:=(rfl)
@[simp ↓] def aqv{f:Fr}{h:Hp}{el rw vh rs}:aQ (.h el rw vh rs) f h=alloc h (jJ el rw vh rs) λi=>.a i 0:=(rfl)
@[simp ↓] def aqw{f:Fr}{h:Hp}{el n x}:aQ (.box el n x) f h=IX h el n (x.ac f):=(rfl)
@[simp ↓] def aqx{f:Fr}{h:Hp}{z ps}:aQ (.A z ps) f h=FY (λq=>q.ac f) z ps:=(rfl)
@[simp ↓] def aqy{f:Fr}{h:Hp}{el rw len z ps}:aQ (.w el rw len z ps) f h=FZ (λq=>q.ac f) h el rw len z ps:=(rfl)
@[simp ↓] def aqz{f:Fr}{h:Hp}{x}:aQ (.yV x) f h=Dw h (x.ac f):=(rfl)
@[simp ↓] def aqA{f:Fr}{h:Hp}{n x}:aQ (.FE n x) f h=Dx h n (x.ac f):=(rfl)
@[simp ↓] def aqB{f:Fr}{h:Hp}{n a v}:aQ (.st n a v) f h=FP h n (a.ac f) (v.ac f):=(rfl)
@[simp ↓] def aqC{f:Fr}{h:Hp}{x}:aQ (.L x) f h=Mq (x.ac f):=(rfl)
@[simp ↓] def aqD{f:Fr}{h:Hp}{x y}:aQ (.add x y) f h=lG (x.ac f) (y.ac f):=(rfl)
@[simp ↓] def aqE{f:Fr}{h:Hp}{x y}:aQ (.sub x y) f h=jb (x.ac f) (y.ac f):=(rfl)
@[simp ↓] def aqF{f:Fr}{h:Hp}{x y}:aQ (.mul x y) f h=qj (x.ac f) (y.ac f):=(rfl)
@[simp ↓] def aqG{f:Fr}{h:Hp}{x y}:aQ (.quo x y) f h=we (x.ac f) (y.ac f):=(rfl)
@[simp ↓] def aqH{f:Fr}{h:Hp}{x y}:aQ (.rem x y) f h=AH (x.ac f) (y.ac f):=(rfl)
@[simp ↓] def aqI{f:Fr}{h:Hp}{x y}:aQ (.and x y) f h=jI (λ_ a b=>a&&&b) (x.ac f) (y.ac f):=(rfl)
@[simp ↓] def aqJ{f:Fr}{h:Hp}{x y}:aQ (.or x y) f h=jI (λ_ a b=>a|||b) (x.ac f) (y.ac f):=(rfl)
@[simp ↓] def aqK{f:Fr}{h:Hp}{x y}:aQ (.xor x y) f h=jI (λ_ a b=>a^^^b) (x.ac f) (y.ac f):=(rfl)
@[simp ↓] def aqL{f:Fr}{h:Hp}{x y}:aQ (.q x y) f h=jI (λ_ a b=>a&&&~~~b) (x.ac f) (y.ac f):=(rfl)
@[simp ↓] def aqM{f:Fr}{h:Hp}{x y}:aQ (.shl x y) f h=oQ pF (x.ac f) (y.ac f):=(rfl)
@[simp ↓] def aqN{f:Fr}{h:Hp}{x y}:aQ (.shr x y) f h=sC (x.ac f) (y.ac f):=(rfl)
@[simp ↓] def aqO{f:Fr}{h:Hp}{k x y}:aQ (.eql k x y) f h=Dv k (x.ac f) (y.ac f):=(rfl)
@[simp ↓] def aqP{f:Fr}{h:Hp}{k x y}:aQ (.neq k x y) f h=Mo k (x.ac f) (y.ac f):=(rfl)
@[simp ↓] def aqQ{f:Fr}{h:Hp}{x y}:aQ (.lss x y) f h=ua (x.ac f) (y.ac f):=(rfl)
@[simp ↓] def aqR{f:Fr}{h:Hp}{x y}:aQ (.leq x y) f h=vq (x.ac f) (y.ac f):=(rfl)
@[simp ↓] def aqS{f:Fr}{h:Hp}{x y}:aQ (.gtr x y) f h=uc (x.ac f) (y.ac f):=(rfl)
@[simp ↓] def aqT{f:Fr}{h:Hp}{x y}:aQ (.geq x y) f h=vt (x.ac f) (y.ac f):=(rfl)
@[simp ↓] def aqU{f:Fr}{h:Hp}{x}:aQ (.neg x) f h=uR (x.ac f):=(rfl)
@[simp ↓] def aqV{f:Fr}{h:Hp}{x}:aQ (.not x) f h=IY (x.ac f):=(rfl)
@[simp ↓] def aqW{f:Fr}{h:Hp}{x}:aQ (.Iy x) f h=BY (x.ac f):=(rfl)
@[simp ↓] def aqX{f:Fr}{h:Hp}{k x}:aQ (.K k x) f h=ko k (x.ac f):=(rfl)
@[simp ↓] def aqY{f:Fr}{h:Hp}{k x}:aQ (.Iz k x) f h=IZ k (x.ac f):=(rfl)
@[simp ↓] def aq0{f:Fr}{h:Hp}{el x}:aQ (.Mg el x) f h=BX h el (x.ac f):=(rfl)
@[simp ↓] def aq1{f:Fr}{h:Hp}{t x}:aQ (.IB t x) f h=.v (.r t (x.ac f)):=(rfl)
@[simp ↓] def aq2{f:Fr}{h:Hp}{fn a b}:aQ (.FG fn a b) f h=.v (.q fn (jc (λq=>q.ac f) a) (jc (λq=>q.ac f) b)):=(rfl)
@[simp ↓] def aq3{f:Fr}{h:Hp}:aQ (.N) f h=alloc h (.d [] 0) λi=>.h i:=(rfl)
@[simp ↓] def aq4{f:Fr}{h:Hp}{el rw AM z l c}:aQ (.Y el rw AM z l c) f h=DB h el rw AM z (l.ac f) (c.ac f):=(rfl)
@[simp ↓] def aq5{f:Fr}{h:Hp}{x lo hi}:aQ (.I x lo hi) f h=wh (x.ac f) (uS (λq=>q.ac f) lo) (uS (λq=>q.ac f) hi):=(rfl)
@[simp ↓] def aq6{f:Fr}{h:Hp}{rw n x lo hi}:aQ (.H rw n x lo hi) f h=FQ h rw n (x.ac f) (uS (λq=>q.ac f) lo) (uS (λq=>q.ac f) hi):=(rfl)
@[simp ↓] def aq7{f:Fr}{h:Hp}{x off}:aQ (.fa x off) f h=I0 (x.ac f) off:=(rfl)
@[simp ↓] def aq8{f:Fr}{h:Hp}{x off n agg}:aQ (.ID x off n agg) f h=IQ (x.ac f) off n agg:=(rfl)
@[simp ↓] def aq9{f:Fr}{h:Hp}{rw x i}:aQ (.ia rw x i) f h=Dy rw (x.ac f) (i.ac f):=(rfl)
@[simp ↓] def aq'{f:Fr}{h:Hp}{rw n x i}:aQ (.F rw n x i) f h=yY rw n (x.ac f) (i.ac f):=(rfl)
@[simp ↓] def ara{f:Fr}{h:Hp}{x i}:aQ (.Q x i) f h=nh (x.ac f) (i.ac f):=(rfl)
@[simp ↓] def arb{f:Fr}{h:Hp}{a z x k ok}:aQ (.jV a z x k ok) f h=aEx a h z (x.ac f) (k.ac f) ok:=(rfl)
@[simp ↓] def arc{f:Fr}{h:Hp}{a m k v}:aQ (.O a m k v) f h=wk a h (m.ac f) (k.ac f) (v.ac f):=(rfl)
@[simp ↓] def aD4{f:Fr}{h:Hp}{a z m k}:aQ (.X a z m k) f h=ays a h z (m.ac f) (k.ac f):=(rfl)
@[simp ↓] def aD5{f:Fr}{h:Hp}{m s v}:aQ (.C m s v) f h=ayt h (m.ac f) (s.ac f) (v.ac f):=(rfl)
@[simp ↓] def ard{f:Fr}{h:Hp}{a x}:aQ (.Mj a x) f h=FT a h (x.ac f):=(rfl)
@[simp ↓] def are{f:Fr}{h:Hp}{x s}:aQ (.IF x s) f h=BV h (x.ac f) s:=(rfl)
@[simp ↓] def arf{f:Fr}{h:Hp}{x}:aQ (.B x) f h=FU h (x.ac f):=(rfl)
@[simp ↓] def arh{f:Fr}{h:Hp}{t z x ok}:aQ (.IG t z x ok) f h=IU t z (x.ac f) ok:=(rfl)
@[simp ↓] def ari{f:Fr}{h:Hp}{x i}:aQ (.ext x i) f h=IV (x.ac f) i:=(rfl)
@[simp ↓] def ZS{f:Fr}{h:Hp}{fn args}:aQ (.j fn args) f h=.c fn (jc (λq=>q.ac f) args):=(rfl)
@[simp ↓] def arj{f:Fr}{h:Hp}{fn args}:aQ (.D fn args) f h=Ms (fn.ac f) (jc (λq=>q.ac f) args):=(rfl)
@[simp ↓] def ark{f:Fr}{h:Hp}{el rw AM x y}:aQ (.r el rw AM x y) f h=kJ h el rw AM (x.ac f) (y.ac f):=(rfl)
@[simp ↓] def arl{f:Fr}{h:Hp}{k x}:aQ (.T k x) f h=tL k h (x.ac f):=(rfl)
@[simp ↓] def arn{f:Fr}{h:Hp}{rw x y}:aQ (.U rw x y) f h=FV h rw (x.ac f) (y.ac f):=(rfl)
@[simp ↓] def aro{f:Fr}{h:Hp}{l}:aQ (.min l) f h=(match jc (λq=>q.ac f) l with|[]=>.a "min"|x::r=>wq true x r):=(rfl)
@[simp ↓] def arp{f:Fr}{h:Hp}{l}:aQ (.max l) f h=(match jc (λq=>q.ac f) l with|[]=>.a "max"|x::r=>wq false x r):=(rfl)
@[simp ↓] def arq{f:Fr}{h:Hp}{x}:aQ (.II x) f h=FX (x.ac f):=(rfl)
@[simp ↓] def ars{f:Fr}{h:Hp}{u n x}:aQ (.M u n x) f h=Dz h u n (x.ac f):=(rfl)
@[simp ↓] def art{f:Fr}{h:Hp}{e l}:aQ (.J e l) f h=qo e (jc (λq=>q.ac f) l):=(rfl)
@[simp ↓] def aru{f:Fr}{h:Hp}{u p n}:aQ (.Z u p n) f h=AL h u (p.ac f) (n.ac f):=(rfl)
@[simp ↓] def arw{f:Fr}{h:Hp}{fn args}:aQ (.IJ fn args) f h=Mt (fn.ac f) (jc (λq=>q.ac f) args):=(rfl)
@[simp ↓] def arx{f:Fr}{h:Hp}{x}:aQ (.G x) f h=Qd (x.ac f):=(rfl)
attribute [simp] alloc Hp.jp gK aEC nth uS jc gk fF BQ mK
section
variable {h:Hp}{o:Nat}{x v w:AV}
def ZT(o:Option (List AV)):OR:=match o with|some (v::_)=>.v v|_=>.a "load"
def ZU(o:Option (List AV)):OR:=match o with|some l=>.v (.j l)|none=>.a "load n"
@[simp] def arz{v:AV}{l:List AV}:ZT (some (v::l))=.v v:=(rfl)
@[simp] def arA{l:List AV}:ZU (some l)=.v (.j l):=(rfl)
@[simp] def arB:Dw h (.a i o)=ZT (cellsOf (h.ac i) o 1):=(rfl)
@[simp] def arC:Dx h n (.a i o)=ZU (cellsOf (h.ac i) o n):=(rfl)
@[simp] def arD:FP h n (.a i o) v=(match bQ v with
 |some l=>cond (Nat.beq (gk l) n) (match setCells (h.ac i) o l with|some a=>.b undef (h.bj i a)|none=>.a "store") (.a "store: size")
 |none=>.a "store: cells"):=(rfl)
@[simp] def arE{el l}:cellsOf (.a el l) o n=gK n (aEC o l):=(rfl)
@[simp] def arF{el r l}:setCells (.a el r) o l=match mK o l r with|some a=>some (.a el a)|none=>none:=(rfl)
@[simp] def arG{fn first a args}:Ms (.q fn first a) args=.c fn (fF first (fF args a)):=(rfl)
attribute [simp] Mq I0 IQ IP IV y7 IY IW IX AI FY mM BP
end
section
variable {vh fz el k j off r cap:Nat}{t:N3 (List AV)}{b:Nat}{ex:Bool}
@[simp] def Kd(g:k<vh)(e:j+n<=rw)(l:0<n):cellsOf (.b el rw vh fz t) (k*rw+j) n=gK n (aEC j (t k)):=by
 have a:(k*rw+j)/rw=k:=by rw[auB,axa qax,avY qax,aud]
 have c:(k*rw+j)% rw=j:=by rw[auB,awG,avy qax]
 simp only[cellsOf,Ee,Ef,vp,wL,ny,a,c];have:(decide (j+n<=rw)&&decide (k+1<=vh))=true:=by simp;omega
 rw[this];rfl
@[simp] def ZV(c:k<vh)(a:n<=rw)(e:0<n):cellsOf (.b el rw vh fz t) (k*rw) n=gK n (t k):=by have:=Kd (el:=el) (fz:=fz) (t:=t) (j:=0) c (by rw[aue];exact a) e;simpa using this
@[simp] def arH(a:k<vh):cellsOf (.b el 1 vh fz t) k 1=gK 1 (t k):=by have:=ZV (rw:=1) (el:=el) (fz:=fz) (t:=t) a (at2 1) qax;simpa using this
@[simp] def ZW{l:List AV}(p:k<vh)(m:j+gk l<=rw)(q:0<gk l)(g:fz<=k*rw+j):setCells (.b el rw vh fz t) (k*rw+j) l=
 match mK j l (t k) with|some e=>some (.b el rw vh fz (cx t k e))|none=>none:=by
 have a:(k*rw+j)/rw=k:=by rw[auB,axa qax,avY qax,aud]
 have c:(k*rw+j)% rw=j:=by rw[auB,awG,avy qax]
 simp only[setCells,Ee,Ef,vp,wL,ny,a,c,dY];have:(decide (j+gk l<=rw)&&decide (k+1<=vh)&&decide (fz<=k*rw+j))=true:=by simp;omega
 rw[this];rfl
@[simp] def ag3{l:List AV}(a:k<vh)(m:gk l<=rw)(c:0<gk l)(g:fz<=k*rw):setCells (.b el rw vh fz t) (k*rw) l=
 match mK 0 l (t k) with|some e=>some (.b el rw vh fz (cx t k e))|none=>none:=by
 have:=ZW (rw:=rw) (el:=el) (fz:=fz) (t:=t) (j:=0) (l:=l) a qax c qax;simpa using this
@[simp] def arI{l:List AV}(c:0<vh)(a:gk l<=rw)(e:0<gk l)(m:fz=0):setCells (.b el rw vh fz t) 0 l=
 match mK 0 l (t 0) with|some g=>some (.b el rw vh fz (cx t 0 g))|none=>none:=by
 have:=ag3 (rw:=rw) (el:=el) (fz:=fz) (t:=t) (k:=0) (l:=l) c a e qax;simpa using this
@[simp] def arK(c:0<vh)(a:j+n<=rw)(e:0<n):cellsOf (.b el rw vh fz t) j n=gK n (aEC j (t 0)):=by have:=Kd (el:=el) (fz:=fz) (t:=t) (k:=0) c a e;simpa using this
@[simp] def ag4{v:AV}(c:k<vh)(a:fz<=k):setCells (.b el 1 vh fz t) k [v]=
 match mK 0 [v] (t k) with|some e=>some (.b el 1 vh fz (cx t k e))|none=>none:=by
 have:=ZW (rw:=1) (el:=el) (fz:=fz) (t:=t) (j:=0) (l:=[v]) c (by simp) (by simp) (by simpa using a);simpa using this
@[simp] def arL{a:Int}(h0:0<=a)(c:a.toNat<len):Dy rw (.c b off r len cap ex) (.i a)=.v (.a b (off+a.toNat*rw)):=by obtain⟨n,rfl⟩:=at6 h0;have c:n+1<=len:=c;simp only[Dy,mM,BP,wL,ny,S9,vp];simp[c]
end
def zq{p:Prop}(h:p:=by simp only[Hp.eE,Hp.iy];omega):p:=h
def bh{p:Prop}(h:p:=by first|omega|(simp only[Hp.dC,Hp.ii];done)|(simp only[Hp.dC,Hp.ii,gk,J9];omega)):p:=h
def zA{p:Prop}(h:p:=by first|assumption|(simp(maxSteps:=400000) (disch:=first|exact bh|fail)<;>assumption)):p:=h
def zy{a p:Prop}(h:a->p:=by intro x;simp(maxSteps:=400000) (disch:=first|exact bh|fail) [x]):a->p:=h
def zz{a q p:Prop}(h:a->q->p:=by intro x y;simp(maxSteps:=400000) (disch:=first|exact bh|fail) [x];exact y):a->q->p:=h
def zx{a p:Prop}(h:a->p:=by intro x;exact⟨by(try simp only[Hp.dC,Hp.ii]);omega,λi hi c=>by simp(maxSteps:=400000) (disch:=first|exact bh|fail) [x,hi,c]⟩):a->p:=h
def aa{p:Prop}(e:p:=by simp(maxSteps:=400000) (disch:=first|exact bh|fail)):p:=e
def ag{p q:Prop}(y:q)(e:q->p:=by intro y;simp(maxSteps:=400000) (disch:=first|exact bh|fail);exact y):p:=e y
def au{a p:Prop}(x0:a)(e:a->p:=by intro x0;simp(maxSteps:=400000) (disch:=first|exact bh|fail) [x0]):p:=e x0
def aB{a p q:Prop}(x0:a)(y:q)(e:a->q->p:=by intro x0 y;simp(maxSteps:=400000) (disch:=first|exact bh|fail) [x0];exact y):p:=e x0 y
def iQ{a p:Prop}(x0:a)(e:a->p:=by intro x0;exact⟨by(try simp only[Hp.dC,Hp.ii]);omega,λi hi c=>by simp(maxSteps:=400000) (disch:=first|exact bh|fail) [x0,hi,c]⟩):p:=e x0
def bV{a c p:Prop}(x0:a)(g:c)(e:a/\c->p:=by exact zy):p:=e ⟨x0,g⟩
def aS{a c p q:Prop}(x0:a)(g:c)(y:q)(e:a/\c->q->p:=by exact zz):p:=e ⟨x0,g⟩ y
def eF{a c p:Prop}(x0:a)(g:c)(e:a/\c->p:=by exact zx):p:=e ⟨x0,g⟩
def cX{a c g p:Prop}(x0:a)(l:c)(m:g)(e:a/\c/\g->p:=by exact zy):p:=e ⟨x0,l,m⟩
def aU{a c g p q:Prop}(x0:a)(l:c)(m:g)(y:q)(e:a/\c/\g->q->p:=by exact zz):p:=e ⟨x0,l,m⟩ y
def fH{a c g p:Prop}(x0:a)(l:c)(m:g)(e:a/\c/\g->p:=by exact zx):p:=e ⟨x0,l,m⟩
def mw{a c g l p:Prop}(x0:a)(m:c)(q:g)(s:l)(e:a/\c/\g/\l->p:=by exact zy):p:=e ⟨x0,m,q,s⟩
def bK{a c g l p q:Prop}(x0:a)(m:c)(s:g)(u:l)(y:q)(e:a/\c/\g/\l->q->p:=by exact zz):p:=e ⟨x0,m,s,u⟩ y
def qB{a c g l p:Prop}(x0:a)(m:c)(q:g)(s:l)(e:a/\c/\g/\l->p:=by exact zx):p:=e ⟨x0,m,q,s⟩
def zg5{a c g l m p:Prop}(x0:a)(q:c)(s:g)(u:l)(z:m)(e:a/\c/\g/\l/\m->p:=by exact zy):p:=e ⟨x0,q,s,u,z⟩
def cC{a c g l m p q:Prop}(x0:a)(s:c)(u:g)(z:l)(D:m)(y:q)(e:a/\c/\g/\l/\m->q->p:=by exact zz):p:=e ⟨x0,s,u,z,D⟩ y
def Ei{a c g l m p:Prop}(x0:a)(q:c)(s:g)(u:l)(z:m)(e:a/\c/\g/\l/\m->p:=by exact zx):p:=e ⟨x0,q,s,u,z⟩
def cq{a c g l m s p q:Prop}(x0:a)(u:c)(z:g)(D:l)(E:m)(F:s)(y:q)(e:a/\c/\g/\l/\m/\s->q->p:=by exact zz):p:=e ⟨x0,u,z,D,E,F⟩ y
def zp6{a c g l m q p:Prop}(x0:a)(s:c)(u:g)(z:l)(D:m)(E:q)(e:a/\c/\g/\l/\m/\q->p:=by exact zx):p:=e ⟨x0,s,u,z,D,E⟩
def zg7{a c g l m q s p:Prop}(x0:a)(u:c)(z:g)(D:l)(E:m)(F:q)(G:s)(e:a/\c/\g/\l/\m/\q/\s->p:=by exact zy):p:=e ⟨x0,u,z,D,E,F,G⟩
def iR{a c g l m s u p q:Prop}(x0:a)(z:c)(D:g)(E:l)(F:m)(G:s)(H:u)(y:q)(e:a/\c/\g/\l/\m/\s/\u->q->p:=by exact zz):p:=e ⟨x0,z,D,E,F,G,H⟩ y
def ZX{a c g l m q s p:Prop}(x0:a)(u:c)(z:g)(D:l)(E:m)(F:q)(G:s)(e:a/\c/\g/\l/\m/\q/\s->p:=by exact zx):p:=e ⟨x0,u,z,D,E,F,G⟩
def fY{a c g l m s u z p q:Prop}(x0:a)(D:c)(E:g)(F:l)(G:m)(H:s)(I:u)(J:z)(y:q)(e:a/\c/\g/\l/\m/\s/\u/\z->q->p:=by exact zz):p:=e ⟨x0,D,E,F,G,H,I,J⟩ y
def zp8{a c g l m q s u p:Prop}(x0:a)(z:c)(D:g)(E:l)(F:m)(G:q)(H:s)(I:u)(e:a/\c/\g/\l/\m/\q/\s/\u->p:=by exact zx):p:=e ⟨x0,z,D,E,F,G,H,I⟩
def mz{a c g l m s u z D p q:Prop}(x0:a)(E:c)(F:g)(G:l)(H:m)(I:s)(J:u)(K:z)(L:D)(y:q)(e:a/\c/\g/\l/\m/\s/\u/\z/\D->q->p:=by exact zz):p:=e ⟨x0,E,F,G,H,I,J,K,L⟩ y
def nA{a c g l m s u z D E p q:Prop}(x0:a)(F:c)(G:g)(H:l)(I:m)(J:s)(K:u)(L:z)(M:D)(N:E)(y:q)(e:a/\c/\g/\l/\m/\s/\u/\z/\D/\E->q->p:=by exact zz):p:=e ⟨x0,F,G,H,I,J,K,L,M,N⟩ y
def wM{g l m s u z D E F G a p q:Prop}(x0:g)(H:l)(I:m)(J:s)(K:u)(L:z)(M:D)(N:E)(O:F)(P:G)(c:a)(y:q)(e:g/\l/\m/\s/\u/\z/\D/\E/\F/\G/\a->q->p:=by exact zz):p:=e ⟨x0,H,I,J,K,L,M,N,O,P,c⟩ y
def pU{m s u z D E F G H I a c p q:Prop}(x0:m)(J:s)(K:u)(L:z)(M:D)(N:E)(O:F)(P:G)(Q:H)(R:I)(g:a)(l:c)(y:q)(e:m/\s/\u/\z/\D/\E/\F/\G/\H/\I/\a/\c->q->p:=by exact zz):p:=e ⟨x0,J,K,L,M,N,O,P,Q,R,g,l⟩ y
def kC{u z D E F G H I J K a c g p q:Prop}(x0:u)(L:z)(M:D)(N:E)(O:F)(P:G)(Q:H)(R:I)(S:J)(U:K)(l:a)(m:c)(s:g)(y:q)(e:u/\z/\D/\E/\F/\G/\H/\I/\J/\K/\a/\c/\g->q->p:=by exact zz):p:=e ⟨x0,L,M,N,O,P,Q,R,S,U,l,m,s⟩ y
def bH{h h':Hp}{q:Prop}(g:ax h h')(e:h.a<=h'.a->q:=by intro n;(try simp only[Hp.dC,Hp.ii] at n);exact n):q/\∀i,i<h.a->h'.ac i=h.ac i:=⟨e g.g,λi hi=>g.f i hi id⟩
def bw{c:Nat}{h h':Hp}{q:Prop}(g:ah (·=c) h h')(e:h.a<=h'.a->q:=by intro n;(try simp only[Hp.dC,Hp.ii] at n);exact n):q/\∀i,i<h.a->i≠c->h'.ac i=h.ac i:=⟨e g.g,g.f⟩
def fZ{p:Prop}(h:p:=by repeat(first|exact ah.da _|assumption|refine ah.am ?_ _|refine ah.bj ?_ _ (by first|(left;(try simp only[Hp.dC,Hp.ii]);omega)|(right;left;omega)|(right;right;(try simp only[Hp.dC,Hp.ii]);omega)|(right;(try simp only[Hp.dC,Hp.ii]);omega)))):p:=h
def aZ{p:Prop}(h:p:=by repeat(first|exact ah.da _|assumption|refine ah.am ?_ _|refine ah.bj ?_ _ (by first|exact .inr rfl|exact .inl (at2 _)|(left;simp only[Hp.dC,Hp.ii];omega)))):p:=h
section
open Go (IntKind)
@[simp] theorem gf{n:Int}(c:-9223372036854775808<=n)(d:n<=9223372036854775807):w64 n=n:=by unfold w64;rw[IntKind.wrap_i64];omega
section
variable {b:Int}
def ag5:xK a b=decide (a<b):=by cases a<;>cases b<;>simp[xK]<;>omega
def A6:mJ a b=decide (a=b):=by cases a<;>cases b<;>simp[mJ]<;>omega
def Ej:uQ a b=if a<b then 0 else if a=b then 1 else 2:=by simp[uQ,ag5,A6]
@[simp] theorem zR:lG (.i a) (.i b)=.v (.i (w64 (a+b))):=(rfl)
@[simp] def kD:jb (.i a) (.i b)=.v (.i (w64 (a- b))):=(rfl)
@[simp] def NG:qj (.i a) (.i b)=.v (.i (w64 (a*b))):=(rfl)
@[simp] def arQ(h:b≠0):we (.i a) (.i b)=.v (.i (w64 (a.tdiv b))):=by simp[we,IL,A6,h]
@[simp] def arR(h:b≠0):AH (.i a) (.i b)=.v (.i (a.tmod b)):=by simp[AH,A6,h]
@[simp] def arS:ua (.i a) (.i b)=.v (.d (decide (a<b))):=by simp only[ua,mc,tK,qk,Ej];by_cases h:a<b<;>by_cases e:a=b<;>simp[h,e]
@[simp] def arT:vq (.i a) (.i b)=.v (.d (decide (a<=b))):=by simp only[vq,mc,tK,qk,Ej];by_cases h:a<b<;>by_cases e:a=b<;>simp[h,e]<;>omega
@[simp] def arU:uc (.i a) (.i b)=.v (.d (decide (b<a))):=by simp only[uc,mc,tK,qk,Ej];by_cases h:a<b<;>by_cases e:a=b<;>simp[h,e]<;>omega
@[simp] def arV:vt (.i a) (.i b)=.v (.d (decide (b<=a))):=by simp only[vt,mc,tK,qk,Ej];by_cases h:a<b<;>by_cases e:a=b<;>simp[h,e]<;>omega
theorem NH:(cond (Nat.beq m n) 1 (cond (Nat.ble m n) 0 2):Nat)=if m<n then 0 else if m=n then 1 else 2:=by simp;grind
@[simp] def arW:ua (.s m) (.s n)=.v (.d (decide (m<n))):=by simp only[ua,mc,tK,qk,NH];by_cases h:m<n<;>by_cases e:m=n<;>simp[h,e]
@[simp] def arX:vq (.s m) (.s n)=.v (.d (decide (m<=n))):=by simp only[vq,mc,tK,qk,NH];by_cases h:m<n<;>by_cases e:m=n<;>simp[h,e]<;>omega
@[simp] def arY:uc (.s m) (.s n)=.v (.d (decide (n<m))):=by simp only[uc,mc,tK,qk,NH];by_cases h:m<n<;>by_cases e:m=n<;>simp[h,e]<;>omega
@[simp] def arZ:vt (.s m) (.s n)=.v (.d (decide (n<=m))):=by simp only[vt,mc,tK,qk,NH];by_cases h:m<n<;>by_cases e:m=n<;>simp[h,e]<;>omega
attribute [simp] Dv Mo
@[simp] def ar0:cJ (.a (.b .i64)) (.i a) (.i b)=some (decide (a=b)):=by simp[cJ,sD,A6]
@[simp] def ar1:cJ (.a (.b .u8)) (.s m) (.s n)=some (decide (m=n)):=by simp[cJ,sD]
@[simp] def ar2{x y:Bool}:cJ (.a .c) (.d x) (.d y)=some (x==y):=by cases x<;>cases y<;>rfl
@[simp] def ar3:cJ .d .w .w=some true:=(rfl)
@[simp] def ar5{i o}:cJ .d (.a i o) .w=some false:=(rfl)
end
@[simp] def ar6{h:Hp}{i o r l c e}:tL 1 h (.c i o r l c e)=.v (.i l):=(rfl)
@[simp] def ar7{h:Hp}:tL 1 h .o=.v (.i 0):=(rfl)
def ag6{b:Nat}{l:List Nat}(c:b<256):lF (cO (b::l)) 0=b:=by simp_all[lF,cO,auL]
theorem ZY{b:Nat}{l:List Nat}(c:b<256)(n:Nat):(cO (b::l))>>>(8*(n+1))=(cO l)>>>(8*n):=by
 show(b+(cO l)<<<8)>>>(8*(n+1))=_;rw[show 8*(n+1)=8+8*n from by omega,awl,auL]
 grind [Nat.shiftRight_eq_div_pow]
theorem ag7:∀(l:List Nat),(∀b∈l,b<256)->cO l<256^l.length
 |[],_=>by simp[cO]
 |b::l,h=>by
  have c:=ag7 l λx e=>h x qaa;have d:=h b zm;show b+(cO l)<<<8<_
  grind [Nat.shiftLeft_eq]
theorem Tb(l:List Nat)(h:∀b∈l,b<256):∀(k:Nat),lF (cO l) k=l.getD k 0:=by
 induction l with
 |nil=>simp_all[lF,cO]
 |cons b l d=>
  intro k;have c:=h b zm;cases k with
  |zero=>rw[ag6 c];rfl
  |succ k=>
   rw[awi,<-d (λx e=>h x qaa) k];show((cO (b::l))>>>(8*(k+1)))% 256=_;rw[ZY c];rfl
theorem ag8(l:List Nat)(h:∀b∈l,b<256):∀k,(cO l)>>>(8*k)=cO (l.drop k):=by
 induction l with
 |nil=>intro k;simp[cO]
 |cons b l c=>
  intro k;cases k with
  |zero=>simp
  |succ k=>grind [ZY]
theorem ag9(l:List Nat)(h:∀b∈l,b<256):∀k,(cO l)% 2^(8*k)=cO (l.take k):=by
 induction l with
 |nil=>intro k;simp[cO]
 |cons b l c=>
  intro k;cases k with
  |zero=>simp[cO,axV]
  |succ k=>
   have d:=h b zm;show(b+(cO l)<<<8)% 2^(8*(k+1))=b+(cO (l.take k))<<<8;rw[<-c (λx e=>h x qaa) k,auL,auL,show 8*(k+1)=8*k+8 from by omega,auT,show(2:Nat)^8=256 from rfl]
   grind [Nat.mod_mul]
def ag'(l m:List Nat):cO (l++m)=cO l+(cO m)<<<(8*l.length):=by
 induction l with
 |nil=>simp[cO]
 |cons b l c=>
  show b+(cO (l++m))<<<8=b+(cO l)<<<8+_;rw[c,atX,show 8*(l.length+1)=8*l.length+8 from by omega,Nat.shiftLeft_add];omega
theorem ZZ:∀(l m:List Nat),(∀b∈l,b<256)->(∀b∈m,b<256)->l.length=m.length->cO l=cO m->l=m
 |[],[],_,_,_,_=>rfl
 |[],_::_,_,_,h,_=>by grind
 |_::_,[],_,_,h,_=>by grind
 |a::l,b::m,c,d,q,i=>by have o:=c a zm;have p:=d b zm;have e:a+(cO l)<<<8=b+(cO m)<<<8:=i;have f:a=b:=zo;have g:cO l=cO m:=zo;rw[f,ZZ l m (λx j=>c x qaa) (λx j=>d x qaa) qaa g]
theorem GZ(l:List UInt8):∀b∈l.map (·.toNat),b<256:=by intro b c;obtain⟨x,_,rfl⟩:=auR.1 c;exact x.toNat_lt
section
variable {l m:List UInt8}{b:Int}{k:Nat}{h:Hp}
@[simp] def ar8:tL 0 h (S l)=.v (.i l.length):=(rfl)
@[simp] def dQ(h0:0<=a)(c:a.toNat<l.length):nh (S l) (.i a)=.v (.s (l.getD a.toNat 0).toNat):=by obtain⟨n,rfl⟩:=at6 h0;have c:n+1<=l.length:=c;simp only[S,nh,mM,BP,wL,ny,c,auS,cond];rw[Tb _ (GZ l)];simp only[aub,auh,awr];have:n<l.length:=c;simp[this]
@[simp] def Tc(c:l.length+m.length<=9223372036854775807):lG (S l) (S m)=.v (S (l++m)):=by simp only[S,lG,Mn,vp,ny,Du,c,auS,cond,auk,au4,ag',avd];rfl
@[simp] def ar9:bQ (S l)=some [S l]:=(rfl)
theorem aha:S l=S m->l=m:=by
 intro h;simp[S,AV.A.injEq] at h;have:=ZZ _ _ (GZ l) (GZ m) qaa h.2
 grind [List.map_inj_right,UInt8.toNat_inj]
theorem Z1:sD .a (S l) (S m)=some (decide (l=m)):=by
 simp[S,sD,tZ];congr 1
 by_cases e:l=m
 grind
 by_cases c:l.length=m.length
 have:¬cO (l.map (·.toNat))=cO (m.map (·.toNat)):=λd=>e (aha (by simp only[S,c,d]))
 grind
 grind
@[simp] def Td:cJ (.a .a) (S l) (S m)=some (decide (l=m)):=Z1
theorem Te(lo hi:Nat):sub (cO (l.map (·.toNat))) lo hi=cO (((l.drop lo).take (hi- lo)).map (·.toNat)):=by
 show((cO (l.map (·.toNat)))>>>(8*lo))% 2^(8*(hi- lo))=_
 grind [ag8,GZ,ag9,List.map_take,List.map_drop]
def NI(h0:0<=a):mM (.i a)=some a.toNat:=by obtain⟨n,rfl⟩:=at6 h0;rfl
@[simp] def asa(h0:0<=a)(e:a<=b)(f:b<=l.length):wh (S l) (some (.i a)) (some (.i b))=.v (S ((l.drop a.toNat).take (b.toNat- a.toNat))):=by simp only[S,wh,bounds,NI h0,NI (avU h0 e),ny,Te];have c:b.toNat<=l.length:=zo;have d:a.toNat<=b.toNat:=zo;simp[c,d];omega
@[simp] def ahb(h0:0<=a)(d:a<=l.length):wh (S l) (some (.i a)) none=.v (S (l.drop a.toNat)):=by simp only[S,wh,bounds,NI h0,ny,Te];have c:a.toNat<=l.length:=zo;simp[c];rw[avG zm]
@[simp] def Z2(h0:0<=b)(d:b<=l.length):wh (S l) none (some (.i b))=.v (S (l.take b.toNat)):=by simp only[S,wh,bounds,NI h0,ny,Te];have c:b.toNat<=l.length:=zo;simp[c]
end
end
def zte{L e c N b h}:@zt L e c N b h=b:=rfl
def ic{T:aM->Option CF}{n:Nat}{b:Bool}{c c':CC}{rs:List CR}{args h k}(a:T ⟨n⟩=some ⟨n,b,c,rs⟩)(e:c=c':=by first|exact zte|rfl):aE T (W T) ⟨n⟩ args h k=W T c' (nQ args) h [] (finish T (W T) rs k):=by subst e;exact aEr a
section
variable {h:Hp}{k:aK->Prop}
def cY(h:Hp)(v:AV)(ws:List (List UInt8)):Prop:=
 ∃b cap ex r t,v=.c b 0 1 ws.length cap ex/\h.ac b=.b 9 1 r 0 t/\ws.length<=r/\∀j,(a:j<ws.length)->t j=[S ws[j]]
def ahc(s:aA T){v:AV}{ws:List (List UInt8)}{x:List UInt8}(A:cY h v ws)(C:ws.length<4294967296)
 (o:∀r:Int,(0<=r <-> x∈ws)->(∀i:Nat,r=i->ws[i]? =some x)->(x∉ws->r=-1)->k (.a (.i r) h)):aE T (W T) ⟨86⟩ [v,S x] h k:=by
 obtain⟨b,cap,ex,r,t,rfl,u,D,y⟩:=A;rw[ic s.t86];refine ag ?_;have key:∀(m i:Nat)(f:Fr),m=ws.length- i->i<=ws.length->(∀j,j<i->ws[j]? ≠some x)->cg 7 f=.i ws.length->cg 8 f=.i i->
  cg 0 f=.c b 0 1 ws.length cap ex->cg 1 f=S x->W T (.d l86_0) f h [] (bY 0 (bF (W T (.g (.h (z q86 7)) .m)) (finish T (W T) [.a 4] k))):=by
  intro m
  induction m with
  |zero=>
   intro i f w hi n d g h0 c;have a:¬i<ws.length:=zo;rw[aP];refine cC d g h0 c a ?_;refine o _ ⟨λh=>by omega,λh=>?_⟩ (λi e=>by omega) λ_=>rfl;obtain⟨j,l,e⟩:=avC h;exact absurd (by rw[atT l,e]) (n j zo)
  |succ m B=>
   intro i f w hi n d g h0 c;have a:i<ws.length:=zo;rw[aP];have:=y i a;refine iR d g h0 c u this a ?_
   by_cases e:x=ws[i]
   refine aB e ?_;refine o _ ⟨λ_=>e▸auy a,λ_=>by omega⟩ (λj q=>?_) λq=>absurd (e▸auy a) q;obtain rfl:j=i:=zo;rw[atT a,e];refine aB e ?_;refine B (i+1) _ zo zo (λj l=>?_) (au d) aa (au h0) (au c)
   by_cases p:j=i
   subst p;rw[atT a];exact λq=>e (auQ q).symm;exact n j zo
 refine key _ 0 _ rfl zo (λj l=>by omega) ?_ ?_ ?_ ?_<;>simp(disch:=omega)
def Ek(a:aA T){v:AV}{ws:List (List UInt8)}{x:List UInt8}(e:cY h v ws)(c:ws.length<4294967296)
 (b:k (.a (.d (decide (x∈ws))) h)):aE T (W T) ⟨56⟩ [v,S x] h k:=by
 rw[ic a.t56];refine ag ?_;refine ahc a e c λr d _ _=>?_;refine aB d ?_;exact b
def cY.aw{M:Nat->Prop}{h h':Hp}{v ws}(e:cY h v ws)(g:ah M h h')(d:∀i r t,h.ac i=.b 9 1 r 0 t->¬M i):cY h' v ws:=by obtain⟨b,cap,ex,r,t,rfl,a,c⟩:=e;exact⟨b,cap,ex,r,t,rfl,by rw[g.f _ (Hp.lt a rfl) (d _ _ _ a)];exact a,c⟩
def yb(h:Hp)(v:AV)(ws:List (List UInt8)):Prop:=ws≠[]->cY h v ws
def Cq{a:Type}{l:List a}{j:Nat}(h:j<l.length):l≠[]:=by rintro rfl;simp at h
def cY.ly{b r cap ex t}{x:List UInt8}(a:h.ac b=.b 9 1 r 0 t)(d:1<=r)(e:t 0=[S x]):cY h (.c b 0 1 1 cap ex) [x]:=
 ⟨b,cap,ex,r,t,rfl,a,d,λj c=>by obtain rfl:j=0:=by simp at c;omega
                                exact e⟩
end
def eG{i m p:Nat}{v:AV}{f:Fr}(hi:i<m)(a:m<=p):cg i (fO p v f)=cg i f:=by simp[show¬i=p by omega]
section
variable {h:Hp}{k:aK->Prop}
def rf(s:List UInt8)(c:UInt8):Int:=if c∈s then(s.idxOf c:Int) else-1
def aEv(s p:List UInt8):Bool:=decide (s.take p.length=p)
def vu(s p:List UInt8):Bool:=decide (p.length<=s.length)&&decide (s.drop (s.length- p.length)=p)
theorem Z3(s:List UInt8)(c:UInt8):∀l j,s.length=l+j->DC (cO (s.map (·.toNat))) c.toNat l j=if c∈s.drop j then((j+(s.drop j).idxOf c:Nat):Int) else-1
 |0,j,e=>by rw[auJ zo];rfl
 |l+1,j,e=>by
  have a:j<s.length:=zo;unfold DC;rw[Tb _ (GZ s),aut a,tZ,Z3 s c l (Nat.succ j) zo]
  grind [UInt8.toNat_inj]
@[simp] theorem asb:qo .b [S s,.s c.toNat]=.v (.i (rf s c)):=by
 have h:=Z3 s c s.length 0 zm;have a:Nat.ble c.toNat 255=true:=by have:=c.toNat_lt;rw[ny];grind
 simp only[S,qo,a,cond,h,axq,aue,rf]
theorem G0:0<=rf s c <-> c∈s:=by grind [rf]
def ahd(h:c∈s):rf s c<s.length:=by simp_all[rf,avD]
@[simp] def asd{l:List UInt8}:nh (S (c::l)) (.i 0)=.v (.s c.toNat):=by simp
def Z4(a:aA T)(b:k (.a (.i (rf s c)) h)):aE T (W T) ⟨98⟩ [S s,.s c.toNat] h k:=by rw[ic a.t98];refine ag ?_;omega
def Tf(a:aA T)(b:k (.a (.i (rf s c)) h)):aE T (W T) ⟨76⟩ [S s,.s c.toNat] h k:=by rw[ic a.t76];refine ag ?_;refine Z4 a ?_;simp_all
theorem Z5(a:aA T)(g:s.length<4611686018427387904)(f:k (.a (.d (aEv s p)) h)):aE T (W T) ⟨102⟩ [S s,S p] h k:=by
 rw[ic a.t102]
 by_cases e:p.length<=s.length
 simp_all[aEv];have b:¬(p.length:Int)<=s.length:=zo;have d:aEv s p=false:=by unfold aEv;grind
 refine aS b e ?_
 grind
def NJ(a:aA T)(b:s.length<4611686018427387904)(d:k (.a (.d (aEv s p)) h)):aE T (W T) ⟨77⟩ [S s,S p] h k:=by rw[ic a.t77];refine ag ?_;refine Z5 a b ?_;simp_all
theorem ahe(b:aA T)(g:s.length<4611686018427387904)(f:k (.a (.d (vu s p)) h)):aE T (W T) ⟨103⟩ [S s,S p] h k:=by
 rw[ic b.t103];unfold vu at f
 by_cases e:p.length<=s.length
 have a:(p.length:Int)<=s.length:=zo;have d:((s.length:Int)- p.length).toNat=s.length- p.length:=zo;refine aU a e d ?_
 grind
 have a:¬(p.length:Int)<=s.length:=zo;refine aS a e ?_
 grind
theorem ahf(a:aA T)(b:s.length<4611686018427387904)(f:k (.a (.p [S (if aEv s p=true then s.drop p.length else s),.d (aEv s p)]) h)):aE T (W T) ⟨67⟩ [S s,S p] h k:=by
 rw[ic a.t67];refine ag ?_;refine Z5 a b ?_;cases e:aEv s p with
 |true=>
  have d:p.length<=s.length:=by simp[aEv,auU] at e;grind
  simp_all
 |false=>
  simp_all
def Tg(a:aA T)(b:s.length<4611686018427387904)(d:k (.a (.p [S (if aEv s p=true then s.drop p.length else s),.d (aEv s p)]) h)):aE T (W T) ⟨45⟩ [S s,S p] h k:=by rw[ic a.t45];refine ag ?_;refine ahf a b ?_;simp_all
theorem ahg(a:aA T)(f:s.length<4611686018427387904)(i:k (.a (.p [S (if vu s p=true then s.take (s.length- p.length) else s),.d (vu s p)]) h)):aE T (W T) ⟨69⟩ [S s,S p] h k:=by
 rw[ic a.t69];refine ag ?_;refine ahe a f ?_;cases e:vu s p with
 |true=>
  have g:p.length<=s.length:=by simp_all[vu]
  have b:(p.length:Int)<=s.length:=zo;have d:((s.length:Int)- p.length).toNat=s.length- p.length:=zo;refine aS b d ?_
  grind
 |false=>
  simp_all
def ahh(a:aA T)(b:s.length<4611686018427387904)(d:k (.a (.p [S (if vu s p=true then s.take (s.length- p.length) else s),.d (vu s p)]) h)):aE T (W T) ⟨47⟩ [S s,S p] h k:=by rw[ic a.t47];refine ag ?_;refine ahg a b ?_;simp_all
def ahi(a:aA T)(b:k (.a (.i (rf s c)) h)):aE T (W T) ⟨66⟩ [S s,S [c]] h k:=by
 rw[ic a.t66]
 by_cases e:[c]=s
 subst e;refine ag ?_;simpa[rf] using b;refine aB e ?_;refine Z4 a ?_;simp_all
def iz(s:List UInt8)(c:UInt8):List UInt8×List UInt8×Bool:=if c∈s then(s.take (s.idxOf c),s.drop (s.idxOf c+1),true) else(s,[],false)
theorem ahj(a:aA T)(g:s.length<4611686018427387904)(b:k (.a (.p [S (iz s c).1,S (iz s c).2.1,.d (iz s c).2.2]) h)):aE T (W T) ⟨68⟩ [S s,S [c]] h k:=by
 rw[ic a.t68];refine ag ?_;refine ahi a ?_;unfold iz at b
 by_cases e:c∈s
 have d:=ahd e;have h0:=G0.2 e;have f:(rf s c).toNat=s.idxOf c:=by simp_all[rf]
 refine aB h0 ?_
 grind
 simp_all[G0]
def Th(a:aA T)(b:s.length<4611686018427387904)(d:k (.a (.p [S (iz s c).1,S (iz s c).2.1,.d (iz s c).2.2]) h)):aE T (W T) ⟨46⟩ [S s,S [c]] h k:=by rw[ic a.t46];refine ag ?_;refine ahj a b ?_;simp_all
end
section
variable {h:Hp}{el bytes vh:Nat}{t:N3 (List AV)}{rs:List (List AV)}
def rV(a:(2*n+1024)*bytes<=281474976710656)(b:n<1152921504606846976):room bytes n=true:=by unfold room;simp only[S9,vp,wL,ny,atW,auU];omega
def A7(c:rL h rw y=some rs)(a:lenOf y=some (n+1))(b:room bytes (n+1)=true):
 kJ h el rw bytes .o y=.b (.c h.a 0 rw (n+1) (n+1) false) (h.am (jJ el rw (n+1) rs)):=by
 unfold kJ;rw[c,a];simp only[wL,b,cond,alloc]
def A8(hi:h.ac i=.b el rw vh 0 t)(a:len<=vh)(d:rL h rw y=some rs)(b:lenOf y=some (n+1))(c:room bytes (len+(n+1))=true):
 kJ h el rw bytes (.c i 0 rw len len false) y=.b (.c h.a 0 rw (len+(n+1)) (len+(n+1)) false) ((h.bj i .f).am (.b el rw (len+(n+1)) 0 (jy t len rs))):=by
 have e:=Hp.lt hi rfl;unfold kJ;rw[d,b];simp only[wL,vp,tZ,auS,c,avl,cond,ny,alloc,hi,BW];rw[auK zo];simp only[avl,a,auS,Hp.jp e]
def wN{b cap ex r f}(a:h.ac b=.b el rw r 0 f)(c:1<=r):rL h rw (.c b 0 rw 1 cap ex)=some [f 0]:=by simp only[rL,a,wo,kZ,tZ,Ef,Ee,vp,axN,axO,aue,ny,c,auS,avl,cond,aEt,dY]
@[simp] def Ti{k:Nat}{r:List AV}:jy t k [r]=cx t k r:=rfl
@[simp] def ase{r:List AV}:jJ el rw n [r]=.b el rw n 0 (cx fG 0 r):=rfl
def NK{b:Nat}{cap ex}(c:rL h rw y=some rs)(a:lenOf y=some 0):kJ h el rw bytes (.c b 0 rw len cap ex) y=.v (.c b 0 rw len cap ex):=by unfold kJ;rw[c,a]
theorem oZ(t:N3 (List AV)):∀n k,(aEt t n k).length=n
 |0,_=>rfl
 |n+1,k=>by simp only[aEt,atX,oZ t n]
theorem vw(t:N3 (List AV)):∀n k j,j<n->(aEt t n k)[j]? =some (t (k+j))
 |0,_,_,h=>absurd h (avm _)
 |n+1,k,0,_=>by simp[aEt,dY]
 |n+1,k,j+1,h=>by simp only[aEt,auV];rw[vw t n _ j zo];congr 2;simp;omega
def NL{r n:Nat}{f:N3 (List AV)}(b:0<rw)(a:n<=r):kZ (.b el rw r 0 f) 0 rw n=some (aEt f n 0):=by simp only[kZ,tZ,Ef,Ee,vp,axN,axO,aue,ny,a,auS,avl,cond]
def Ke{b cap ex r f}(a:0<rw)(c:h.ac b=.b el rw r 0 f)(d:n<=r):rL h rw (.c b 0 rw n cap ex)=some (aEt f n 0):=by simp only[rL,c,wo];exact NL a d
def G2(a:0<rw)(hi:h.ac i=.b el rw vh 0 t)(b:len<=vh)(e:rL h rw y=some rs)(c:lenOf y=some (n+1))(d:room bytes (len+(n+1))=true):
 kJ h el rw bytes (.c i 0 rw len len true) y=.b (.c h.a 0 rw (len+(n+1)) (len+(n+1)) false) (h.am (jJ el rw (len+(n+1)) (aEt t len 0++rs))):=by
 unfold kJ;rw[e,c];simp only[wL,vp,tZ,auS,d,avl,cond,ny,alloc,hi];rw[auK zo];simp only[NL a b]
theorem G3(rs:List (List AV)):∀(t:N3 (List AV))(k j:Nat),jy t k rs j=if k<=j/\j<k+rs.length then rs.getD (j- k) [] else t j:=by
 induction rs with
 |nil=>intro t k j;simp[jy];intro a b;omega
 |cons r rs c=>
  intro t k j;simp only[jy,wL,c,dZ,atX]
  by_cases a:j=k
  subst a;rw[atS zo,atV rfl,atV zo];simp
  by_cases b:k+1<=j/\j<k+1+rs.length
  rw[atV b,atV zo,show j- k=(j- (k+1))+1 from by omega];simp;rw[atS b,atS a,atS zo]
theorem wO{L:List (List AV)}{j:Nat}(a:j<L.length):jy fG 0 L j=L[j]:=by rw[G3,atV ⟨auz _,by omega⟩];simp[a]
end
section
variable {h:Hp}{k:aK->Prop}
def NM{a:Type}:∀l:List a,gk l=l.length
 |[]=>rfl
 |_::l=>by simp[gk,NM l]
theorem Z6{a:Type}:∀l:List a,gK l.length l=some l
 |[]=>rfl
 |x::l=>by simp only[atX,gK,Z6 l]
def bm(t:Nat->List AV)(n:Nat):List AV:=(List.range n).map λi=>(t i).headD .B
def Z7{t:Nat->List AV}:∀n k,(∀i,k<=i->i<k+n->∃v,t i=[v])->xL t n k=(List.range' k n).map λi=>(t i).headD .B
 |0,k,_=>rfl
 |n+1,k,h=>by obtain⟨v,e⟩:=h k zl zo;simp only[xL,dY,e,fF,awD,aul,axh];rw[Z7 n (Nat.succ k) λi a b=>h i zo zo]
theorem Kg{t:Nat->List AV}{n:Nat}:(bm t n).length=n:=by simp[bm]
theorem ahk{el:Nat}{t:Nat->List AV}(h:∀i,i<256->∃v,t i=[v]):cellsOf (.b el 1 256 0 t) 0 256=some (bm t 256):=by
 have e:=Z7 (t:=t) 256 0 λi _ hi=>h i zo;rw[<-avQ] at e;have:gK 256 (xL t 256 0)=some (bm t 256):=by grind [Z6,bm,Kg]
 exact this
def Z8:∀l:List AV,uO 1 l.length l=some (l.map λv=>[v])
 |[]=>rfl
 |x::l=>by simp[uO,gK,aEC,Z8 l]
def Z9{el:Nat}{t:Nat->List AV}{l:List AV}(a:l.length=256):setCells (.b el 1 256 0 t) 0 l=some (.b el 1 256 0 (jy t 0 (l.map λv=>[v]))):=by
 have e:=Z8 l;have b:gk l=256:=by rw[NM,a]
 unfold setCells;simp_all
def yc(s:List UInt8)(i:Nat):Bool:=decide (∃c∈s,c.toNat=i)
def G4(s:List UInt8)(t:Nat->List AV):Prop:=∀i,i<256->t i=[.d (yc s i)]
theorem G4.bm{t:Nat->List AV}(x:G4 s t):∀j,jy t 0 ((bm t 256).map λv=>[v]) j=t j:=by
 intro j;rw[G3];split;rename_i b;have a:j<256:=by simpa[Kg] using b
 simp[Yv.bm,a,x j a];rfl
def ri{rw n i b:Nat}(h:i<n)(a:n<=256):yY rw n (.a b 0) (.s i)=.v (.a b (i*rw)):=by unfold yY;simp[mM,show i+1<=n by omega]
theorem ahl{j:Nat}(a:j<s.length)(i:Nat):yc (s.take (j+1)) i=(decide (i=s[j].toNat)||yc (s.take j) i):=by
 unfold yc;rw[avb a,<-Bool.decide_or]
 grind
def ahm{t:Nat->List AV}(x:G4 s t):∀i,i<256->(bm t 256)[i]? =some (.d (yc s i)):=by intro i hi;simp[bm,hi,x i hi]
theorem ahn(C:aA T)(hh:Hp)(u:∀c∈s,c.toNat<128) (H:s.length<1073741824) (x:∀h' l,ax hh h'->l.length=256->(∀i,i<256->l[i]? =some (.d (yc s i)))->k (.a (.p [.j l,.d true]) h')):∀(m j:Nat)(h:Hp)(t:Nat->List AV)(f:Fr),m=s.length- j->j<=s.length->ax hh h->h.ac hh.a=.b 241 1 256 0 t->G4 (s.take j) t->
 cg 0 f=S s->cg 2 f=.a hh.a 0->cg 4 f=.i j->
 W T (.d l162_0) f h [] (bY 0 (bF (W T ((CC.h (z q162 8)).g CC.m)) (finish T (W T) [CR.b 256 true 2,CR.a 3] k))):=by
 intro m
 induction m with
 |zero=>
  intro j h t f y w o g st f0 n f4;have b:¬(j:Int)<s.length:=zo;rw[aP];rw[avG zo] at st;have q:=ahk (el:=241) λi hi=>⟨_,st i hi⟩;have d:cellsOf (.b 241 1 256 0 (jy t 0 ((bm t 256).map λv=>[v]))) 0 256=some (bm t 256):=by
   have e:jy t 0 ((bm t 256).map λv=>[v])=t:=funext st.bm
   grind
  have a:gk (bm t 256)=256:=by rfl
  simp(disch:=omega) [f0,n,f4,b,g,q,Z9 Kg,a,bQ,d];refine x _ _ (o.bj _ (.inl zl)) Kg (ahm st)
 |succ m A=>
  intro j h t f y w o g st f0 n f4;have b:j<s.length:=zo;have r:(j:Int)<s.length:=zo;have q:=u s[j] (auy b);have G:s.getD j 0=s[j]:=by grind
  have F:=Hp.lt g rfl;rw[aP];have B:¬128<=s[j].toNat:=zo;have d:s[j].toNat<256:=zo;simp(disch:=omega) [f0,n,f4,r,g,B,ri d zl,st _ d];refine A (j+1) _ _ _ zo zo (o.bj _ (.inl zl)) (Hp.dq rfl) (λi hi=>?_) zA zA aa;have D:=ahl b i;have E:=st i hi
  grind [dZ]
theorem aho(a:aA T)(b:∀c∈s,c.toNat<128) (e:s.length<1073741824) (d:∀h' l,ax h h'->l.length=256->(∀i,i<256->l[i]? =some (.d (yc s i)))->k (.a (.p [.j l,.d true]) h')):aE T (W T) ⟨162⟩ [S s] h k:=by
 rw[ic a.t162];simp(disch:=omega) [-List.reduceReplicate];refine ahn a h b e d s.length 0 _ (jy fG 0 (List.replicate 256 [.d false])) _ zm (auz _) aZ (Hp.ba rfl) (λi hi=>?_) aa aa aa
 grind [wO,yc]
def ahp(d:aA T){b:Nat}{t:Nat->List AV}(e:h.ac b=.b 241 1 256 0 t)(st:G4 p t)(f:k (.a (.d (yc p c.toNat)) h)):aE T (W T) ⟨190⟩ [.a b 0,.s c.toNat] h k:=by rw[ic d.t190];have a:=c.toNat_lt;simp(disch:=omega) [ri a zl,e,st _ a];omega
def ahq:yc p c.toNat=decide (c∈p):=by apply aEf.2;exact⟨λ⟨x,a,e⟩=>avi.1 e▸a,λh=>⟨c,h,rfl⟩⟩
def sW(s p:List UInt8):List UInt8:=s.dropWhile λc=>decide (c∈p)
theorem aaa(g:aA T){b:Nat}{t:Nat->List AV}(i:h.ac b=.b 241 1 256 0 t)(st:G4 p t):∀(s:List UInt8)(f:Fr),k (.a (S (sW s p)) h)->cg 0 f=S s->cg 1 f=.a b 0->
 W T (.d l163_0) f h [] (bY 0 (bF (W T (.g (.h (z q163 4)) .m)) (finish T (W T) [.a 4] k)))
 |[],f,a,f0,d=>by rw[aP];refine aS f0 d ?_;simpa[sW] using a
 |c::s,f,a,f0,d=>by
  rw[aP];have j:(0:Int)<((c::s).length:Nat):=by grind
  refine aU f0 d j ?_;refine ahp g i st ?_;rw[ahq]
  by_cases e:c∈p
  have l:(1:Int)<=((c::s).length:Nat):=zo;rw[sW,avJ qaa] at a;refine aU e f0 l ?_;exact aaa g i st s _ a aa zA;simp_all[sW]
theorem aab(a:aA T)(n:∀c∈p,c.toNat<128) (q:p.length<1073741824) (u:2<=p.length) (o:∀h',ax h h'->k (.a (S (sW s p)) h')):aE T (W T) ⟨137⟩ [S s,S p] h k:=by
 rw[ic a.t137];generalize w:CC.h (z q137 8)=r;have g:¬p=[]:=by grind
 have j:¬(p.length:Int)=1:=zo
 by_cases f:s=[]
 simp_all[sW,ah.da];simp(disch:=omega) [f,g,j,-List.reduceReplicate];refine aho a n q λm l g1 d x=>?_;have e:gk l=256:=by rw[NM,d]
 simp(disch:=omega) [-List.reduceReplicate,Z9 d,bQ,e,jJ];rw[ic a.t163];simp(disch:=omega) [-List.reduceReplicate];refine aaa a (b:=m.a) (t:=jy (jy fG 0 (List.replicate 256 [AV.d false])) 0 (List.map (λv=>[v]) l)) (p:=p) (Hp.dq rfl) (λi hi=>?_) s _ ?_ aa aa;simp_all[G3];simp(disch:=omega) [-List.reduceReplicate];exact o _ (g1.ab aZ)
def wP:List UInt8:=[65,66,67,68,69,70,71,72,73,74,75,76,77,78,79,80,81,82,83,84,85,86,87,88,89,90,97,98,99,100,101,102,103,104,105,106,107,108,109,110,111,112,113,114,115,116,117,118,119,120,121,122,95]
def rj:List UInt8:=[48,49,50,51,52,53,54,55,56,57]
def aac(s p:List UInt8):(sW s p).length<=s.length:=(List.dropWhile_sublist _).length_le
def dU(s:List UInt8):Nat:=s.length- (sW s rj).length
def gu(s:List UInt8):Nat:=match s with|[]=>0|c::_=>if c∈wP then s.length- (sW s (wP++rj)).length else 0
theorem aad{c:UInt8}{s:List UInt8}:gu (c::s)=if c∈wP then(c::s).length- (sW (c::s) (wP++rj)).length else 0:=rfl
def NN(a:aA T)(f:s.length<4611686018427387904)(b:∀h',ax h h'->k (.a (.i (dU s)) h')):aE T (W T) ⟨139⟩ [S s] h k:=by
 rw[ic a.t139];refine ag ?_;refine aab a (p:=rj) zd zd zd λd g1=>?_;have:=aac s rj;refine ag ?_;have e:(s.length:Int)- (sW s rj).length=((dU s:Nat):Int):=by unfold dU;omega
 rw[e];exact b _ g1
def aae(b:aA T)(d:s.length<4611686018427387904)(a:∀h',ax h h'->k (.a (.i (gu s)) h')):aE T (W T) ⟨107⟩ [S s] h k:=by
 rw[ic b.t107];cases s with
 |nil=>
  refine ag ?_;exact a _ (ah.da _)
 |cons c s=>
  refine ag ?_;refine Tf (s:=wP) b ?_;rw[aad] at a
  by_cases e:c∈wP
  rw[atV e] at a;have h0:¬rf wP c<0:=by have:=G0.2 e;omega
  refine aB h0 ?_;refine aab b (p:=wP++rj) zd zd zd λf g1=>?_;have:=aac (c::s) (wP++rj);simp only[atX] at this d;refine ag ?_;have e:((s.length:Int)+1)- (sW (c::s) (wP++rj)).length=(((c::s).length- (sW (c::s) (wP++rj)).length:Nat):Int):=by simp only[atX];omega
  rw[e];exact a _ g1;rw[atS e] at a;have h0:rf wP c<0:=by have:=mt G0.1 e;omega
  refine aB h0 ?_;exact a _ (ah.da _)
def Cr:List (List UInt8):=[[98,114,101,97,107],[99,111,110,116,105,110,117,101],[101,108,115,101],[102,97,108,115,101],[102,108,111,97,116,54,52],[102,111,114],[102,117,110,99],[105,102],[105,109,112,111,114,116],[105,110,116],[98,111,111,108],[115,116,114,105,110,103],[108,101,110],[112,97,99,107,97,103,101],[112,97,110,105,99],[112,114,105,110,116],[114,101,116,117,114,110],[115,116,114,117,99,116],[116,114,117,101],[116,121,112,101],[118,97,114]]
def aaf(a:aA T)(d:∀h',ax h h'->k (.a (.d (decide (s∈Cr))) h')):aE T (W T) ⟨108⟩ [S s] h k:=by
 rw[ic a.t108];refine ag ?_;rw[ic a.t138];refine ag ?_;refine Ek a (ws:=Cr) ⟨h.a,21,true,21,_,rfl,Hp.ba rfl,by decide,λj b=>?_⟩ zd ?_;exact match j,b with
 |0,_=>rfl
 |1,_=>rfl
 |2,_=>rfl
 |3,_=>rfl
 |4,_=>rfl
 |5,_=>rfl
 |6,_=>rfl
 |7,_=>rfl
 |8,_=>rfl
 |9,_=>rfl
 |10,_=>rfl
 |11,_=>rfl
 |12,_=>rfl
 |13,_=>rfl
 |14,_=>rfl
 |15,_=>rfl
 |16,_=>rfl
 |17,_=>rfl
 |18,_=>rfl
 |19,_=>rfl
 |20,_=>rfl
 |n+21,b=>absurd b (by simp[Cr])
 refine ag ?_;exact d _ aZ
def El(s:List UInt8):Bool:=decide (s≠[])&&decide (gu s=s.length)&&decide (s.length<=40)&&decide (s≠[95])&&decide (s∉Cr)
def aag(f:aA T)(n:s.length<4611686018427387904)(e:∀h',ax h h'->k (.a (.d (El s)) h')):aE T (W T) ⟨109⟩ [S s] h k:=by
 rw[ic f.t109];unfold El at e
 by_cases d:s=[]
 refine aB d ?_;simpa[d] using e _ (ah.da _);refine aB d ?_;refine aae f n λj g1=>?_
 by_cases a:gu s=s.length
 by_cases l:s.length<=40
 have b:(s.length:Int)<=40:=zo
 by_cases i:s=[95]
 have q:=e j g1;subst i;refine aB a ?_;simpa[a] using q;refine aU a b i ?_;refine aaf f λm g2=>?_;refine ag ?_;have q:=e m (g1.ab g2);simpa[d,a,l,i] using q;have b:¬(s.length:Int)<=40:=zo;have q:=e j g1;refine aS a b ?_;simpa[d,a,l] using q;have q:=e j g1;have g:¬((gu s:Nat):Int)=s.length:=zo;refine aB g ?_;simpa[d,a] using q
def zS(s:List UInt8):Bool:=decide (dU s≠0)&&aEv (s.drop (dU s)) [46]&&decide (dU (s.drop (dU s+1))≠0)
def Kh(s:List UInt8):dU s<=s.length:=by unfold dU;omega
def aah{n:Nat}(h:aEv (s.drop n) [c]=true):n+1<=s.length:=by unfold aEv at h;simp only[auU] at h;have:=aui List.length h;simp at this;omega
def ahr(d:aA T){hh:Hp}{f:Fr}{N D:Nat}(O:s.length<1073741824)(B:ax hh h)(C:dU (s.drop (N+1))=D)(L:0<N)(hi:N+1+D<=s.length)(f0:cg 0 f=S s)(f4:cg 4 f=.i N)
 (j:∀h' n,ax hh h'->0<n->n<=s.length->k (.a (.p [.i 4,.i (n:Nat)]) h')):
 W T (.g (.h (z q110 4)) (.g (.g (.h (z q110 5)) (.g (.h r110_6) (.i (.t 44) (.g (.h (z q110 7)) (.g (.g (.h (z q110 8)) (.i (.t 57) (.h (z q110 9)) .k)) (.g (.h (z q110 10)) (.g (.h (z q110 11)) (.i (.t 63) (.h (z q110 12)) .k))))) .k))) (.g (.h (z q110 13)) .m))) f h [] (finish T (W T) [.a 2,.a 3] k):=by
 generalize G:CC.g (.h (z q110 10)) (.g (.h (z q110 11)) (.i (.t 63) (.h (z q110 12)) .k))=x;have v:(N:Int)+1<=s.length:=zo;have I:((N:Int)+1).toNat=N+1:=zo;refine bK f0 f4 v I ?_;refine NN d qam λK A=>?_;rw[C];have w:(N:Int)+(1+(D:Int))<=s.length:=zo;have l:((N:Int)+(1+(D:Int))).toNat=N+(1+D):=zo;have a:=B.ab A;refine bK f0 f4 w l ?_;refine Tg d qam ?_;cases y:aEv (s.drop (N+(1+D))) [101] with
 |false=>
  refine ag ?_;have q:=j _ (N+(1+D)) a zo zo;simpa using q
 |true=>
  have F:=aah y;simp only[auo,ave];generalize E:(s.drop (N+(1+D))).drop 1=P;have Q:P.length=s.length- (N+(1+D))- 1:=by rw[<-E,auf,auf]
  have b:∀(H:Hp)(f:Fr)(R:List UInt8),ax hh H->R.length<=P.length->cg 4 f=.i (N+(1+(D:Int)))->cg 5 f=S P->cg 7 f=S R->
   W T x f H [] (bF (W T (.g (.h (z q110 13)) .m)) (finish T (W T) [.a 2,.a 3] k)):=by
   intro H f R t M f4 f5 f7;subst G;have J:=Kh R;refine aU f4 f5 f7 ?_;refine NN d zo λu r=>?_
   by_cases m:0<dU R
   have g:(0:Int)<(dU R:Nat):=zo;refine bK m f4 f5 f7 ?_;have q:=j u (N+(1+D)+(1+P.length- R.length+dU R)) (t.ab r) zo zo;have eq:((N+(1+D)+(1+P.length- R.length+dU R):Nat):Int)=N+(1+(D:Int))+(1+P.length- R.length+dU R):=zo;rw[eq] at q;exact q;have g:¬(0:Int)<(dU R:Nat):=zo;refine bK m f4 f5 f7 ?_;have q:=j u (N+(1+D)) (t.ab r) zo zo;simpa using q
  cases P with
  |nil=>
   refine aS f0 f4 ?_;exact b _ _ [] a zl aa aa aa
  |cons c P=>
   have e:(1:Int)<=((c::P).length:Nat):=by simp only[atX];omega
   by_cases i:c.toNat=43
   refine bK f0 f4 i e ?_;exact b _ _ P a zm aa aa aa
   by_cases o:c.toNat=45
   refine cC f0 f4 i o e ?_;exact b _ _ P a zm aa aa aa;refine cC f0 f4 i o e ?_;exact b _ _ (c::P) a zl aa aa aa
def ahs(a:aA T)(r:s.length<1073741824)(f:zS s=false->∀h',ax h h'->k (.a (.p [.i 3,.i (dU s)]) h'))
 (g:zS s=true->∀h' n,ax h h'->0<n->n<=s.length->k (.a (.p [.i 4,.i (n:Nat)]) h')):aE T (W T) ⟨110⟩ [S s] h k:=by
 rw[ic a.t110];generalize t:CC.g (.h (z q110 4)) (.g (.g (.h (z q110 5)) (.g (.h r110_6) (.i (.t 44) (.g (.h (z q110 7)) (.g (.g (.h (z q110 8)) (.i (.t 57) (.h (z q110 9)) .k)) (.g (.h (z q110 10)) (.g (.h (z q110 11)) (.i (.t 63) (.h (z q110 12)) .k))))) .k))) (.g (.h (z q110 13)) .m))=v;have w:=Kh s;refine ag ?_;refine NN a zo λx g1=>?_
 by_cases b:dU s=0
 have q:=f (by simp[zS,b]);refine aB b ?_;simpa[b] using q _ g1;have m:¬((dU s:Nat):Int)=0:=zo;have i:((dU s:Nat):Int)<=s.length:=zo;refine aS b i ?_;refine NJ a qam ?_;cases e:aEv (s.drop (dU s)) [46] with
 |false=>
  have q:=f (by simp[zS,e]);refine ag ?_;exact q _ g1
 |true=>
  have hi:=aah e;have l:((dU s:Nat):Int)+1<=s.length:=zo;have u:(((dU s:Nat):Int)+1).toNat=dU s+1:=zo;have j:=Kh (s.drop (dU s+1));rw[auf] at j;refine aS l u ?_;refine NN a qam λy g2=>?_
  by_cases d:dU (s.drop (dU s+1))=0
  have q:=f (by simp[zS,d]);refine aB d ?_;exact q _ (g1.ab g2);have o:¬((dU (s.drop (dU s+1)):Nat):Int)=0:=zo;have g:=g (by simp[zS,b,e,d]);refine aB d ?_;subst t;exact ahr (N:=dU s) a r (g1.ab g2) rfl zo zo aa aa g
end
section
open Go (IntKind)
variable {b:Int}
def bI(op:(n:Nat)->BitVec n->BitVec n->BitVec n)(a b:Int):Int:=match qN op .i64 a b with|.i n=>n|_=>0
def bU(op:(n:Nat)->BitVec n->BitVec n->BitVec n)(m n:Nat):Nat:=match qN op .u8 (.ofNat m) (.ofNat n) with|.s n=>n|_=>0
def bW(op:(n:Nat)->BitVec n->BitVec n->BitVec n)(a b:Int):Int:=match qN op .u64 a b with|.g _ n=>n|_=>0
@[simp] def G5{op}:jI op (.i a) (.i b)=.v (.i (bI op a b)):=rfl
@[simp] def asf{op}:jI op (.s m) (.s n)=.v (.s (bU op m n)):=rfl
@[simp] def oy{op}:jI op (.g .u64 a) (.g .u64 b)=.v (.g .u64 (bW op a b)):=rfl
def aht{op}:bU op m n<256:=by simp only[bU,qN,aEG,Go.IntKind.wrap_u8];omega
def ahu{op}:0<=bW op a b/\bW op a b<18446744073709551616:=by simp only[bW,qN,aEG,Go.IntKind.wrap_u64];omega
@[simp] def asg{k:Int}(h:0<=k):oQ pF (.i a) (.g .u64 k)=.v (.i (w64 (a*2^(min k.toNat 64)))):=by obtain⟨n,rfl⟩:=at6 h;rfl
@[simp] def ash:ko .u8 (.i a)=.v (.s (a% 256).toNat):=by simp only[ko,intOf,aEG,Go.IntKind.wrap_u8]
@[simp] def asi{x:AV}:qo .f [x]=.v x:=rfl
@[simp] def ahv{i o:Nat}:cJ .d (.a i o) (.a i o)=some true:=by simp[cJ,IM]
end
section
variable {h:Hp}{k:aK->Prop}
def ahw(h:Hp)(i n:Nat):Prop:=∃vh t,h.ac i=.b 5 1 vh 0 t/\n<=vh/\∀j,j<n->∃u,u<256/\t j=[.s u]
def A9(lo:Nat)(h:Hp)(b n:Nat):Prop:=
 n=0/\h.ac b=.a 215 [.w,.o]\/0<n/\∃i,lo<=i/\i≠b/\h.ac b=.a 215 [.a b 0,.c i 0 1 n n false]/\ahw h i n
def A9.lt{lo b n:Nat}(x:A9 lo h b n):b<h.a:=by rcases x with⟨_,e⟩|⟨_,i,_,_,e,_⟩<;>exact Hp.lt e rfl
def aai(d:aA T){b n u lo:Nat}(l:u<256)(o:A9 lo h b n)(E:n<1073741824)(C:lo<=h.a)(g:∀h',ah (λi=>i=b\/lo<=i) h h'->A9 lo h' b (n+1)->k (.a .x h')):aE T (W T) ⟨146⟩ [.a b 0,.s u] h k:=by
 rw[ic d.t146];have D:=o.lt;refine ag ?_;rw[ic d.t169];rcases o with⟨rfl,e⟩|⟨h0,i,hi,F,e,vh,t,f,x,A⟩;simp(disch:=omega) [e,Dz,cJ];rw[A7 (n:=0) (wN (Hp.ba qaq) zl) rfl zd];refine aB e ?_;refine g _ fZ (.inr ⟨by omega,h.a+1,by omega,by omega,?_,1,cx fG 0 [.s u],?_,at2 _,λj z=>⟨u,l,?_⟩⟩);exact aa;exact aa;obtain rfl:j=0:=zo;simp;have y:=Hp.lt f rfl;simp(disch:=omega) [e,ahv];obtain⟨n,rfl⟩:∃q,n=q+1:=⟨n- 1,by omega⟩;rw[A8 (n:=0) (vh:=vh) (t:=t) (au f) x (wN (Hp.ba rfl) zl) rfl (rV zo zo)];refine aB e ?_;refine g _ fZ (.inr ⟨by omega,h.a+1,by omega,by omega,?_,n+1+1,cx t (n+1) [.s u],?_,at2 _,λj z=>?_⟩);exact aa;exact aa
 by_cases r:j=n+1
 exact⟨u,l,by simp[r]⟩;obtain⟨w,B,v⟩:=A j zo;exact⟨w,B,by simp[r,v]⟩
def ahx{l:List Nat}(e:∀b∈l,b<256):AV.A l.length (cO l)=S (l.map UInt8.ofNat):=by
 unfold S;rw[avd,av4];congr 2
 conv=>lhs;rw[<-axU l]
 apply avB;intro b d;have:=e b d;simp[avy this]
def Tm{t:Nat->List AV}:∀n k,(∀j,k<=j->j<k+n->∃u,u<256/\t j=[.s u])->∃l,bytesRow (aEt t n k)=some l/\l.length=n/\∀b∈l,b<256
 |0,k,_=>⟨[],rfl,rfl,λ_ h=>by cases h⟩
 |n+1,k,h=>by obtain⟨u,o,e⟩:=h k zl zo;obtain⟨l,f,g,i⟩:=Tm (t:=t) n (Nat.succ k) λj q r=>h j zo zo;refine⟨u::l,?_,by simp[g],?_⟩;simp only[aEt,dY,e,bytesRow,f,ny,show u<=255 by omega,auS,cond];intro b d;rcases atZ.1 d with rfl|d;exact o;exact i b d
def ahy(o:aA T){b n lo:Nat}(g:A9 lo h b n)(f:∀h' v,ah (λi=>lo<=i) h h'->v.length=n->k (.a (S v) h')):aE T (W T) ⟨144⟩ [.a b 0] h k:=by
 rw[ic o.t144];have C:=g.lt;rcases g with⟨rfl,e⟩|⟨h0,i,hi,D,e,vh,t,w,z,A⟩;simp(disch:=omega) [e,FX,AL];exact f h [] (ah.da _) rfl;obtain⟨n,rfl⟩:∃q,n=q+1:=⟨n- 1,by omega⟩;obtain⟨l,r,d,u⟩:=Tm (t:=t) (n+1) 0 λj _ B=>A j zo;have er:kZ (.b 5 1 vh 0 t) 0 1 (n+1)=some (aEt t (n+1) 0):=NL zd z;have y:AL h 5 (.a i 0) (.i ((n:Int)+1))=.b (S (l.map UInt8.ofNat)) (h.bj i .f):=by rw[<-ahx u,d];have x:mM (.i ((n:Int)+1))=some (n+1):=rfl;unfold AL;rw[x];simp only[w,cond,J9,er,r]
 simp(disch:=omega) [e,FX,y];exact f _ _ fZ (by simp[d])
end
section
open Go (IntKind)
variable {h:Hp}{k:aK->Prop}
def aaj(a:aA T)(b:∀A:Int,k (.a (.i A) h)):aE T (W T) ⟨76⟩ [S s,.s c.toNat] h k:=Tf a (b _)
def ahz(f:aA T)(o:s.length<1073741824)(a:∀(x n:Nat),x<256->n<=s.length->k (.a (.p [.s x,.i n]) h)):aE T (W T) ⟨145⟩ [S s] h k:=by
 rw[ic f.t145];cases s with
 |nil=>
  refine ag ?_;exact a 0 0 zd zd
 |cons c s=>
  simp only[atX] at o a;have t:=c.toNat_lt;have q:(c::s).length=s.length+1:=rfl
  by_cases d:c.toNat=110
  refine aB d ?_;exact a 10 1 zd zo
  by_cases e:c.toNat=116
  refine aS d e ?_;exact a 9 1 zd zo
  by_cases g:c.toNat=34
  refine aU d e g ?_;exact a 34 1 zd zo
  by_cases l:c.toNat=92
  refine bK d e g l ?_;exact a 92 1 zd zo
  by_cases i:c.toNat=120
  by_cases r:2<s.length+1
  have b:(2:Int)<(s.length:Int)+1:=zo;simp(disch:=omega) [i,b,atX];refine aaj f λA=>?_;refine aB q ?_;refine aaj f λB=>?_
  by_cases j:0<=A
  by_cases m:0<=B
  refine aS j m ?_;exact a _ 3 zo zo;refine aS j m ?_;exact a 0 0 zd zo;refine aB j ?_;exact a 0 0 zd zo;have b:¬(2:Int)<(s.length:Int)+1:=zo;simp(disch:=omega) [i,b,atX];exact a 0 0 zd zo;refine cC d e g l i ?_;exact a 0 0 zd zo
def ah.na{M:Nat->Prop}{a b d:Hp}(x:ax a b)(y:ah M b d)(e:∀i,M i->a.a<=i):ax a d:=
 ⟨at1 x.g y.g,λi hi _=>(y.f i (aur hi x.g) λm=>by have:=e i m;omega).trans (x.f i hi id)⟩
def A9.aw{M:Nat->Prop}{lo b n:Nat}{h h':Hp}(x:A9 lo h b n)(g:ah M h h')(d:¬M b)(j:∀i,lo<=i->¬M i):A9 lo h' b n:=by rcases x with⟨rfl,e⟩|⟨h0,i,hi,m,e,vh,t,a,f,l⟩;exact .inl ⟨rfl,by rw[g.f _ (Hp.lt e rfl) d];exact e⟩;exact .inr ⟨h0,i,hi,m,by rw[g.f _ (Hp.lt e rfl) d];exact e,vh,t,by rw[g.f _ (Hp.lt a rfl) (j i hi)];exact a,f,l⟩
def ahA(o:aA T){hh:Hp}(L:s.length<1073741824)(e:∀v n h',ax hh h'->n<=s.length->v.length<=s.length->k (.a (.p [S v,.i (n:Nat)]) h')):∀(m i n:Nat)(h:Hp)(f:Fr),s.length<=m+i->n<i->i<=s.length->ax hh h->A9 (hh.a+1) h hh.a n->
 cg 0 f=S s->cg 4 f=.a hh.a 0->cg 5 f=.i i->W T (.d l113_0) f h [] (bY 0 (bF (W T ((CC.h (z q113 19)).g CC.m)) (finish T (W T) [.a 2,.a 3] k))):=by
 intro m
 induction m with
 |zero=>
  intro i n h f H I hi a j f0 f4 f5;have t:¬(i:Int)<s.length:=zo;rw[aP];refine aU f0 f5 t ?_;exact e [] 0 _ a zo zm
 |succ m E=>
  intro i n h f H I hi a j f0 f4 f5;rw[aP]
  by_cases t:i<s.length
  have b:(i:Int)<s.length:=zo;have l:s.getD i 0=s[i]:=by simp[t]
  have G:=s[i].toNat_lt;have K:=j.lt
  by_cases w:s[i].toNat=34
  refine cq f0 f4 f5 b l w ?_;refine ahy o j λg v g1 M=>?_;refine aB f5 ?_;have q:=e v (i+1) g (a.na g1 λx r=>by omega) zo zo;simpa using q
  by_cases A:s[i].toNat<32
  refine iR f0 f4 f5 b l w A ?_;exact e [] 0 _ a zo zm
  by_cases B:s[i].toNat=127
  refine cq f0 f4 f5 b l B ?_;exact e [] 0 _ a zo zm
  by_cases C:s[i].toNat=92
  have J:((i:Int)+1).toNat=i+1:=zo;have F:(i:Int)+1<=s.length:=zo;refine fY f0 f4 f5 b l C F J ?_;refine ahz o qam λx d r hd=>?_;rw[auf] at hd
  by_cases D:d=0
  refine aB D ?_;exact e [] 0 _ a zo zm;refine aU D f4 f5 ?_;refine aai o r j zo zo λg g1 u=>?_;refine aB f5 ?_;refine E (i+d+1) (n+1) g _ zo zo zo (a.na g1 λx r=>by omega) u zA zA aa;have y:(s[i].toNat:Nat)<256:=G;refine mz f0 f4 f5 b l w A B C ?_;refine aai o y j zo zo λg g1 u=>?_;refine aB f5 ?_;refine E (i+1) (n+1) g _ zo zo zo (a.na g1 λx r=>by omega) u zA zA aa;have b:¬(i:Int)<s.length:=zo;refine aU f0 f5 b ?_;exact e [] 0 _ a zo zm
end
section
variable {h:Hp}{k:aK->Prop}
def aak(a:aA T)(g:s.length<1073741824)(b:s.head?≠some 34->∀h',ax h h'->k (.a (.p [S [],.i 0]) h')) (f:s.head?=some 34->∀v n h',ax h h'->n<=s.length->v.length<=s.length->k (.a (.p [S v,.i (n:Nat)]) h')):aE T (W T) ⟨113⟩ [S s] h k:=by
 rw[ic a.t113];cases s with
 |nil=>
  refine ag ?_;exact b zm _ (ah.da _)
 |cons c s=>
  by_cases e:c.toNat=34
  have d:c=34:=avi.1 e;subst d;refine ag ?_;refine ahA a (hh:=h) g (f rfl) (s.length+1) 1 0 _ _ zm zo zm aZ (.inl ⟨rfl,Hp.ba rfl⟩) aa aa aa;have q:=b (by simp;rintro rfl;exact e rfl) _ (ah.da _);refine aB e ?_;exact q
end
section
open Go (IntKind)
def uf(c:UInt8):Bool:=decide (c=32)||decide (9<=c.toNat/\c.toNat<=13)
def lO(o:AO):Prop:=∃t,o=.g 1 256 t/\∀c:UInt8,t c.toNat=[.s (if uf c=true then 1 else 0)]
def Em:Nat->List UInt8->List UInt8->List (List UInt8)
 |0,a,_=>if a=[] then[] else[a]
 |_+1,a,[]=>if a=[] then[] else[a]
 |m+1,a,c::r=>if uf c=true then a::Em m [] (r.dropWhile uf) else Em m (a++[c]) r
def vA(s:List UInt8):List (List UInt8):=Em s.length [] (s.dropWhile uf)
def Cs:List UInt8->Bool->Nat
 |[],_=>0
 |c::s,w=>(if w=true/\uf c=false then 1 else 0)+Cs s (uf c)
def sY{vh k:Nat}{t:Nat->List AV}(a:k<vh):cellsOf (.g 1 vh t) k 1=gK 1 (t k):=by simp only[cellsOf,Ee,Ef,vp,wL,ny,axV,axW,aEC];rw[avf (by omega:0+1<=1),avf (by omega:k+1<=vh)];rfl
@[simp] def asj:BY (.i 0)=.v (.i (-1)):=by simp only[BY,qN,aEG];rw[show(Int.ofNat (BitVec.ofInt IntKind.i64.bits (-1)^^^BitVec.ofInt IntKind.i64.bits 0).toNat)=18446744073709551615 from by decide];rfl
@[simp] def asl:BY (.i 1)=.v (.i (-2)):=by simp only[BY,qN,aEG];rw[show(Int.ofNat (BitVec.ofInt IntKind.i64.bits (-1)^^^BitVec.ofInt IntKind.i64.bits 1).toNat)=18446744073709551614 from by decide];rfl
def bI0:bI (λ_ a b=>a&&&b) 0 (-1)=0:=by decide
def bI1:bI (λ_ a b=>a&&&b) 0 (-2)=0:=by decide
def bI2:bI (λ_ a b=>a&&&b) 1 (-1)=1:=by decide
def bI3:bI (λ_ a b=>a&&&b) 1 (-2)=0:=by decide
def ahB{m n:Nat}(d:m<128)(e:n<128):bU (λ_ a b=>a|||b) m n<128:=by
 have h:(BitVec.ofInt 8 (.ofNat m)|||BitVec.ofInt 8 (.ofNat n)).toNat<128:=by rw[BitVec.toNat_or];refine Nat.or_lt_two_pow (n:=7) ?_ ?_<;>simp<;>omega
 simp only[bU,qN,aEG,Go.IntKind.wrap_u8];show((Int.ofNat (BitVec.ofInt 8 (.ofNat m)|||BitVec.ofInt 8 (.ofNat n)).toNat)% 256).toNat<128;generalize(BitVec.ofInt 8 (.ofNat m)|||BitVec.ofInt 8 (.ofNat n)).toNat=q at h⊢;simp only[au8];omega
@[simp] def aal{n:Nat}(a:n<256):ko .i64 (.s n)=.v (.i n):=by simp only[ko,intOf,aEG];rw[gf]<;>simp<;>omega
section
variable {h:Hp}{k:aK->Prop}
def ahC(I:aA T)(G:∀c∈s,c.toNat<128) (J:s.length<1073741824) (u:lO (h.ac 1)) {E:aT->Prop}:∀(r:List UInt8)(i n v:Nat)(w:Bool)(f:Fr),s.drop i=r->i<=s.length->v<128->n<=i->
 cg 0 f=S s->cg 3 f=.i n->cg 4 f=.i (if w=true then 1 else 0)->cg 5 f=.s v->cg 6 f=.i i->
 (∀e j,j<128->cg 0 e=S s->cg 3 e=.i ((n+Cs r w:Nat):Int)->cg 5 e=.s j->E (.a 0 e h []))->W T (.d l71_3) f h [] E:=by
 obtain⟨t,u,A⟩:=u;intro r
 induction r with
 |nil=>
  intro i n v w f g hi D H f0 f3 f4 f5 f6 x;have y:¬(i:Int)<s.length:=by have:=aui List.length g;rw[auf] at this;simp at this;omega
  rw[aP];refine aU f0 f6 y ?_;exact x _ v D zA (by simp(disch:=omega) [f3,Cs]) zA
 |cons c r B=>
  intro i n v w f g hi D H f0 f3 f4 f5 f6 x;have y:i<s.length:=by have:=aui List.length g;rw[auf] at this;simp at this;omega
  have z:(i:Int)<s.length:=zo;rw[aut y] at g;injection g with q g;have K:s.getD i 0=c:=by simp[y,q]
  have F:=G c (q▸auy y);have l:c.toNat<256:=zo;rw[aP];have C:=ahB D F;cases m:uf c with
  |true=>
   cases w with
   |true=>
    simp only[auo] at f4;simp(disch:=omega) [f0,f3,f4,f5,f6,z,q,ri l zl,u,sY l,A c,m,bI3];refine B (i+1) n _ true _ g zo C zo zA aa aa aa aa λe j o a b d=>x e j o a ?_ d;rw[b];simp[Cs,m]
   |false=>
    simp only[at3,auM] at f4;simp(disch:=omega) [f0,f3,f4,f5,f6,z,q,ri l zl,u,sY l,A c,m,bI1];refine B (i+1) n _ true _ g zo C zo zA aa aa aa aa λe j o a b d=>x e j o a ?_ d;rw[b];simp[Cs,m]
  |false=>
   cases w with
   |true=>
    simp only[auo] at f4;simp(disch:=omega) [f0,f3,f4,f5,f6,z,q,ri l zl,u,sY l,A c,m,bI2];refine B (i+1) (n+1) _ false _ g zo C zo zA aa aa aa aa λe j o a b d=>x e j o a ?_ d;rw[b];simp[Cs,m];omega
   |false=>
    simp only[at3,auM] at f4;simp(disch:=omega) [f0,f3,f4,f5,f6,z,q,ri l zl,u,sY l,A c,m,bI0];refine B (i+1) n _ false _ g zo C zo zA aa aa aa aa λe j o a b d=>x e j o a ?_ d;rw[b];simp[Cs,m]
end
end
section
open Go (IntKind)
variable {h:Hp}{k:aK->Prop}
theorem ahD(B:aA T)(D:s.length<1073741824)(l:lO (h.ac 1)){o:aT->Prop}:∀(r:List UInt8)(i:Nat)(f:Fr),s.drop i=r->i<=s.length->
 cg 0 f=S s->cg 12 f=.i i->(∀e(i':Nat),i<=i'->i'<=s.length->s.drop i'=r.dropWhile uf->cg 12 e=.i i'->(∀j,j<12->cg j e=cg j f)->o (.a 2 e h []))->W T (.d l71_2) f h [] o:=by
 obtain⟨t,l,v⟩:=l;intro r
 induction r with
 |nil=>
  intro i f a hi f0 f12 d;have m:¬(i:Int)<s.length:=by simp_all
  rw[aP];refine aU f0 f12 m ?_;exact d _ i zl hi a zA λj b=>by simp(disch:=decide) only[eG b]
 |cons c r A=>
  intro i f a hi f0 f12 d;have m:i<s.length:=by grind
  have q:(i:Int)<s.length:=zo;have w:=a;rw[aut m] at a;injection a with u a;have g:=c.toNat_lt;rw[aP];cases n:uf c with
  |true=>
   rw[avJ n] at d;simp(disch:=omega) [f0,f12,q,u,ri g zl,l,sY g,v c,n];refine A (i+1) _ a zo zA aa λe i' C x y z h5=>d e i' zo x y z λj b=>?_;rw[h5 j b];simp(disch:=decide) only[eG b]
  |false=>
   rw[avK qaa] at d;simp(disch:=omega) [f0,f12,q,u,ri g zl,l,sY g,v c,n];exact d _ i zl zo w zA λj b=>by simp(disch:=decide) only[eG b]
theorem ahE(B:aA T)(D:s.length<1073741824)(l:lO (h.ac 1)){o:aT->Prop}:∀(r:List UInt8)(i:Nat)(f:Fr),s.drop i=r->i<=s.length->
 cg 0 f=S s->cg 12 f=.i i->(∀e(i':Nat),i<=i'->i'<=s.length->s.drop i'=r.dropWhile uf->cg 12 e=.i i'->(∀j,j<12->cg j e=cg j f)->o (.a 6 e h []))->W T (.d l71_0) f h [] o:=by
 obtain⟨t,l,v⟩:=l;intro r
 induction r with
 |nil=>
  intro i f a hi f0 f12 d;have m:¬(i:Int)<s.length:=by simp_all
  rw[aP];refine aU f0 f12 m ?_;exact d _ i zl hi a zA λj b=>by simp(disch:=decide) only[eG b]
 |cons c r A=>
  intro i f a hi f0 f12 d;have m:i<s.length:=by grind
  have q:(i:Int)<s.length:=zo;have w:=a;rw[aut m] at a;injection a with u a;have g:=c.toNat_lt;rw[aP];cases n:uf c with
  |true=>
   rw[avJ n] at d;simp(disch:=omega) [f0,f12,q,u,ri g zl,l,sY g,v c,n];refine A (i+1) _ a zo zA aa λe i' C x y z h5=>d e i' zo x y z λj b=>?_;rw[h5 j b];simp(disch:=decide) only[eG b]
  |false=>
   rw[avK qaa] at d;simp(disch:=omega) [f0,f12,q,u,ri g zl,l,sY g,v c,n];exact d _ i zl zo w zA λj b=>by simp(disch:=decide) only[eG b]
def G6(h:Hp)(b n:Nat)(l:List (List UInt8)):Prop:=∃t,h.ac b=.b 9 1 n 0 t/\(∀j,j<n->∃v,t j=[v])/\∀j,(a:j<l.length)->t j=[S l[j]]
theorem G6.aam{b n:Nat}{l:List (List UInt8)}{x:List UInt8}{t:Nat->List AV}(f:∀j,j<n->∃v,t j=[v]) (e:∀j,(a:j<l.length)->t j=[S l[j]]) (d:h.ac b=.b 9 1 n 0 (cx t l.length [S x])):G6 h b n (l++[x]):=by
 refine⟨_,d,λj a=>?_,λj a=>?_⟩
 grind [dZ]
 grind [dZ]
theorem ahF(I:aA T)(N:s.length<1073741824)(hh:Hp)(L:List (List UInt8))(X:L.length<1073741824){C:aT->Prop}:∀(m i fs:Nat)(h:Hp)(done:List (List UInt8))(f:Fr),lO (h.ac 1)->hh.a≠1->fs<=i->i<=s.length->s.length<=i+m->done++Em m ((s.take i).drop fs) (s.drop i)=L->ax hh h->G6 h hh.a L.length done->
 cg 0 f=S s->cg 9 f=.c hh.a 0 1 L.length L.length true->cg 10 f=.i done.length->cg 11 f=.i fs->cg 12 f=.i i->
 (∀a h'(g:Nat) w,ax hh h'->G6 h' hh.a L.length w->g<=s.length->(w++(if s.drop g=[] then[] else[s.drop g])=L)->cg 0 a=S s->cg 9 a=.c hh.a 0 1 L.length L.length true->cg 10 a=.i w.length->cg 11 a=.i g->C (.a 4 a h' []))->W T (.d l71_1) f h [] C:=by
 intro m
 induction m with
 |zero=>
  intro i fs h done f F y R hi O hd d o f0 f9 f10 f11 f12 e;have l:¬(i:Int)<s.length:=zo;rw[aP];refine aU f0 f12 l ?_;refine e _ _ fs done d o zo ?_ zA zA zA zA;rw[avG zo] at hd;exact hd
 |succ m G=>
  intro i fs h done f F y R hi O hd d o f0 f9 f10 f11 f12 e;rw[aP]
  by_cases l:i<s.length
  have j:(i:Int)<s.length:=zo;have n:=s[i].toNat_lt;obtain⟨t,r,q⟩:=F;obtain⟨u,z,A,H⟩:=o;have Y:=Hp.lt z rfl;rw[aut l] at hd;cases b:uf s[i] with
  |true=>
   have Q:done.length<L.length:=by rw[<-hd];simp only[Em,b,auo,auk,atX];omega
   have U:(s.take i).drop fs=((s.drop fs).take (i- fs)):=by rw[List.drop_take]
   have J:(done.length:Int)<L.length:=zo;obtain⟨v,P⟩:=A _ Q;simp(disch:=omega) [f0,f9,f10,f11,f12,j,ri n zl,r,sY n,q s[i],b,z,P];have D:lO ((h.bj hh.a (.b 9 1 L.length 0 (cx u done.length [S (List.take (i- fs) (List.drop fs s))]))).ac 1):=⟨t,by grind [Hp.du],q⟩;refine ahE I N D (s.drop (i+1)) (i+1) _ rfl zo zA aa λa i' g1 g2 M E x=>?_;have x0:cg 0 a=S s:=by rw[x 0 zm];simp(disch:=omega) [f0]
   have V:cg 9 a=.c hh.a 0 1 L.length L.length true:=by rw[x 9 zm];simp(disch:=omega) [f9]
   have B:cg 10 a=.i (done.length+1):=by rw[x 10 zm];rfl
   refine aB E ?_;refine G i' i' _ (done++[(s.take i).drop fs]) _ D y zl g2 zo ?_ (d.bj _ (.inl zl)) (G6.aam A H (by rw[U];simp)) (au x0) (au V) (au B) aa (au E) e;have K:(s.take i').drop i'=[]:=auJ qaa;rw[K,M];simpa[Em,b] using hd
  |false=>
   have h0:((s.take i).drop fs)++[s[i]]=(s.take (i+1)).drop fs:=by rw[avb l,List.drop_append_of_le_length qaE]
   simp(disch:=first|exact bh|fail) [f0,f12,j,ri n zl,r,sY n,q s[i],b];refine G (i+1) fs h done _ ⟨t,r,q⟩ y zo zo zo ?_ d ⟨u,z,A,H⟩ zA zA zA zA aa e;rw[<-h0];simpa[Em,b] using hd
  have j:¬(i:Int)<s.length:=zo;refine aU f0 f12 j ?_;refine e _ _ fs done d o zo ?_ zA zA zA zA;rw[avG zo,@auJ _ s i zo] at hd;exact hd
def aan{el rw bytes n:Nat}{z:List AV}(b:n<1152921504606846976)(a:n*bytes<=281474976710656):DB h el rw bytes z (.i (n:Nat)) (.i (n:Nat))=.b (.c h.a 0 rw n n true) (h.am (.b el rw n 0 (qm z n 0 fG))):=by have e:mM (.i ((n:Nat):Int))=some n:=rfl;unfold DB;rw[e];simp only[ny,J9,S9,at2,auS,a,show n+1<=1152921504606846976 by omega,avl,cond,alloc]
theorem aao{z:List AV}:∀n k(t:Nat->List AV) j,qm z n k t j=if k<=j/\j<k+n then z else t j:=by
 intro n
 induction n with
 |zero=>intro k t j;simp;omega
 |succ n a=>
  intro k t j;simp[qm,a,wL,dZ]
  grind
theorem aap(d:aA T)(P:∀c∈s,c.toNat<128) (q:s.length<1073741824) (D:lO (h.ac 1)) (Q:Cs s true=(vA s).length) (O:(vA s).length<1073741824) (E:∀h' v,ax h h'->cY h' v (vA s)->k (.a v h')):aE T (W T) ⟨71⟩ [S s] h k:=by
 rw[ic d.t71];generalize pV:CC.h (z q71 13)=J;generalize V:CC.d l71_1=L1;generalize Z:CC.d l71_2=L2;have yd:1<h.a:=by obtain⟨t,e,_⟩:=D;exact Hp.lt e rfl
 refine ag ?_;refine ahC d P q D s 0 0 0 true _ rfl zo zm zl aa aa aa aa aa λf1 Y Ba x0 G x5=>?_;rw[aue,Q] at G;have f:¬128<=Y:=zo;simp(disch:=omega) [G,x5,f,aan (h:=h) (el:=9) (rw:=1) (bytes:=16) (z:=[S []]) (n:=(vA s).length) zo zo];have A:lO ((h.am (.b 9 1 (vA s).length 0 (qm [S []] (vA s).length 0 fG))).ac 1):=by simp_all
 subst Z;refine ahD d q A s 0 _ rfl zo (au x0) aa λi y g1 g2 L C l=>?_;have y0:cg 0 i=S s:=by rw[l 0 zm];simp(disch:=omega) [x0]
 have y9:cg 9 i=.c h.a 0 1 (vA s).length (vA s).length true:=by rw[l 9 zm];rfl
 have y10:cg 10 i=.i 0:=by rw[l 10 zm];rfl
 refine aB C ?_;subst V;have mT:(s.dropWhile uf).length=s.length- y:=by grind
 refine ahF d q h (vA s) O s.length y y _ [] _ A zo zl g2 zo ?_ aZ ⟨_,Hp.ba rfl,λj o=>⟨S [],?_⟩,λj o=>by grind⟩ (au y0) (au y9) (au y10) aa (au C) λf3 M fs done B N pK hd H I a b=>?_;rw[auJ qaa,L];rfl;rw[aao,atV ⟨auz _,by omega⟩];obtain⟨u,r,F,X⟩:=N;have rT:=Hp.lt r rfl
 by_cases e:s.drop fs=[]
 have m:¬(fs:Int)<s.length:=by have:=aui List.length e;grind
 refine cC H I a b m ?_;refine E _ _ B ⟨h.a,_,_,_,u,rfl,r,at2 _,λj o=>?_⟩
 grind
 have m:(fs:Int)<s.length:=by grind
 have g:done.length<(vA s).length:=by grind
 have K:(fs:Int)<=s.length:=zo;obtain⟨v,R⟩:=F _ g;refine fY H I a b m K r R ?_;obtain⟨w,U,Cj,NS⟩:=G6.aam (h:=M.bj h.a (.b 9 1 (vA s).length 0 (cx u done.length [S (s.drop fs)]))) (x:=s.drop fs) F X (Hp.dq rfl);refine E _ _ (B.bj _ (.inl zl)) ⟨h.a,_,_,_,w,rfl,U,at2 _,λj o=>?_⟩
 grind
end
section
variable {h:Hp}{k:aK->Prop}
def aaq:List UInt8:=[61,61,32,33,61,32,60,61,32,62,61,32,38,38,32,124,124,32,58,61,32,43,32,45,32,42,32,47,32,37,32,60,32,62,32,33,32,61,32,40,32,41,32,123,32,125,32,44,32,46,32,58]
def G7:List (List UInt8):=[[61,61],[33,61],[60,61],[62,61],[38,38],[124,124],[58,61],[43],[45],[42],[47],[37],[60],[62],[33],[61],[40],[41],[123],[125],[44],[46],[58]]
def ahI:vA aaq=G7:=by decide
def wR(s:List UInt8)(n:Nat)(ws:List (List UInt8)):Bool:=ws.any λm=>decide (m.length=n)&&aEv s m
def aEH(s:List UInt8):Nat:=if wR s 2 G7=true then 2 else if wR s 1 G7=true then 1 else 0
def aar(s:List UInt8):aEH s<=s.length:=by
 have key:∀n,wR s n G7=true->n<=s.length:=by intro n h;unfold wR at h;rw[awE] at h;obtain⟨m,_,h⟩:=h;simp only[atW,auU,aEv] at h;have:=aui List.length h.2;rw[auN] at this;omega
 unfold aEH;split;exact key 2 ‹_›;split;exact key 1 ‹_›;omega
def ahJ(A:aA T)(D:s.length<1073741824){b cap:Nat}{ex:Bool}{a:List (List UInt8)}{r:Nat}{t:Nat->List AV}(w:h.ac b=.b 9 1 r 0 t)(E:a.length<=r)(y:∀j,(x:j<a.length)->t j=[S a[j]]) (F:a.length<1073741824) (n:Nat) {q:aT->Prop}:∀(m j:Nat)(f:Fr),a.length<=j+m->j<=a.length->
 cg 0 f=S s->cg 3 f=.i n->cg 10 f=.c b 0 1 a.length cap ex->cg 11 f=.i a.length->cg 12 f=.i j->
 (wR s n (a.drop j)=true->∀d,cg 0 d=S s->cg 3 d=.i n->q (.a 0 d h []))->(wR s n (a.drop j)=false->∀d,cg 0 d=S s->cg 3 d=.i n->q (.a 2 d h []))->W T (.d l114_0) f h [] q:=by
 intro m
 induction m with
 |zero=>
  intro j f C x f0 f3 f10 f11 f12 l e;have g:¬(j:Int)<a.length:=zo;rw[aP];refine aU f11 f12 g ?_;exact e (by rw[auJ zo];rfl) _ zA zA
 |succ m z=>
  intro j f C x f0 f3 f10 f11 f12 l e;rw[aP]
  by_cases g:j<a.length
  have o:(j:Int)<a.length:=zo;have hd:=aut g;have B:wR s n (a.drop j)=(decide (a[j].length=n)&&aEv s a[j]||wR s n (a.drop (j+1))):=by rw[hd];rfl
  rw[B] at l e
  by_cases u:a[j].length=n
  have i:(a[j].length:Int)=n:=zo;refine mz f0 f3 f10 f11 f12 o w (y j g) u ?_;refine NJ A zo ?_;cases v:aEv s a[j] with
  |true=>
   refine ag ?_;exact l (by simp[u,v]) _ zA zA
  |false=>
   refine aB f12 ?_;refine z (j+1) _ zo zo zA zA zA zA aa (λh=>l (by simp[h])) (λh=>e (by simp[h,v]))
  have i:¬(a[j].length:Int)=n:=zo;refine mz f0 f3 f10 f11 f12 o w (y j g) i ?_;refine z (j+1) _ zo zo zA zA zA zA aa (λh=>l (by simp[h])) (λh=>e (by simp[h,u]));have o:¬(j:Int)<a.length:=zo;refine aU f11 f12 o ?_;exact e (by rw[auJ zo];rfl) _ zA zA
def To(m:aA T){hh:Hp}(y:s.length<1073741824)(n:Nat)(E:n<3)(f:Fr)(j:lO (h.ac 1))(i:ax hh h)(f0:cg 0 f=S s)(f3:cg 3 f=.i n){d:aT->Prop}
 (h0:n=0->∀a h',ax hh h'->cg 3 a=.i 0->d (.a 0 a h' [])) (C:0<n->wR s n G7=true->∀a h',ax hh h'->cg 3 a=.i n->d (.a 0 a h' []))
 (B:0<n->wR s n G7=false->∀a h',ax hh h'->lO (h'.ac 1)->cg 0 a=S s->cg 3 a=.i ((n:Int)- 1)->W T (.d l114_1) a h' [] d):W T (.d l114_1) f h [] d:=by
 have D:1<h.a:=by obtain⟨t,e,_⟩:=j;exact Hp.lt e rfl
 rw[aP]
 by_cases e:n=0
 subst e;refine aB f3 ?_;exact h0 rfl _ _ i zA;have g:0<n:=zo;generalize w:CC.d l114_0=L;refine aU f0 f3 g ?_;refine aap (s:=aaq) m zd zd j zd zd λu v g1 o=>?_;rw[ahI] at o;obtain⟨b,cap,ex,r,t,rfl,x,z,A⟩:=o;refine ag ?_;subst w;have q:lO (u.ac 1):=by rw[g1.f 1 D id];exact j
 refine ahJ (cap:=cap) (ex:=ex) m y x z A zd n 23 0 _ zd zd zA zA aa aa aa (λl a y0 y3=>?_) (λl a y0 y3=>?_);refine ag ?_;exact C g l _ _ (i.ab g1) y3;refine aB y3 ?_;exact B g l _ _ (i.ab g1) q (au y0) aa
def ahK(f:aA T)(j:s.length<1073741824)(d:lO (h.ac 1))(a:∀h',ax h h'->k (.a (.i (aEH s)) h')):aE T (W T) ⟨114⟩ [S s] h k:=by
 rw[ic f.t114];generalize l:CC.d l114_1=L;refine ag ?_;subst l;unfold aEH at a;refine To (hh:=h) f j 2 zd _ d (ah.da _) aa aa (λe=>by cases e) (λ_ b i h' g y3=>?_) λ_ b i h' g d y0 y3=>?_;rw[atV b] at a;refine aB y3 ?_;exact a _ g;rw[atS (by simp[b])] at a;refine To (hh:=h) f j 1 zd _ d g y0 (by rw[y3];rfl) (λe=>by cases e) (λ_ b i h' g y3=>?_) λ_ b i h' g d y0 y3=>?_;rw[atV b] at a;refine aB y3 ?_;exact a _ g;rw[atS (by simp[b])] at a;refine To (hh:=h) f j 0 zd _ d g y0 (by rw[y3];rfl) (λ_ i h' g y3=>?_) (λe=>by cases e) λe=>by cases e
 refine aB y3 ?_;exact a _ g
end
structure Tk where
 c:Int
 b:List UInt8
 a:Int
 d:Int
def tk(l:List Tk)(n:Nat):Tk:=l.getD n ⟨0,[],0,0⟩
inductive Tree where
 |mk (kind ak to at_:Int) (name:List UInt8) (aEw:List Tree)
inductive PR(α:Type) where
 |c (a:α) (n:Nat)
 |i (p e:Int)
 |d
def PR.dk{b g:Type}(r:PR b)(f:b->Nat->PR g):PR g:=
 match r with
 |.c a n=>f a n
 |.i p e=>.i p e
 |.d=>.d
def bD(t:Tk)(ws:List (List UInt8)):Bool:=(decide (t.c=6)||decide (t.c=2))&&decide (t.b∈ws)
def aV(l:List Tk)(n:Nat)(kind b at_:Int)(name:List UInt8)(a:List Tree):Tree:=.mk kind b (tk l (n- 1)).d at_ name a
def NT:List UInt8:=[105,110,116]
def NU:List UInt8:=[98,111,111,108]
def NV:List UInt8:=[115,116,114,105,110,103]
def NW:List UInt8:=[102,108,111,97,116,54,52]
def jR(l:List Tk)(q:Int)(n:Nat):PR Tk:=if(tk l n).c=q then .c (tk l n) (n+1) else .i (tk l n).a 4
def lR(l:List Tk)(x:List UInt8)(n:Nat):PR Tk:=if bD (tk l n) [x]=true then .c (tk l n) (n+1) else .i (tk l n).a 4
def Ct(l:List Tk)(n:Nat):PR Tree:=
 if bD (tk l n) [NT,NU,NV,NW]=true then .c (aV l (n+1) 8 (tk l n).a (tk l n).a (tk l n).b []) (n+1)
 else(jR l 1 n).dk λt m=>
  if bD (tk l m) [[46]]=true then(jR l 1 (m+1)).dk λu o=>.c (aV l o 9 (tk l n).a u.a u.b [aV l m 25 (tk l n).a (tk l n).a t.b []]) o
  else .c (aV l m 8 (tk l n).a (tk l n).a t.b []) m
def En(l:List Tk)(kind:Int)(n:Nat):PR Tree:=
 (jR l 1 n).dk λt m=>(Ct l m).dk λx o=>.c (aV l o kind t.a t.a t.b [x]) o
def ug(l:List Tk)(right:List UInt8)(b:Nat->PR Tree)(a:Nat->PR Unit):Nat->Nat->PR (List Tree)
 |0,_=>.d
 |f+1,n=>if bD (tk l n) [right]=true then .c [] n else(b n).dk λt m=>if bD (tk l m) [right]=true then .c [t] m else(a m).dk λ_ o=>(ug l right b a f o).dk λts q=>.c (t::ts) q
def aas{l:List Tk}{right k b}:∀{f n ts m},ug l right k b f n=.c ts m->ts.length<=f
 |0,_,_,_,h=>by simp[ug] at h
 |f+1,n,ts,m,h=>by
  unfold ug at h;split at h;cases h;simp;cases j:k n with
  |d=>rw[j] at h;cases h
  |i p e=>rw[j] at h;cases h
  |c t o=>
   rw[j] at h;simp only[PR.dk] at h;split at h;cases h;simp;cases g:b o with
   |d=>rw[g] at h;cases h
   |i p e=>rw[g] at h;cases h
   |c u q=>
    rw[g] at h;simp only at h;cases a:ug l right k b f q with
    |d=>rw[a] at h;cases h
    |i p e=>rw[a] at h;cases h
    |c r s=>
     rw[a] at h;simp only[PR.c.injEq] at h;rw[<-h.1];have:=aas a;simp;omega
def wS(l:List Tk)(left right:List UInt8)(c:Nat->PR Tree)(a:Nat->PR Unit)(op:Int)(b n:Nat):PR (List Tree):=
 if bD (tk l n) [left]=true then if op=128 then .i (tk l n).a 3 else(ug l right c a b (n+1)).dk λts m=>if bD (tk l m) [right]=true then .c ts (m+1) else .i (tk l m).a 4
 else .i (tk l n).a 4
def aat{l:List Tk}{left right f b op F n ts m}(h:wS l left right f b op F n=.c ts m):ts.length<=F:=by
 unfold wS at h;split at h;split at h;cases h;cases a:ug l right f b F (n+1) with
 |d=>rw[a] at h;cases h
 |i p e=>rw[a] at h;cases h
 |c g j=>
  rw[a] at h;simp only[PR.dk] at h;split at h;cases h;exact aas a;cases h
 cases h
def Tree.to:Tree->Int|.mk _ _ t _ _ _=>t
def Tree.at:Tree->Int|.mk _ _ _ a _ _=>a
def Tree.bi:Tree->Int|.mk k _ _ _ _ _=>k
def Tree.gl:Tree->Int|.mk _ f _ _ _ _=>f
def Tree.bc:Tree->List UInt8|.mk _ _ _ _ nm _=>nm
def Tree.bv:Tree->List Tree|.mk _ _ _ _ _ a=>a
section
variable (l:List Tk)
def Cu(right:List UInt8)(n:Nat):PR Unit:=(lR l [44] n).dk λ_ m=>if bD (tk l m) [right]=true then .i (tk l m).a 4 else .c () m
def mU(n:Nat):PR Unit:=(jR l 7 n).dk λ_ m=>.c () m
def o7(t:Tk):Int:=
 if t.c=3 then 21 else if t.c=4 then 22 else if t.c=5 then 23 else if t.c=1 then 25
 else if t.c=2/\(t.b=[116,114,117,101]\/t.b=[102,97,108,115,101]) then 24 else 0
def Bb(t:Tk):Int:=
 if t.c≠6 then 0 else if t.b=[124,124] then 1 else if t.b=[38,38] then 2
 else if t.b∈[[61,61],[33,61],[60],[60,61],[62],[62,61]] then 3 else if t.b∈[[43],[45]] then 4 else if t.b∈[[42],[47],[37]] then 5 else 0
variable (F:Nat)
section
variable (ex:Int->Bool->Int->Nat->PR Tree)
def Kj(op:Int)(n:Nat):PR (List Tree):=wS l [40] [41] (λn=>ex (op+1) false 0 n) (Cu l [41]) op F n
def Kl(op:Int)(hd:Bool)(n:Nat):PR Tree:=
 (jR l 1 n).dk λt m=>(lR l [58] m).dk λ_ o=>(ex op hd 0 o).dk λx q=>.c (aV l q 29 t.a t.a t.b [x]) q
def Cv(op:Int)(sZ:Tree)(n:Nat):PR Tree:=
 (wS l [123] [125] (Kl l ex (op+1) false) (Cu l [125]) op F n).dk λts m=>.c (aV l m 28 sZ.gl (tk l n).a [] (sZ::ts)) m
def NX(op:Int)(n:Nat):PR Tree:=
 if bD (tk l n) [[40]]=true then if op=128 then .i (tk l n).a 3 else
  (ex (op+1) false 0 (n+1)).dk λx m=>if bD (tk l m) [[41]]=true then .c (aV l (m+1) 33 (tk l n).a (tk l n).a [] [x]) (m+1) else .i (tk l m).a 4
 else .i (tk l n).a 4
def Km(op:Int)(hd:Bool)(n:Nat):PR Tree:=
 if o7 (tk l n)≠0 then
  if o7 (tk l n)=25/\hd=false/\bD (tk l (n+1)) [[123]]=true then Cv l F ex op (aV l (n+1) 8 (tk l n).a (tk l n).a (tk l n).b []) (n+1)
  else .c (aV l (n+1) (o7 (tk l n)) (tk l n).a (tk l n).a (tk l n).b []) (n+1)
 else if bD (tk l n) [[105,110,116],[102,108,111,97,116,54,52],[108,101,110],[112,114,105,110,116],[112,97,110,105,99]]=true then(Kj l F ex op (n+1)).dk λts m=>.c (aV l m 32 (tk l n).a (tk l n).a (tk l n).b ts) m
 else NX l ex op n
def ye(op:Int)(hd:Bool):Nat->Tree->Nat->PR Tree
 |0,_,_=>.d
 |g+1,x,n=>
  if bD (tk l n) [[46]]=true then(jR l 1 (n+1)).dk λt m=>
   if x.bi=25/\hd=false/\bD (tk l m) [[123]]=true then(Cv l F ex op (aV l m 9 x.gl t.a t.b [x]) m).dk λy o=>ye op hd g y o
   else ye op hd g (aV l m 26 x.gl t.a t.b [x]) m
  else if bD (tk l n) [[40]]=true/\(x.bi=25\/x.bi=26) then(Kj l F ex op n).dk λts m=>ye op hd g (aV l m 27 x.gl (tk l n).a [] (x::ts)) m
  else .c x n
def yf(op:Int)(hd:Bool)(n:Nat):PR Tree:=(Km l F ex op hd n).dk λx m=>ye l F ex op hd F x m
def G8(op:Int)(hd:Bool):Nat->Nat->PR Tree
 |0,_=>.d
 |g+1,n=>if bD (tk l n) [[45],[33]]=true then(G8 op hd g (n+1)).dk λx m=>.c (aV l m 30 (tk l n).a (tk l n).a (tk l n).b [x]) m else yf l F ex op hd n
def G9(op:Int)(hd:Bool)(a:Int):Nat->Tree->Nat->PR Tree
 |0,_,_=>.d
 |g+1,x,n=>if a<Bb (tk l n) then(ex op hd (Bb (tk l n)) (n+1)).dk λy m=>G9 op hd a g (aV l m 31 x.gl (tk l n).a (tk l n).b [x,y]) m else .c x n
end
def zU:Nat->Int->Bool->Int->Nat->PR Tree
 |0,_,_,_,_=>.d
 |f+1,op,hd,a,n=>(G8 l F (zU f) op hd F n).dk λx m=>G9 l (zU f) op hd a F x m
end
def zT:Tree:=.mk 0 0 0 0 [] []
def Aa:Tree->Option Bool
 |.mk q _ _ _ _ a=>if q=26 then(match a with|[]=>none|t::_=>Aa t) else some (decide (q=25))
def Hs(x:Tree):Bool:=decide (x.bi=27)||decide (x.bi=32)&&(decide (x.bc=[112,114,105,110,116])||decide (x.bc=[112,97,110,105,99]))
section
variable (l:List Tk)(F:Nat)
section
variable (ex:Int->Bool->Int->Nat->PR Tree)
def uj(op:Int)(hd:Bool)(x:Tree)(a:Bool)(n:Nat):PR Tree:=
 if a=true/\x.bi=25/\bD (tk l n) [[58,61]]=true then(ex op hd 0 (n+1)).dk λy m=>.c (aV l m 12 x.gl x.gl x.bc [y]) m
 else match Aa x with
  |none=>.d
  |some p=>if p=true/\bD (tk l n) [[61]]=true then(ex op hd 0 (n+1)).dk λy m=>.c (aV l m 13 x.gl (tk l n).a [] [x,y]) m
   else if Hs x=true then .c (aV l n 20 x.gl x.gl [] [x]) n else .i (tk l n).a 4
def Ks(op:Int)(n:Nat):PR (Tree×Tree×Tree):=
 (if(tk l n).c≠7 then(ex op true 0 n).dk λx m=>if bD (tk l m) [[123]]=true then .c (zT,x,true) m else(uj l ex op true x true m).dk λi o=>.c (i,zT,false) o
  else PR.c (zT,zT,false) n).dk λr m=>
 if r.2.2 =true then .c (zT,r.2.1,zT) m else
  (mU l m).dk λ_ o=>(if(tk l o).c≠7 then ex op true 0 o else .c zT o).dk λx q=>
   (mU l q).dk λ_ s=>(if bD (tk l s) [[123]]=true then .c zT s else(yf l F ex op true s).dk λy u=>uj l ex op true y false u).dk λz v=>.c (r.1,x,z) v
def Kt(op:Int)(n:Nat):PR Tree:=
 (lR l [118,97,114] n).dk λt m=>(jR l 1 m).dk λu o=>(if bD (tk l o) [[61]]=true then .c zT o else Ct l o).dk λty q=>
  (if bD (tk l q) [[61]]=true then ex op false 0 (q+1) else .c zT q).dk λe r=>.c (aV l r 11 t.a u.a u.b [ty,e]) r
def Ht(kind:Int)(n:Nat):PR Tree:=
 if(tk l (n+1)).c≠1 then .c (aV l (n+1) kind (tk l n).a (tk l n).a [] []) (n+1) else .c (aV l (n+1+1) kind (tk l n).a (tk l (n+1)).a (tk l (n+1)).b []) (n+1+1)
section
variable (st:Int->Nat->PR Tree)
def vE(op:Int)(n:Nat):PR Tree:=(wS l [123] [125] (st (op+1)) (mU l) op F n).dk λts m=>.c (aV l m 10 (tk l n).a (tk l n).a [] ts) m
def Hu(op:Int):Nat->Nat->PR Tree
 |0,_=>.d
 |g+1,n=>(lR l [105,102] n).dk λt m=>(ex op true 0 m).dk λc o=>(vE l F st op o).dk λb q=>
  (if bD (tk l q) [[101,108,115,101]]=true then if bD (tk l (q+1)) [[105,102]]=true then Hu op g (q+1) else vE l F st op (q+1) else .c zT q).dk λe r=>.c (aV l r 14 t.a t.a [] [c,b,e]) r
def Hv(op:Int)(n:Nat):PR Tree:=
 (lR l [102,111,114] n).dk λt m=>(if bD (tk l m) [[123]]=true then .c (zT,zT,zT) m else Ks l F ex op m).dk λp o=>
  (vE l F st op o).dk λb q=>.c (aV l q 15 t.a t.a [] [p.1,p.2.1,p.2.2,b]) q
def Ku(op:Int)(n:Nat):PR Tree:=
 if bD (tk l n) [[123]]=true then vE l F st op n
 else if bD (tk l n) [[105,102]]=true then Hu l F ex st op F n
 else if bD (tk l n) [[102,111,114]]=true then Hv l F ex st op n
 else if bD (tk l n) [[118,97,114]]=true then Kt l ex op n
 else if bD (tk l n) [[98,114,101,97,107]]=true then Ht l 17 n
 else if bD (tk l n) [[99,111,110,116,105,110,117,101]]=true then Ht l 18 n
 else if bD (tk l n) [[114,101,116,117,114,110]]=true then
  if(tk l (n+1)).c=7\/bD (tk l (n+1)) [[125]]=true then .c (aV l (n+1) 19 (tk l n).a (tk l n).a [] []) (n+1)
  else(ex op false 0 (n+1)).dk λx m=>.c (aV l m 19 (tk l n).a (tk l n).a [] [x]) m
 else(yf l F ex op false n).dk λx m=>
  if x.bi=25/\bD (tk l m) [[58]]=true then(Hv l F ex st op (m+1)).dk λy o=>.c (aV l o 16 (tk l n).a (tk l n).a x.bc [y]) o
  else uj l ex op false x true m
end
def Hw:Nat->Int->Nat->PR Tree
 |0,_,_=>.d
 |f+1,op,n=>Ku l F ex (Hw f) op n
end
def Kv(op:Int)(n:Nat):PR Tree:=
 if bD (tk l n) [[40]]=true then if op=128 then .i (tk l n).a 3 else
  (jR l 1 (n+1)).dk λt m=>(jR l 1 m).dk λu o=>
   if bD (tk l o) [[41]]=true then .c (aV l o 7 t.a t.a t.b [aV l o 8 u.a u.a u.b []]) (o+1) else .i (tk l o).a 4
 else .i (tk l n).a 4
def Kw(st:Int->Nat->PR Tree)(op:Int)(n:Nat):PR Tree:=
 (lR l [102,117,110,99] n).dk λt m=>(if bD (tk l m) [[40]]=true then Kv l op m else .c zT m).dk λr o=>(jR l 1 o).dk λu q=>
  (wS l [40] [41] (En l 7) (Cu l [41]) op F q).dk λps s=>(if bD (tk l s) [[123]]=true then .c zT s else Ct l s).dk λty v=>
   (vE l F st op v).dk λb w=>.c (aV l w 5 t.a u.a u.b [r,aV l s 6 (tk l q).a (tk l q).a [] ps,ty,b]) w
def aE6(op:Int)(n:Nat):PR Tree:=
 (lR l [116,121,112,101] n).dk λt m=>(jR l 1 m).dk λu o=>(lR l [115,116,114,117,99,116] o).dk λ_ q=>
  (wS l [123] [125] (En l 4) (mU l) op F q).dk λts r=>.c (aV l r 3 t.a u.a u.b ts) r
end
def ayj(s:List UInt8):Option UInt8:=match s with|a::x::b::_=>if a=34/\b=34/\97<=x.toNat/\x.toNat<=122 then some x else none|_=>none
def ayk(s:List UInt8)(o:List UInt8×Bool):List UInt8×Bool:=match ayj s with|some x=>if s.length=3 then([x],true) else o|none=>o
section
variable (l:List Tk)(F:Nat)
def Ac(o:List UInt8×Bool)(n:Nat):PR Tree:=
 (lR l [105,109,112,111,114,116] n).dk λt m=>if(tk l m).c≠5 then .i (tk l m).a 4 else if(ayk (tk l m).b o).2 =false then .i (tk l m).a 9
  else .c (aV l (m+1) 2 t.a (tk l m).a (ayk (tk l m).b o).1 []) (m+1)
def vH:Nat->(Nat->List UInt8×Bool)->Nat->List Tree->PR (List Tree)
 |0,_,_,_=>.d
 |g+1,o,n,a=>if bD (tk l n) [[105,109,112,111,114,116]]=true then(Ac l (o 0) n).dk λt m=>(mU l m).dk λ_ q=>vH g (λi=>o (i+1)) q (a++[t]) else .c a n
variable (st:Int->Nat->PR Tree)
def aE0:Nat->Nat->List Tree->PR (List Tree)
 |0,_,_=>.d
 |g+1,n,a=>if n+1<l.length then(if bD (tk l n) [[116,121,112,101]]=true then aE6 l F 0 n else Kw l F st 0 n).dk λt m=>(mU l m).dk λ_ q=>aE0 g q (a++[t]) else .c a n
def Ad(to:Int)(o:Nat->List UInt8×Bool)(n:Nat):PR Tree:=
 (lR l [112,97,99,107,97,103,101] n).dk λ_ m=>(jR l 1 m).dk λu q=>(mU l q).dk λ_ r=>(vH l F o r []).dk λis s=>(aE0 l F st F s is).dk λds v=>.c (.mk 1 0 to u.a u.b ds) v
end
def azn{s:List UInt8}{x:UInt8}(h:ayj s=some x):∃r,s=34::x::34::r/\97<=x.toNat/\x.toNat<=122:=by unfold ayj at h;split at h;split at h<;>rename_i c;obtain⟨rfl,rfl,a,b⟩:=c;cases h;exact⟨_,rfl,a,b⟩;cases h;cases h
def qO(o:Nat×Int)(s:List UInt8):Nat×Int:=if(ayj s).isSome=true then(3,0) else o
def aBr{o:Nat×Int}{s:List UInt8}{x:UInt8}(h:ayj s=some x):qO o s=(3,0):=by unfold qO;rw[h];rfl
def aCE{o:Nat×Int}{s:List UInt8}(h:ayj s=none):qO o s=o:=by unfold qO;rw[h];rfl
section
variable {h hh:Hp}{k:aK->Prop}
def aCF(a:aA T){b u lo:Nat}(e:h.ac b=.a 215 [.w,.o])(f:lo<=h.a)(d:∀h' i,ah (λi=>i=b\/lo<=i) h h'->lo<=i->i≠b->h'.ac b=.a 215 [.a b 0,.c i 0 1 1 1 false]->h'.ac i=.b 5 1 1 0 (cx fG 0 [.s u])->k (.a .x h')):aE T (W T) ⟨146⟩ [.a b 0,.s u] h k:=by rw[ic a.t146];have g:=Hp.lt e rfl;refine ag ?_;rw[ic a.t169];simp(disch:=omega) [e,Dz,cJ];rw[A7 (n:=0) (wN (Hp.ba qaq) zl) rfl zd];refine aB e ?_;refine d _ (h.a+1) fZ zo zo ?_ ?_;exact aa;exact aa
def aCG(d:aA T){b i u:Nat}(r:u<256)(e:h.ac b=.a 215 [.a b 0,.c i 0 1 1 1 false])(g:h.ac i=.b 5 1 1 0 (cx fG 0 [.s u]))(o:∀h',ah (λj=>j=i) h h'->k (.a (S [UInt8.ofNat u]) h')):aE T (W T) ⟨144⟩ [.a b 0] h k:=by
 rw[ic d.t144];have a:=Hp.lt e rfl;have n:AL h 5 (.a i 0) (.i 1)=.b (S [UInt8.ofNat u]) (h.bj i .f):=by
  have er:kZ (.b 5 1 1 0 (cx fG 0 [.s u])) 0 1 1=some (aEt (cx fG 0 [.s u]) 1 0):=NL zd zl;have q:=ahx (l:=[u]) (λb a=>by simp at a;omega);unfold AL;have m:mM (.i (1:Int))=some 1:=rfl;rw[m];simp only[g,cond,J9,er];have f:bytesRow (aEt (cx fG 0 [.s u]) 1 0)=some [u]:=by simp[aEt,dY,bytesRow,ny,show u<=255 by omega,cond]
  rw[f];exact aui (λv=>OR.b v (h.bj i .f)) q
 simp(disch:=omega) [e,FX,n];exact o _ ((ah.da _).bj _ (.inr rfl))
def aBs(a:aA T){x:UInt8}{r:List UInt8}(o:97<=x.toNat)(f:x.toNat<=122)(z:r.length<1073741824)(u:∀h',ax h h'->k (.a (.p [S [x],.i 3]) h')):aE T (W T) ⟨113⟩ [S (34::x::34::r)] h k:=by
 rw[ic a.t113];have g:¬x.toNat=34:=zo;have l:¬x.toNat<32:=zo;have m:¬x.toNat=127:=zo;have n:¬x.toNat=92:=zo;have y:(34::x::34::r).length=r.length+3:=rfl;have g1:∀h:1<(34::x::34::r).length,(34::x::34::r)[1]'h=x:=λ_=>rfl;have g2:∀h:2<(34::x::34::r).length,(34::x::34::r)[2]'h=34:=λ_=>rfl;generalize d:CC.d l113_0=L;refine ag ?_;generalize(34::x::34::r)=s at*;have v:(1:Int)<s.length:=zo;have w:(2:Int)<s.length:=zo;subst d;rw[aP];generalize d:CC.d l113_0=L;refine cq v g1 g l m n ?_;refine aCF a (lo:=h.a+1) (Hp.ba rfl) zl λo i b li ib q1 q2=>?_;refine ag ?_;subst d;rw[aP];refine aS w g2 ?_;have A:=x.toNat_lt;refine aCG a zo q1 q2 λf e=>?_;refine ag ?_;have q:=u f ⟨by have:=b.g;have:=e.g;simp only[Hp.dC] at*;omega,λj t _=>by rw[e.f j (by have:=b.g;simp only[Hp.dC] at*;omega) zo,b.f j qaf zo,Hp.io t]⟩
 simpa using q
end
def Tk.ca(t:Tk):List AV:=[.i t.c,S t.b,.i t.a,.i t.d]
structure bp(h:Hp)(c tb:Nat)(l:List Tk)(n:Nat)(op:Int)(hd:Bool):Prop where
 a:∃cap ex,h.ac c=.a 120 [.c tb 0 4 l.length cap ex,.i n,.i op,.d hd]
 d:∃r t,h.ac tb=.b 118 4 r 0 t/\l.length<=r/\∀k,k<l.length->t k=(tk l k).ca
 j:l.length<4294967296
def bp.aw{h h':Hp}{c tb l n op hd}(x:bp h c tb l n op hd)(g:ax h h'):bp h' c tb l n op hd:=by obtain⟨⟨cap,ex,b⟩,⟨r,t,e,f⟩,le⟩:=x;exact⟨⟨cap,ex,by rw[g.f _ (Hp.lt b rfl) id];exact b⟩,⟨r,t,by rw[g.f _ (Hp.lt e rfl) id];exact e,f⟩,le⟩
def bp.lt{h:Hp}{c tb l n op hd}(x:bp h c tb l n op hd):c<h.a:=by obtain⟨⟨cap,ex,b⟩,_⟩:=x;exact Hp.lt b rfl
def bp.rc{h:Hp}{c tb l n op hd}(x:bp h c tb l n op hd):tb<h.a:=by obtain⟨_,⟨r,t,b,e⟩,_⟩:=x;exact Hp.lt b rfl
def bp.ne{h:Hp}{c tb l n op hd}(x:bp h c tb l n op hd):tb≠c:=by obtain⟨⟨cap,ex,e⟩,⟨r,t,b,f⟩,_⟩:=x;rintro rfl;rw[e] at b;cases b
def bp.pg{M:Nat->Prop}{h h':Hp}{c tb l n op hd}(x:bp h c tb l n op hd)(g:ah M h h')(f:¬M c)(i:¬M tb):bp h' c tb l n op hd:=by obtain⟨⟨cap,ex,b⟩,⟨r,t,e,m⟩,le⟩:=x;exact⟨⟨cap,ex,by rw[g.f _ (Hp.lt b rfl) f];exact b⟩,⟨r,t,by rw[g.f _ (Hp.lt e rfl) i];exact e,m⟩,le⟩
abbrev Pg(c:Nat):=ah (·=c)
section
variable {h:Hp}{c:Nat}{l:List Tk}{hd:Bool}{k:aK->Prop}
def qC(e:aA T)(a:bp h c tb l n op hd)(g:n<l.length)
 (f:∀h',ax h h'->k (.a (.j (tk l n).ca) h')):aE T (W T) ⟨117⟩ [.a c 0] h k:=by
 obtain⟨⟨cap,ex,a⟩,⟨r,t,d,i,b⟩,le⟩:=a;have c1:=Hp.lt a rfl;have c2:=Hp.lt d rfl;have b:=b n g;rw[ic e.t117];refine bK a d b Tk.ca.eq_1 ?_;exact f _ aZ
def vB(f:aA T)(a:bp h c tb l n op hd)(i:n<l.length)
 (g:∀h',Pg c h h'->bp h' c tb l (n+1) op hd->k (.a (.j (tk l n).ca) h')):aE T (W T) ⟨116⟩ [.a c 0] h k:=by
 obtain⟨⟨cap,ex,a⟩,⟨r,t,b,j,e⟩,le⟩:=a;have c1:=Hp.lt a rfl;have c2:=Hp.lt b rfl;have m:c≠tb:=by rintro rfl;rw[a] at b;cases b
 have d:=e n i;rw[ic f.t116];refine bK a b d Tk.ca.eq_1 ?_;exact g _ aZ ⟨⟨cap,ex,aa⟩,⟨r,t,au b,j,e⟩,le⟩
def ke(d:aA T)(m:bp h c tb l n op hd)(o:n<l.length){v:AV}{ws}(p:cY h v ws)(j:ws.length<4294967296)
 (f:∀h',ax h h'->k (.a (.d (bD (tk l n) ws)) h')):aE T (W T) ⟨82⟩ [.a c 0,v] h k:=by
 rw[ic d.t82];refine ag ?_;refine qC d m o λi g1=>?_;have g:cY (((i.am (.a 118 [.i 0,S [],.i 0,.i 0])).bj i.a (.a 118 (tk l n).ca))) v ws:=p.aw (g1.ab aZ) λ_ _ _ _=>id
 by_cases b:(tk l n).c=6
 have e:bD (tk l n) ws=decide ((tk l n).b∈ws):=by simp[bD,b]
 refine aS Tk.ca.eq_1 b ?_;refine Ek d (by simpa[Tk.ca,b] using g) j ?_;refine ag ?_;rw[<-e];exact f _ (g1.ab aZ)
 by_cases a:(tk l n).c=2
 have e:bD (tk l n) ws=decide ((tk l n).b∈ws):=by simp[bD,a]
 refine aS Tk.ca.eq_1 a ?_;refine Ek d (by simpa[Tk.ca,a] using g) j ?_;refine ag ?_;rw[<-e];exact f _ (g1.ab aZ);have e:bD (tk l n) ws=false:=by simp[bD,b,a]
 refine aU Tk.ca.eq_1 b a ?_;rw[<-e];exact f _ (g1.ab aZ)
def qD(p:Int)(e:Int):AV:=.r 115 (.j [.i p,.i e])
def Cw(a:aA T)(b:bp h c tb l n op hd)(f:n<l.length){e:Int}
 (d:∀h',ax h h'->k (.b (qD (tk l n).a e) h')):aE T (W T) ⟨115⟩ [.a c 0,.i e] h k:=by
 rw[ic a.t115];refine ag ?_;refine qC a b f λg g1=>?_;refine aB Tk.ca.eq_1 ?_;exact d _ g1
def Eo(d:aA T)(b:bp h c tb l n op hd)(f:n<l.length){q:Int}
 (p:(tk l n).c=q->∀h',Pg c h h'->bp h' c tb l (n+1) op hd->k (.a (.j (tk l n).ca) h'))
 (o:(tk l n).c≠q->∀h',Pg c h h'->k (.b (qD (tk l n).a 4) h')):aE T (W T) ⟨80⟩ [.a c 0,.i q] h k:=by
 rw[ic d.t80];refine ag ?_;refine qC d (b.aw aZ) f λi g1=>?_;have a:ax h i:=ah.ab aZ g1
 by_cases e:(tk l n).c=q
 refine aS Tk.ca.eq_1 e ?_;refine vB d (b.aw a) f λj g2 c2=>?_;have g:i.ac h.a=.a 118 [.i 0,S [],.i 0,.i 0]:=by rw[g1.f _ zm id];simp(disch:=omega)
 have r:=b.lt;have m:j.ac h.a=.a 118 [.i 0,S [],.i 0,.i 0]:=by rw[g2.f _ (Hp.lt g rfl) zo];exact g
 refine aS m Tk.ca.eq_1 ?_;have:=b.rc;exact p e _ (a.ka.ab g2|>.bj _ (.inl zl)) (c2.pg (M:=(·=h.a)) ((ah.da _).bj _ (.inr rfl)) zo zo);refine aS Tk.ca.eq_1 e ?_;refine Cw d (b.aw a) f λj g2=>?_;refine ag ?_;exact o e _ (a.ab g2).ka
def Cx(d:aA T)(b:bp h c tb l n op hd)(f:n<l.length){x:List UInt8}
 (p:bD (tk l n) [x]=true->∀h',Pg c h h'->bp h' c tb l (n+1) op hd->k (.a (.j (tk l n).ca) h'))
 (o:bD (tk l n) [x]=false->∀h',Pg c h h'->k (.b (qD (tk l n).a 4) h')):aE T (W T) ⟨79⟩ [.a c 0,S x] h k:=by
 have r:=b.lt;have q:=b.rc;rw[ic d.t79];refine ag ?_;refine ke d (b.aw aZ) f (cY.ly (x:=x) (Hp.ba zm) zl zm) zm λi g1=>?_;have a:ax h i:=ah.ab aZ g1;have g:i.ac h.a=.a 118 [.i 0,S [],.i 0,.i 0]:=by rw[g1.f _ zn id];exact aa
 cases e:bD (tk l n) [x] with
 |true=>
  refine aB e ?_;refine vB d (b.aw a) f λj g2 c2=>?_;have m:j.ac h.a=.a 118 [.i 0,S [],.i 0,.i 0]:=by rw[g2.f _ (Hp.lt g rfl) zo];exact g
  refine aS m Tk.ca.eq_1 ?_;exact p e _ (a.ka.ab g2|>.bj _ (.inl zl)) (c2.pg (M:=(·=h.a)) ((ah.da _).bj _ (.inr rfl)) zo zo)
 |false=>
  refine aB e ?_;refine Cw d (b.aw a) f λj g2=>?_;refine ag ?_;exact o e _ (a.ab g2).ka
def He(b:aA T)(d:bp h c tb l n op hd)(f:n<l.length){x:List UInt8}
 (j:bD (tk l n) [x]=true->∀h',Pg c h h'->bp h' c tb l (n+1) op hd->k (.a (.d true) h'))
 (i:bD (tk l n) [x]=false->∀h',Pg c h h'->bp h' c tb l n op hd->k (.a (.d false) h')):aE T (W T) ⟨175⟩ [.a c 0,S x] h k:=by
 rw[ic b.t175];refine ag ?_;refine ke b (d.aw aZ) f (cY.ly (x:=x) (Hp.ba zm) zl zm) zm λg g1=>?_;have a:ax h g:=ah.ab aZ g1;cases e:bD (tk l n) [x] with
 |true=>
  refine aB e ?_;refine vB b (d.aw a) f λm g2 c2=>?_;refine ag ?_;exact j e _ (a.ka.ab g2) c2
 |false=>
  refine aB e ?_;exact i e _ a.ka (d.aw a)
def NZ(a:aA T)(d:bp h c tb l n op hd)(g:n<l.length)
 (i:(tk l n).c=7->∀h',Pg c h h'->bp h' c tb l (n+1) op hd->k (.a (.p []) h'))
 (f:(tk l n).c≠7->∀h',Pg c h h'->k (.b (qD (tk l n).a 4) h')):aE T (W T) ⟨81⟩ [.a c 0] h k:=by
 rw[ic a.t81];refine ag ?_;refine Eo a d g (λe b g1 c1=>?_) λe b g1=>?_;refine ag ?_;exact i e _ g1 c1;refine ag ?_;exact f e _ g1
def gS(f:aA T)(a:bp h c tb l (n+1) op hd)(i:n<l.length){kind d at_:Int}{nm:List UInt8}{kv:AV}(j:bQ kv=some [kv])
 (g:∀h',ax h h'->k (.a (.j [.i kind,.i d,.i (tk l n).d,.i at_,S nm,kv]) h')):aE T (W T) ⟨119⟩ [.a c 0,.i kind,.i d,.i at_,S nm,kv] h k:=by
 obtain⟨⟨cap,ex,a⟩,⟨r,t,e,m,b⟩,le⟩:=a;have c1:=Hp.lt a rfl;have c2:=Hp.lt e rfl;have b:=b n i;rw[ic f.t119];refine cC a e b Tk.ca.eq_1 j ?_;exact g _ aZ
end
mutual
def ay(lo:Nat)(h:Hp):Tree->List AV->Prop
 |.mk kind b to at_ nm a,row=>∃kv,row=[.i kind,.i b,.i to,.i at_,S nm,kv]/\dO lo h a kv
def dO(lo:Nat)(h:Hp):List Tree->AV->Prop
 |[],v=>v=.o
 |t::ts,v=>∃b cap ex r f,v=.c b 0 6 (ts.length+1) cap ex/\h.ac b=.b 72 6 r 0 f/\ts.length+1<=r/\lo<=b/\ay lo h t (f 0)/\eR lo h ts λj=>f (j+1)
def eR(lo:Nat)(h:Hp):List Tree->(Nat->List AV)->Prop
 |[],_=>True
 |t::ts,f=>ay lo h t (f 0)/\eR lo h ts λj=>f (j+1)
end
def g0{h h':Hp}(g:ax h h'):∀i,i<h.a->h'.ac i=h.ac i:=λi hi=>g.f i hi id
def gp{c:Nat}{h h':Hp}(g:Pg c h h'):∀i,i<h.a->i≠c->h'.ac i=h.ac i:=g.f
def NF(lo:Nat)(h h':Hp):Prop:=∀i r f,lo<=i->h.ac i=.b 72 6 r 0 f->h'.ac i=.b 72 6 r 0 f
mutual
theorem ay.nf{lo kg:Nat}{h h':Hp}(g:NF lo h h')(le:kg<=lo):∀(t:Tree)(row:List AV),ay lo h t row->ay kg h' t row
 |.mk ..,_,a=>by simp only[ay] at a⊢;obtain⟨kv,e,b⟩:=a;exact⟨kv,e,dO.nf g le _ _ b⟩
theorem dO.nf{lo kg:Nat}{h h':Hp}(g:NF lo h h')(le:kg<=lo):∀(ts:List Tree)(v:AV),dO lo h ts v->dO kg h' ts v
 |[],_,a=>by simpa only[dO] using a
 |t::ts,_,a=>by simp only[dO] at a⊢;obtain⟨b,cap,ex,r,f,e,m,o,d,i,j⟩:=a;exact⟨b,cap,ex,r,f,e,g _ _ _ d m,o,at1 le d,ay.nf g le _ _ i,eR.nf g le _ _ j⟩
theorem eR.nf{lo kg:Nat}{h h':Hp}(g:NF lo h h')(le:kg<=lo):∀(ts:List Tree)(f:Nat->List AV),eR lo h ts f->eR kg h' ts f
 |[],_,_=>by simp only[eR]
 |t::ts,f,a=>by simp only[eR] at a⊢;exact⟨ay.nf g le _ _ a.1,eR.nf g le _ _ a.2⟩
end
section
variable {lo:Nat}
theorem NF.da(h:Hp):NF lo h h:=λ_ _ _ _ e=>e
def NF.ab{a b c:Hp}(x:NF lo a b)(y:NF lo b c):NF lo a c:=λi r f d e=>y i r f d (x i r f d e)
theorem NF.am{a b:Hp}(x:NF lo a b)(o:AO):NF lo a (b.am o):=λi r f d e=>by have:=x i r f d e;rw[Hp.io (Hp.lt this rfl)];exact this
theorem NF.bj{a b:Hp}(x:NF lo a b){i:Nat}(o:AO){el l}(d:b.ac i=.a el l):NF lo a (b.bj i o):=λj r f g e=>by have:=x j r f g e;rw[Hp.du (by rintro rfl;rw[d] at this;cases this)];exact this
def NF.rh{a b:Hp}(x:NF lo a b){i:Nat}(o:AO)(hi:i<lo):NF lo a (b.bj i o):=λj r f d e=>by rw[Hp.du zo];exact x j r f d e
def NF.aw{kg:Nat}{a b:Hp}(x:NF lo a b)(h:lo<=kg):NF kg a b:=λi r f d e=>x i r f (at1 h d) e
def NF.xn{M:Nat->Prop}{h h':Hp}(g:ah M h h')(a:∀i r f,M i->h.ac i≠.b 72 6 r 0 f):NF lo h h':=λi r f _ e=>by rw[g.f _ (Hp.lt e rfl) λm=>a i r f m e];exact e
def bp.nf{h h':Hp}{c tb l n op hd}(x:bp h c tb l n op hd)(g:Pg c h h'):NF lo h h':=NF.xn g λi r f m e=>by obtain⟨⟨cap,ex,b⟩,_⟩:=x;subst m;rw[b] at e;cases e
end
theorem bp.am{h:Hp}{c tb l n op hd}(x:bp h c tb l n op hd)(o:AO):bp (h.am o) c tb l n op hd:=x.aw aZ
theorem bp.bj{h:Hp}{c tb l n op hd}(x:bp h c tb l n op hd){b:Nat}(o:AO)(e:c≠b)(f:tb≠b):bp (h.bj b o) c tb l n op hd:=
 x.pg (M:=(·=b)) ((ah.da _).bj _ (.inr rfl)) e f
def ay.agg{lo:Nat}{h:Hp}{t:Tree}{row:List AV}(x:ay lo h t row):row.length=6:=by cases t;simp only[ay] at x;obtain⟨kv,rfl,_⟩:=x;rfl
def fc(l:List Tk):Prop:=∀n,n<l.length->(tk l n).c≠0->n+1<l.length
def cU(lo c tb:Nat)(l:List Tk)(op:Int)(hd:Bool)(h:Hp)(k:aK->Prop)(r:PR Tree):Prop:=
 match r with
 |.c t n=>∀h' row,Pg c h h'->bp h' c tb l n op hd->ay lo h' t row->n<l.length->0<n->k (.a (.j row) h')
 |.i p e=>∀h',Pg c h h'->k (.b (qD p e) h')
 |.d=>False
abbrev lS(c tb:Nat)(l:List Tk)(op:Int)(hd:Bool)(h:Hp)(k:aK->Prop)(r:PR Tree):Prop:=cU h.a c tb l op hd h k r
section
variable {h:Hp}{c:Nat}{l:List Tk}{hd:Bool}{k:aK->Prop}
def cY.aau{b r cap ex t}{x y z w:List UInt8}(a:h.ac b=.b 9 1 r 0 t)(e:4<=r)(h0:t 0=[S x])(f:t 1=[S y])(g:t 2=[S z])(i:t 3=[S w]):cY h (.c b 0 1 4 cap ex) [x,y,z,w]:=
 ⟨b,cap,ex,r,t,rfl,a,e,λj d=>by
  have:j=0\/j=1\/j=2\/j=3:=by simp at d;omega
  rcases this with rfl|rfl|rfl|rfl<;>assumption⟩
def lT(b:fc l)(a:n<l.length){ws}(e:bD (tk l n) ws=true):n+1<l.length:=by refine b n a λh0=>?_;simp[bD,h0] at e
def wT(d:fc l)(a:n<l.length){q:Int}(e:(tk l n).c=q)(b:q≠0):n+1<l.length:=d n a (by rw[e];exact b)
def Tp(b:aA T)(C:fc l)(B:bp h c tb l n op hd)(g:n<l.length)(a:lS c tb l op hd h k (Ct l n)):aE T (W T) ⟨124⟩ [.a c 0] h k:=by
 have Z:=B.lt;have hy:=B.rc;rw[ic b.t124];refine ag ?_;refine qC b (B.am _) g λO g1=>?_;obtain⟨n1,j⟩:=bH g1;have c1:bp O c tb l n op hd:=(B.am _).aw g1;refine aB Tk.ca.eq_1 ?_;refine ke b (c1.am _) g (cY.aau (x:=NT) (y:=NU) (z:=NV) (w:=NW) (Hp.ba zm) zl (by simp[NT]) (by simp[NU]) (by simp[NV]) (by simp[NW])) zm λP g2=>?_;obtain⟨n2,m⟩:=bH g2;have c2:bp P c tb l n op hd:=(c1.am _).aw g2;unfold Ct at a;cases e:bD (tk l n) [NT,NU,NV,NW] with
 |true=>
  rw[e] at a;simp only[auo] at a;have p:=lT C g e;refine aB e ?_;refine vB b c2 g λF s c3=>?_;obtain⟨L,d⟩:=bw s;refine aB Tk.ca.eq_1 ?_;refine gS b ((c3.am _).bj _ zo zo) g rfl λG t=>?_;obtain⟨R,i⟩:=bH t;refine bK i d m j ?_;exact a _ _ (qB i d m j) ((((c3.am _).bj _ zo zo).aw t).bj _ zo zo) (by simp[ay,dO,aV]) p zo
 |false=>
  rw[e] at a;simp only[at3,auM,jR] at a;refine aB e ?_;refine Eo b c2 g (λf F s c3=>?_) λf F s=>?_;have p:=wT C g f zd;rw[atV f] at a;simp only[PR.dk] at a;obtain⟨L,d⟩:=bw s;refine aB Tk.ca.eq_1 ?_;refine ke b (((c3.am _).bj _ zo zo).am _) p (cY.ly (x:=[46]) (Hp.ba aa) zl zm) zm λG t=>?_;obtain⟨R,i⟩:=bH t;have v:=(((c3.am _).bj _ zo zo).am _).aw t;have H:G.ac F.a=.a 118 (tk l n).ca:=bV i Tk.ca.eq_1;have K:G.ac h.a=.a 72 [.i 0,.i 0,.i 0,.i 0,S [],.o]:=mw i d m j;cases q:bD (tk l (n+1)) [[46]] with
  |false=>
   rw[q] at a;simp only[at3,auM] at a;refine aU q H Tk.ca.eq_1 ?_;refine gS b v g rfl λh5 u=>?_;obtain⟨U,o⟩:=bH u;refine aS o K ?_;exact a _ _ (Ei o i d m j) ((v.aw u).bj _ zo zo) (by simp[ay,dO,aV]) p zo
  |true=>
   rw[q] at a;simp only[auo] at a;have I:=lT C p q;refine aU q H Tk.ca.eq_1 ?_;refine gS b v g rfl λh5 u=>?_;obtain⟨U,o⟩:=bH u;refine ag ?_;refine vB b (((v.aw u).am _).bj _ zo zo) p λX N c6=>?_;obtain⟨n6,A⟩:=bw N;refine ag ?_;refine Eo b c6 I (λf Q E c7=>?_) λf Q E=>?_;have M:=wT C I f zd;rw[atV f] at a;simp only[] at a;obtain⟨V,r⟩:=bw E;refine cC r A o H Tk.ca.eq_1 ?_;refine gS b ((c7.bj _ zo zo).am _) I rfl λY J=>?_;obtain⟨n8,D⟩:=bH J;refine cC D r A o K ?_;exact a _ _ (zp8 D r A o i d m j) ((((c7.bj _ zo zo).am _).aw J).bj _ zo zo)
    (by simp[ay,dO,eR,aV];exact⟨1,_,by rw[Hp.du zo,D _ qab];exact Hp.ba aa,by simp,by omega,by simp⟩) M zo
   rw[atS f] at a;refine ag ?_;obtain⟨V,r⟩:=bw E;exact a _ (ZX r A o i d m j)
  rw[atS f] at a;refine ag ?_;obtain⟨L,d⟩:=bw s;exact a _ (fH d m j)
end
def Cz(T:aM->Option CF)(h:Hp):Prop:=∀(s:List UInt8)(k:aK->Prop),s.length<1073741824->(∀v e h',ax h h'->(s.length=1/\dU s=1->e=0)->k (.a (.p [v,.i e]) h'))->aE T (W T) ⟨111⟩ [S s] h k
def CA(T:aM->Option CF)(h:Hp):Prop:=∀(s:List UInt8)(k:aK->Prop),s.length<1073741824->(∀v e h',ax h h'->k (.a (.p [v,.i e]) h'))->aE T (W T) ⟨112⟩ [S s] h k
def fA(o:Nat×Int)(s:List UInt8):Int×Nat×Int:=
 if 0<gu s then
  if s.take (gu s)∈Cr then(2,gu s,0) else if 40<gu s then(1,gu s,3) else if El (s.take (gu s))=false then(1,gu s,9) else(1,gu s,0)
 else if 0<dU s then
  if zS s=true then(4,max 1 (min o.1 s.length),o.2) else(3,dU s,if dU s=1 then 0 else o.2)
 else if s.head?=some 34/\0<min (qO o s).1 s.length then(5,min (qO o s).1 s.length,(qO o s).2)
 else if aEv s [59]=true then(7,1,0) else if 0<aEH s then(6,aEH s,0) else(0,0,4)
section
variable {h:Hp}{k:aK->Prop}
theorem aav(s:List UInt8):gu s<=s.length:=by
 cases s with
 |nil=>exact at2 _
 |cons c s=>grind [aad]
theorem ahM(s:List UInt8)(h:0<dU s):dU (s.take (dU s))=dU s:=by
 have hd:∀s:List UInt8,dU s=(s.takeWhile λc=>decide (c∈rj)).length:=λs=>by
  have:=aui List.length (aww (p:=λc=>decide (c∈rj)) (l:=s))
  grind [dU,sW]
 have a:s.take (dU s)=s.takeWhile λc=>decide (c∈rj):=by
  conv=>lhs;arg 2;rw[<-aww (p:=λc=>decide (c∈rj)) (l:=s)]
  grind
 rw[a,hd,hd s];congr 1;have d:∀(q:UInt8->Bool)(s:List UInt8),(s.takeWhile q).takeWhile q=s.takeWhile q:=by
  intro q s
  induction s with
  |nil=>rfl
  |cons c s b=>
   cases e:q c with
   |true=>simp_all
   |false=>simp_all
 grind
abbrev Bc(hh:Hp)(s:List UInt8)(k:aK->Prop)(r:Int×Nat×Int):Prop:=∀h'(a:Int) b(c d:Int),ax hh h'->(r.2.2 =0->a=r.1 /\b=s.take r.2.1 /\c=0/\d=r.2.1)->k (.a (.p [.j [.i a,S b,.i c,.i d],.i r.2.2]) h')
abbrev ta:List AV:=[.i 0,S [],.i 0,.i 0]
theorem ahN(g:aA T){hh:Hp}{f:Fr}(o:s.length<1073741824)(n:lO (h.ac 1))(j:hh.a≠1)(d:ax hh h)(l:h.ac hh.a=.a 118 ta)(f0:cg 0 f=S s)(b:cg 2 f=.a hh.a 0)
 (a:Bc hh s k (if aEv s [59]=true then(7,1,0) else if 0<aEH s then(6,aEH s,0) else(0,0,4))):
 W T aze f h [] (finish T (W T) [.b 4 true 2,.a 3] k):=by
 have u:=Hp.lt l rfl;have t:=aar s;refine aS f0 b ?_;refine NJ g zo ?_;cases e:aEv s [59] with
 |true=>
  rw[atV e] at a;have i:s.take 1=[59]:=by simpa[aEv] using e
  refine aU f0 b l ?_;have q:=a (h.bj hh.a (.a 118 [.i 7,S [59],.i 0,.i 1])) 7 [59] 0 1 (d.bj _ (.inl zl)) (λ_=>⟨rfl,i.symm,rfl,rfl⟩);omega
 |false=>
  rw[atS qaa] at a;refine aS f0 b ?_;refine ahK g o n λj g1=>?_;have i:=g0 g1;have m:j.ac hh.a=.a 118 ta:=by grind
  by_cases em:0<aEH s
  rw[atV em] at a;have r:((aEH s:Nat):Int)<=s.length:=zo;exact cC f0 b em r m (a _ _ _ _ _ ((d.ab g1).bj _ (.inl zl)) (λ_=>⟨rfl,rfl,rfl,rfl⟩));rw[atS em] at a;exact bK f0 b em m (a _ _ _ _ _ ((d.ab g1).bj _ (.inl zl)) (λh=>by grind))
theorem ahO(l:aA T){hh:Hp}{f:Fr}(C:s.length<1073741824)(M:lO (h.ac 1))(d:1<hh.a)(i:ax hh h)(D:h.ac hh.a=.a 118 ta)(f0:cg 0 f=S s)(a:cg 2 f=.a hh.a 0)
 (b:∀o:Nat×Int,Bc hh s k (if s.head?=some 34/\0<min (qO o s).1 s.length then(5,min (qO o s).1 s.length,(qO o s).2) else if aEv s [59]=true then(7,1,0) else if 0<aEH s then(6,aEH s,0) else(0,0,4))):
 W T (CC.g (.g (.h (z q78 18)) (.g (.h (z q78 19)) (.i (.t 74) (.g (.h r78_20) (.g (.g (.h (z q78 21)) (.i (.t 77) (.h r78_22) .k)) (.g (.h (z q78 23)) .m))) .k))) aze) f h [] (finish T (W T) [.b 4 true 2,.a 3] k):=by
 have w:=Hp.lt D rfl;generalize u:aze=F;cases eq:ayj s with
 |some x=>
  have q:=b (0,0);rw[aBr eq] at q;obtain⟨r,G,K,L⟩:=azn eq;have J:3<=s.length:=by grind
  rw[atV ⟨by grind,by omega⟩,awI J] at q;have y:(3:Int)<=s.length:=zo;refine aS f0 a ?_;have B:=λ(k:aK->Prop) b=>aBs (T:=T) (h:=h) (k:=k) l K L (r:=r) qaa b;rw[<-G] at B;refine B _ λd g1=>?_;have j:d.ac hh.a=.a 118 ta:=by rw[g1.f _ w id];omega
  exact bK f0 a y j (q _ _ _ _ _ ((i.ab g1).bj _ (.inl zl)) (λ_=>⟨rfl,rfl,rfl,rfl⟩))
 |none=>
 have b:∀o:Nat×Int,Bc hh s k (if s.head?=some 34/\0<min o.1 s.length then(5,min o.1 s.length,o.2) else if aEv s [59]=true then(7,1,0) else if 0<aEH s then(6,aEH s,0) else(0,0,4)):=λo=>by have:=b o;rwa[aCE eq] at this
 have E:∀(f:Fr)(h':Hp),ax h h'->cg 0 f=S s->cg 2 f=.a hh.a 0->W T F f h' [] (finish T (W T) [.b 4 true 2,.a 3] k):=by intro f h' g f0 a;subst u;refine ahN l C (by rw[g.f 1 zo id];omega) zo (i.ab g) (by rw[g.f _ w id];omega) f0 a ?_;have q:=b (0,0);rwa[atS zm] at q
 refine aS f0 a ?_;refine aak l C (λ_ d g1=>?_) λI v n d g1 H N=>?_;refine ag ?_;exact E _ _ g1 zA zA
 by_cases t:0<n
 have A:(n:Int)<=s.length:=zo;have j:d.ac hh.a=.a 118 ta:=by rw[g1.f _ w id];exact D
 have q:∀e:Int,Bc hh s k (5,n,e):=λe=>by have:=b (n,e);rwa[atV ⟨I,by simp;omega⟩,awI H] at this
 by_cases ev:4096<v.length
 have m:(4096:Int)<v.length:=zo;refine cq f0 a t A m j ?_;exact q 3 _ _ _ _ _ ((i.ab g1).bj _ (.inl zl)) (λh=>by cases h);have m:¬(4096:Int)<v.length:=zo;refine cq f0 a t A m j ?_;exact q 0 _ _ _ _ _ ((i.ab g1).bj _ (.inl zl)) (λ_=>⟨rfl,rfl,rfl,rfl⟩);refine aB t ?_;exact E _ _ g1 zA zA
def ahP(x:aA T)(F:∀h',ax h h'->Cz T h') (E:∀h',ax h h'->CA T h') {hh:Hp} {f:Fr} (C:s.length<1073741824) (H:lO (h.ac 1)) (l:1<hh.a) (j:ax hh h) (w:h.ac hh.a=.a 118 ta) (f0:cg 0 f=S s) (g:cg 2 f=.a hh.a 0)
 (i:∀o:Nat×Int,Bc hh s k (if 0<dU s then if zS s=true then(4,max 1 (min o.1 s.length),o.2) else(3,dU s,if dU s=1 then 0 else o.2)
  else if s.head?=some 34/\0<min (qO o s).1 s.length then(5,min (qO o s).1 s.length,(qO o s).2) else if aEv s [59]=true then(7,1,0) else if 0<aEH s then(6,aEH s,0) else(0,0,4))):
 W T (CC.g (.g (.h (z q78 11)) (.g (.h (z q78 12)) (.i (.t 44) (.g (.h r78_13) (.g (.g (.h (z q78 14)) (.i (.t 46) (.h (z q78 15)) (.h (z q78 16)))) (.g (.h (z q78 17)) .m))) .k))) azQ) f h [] (finish T (W T) [.b 4 true 2,.a 3] k):=by
 have D:=Hp.lt w rfl;have hd:=Kh s;generalize J:azQ=K;refine aS f0 g ?_;refine ahs x C (λe l g1=>?_) λe l n g1 A I=>?_;have a:l.ac hh.a=.a 118 ta:=by rw[g1.f _ D id];exact w
 by_cases b:0<dU s
 have y:((dU s:Nat):Int)<=s.length:=zo;have q:∀e:Int,(dU s=1->e=0)->Bc hh s k (3,dU s,e):=λm u=>by have:=i (0,m);rw[atV b,atS qag] at this;split at this;rw[u ‹_›];exact this;exact this
 refine cC f0 g b y a ?_;refine F _ g1 _ _ qaE λv r t g2 u=>?_;have d:t.ac hh.a=.a 118 ta:=by rw[g2.f _ (Hp.lt a rfl) id];exact a
 refine bK f0 g y d ?_;refine q r (λG=>u ⟨by rw[auN];omega,by rw[ahM s b];exact G⟩) _ _ _ _ _ (((j.ab g1).ab g2).bj _ (.inl zl)) (λ_=>⟨rfl,rfl,rfl,rfl⟩);have i:∀o:Nat×Int,Bc hh s k (if s.head?=some 34/\0<min (qO o s).1 s.length then(5,min (qO o s).1 s.length,(qO o s).2) else if aEv s [59]=true then(7,1,0) else if 0<aEH s then(6,aEH s,0) else(0,0,4)):=λo=>by have:=i o;rwa[atS b] at this
 refine aB b ?_;subst J;refine ahO x C (by rw[g1.f 1 qat id];exact H) zo (j.ab g1) a zA zA i;have a:l.ac hh.a=.a 118 ta:=by rw[g1.f _ D id];exact w
 have b:0<dU s:=by
  have:dU s≠0:=by intro h0;simp[zS,h0] at e
  omega
 have B:(n:Int)<=s.length:=zo;have q:∀e:Int,Bc hh s k (4,n,e):=λm=>by have:=i (n,m);rwa[atV b,atV e,awI I,Nat.max_eq_right A] at this
 refine cC f0 g A B a ?_;refine E _ g1 _ _ qaE λv r t g2=>?_;have d:t.ac hh.a=.a 118 ta:=by rw[g2.f _ (Hp.lt a rfl) id];exact a
 refine bK f0 g B d ?_;exact q r _ _ _ _ _ (((j.ab g1).ab g2).bj _ (.inl zl)) (λ_=>⟨rfl,rfl,rfl,rfl⟩)
def ahQ(i:aA T)(F:∀h',ax h h'->Cz T h') (E:∀h',ax h h'->CA T h') (I:s.length<1073741824) (B:lO (h.ac 1)) (a:∀o,Bc h s k (fA o s)):aE T (W T) ⟨78⟩ [S s] h k:=by
 rw[ic i.t78];have O:=aav s;have D:1<h.a:=by obtain⟨t,e,_⟩:=B;exact Hp.lt e rfl
 generalize L:aAY=M;refine ag ?_;refine aae i zo λn g1=>?_;have G:=g0 g1;have J:=g1.g;simp only[Hp.dC] at J;have l:ax h n:=ah.ab aZ g1;have C:n.ac h.a=.a 118 ta:=au G
 by_cases m:0<gu s
 have H:((gu s:Nat):Int)<=s.length:=zo;have a:Bc h s k (if s.take (gu s)∈Cr then(2,gu s,0) else if 40<gu s then(1,gu s,3) else if El (s.take (gu s))=false then(1,gu s,9) else(1,gu s,0)):=by have:=a (0,0);unfold fA at this;rwa[atV m] at this
 refine aS m H ?_;refine aaf i λq g2=>?_;have v:=g0 g2;have K:=g2.g;simp only[Hp.dC,Hp.ii] at K;have b:q.ac h.a=.a 118 ta:=bV v C;have q2:q.ac n.a=.a 118 [.i 1,S (s.take (gu s)),.i 0,.i (gu s)]:=au v;have f:ax h q:=ah.ab (l.ab aZ) g2;have N:=Hp.lt q2 rfl
 by_cases j:s.take (gu s)∈Cr
 rw[atV j] at a;refine aU j q2 b ?_;exact a _ _ _ _ _ ((f.bj _ (.inl zo)).bj _ (.inl zl)) (λ_=>⟨rfl,rfl,rfl,rfl⟩);rw[atS j] at a
 by_cases x:40<gu s
 rw[atV x] at a;have d:(40:Int)<(gu s:Nat):=zo;refine bK j q2 b d ?_;exact a _ _ _ _ _ (f.bj _ (.inl zl)) (λh=>by cases h);rw[atS x] at a;have d:¬(40:Int)<(gu s:Nat):=zo;refine bK j q2 b d ?_;refine aag (s:=s.take (gu s)) i qaE λA z=>?_;have w:=g0 z;have q3:A.ac n.a=.a 118 [.i 1,S (s.take (gu s)),.i 0,.i (gu s)]:=bV w q2;have r:A.ac h.a=.a 118 ta:=bV w b;have u:=f.ab z;cases y:El (s.take (gu s)) with
 |true=>
  rw[atS (by simp[y])] at a;refine aS q3 r ?_;exact a _ _ _ _ _ (u.bj _ (.inl zl)) (λ_=>⟨rfl,rfl,rfl,rfl⟩)
 |false=>
  rw[atV y] at a;refine aS q3 r ?_;exact a _ _ _ _ _ (u.bj _ (.inl zl)) (λh=>by cases h)
 refine aB m ?_;subst L;refine ahP i (λh' g=>F h' (l.ab g)) (λh' g=>E h' (l.ab g)) I (by rw[l.f 1 D id];exact B) D l C aa aa λo=>?_;have:=a o;unfold fA at this;rwa[atS m] at this
end
section
variable {h:Hp}{c:Nat}{l:List Tk}{hd:Bool}{k:aK->Prop}
theorem bp.mA{h:Hp}{c tb l n op hd}(x:bp h c tb l n op hd){cap ex}{n':Nat}{e:Int}{b:Bool}:
 bp (h.bj c (.a 120 [.c tb 0 4 l.length cap ex,.i n',.i e,.d b])) c tb l n' e b:=by
 have:=x.ne;obtain⟨_,⟨r,t,g,f⟩,le⟩:=x;exact⟨⟨cap,ex,Hp.dq rfl⟩,⟨r,t,by rw[Hp.du this];exact g,f⟩,le⟩
def WK(c tb:Nat)(l:List Tk)(op:Int)(hd:Bool)(right:List UInt8)(k:aK->Prop)(o:aK):Prop:=
 match o with
 |.a _ b=>∃m,m<l.length/\bp b c tb l m (op+1) false/\(bD (tk l m) [right]=true->∀a,Pg c b a->bp a c tb l (m+1) op hd->k (.a (.p []) a))/\
  (bD (tk l m) [right]=false->∀a,Pg c b a->k (.b (qD (tk l m).a 4) a))
 |.b v b=>k (.b v b)
def Ts(f:aA T)(P:fc l)(r:bp h c tb l n op hd)(s:n<l.length)(h0:0<=op)(j:op<=128){left right:List UInt8}{g:aM}{fs cs:List AV}
 (H:bD (tk l n) [left]=true->op=128->∀h',Pg c h h'->k (.b (qD (tk l n).a 3) h'))
 (G:bD (tk l n) [left]=false->∀h',Pg c h h'->k (.b (qD (tk l n).a 4) h'))
 (J:bD (tk l n) [left]=true->op≠128->∀j,Pg c h j->bp j c tb l (n+1) (op+1) false->aE T (W T) g (fF fs (fF [] cs)) j (WK c tb l op hd right k)):
 aE T (W T) ⟨148⟩ [.a c 0,S left,S right,.q g fs cs] h k:=by
 have Q:=r.lt;have z:=r.rc;rw[ic f.t148];refine ag ?_;refine ke f (r.am _) s (cY.ly (x:=left) (Hp.ba zm) zl zm) zm λj g1=>?_;obtain⟨R,u⟩:=bH g1;have c1:=(r.am _).aw g1;obtain⟨⟨cap,ex,q1⟩,_⟩:=id c1;cases e:bD (tk l n) [left] with
 |false=>
  refine aS e q1 ?_;refine Cx f c1 s (λd=>by rw[e] at d;cases d) λ_ w g2=>?_;obtain⟨A,i⟩:=bw g2;refine ag ?_;exact G e _ (eF i u)
 |true=>
  by_cases p:op=128
  refine aU e q1 p ?_;refine Cw f c1 s λw g2=>?_;obtain⟨A,i⟩:=bH g2;refine ag ?_;exact H e p _ (eF i u);refine aU e q1 p ?_;refine Cx f c1 s (λ_ w g2 c2=>?_) λd=>by rw[e] at d;cases d
  obtain⟨A,i⟩:=bw g2;obtain⟨⟨B,N,q2⟩,_⟩:=id c2;have K:=c2.lt;refine aB q2 ?_;refine ae0 (J e p _ (eF i u) c2.mA.mA) λo y=>?_;cases o with
  |b v E=>exact y
  |a v E=>
   obtain⟨m,I,c3,z,L⟩:=y;refine ag ?_;refine Cx f c3 I (λd F q t=>?_) λd F q=>?_;obtain⟨⟨C,D,q4⟩,_⟩:=id t;have M:=t.lt;obtain⟨U,O⟩:=bw q;refine aB q4 ?_;exact z d _ ((q.bj _ (.inr rfl)).bj _ (.inr rfl)) t.mA.mA;refine ag ?_;exact L d _ q
end
section
variable {h hh:Hp}{c:Nat}{l:List Tk}{hd:Bool}{k:aK->Prop}
def Kn(T:aM->Option CF)(hh:Hp)(c tb:Nat)(l:List Tk)(op:Int)(hd:Bool)(g:aM)(b:List AV)(d:Nat->PR Tree):Prop:=
 ∀(a:Hp)(n:Nat)(k:aK->Prop),Pg c hh a->bp a c tb l n op hd->n<l.length->lS c tb l op hd a k (d n)->aE T (W T) g b a k
def ahR(c tb:Nat)(l:List Tk)(op:Int)(hd:Bool)(h:Hp)(k:aK->Prop)(r:PR Unit):Prop:=
 match r with
 |.c _ n=>∀h',Pg c h h'->bp h' c tb l n op hd->n<l.length->0<n->k (.a (.p []) h')
 |.i p e=>∀h',Pg c h h'->k (.b (qD p e) h')
 |.d=>False
def N4(T:aM->Option CF)(hh:Hp)(c tb:Nat)(l:List Tk)(op:Int)(hd:Bool)(g:aM)(d:List AV)(b:Nat->PR Unit):Prop:=
 ∀(a:Hp)(n:Nat)(k:aK->Prop),Pg c hh a->bp a c tb l n op hd->n<l.length->ahR c tb l op hd a k (b n)->aE T (W T) g d a k
def CB(lo:Nat)(h:Hp)(lb:Nat)(ts:List Tree):Prop:=
 ∃v,h.ac lb=.a 61 [v]/\(ts=[]/\v=.o\/
  ∃b r f,lo<=b/\v=.c b 0 6 ts.length ts.length false/\ts≠[]/\h.ac b=.b 72 6 r 0 f/\ts.length<=r/\eR lo (h.bj b .f) ts f)
def NF.ph{lo:Nat}{a b:Hp}(x:NF lo a b){i:Nat}(o:AO)(hi:a.a<=i):NF lo a (b.bj i o):=λj r f d e=>by have:=Hp.lt e rfl;rw[Hp.du zo];exact x j r f d e
def Ko{lo:Nat}{h:Hp}:∀{ts:List Tree}{t:Tree}{f:Nat->List AV},eR lo h ts f->ay lo h t (f ts.length)->eR lo h (ts++[t]) f
 |[],_,_,_,b=>by simp_all[eR]
 |x::ts,t,f,a,b=>by exact⟨a.1,Ko a.2 b⟩
theorem Kp{lo:Nat}{h:Hp}:∀{ts:List Tree}{f g:Nat->List AV},(∀j,j<ts.length->g j=f j)->eR lo h ts f->eR lo h ts g
 |[],_,_,_,_=>by simp only[eR]
 |x::ts,f,g,e,a=>by simp[eR] at a⊢;exact⟨by grind,Kp (λj b=>e (j+1) qaa) a.2⟩
theorem CB.pg{lo:Nat}{h h':Hp}{c lb ts}(x:CB lo h lb ts)(g:Pg c h h')(z:c<lo)(t:lo<=lb):CB lo h' lb ts:=by
 obtain⟨v,y,x⟩:=x;have e:∀i o,lo<=i->h.ac i=o->jN o=false->h'.ac i=o:=λi o hi w u=>by rw[g.f i (Hp.lt w u) zo];omega
 refine⟨v,e lb _ t y rfl,?_⟩;rcases x with x|⟨b,r,f,a,j,m,p,h5,q⟩
 grind
 refine .inr ⟨b,r,f,a,j,m,e b _ a p rfl,h5,eR.nf (lo:=lo) (λi r f hi d=>?_) zl _ _ q⟩
 by_cases s:i=b
 simp_all;rw[Hp.du s] at d⊢;exact e i _ hi d rfl
structure LB(h:Hp)(c lb cb rb fb bb:Nat)(right:List UInt8)(gr:aM)(ar:List AV)(gb:aM)(ab1 ab2:List AV):Prop where
 b:h.ac cb=.a 116 [.a c 0]
 f:h.ac rb=.a 9 [S right]
 d:h.ac fb=.a 148 [.q gr [] ar]\/∃x,h.ac fb=.a 148 [.q gr x []]/\ar=x
 a:h.ac bb=.a 1 [.q gb ab1 ab2]
def Tt(hh:Hp)(c tb lb:Nat)(l:List Tk)(op:Int)(hd:Bool)(ts:List Tree)(k:aK->Prop)(r:PR (List Tree)):Prop:=
 match r with
 |.c a m=>∀h',Pg c hh h'->bp h' c tb l m op hd->m<l.length->0<m->CB hh.a h' lb (ts++a)->k (.a (.p []) h')
 |.i p e=>∀h',Pg c hh h'->k (.b (qD p e) h')
 |.d=>False
theorem aax(HT:aA T)(hs:fc l){lb cb rb fb bb:Nat}{right:List UInt8}{gr gb:aM}{L cr Er Es:List AV}{Z O}
 (R:Kn T hh c tb l op hd gr (fF L cr) Z) (B:N4 T hh c tb l op hd gb (fF Er Es) O)
 (o1:hh.a<=cb) (o2:hh.a<=rb) (o3:hh.a<=fb) (o4:hh.a<=bb) (o5:hh.a<=lb) (zV:cb≠lb) (N5:rb≠lb) (Tu:fb≠lb) (ne4:bb≠lb) (NY:c<hh.a) (Tv:tb<hh.a):
 ∀(Q n:Nat)(h:Hp)(ts:List Tree)(f:Fr)(K:aT->Prop),ts.length+Q<8589934592->Pg c hh h->bp h c tb l n op hd->n<l.length->0<n->CB hh.a h lb ts->
  h.ac cb=.a 116 [.a c 0]->h.ac rb=.a 9 [S right]->h.ac fb=.a 148 [.q gr L cr]->h.ac bb=.a 1 [.q gb Er Es]->
  cg 0 f=.a cb 0->cg 1 f=.a rb 0->cg 2 f=.a lb 0->cg 3 f=.a fb 0->cg 4 f=.a bb 0->
  Tt hh c tb lb l op hd ts (λo=>match o with|.a _ h'=>(∀f,K (.a 0 f h' []))/\∀f,K (.b f h' [])|.b v h'=>∀f,K (.c v f h' [])) (ug l right Z O Q n)->
  W T (.d l149_0) f h [] K
 |0,_,_,_,_,_,_,_,_,_,_,_,_,_,_,_,_,_,_,_,_,a=>a.elim
 |Q+1,n,h,ts,f,K,N6,g,G,Y,hz,I,q1,q2,q3,q4,f0,X,D,f3,f4,a=>by
  have pP:=I;obtain⟨v,y,I⟩:=I;have x1:=Hp.lt q1 rfl;have x2:=Hp.lt q2 rfl;have x3:=Hp.lt q3 rfl;have x4:=Hp.lt q4 rfl;have x5:=Hp.lt y rfl;have hx:=G.lt;have hy:=G.rc;have tail:∀(H:Hp)(f:Fr)(t:Tree)(m:Nat),Pg c hh H->bp H c tb l m op hd->m<l.length->0<m->CB hh.a H lb (ts++[t])->
   H.ac cb=.a 116 [.a c 0]->H.ac rb=.a 9 [S right]->H.ac fb=.a 148 [.q gr L cr]->H.ac bb=.a 1 [.q gb Er Es]->
   cg 0 f=.a cb 0->cg 1 f=.a rb 0->cg 2 f=.a lb 0->cg 3 f=.a fb 0->cg 4 f=.a bb 0->
   Tt hh c tb lb l op hd ts (λo=>match o with|.a _ h'=>(∀f,K (.a 0 f h' []))/\∀f,K (.b f h' [])|.b v h'=>∀f,K (.c v f h' []))
    (if bD (tk l m) [right]=true then .c [t] m else(O m).dk λ_ o=>(ug l right Z O Q o).dk λts q=>.c (t::ts) q)->
   W T (.g (.g (.h (z q149 2)) (.i (.t 20) .m .k)) (.h (z q149 3))) f H [] (bY 1 (bF (W T (.d l149_0)) K)):=by
   intro H f t m g G N hz I q1 q2 q3 q4 f0 X D f3 f4 a;have x1:=Hp.lt q1 rfl;have x2:=Hp.lt q2 rfl;have x3:=Hp.lt q3 rfl;have x4:=Hp.lt q4 rfl;have pP:=I;obtain⟨v,y,I⟩:=I;have x5:=Hp.lt y rfl;have hx:=G.lt;have hy:=G.rc;refine nA f0 X D f3 f4 q1 q2 q3 q4 y ?_;refine ke HT (G.am _) N (cY.ly (x:=right) (Hp.ba zm) zl zm) zm λA g1=>?_;obtain⟨n1,s⟩:=bH g1;have c1:=(G.am _).aw g1;have C:Pg c hh A:=(g.am _).ab g1.ka;have E:Pg c H A:=((ah.da H).am _).ab g1.ka;cases e:bD (tk l m) [right] with
   |true=>
    rw[atV e] at a;exact aB e ((a A C c1 N hz (pP.pg E zo zo)).2 _)
   |false=>
    rw[e] at a;simp only[at3,auM] at a;refine pU e f0 X D f3 f4 s q1 q2 q3 q4 y ?_;refine B A m _ C c1 N ?_;cases F:O m with
    |d=>rw[F] at a;exact a
    |i p e=>
     rw[F] at a;intro w g2;exact ag (a _ (C.ab g2) _)
    |c _ m2=>
     rw[F] at a;simp only[PR.dk] at a;intro w g2 c2 Hg U;obtain⟨n2,u⟩:=bw g2;refine ag ?_;refine aax HT hs (right:=right) R B o1 o2 o3 o4 o5 zV N5 Tu ne4 NY Tv Q m2 w (ts++[t]) _ K qaa (C.ab g2) c2 Hg U ((pP.pg E zo zo).pg g2 zo zo)
      (cX u s q1) (cX u s q2) (cX u s q3) (cX u s q4) zA zA zA zA zA ?_
     revert a;cases ug l right Z O Q m2<;>simp[Tt]
  rw[aP];show W T (.g (.g (.h (z q149 0)) (.i (.t 9) .k (.n 0))) (.j 1 (.g (.f r149_1) (.g (.g (.h (z q149 2)) (.i (.t 20) .m .k)) (.h (z q149 3)))))) f h [] _;generalize Hh:CC.g (CC.g (.h (z q149 2)) (.i (.t 20) .m .k)) (.h (z q149 3))=TC at tail⊢;refine nA f0 X D f3 f4 q1 q2 q3 q4 y ?_;refine ke HT (G.am _) Y (cY.ly (x:=right) (Hp.ba zm) zl zm) zm λA g1=>?_;obtain⟨n1,s⟩:=bH g1;have c1:=(G.am _).aw g1;have C:Pg c hh A:=(g.am _).ab g1.ka;have E:Pg c h A:=((ah.da h).am _).ab g1.ka;unfold ug at a;cases e:bD (tk l n) [right] with
  |true=>
   rw[atV e] at a;refine aB e ?_;refine(a A C c1 Y hz ?_).1 _;rw[av5];exact pP.pg E zo zo
  |false=>
   rw[e] at a;simp only[at3,auM] at a;refine pU e f0 X D f3 f4 s q1 q2 q3 q4 y ?_;cases P:Z n with
   |d=>rw[P] at a;exact a.elim
   |i p e=>
    rw[P] at a;rcases I with⟨rfl,rfl⟩|⟨b,r,L,N7,rfl,V,F,hr,kz⟩
    all_goals
     refine ag ?_;refine R A n _ C c1 Y ?_;rw[P];intro w g2;refine ag ?_;exact a _ (C.ab g2) _
   |c t m=>
    rw[P] at a;simp only[PR.dk] at a;rcases I with⟨rfl,rfl⟩|⟨b,r,L,N7,rfl,V,F,hr,kz⟩;refine ag ?_;refine R A n _ C c1 Y ?_;rw[P];intro w row g2 c2 nd N U;obtain⟨n2,u⟩:=bw g2;have jt:=nd;obtain⟨kind,ak,to,at_,nm,J⟩:=t;simp only[ay] at nd;obtain⟨kv,rfl,nd⟩:=nd;have V:¬(w.a+1=lb):=zo;refine bK u s y D ?_;rw[A7 (n:=0) (wN (Hp.ba rfl) zl) rfl zd];refine cC u s y D V ?_;refine tail _ _ (.mk kind ak to at_ nm J) m (fH u s (gp g)) ((((c2.am _).am _).bj _ zo zo).bj _ zo zo) N U ⟨_,Hp.dq rfl,.inr ⟨w.a+1,1,_,by omega,rfl,by simp,by refine ag ?_;rfl,by simp,?_⟩⟩
     (cX u s q1) (cX u s q2) (cX u s q3) (cX u s q4) zA zA zA zA zA a
    refine Ko (by simp only[eR]) ?_;simp only[aup,dZ,auo];exact ay.nf (((((NF.da w).am _).am _).ph _ zo).rh _ zo|>.ph _ zo) zo _ _ jt;refine ag ?_;refine R A n _ C c1 Y ?_;rw[P];intro w row g2 c2 nd N U;obtain⟨n2,u⟩:=bw g2;have jt:=nd;obtain⟨kind,ak,to,at_,nm,J⟩:=t;simp only[ay] at nd;obtain⟨kv,rfl,nd⟩:=nd;have V:¬(w.a+1=lb):=zo;have xb:=Hp.lt F rfl;have wF:lb≠b:=by rintro rfl;rw[F] at y;cases y
    have CD:∀{x o},h.ac x=o->(∀r f,o≠.b 72 6 r 0 f)->x≠b:=by rintro x o A w rfl;exact w _ _ (A.symm.trans F)
    have y1:=CD q1 zm;have y2:=CD q2 zm;have y3:=CD q3 zm;have y4:=CD q4 zm;have fX:w.ac b=.b 72 6 r 0 L:=cX u s F;refine bK u s y D ?_;rw[A8 (n:=0) (vh:=r) (t:=L) (au fX) hr (wN (Hp.ba rfl) zl) rfl (rV zo zo)];refine cC u s y D V ?_;refine tail _ _ (.mk kind ak to at_ nm J) m (fH u s (gp g)) (((((c2.am _).bj _ zo zo).am _).bj _ zo zo).bj _ zo zo) N U
     ⟨_,Hp.dq rfl,.inr ⟨w.a+1,ts.length+1,_,by omega,by simp,by simp,by refine ag ?_;rfl,by simp,?_⟩⟩
     (cX u s q1) (cX u s q2) (cX u s q3) (cX u s q4) zA zA zA zA zA a
    refine Ko (eR.nf (lo:=hh.a) (h:=h.bj b .f) (λi r f hi M=>?_) zl _ _ (Kp (λj hj=>?_) kz)) ?_
    by_cases ue:i=b
    subst ue;rw[Hp.dq rfl] at M;cases M;rw[Hp.du ue] at M;have:=Hp.lt M rfl;have:i≠lb:=by rintro rfl;rw[y] at M;cases M
    exact cX u s M;simp only[dZ];rw[atS zo,atS zo];simp only[dZ,auo];exact ay.nf ((((((NF.da w).am _).rh _ zo).am _).ph _ zo).rh _ zo|>.ph _ zo) zo _ _ jt
theorem CB.bv{lo lb:Nat}{h:Hp}{ts}(x:CB lo h lb ts):∃v,h.ac lb=.a 61 [v]/\bQ v=some [v]/\dO lo h ts v:=by
 obtain⟨v,e,x⟩:=x;refine⟨v,e,?_⟩;rcases x with⟨rfl,rfl⟩|⟨b,r,f,g,rfl,j,m,h5,d⟩;exact⟨rfl,by rfl⟩;refine⟨rfl,?_⟩;cases ts with
 |nil=>grind
 |cons t ts=>
  have a:=eR.nf (lo:=lo) (h':=h) (λi r f _ p=>by
   by_cases o:i=b
   simp_all;simp_all) zl _ _ d
  simp[eR] at a;simp[dO]
  grind
def Et(c tb:Nat)(l:List Tk)(op:Int)(hd:Bool)(h:Hp)(k:aK->Prop)(r:PR (List Tree)):Prop:=
 match r with
 |.c ts n=>∀h' kv,Pg c h h'->bp h' c tb l n op hd->n<l.length->0<n->bQ kv=some [kv]->dO h.a h' ts kv->k (.a kv h')
 |.i p e=>∀h',Pg c h h'->k (.b (qD p e) h')
 |.d=>False
theorem Kq(o:aA T)(t:fc l)(D:bp h c tb l n op hd)(I:n<l.length)(h0:0<=op)(M:op<=128){left right:List UInt8}{C gb:aM}{A y u w:List AV}{F x}{r:Nat}(U:r<8589934592)
 (R:op≠128->Kn T h c tb l (op+1) false C (fF A y) F) (B:op≠128->N4 T h c tb l (op+1) false gb (fF u w) x)
 (a:Et c tb l op hd h k (wS l left right F x op r n)):
 aE T (W T) ⟨120⟩ [.a c 0,S left,S right,.q gb u w,.q C A y] h k:=by
 have J:=D.lt;have Q:=D.rc;rw[ic o.t120];refine ag ?_;unfold wS at a;refine Ts o t (((((D.am _).am _).am _).am _).am _) I h0 M (λe g h' j=>?_) (λe h' j=>?_) (λe g h' j c'=>?_);rw[atV e,atV g] at a;obtain⟨n',b⟩:=bw j;refine ag ?_;exact a _ (iQ b);rw[e] at a;obtain⟨n',b⟩:=bw j;refine ag ?_;exact a _ (iQ b);rw[atV e,atS g] at a;obtain⟨n',b⟩:=bw j;rw[ic o.t149];refine ag ?_;refine aax o t (R g) (B g) (cb:=h.a) (rb:=h.a+1) (fb:=h.a+1+1+1) (bb:=h.a+1+1) (lb:=h.a+1+1+1+1) (right:=right)
  zl zo zo zo zo zo zo zo zo J Q r (n+1) h' [] _ _ qaa (iQ b) c' (lT t I e) zo ⟨.o,au b,.inl ⟨rfl,rfl⟩⟩
  qak qak qak qak qac qac qac qac qac ?_
 cases E:ug l right F x r (n+1) with
 |d=>rw[E] at a;exact a
 |i p V=>
  rw[E] at a;intro G g2 f;exact a _ g2
 |c ts m=>
  rw[E] at a;simp[PR.dk] at a;intro G g2 c2 H X O;have key:WK c tb l op hd right (NB (bF (W T (.g (.h (z q120 3)) .m)) (finish T (W T) [.a 10] k)) [] (some 16)
   (fO 15 (.q ⟨149⟩ [] [.a h.a 0,.a (h.a+1) 0,.a (h.a+1+1+1+1) 0,.a (h.a+1+1+1) 0,.a (h.a+1+1) 0]) (fO 14 (S right) (fO 13 (S left) (fO 12 (.a c 0)
    (fO 11 (.a (h.a+1+1+1+1) 0) (fO 10 .o (fO 9 (.a (h.a+1+1+1) 0) (fO 8 (.a (h.a+1+1) 0) (fO 7 (.a (h.a+1) 0) (fO 5 (.a h.a 0) (nQ [.a c 0,S left,S right,.q gb u w,.q C A y])))))))))))
   (qQ (aE T (W T)) (bF (W T (.g (.h (z q120 3)) .m)) (finish T (W T) [.a 10] k)) [])) (.a (.p []) G):=by
   refine⟨m,H,c2,λq N s c3=>?_,λq N s=>?_⟩;rw[atV q] at a;obtain⟨v,P,K,L⟩:=(O.pg s J zo).bv;exact aB P (a _ _ (g2.ab s) c3 (lT t H q) zo K L);rw[q] at a;exact ag (a _ (g2.ab s))
  simp_all
def ahS(j:aA T){t:Tk}(m:∀h',ax h h'->k (.a (.i (o7 t)) h')):aE T (W T) ⟨224⟩ [.j t.ca] h k:=by
 have a:=m _ (((ah.da h).am (.a 118 t.ca)));rw[ic j.t224];unfold o7 at a
 by_cases f:t.c=3
 refine aS Tk.ca.eq_1 f ?_;simpa[Tk.ca,f] using a
 by_cases g:t.c=4
 refine aS Tk.ca.eq_1 g ?_;simpa[Tk.ca,g] using a
 by_cases i:t.c=5
 refine aS Tk.ca.eq_1 i ?_;simpa[Tk.ca,i] using a
 by_cases k1:t.c=1
 refine aS Tk.ca.eq_1 k1 ?_;simpa[Tk.ca,k1] using a
 by_cases b:t.c=2
 by_cases d:t.b=[116,114,117,101]
 refine aU Tk.ca.eq_1 b d ?_;simpa[Tk.ca,b,d] using a
 by_cases e:t.b=[102,97,108,115,101]
 refine aU Tk.ca.eq_1 b e ?_;simpa[Tk.ca,b,e] using a;refine bK Tk.ca.eq_1 b d e ?_;simpa[Tk.ca,b,d,e] using a;refine cq Tk.ca.eq_1 f g i k1 b ?_;simpa[Tk.ca,f,g,i,k1,b] using a
def aay(v:aA T){t:Tk}(w:∀h',ax h h'->k (.a (.i (Bb t)) h')):aE T (W T) ⟨203⟩ [.j t.ca] h k:=by
 have b:=w _ (((ah.da h).am (.a 118 t.ca)));rw[ic v.t203];unfold Bb at b
 by_cases a:¬t.c=6
 refine aS Tk.ca.eq_1 a ?_;simpa[a,Tk.ca] using b;have a:t.c=6:=zo
 by_cases g:t.b=[124,124]
 refine aU Tk.ca.eq_1 a g ?_;simpa[a,Tk.ca,g] using b
 by_cases i:t.b=[38,38]
 refine aU Tk.ca.eq_1 a i ?_;simpa[a,Tk.ca,i] using b
 by_cases j:t.b=[61,61]
 refine aU Tk.ca.eq_1 a j ?_;simpa[a,Tk.ca,j] using b
 by_cases m:t.b=[33,61]
 refine aU Tk.ca.eq_1 a m ?_;simpa[a,Tk.ca,m] using b
 by_cases o:t.b=[60]
 refine aU Tk.ca.eq_1 a o ?_;simpa[a,Tk.ca,o] using b
 by_cases p:t.b=[60,61]
 refine aU Tk.ca.eq_1 a p ?_;simpa[a,Tk.ca,p] using b
 by_cases q:t.b=[62]
 refine aU Tk.ca.eq_1 a q ?_;simpa[a,Tk.ca,q] using b
 by_cases r:t.b=[62,61]
 refine aU Tk.ca.eq_1 a r ?_;simpa[a,Tk.ca,r] using b
 by_cases s:t.b=[43]
 refine aU Tk.ca.eq_1 a s ?_;simpa[a,Tk.ca,s] using b
 by_cases u:t.b=[45]
 refine aU Tk.ca.eq_1 a u ?_;simpa[a,Tk.ca,u] using b
 by_cases d:t.b=[42]
 refine aU Tk.ca.eq_1 a d ?_;simpa[a,Tk.ca,d] using b
 by_cases e:t.b=[47]
 refine aU Tk.ca.eq_1 a e ?_;simpa[a,Tk.ca,e] using b
 by_cases f:t.b=[37]
 refine aU Tk.ca.eq_1 a f ?_;simpa[a,Tk.ca,f] using b;refine kC Tk.ca.eq_1 a g i j m o p q r s u (atQ (atQ d e) f) ?_;simpa[a,Tk.ca,g,i,j,m,o,p,q,r,s,u,d,e,f] using b
end
end Yv
