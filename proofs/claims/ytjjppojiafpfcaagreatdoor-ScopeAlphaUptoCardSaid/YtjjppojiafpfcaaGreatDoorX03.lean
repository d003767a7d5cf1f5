/- A part of the proof of 'ScopeAlphaUptoCardSaid'. No condition. -/
import Derived.Test.YtjjppojiafpfcaaGreatDoorX02
import Derived.OpenShut
import Derived.LaidSub
import Derived.MakeChecks
import Derived.Deep.Slices
import Derived.Laws.BitsLemmas
import Derived.Laws.BitsAllLaws
import Derived.Laws.Bits64
set_option maxHeartbeats 64000000
set_option maxRecDepth 100000
set_option linter.all false
namespace Yv
variable {c i len m rw tb:Nat}{f:Fr}{op:Int}{p s:List UInt8}{x y:AV}
variable {T:aM->Option CF}
section
open Go (IntKind FloatKind)
variable {g d:Nat}{B:Nat->AO}{h h':Hp}{f':Fr}{z:AV}{l r:List AV}{o:AO}{L:List Nat}
def aNw(H:HR g d B h h')(el:Nat)(x:AV):R2 g d B L (BX h el x) (BX h' el (kf g d x)):=by
 cases x<;>first|exact .b ..|skip
 exact aEz _ (aFS H (by rw[aGo,aHz]) qak) (.b ..)
def aKw:∀l:List (List AV),bytesRow (mvR g d l)=bytesRow l
 |[]=>rfl
 |[]::l=>rfl
 |(x::y::r)::l=>by cases x<;>rfl
 |[x]::l=>by
  cases x<;>first|rfl|skip
  simp only[mvR,R1,kf,bytesRow,aKw l]
def aNx(H:HR g d B h h')(u:Nat)(x y:AV):R2 g d B L (AL h u x y) (AL h' u (kf g d x) (kf g d y)):=by
 simp[AL,aF0];rcases mM y with _|_|k;exact .b ..;cases x<;>first|exact .b ..|exact .v _
 ·cases x<;>first|exact .b ..|skip
  rename_i i off;simp[kf,H.a];cases e:h.ab i<;>first|exact .b ..|skip
  rename_i el rw c fz t;refine aEz _ ?_ (.b ..);have q:=aGn (g:=g) (d:=d) (.b el rw c fz t) off 1 (Nat.succ k);simp[mvO] at q;rw[q];cases kZ (.b el rw c fz t) off 1 (Nat.succ k) with
  |none=>exact .b ..
  |some rs=>
   simp[Option.map,aKw];cases bytesRow rs with
   |none=>exact .b ..
   |some l=>exact .i (.y (Nat.succ k) (cO l)) (H.dT i .c)
def aNy(x:AV):R2 g d B L (FX x) (FX (kf g d x)):=by cases x<;>first|exact .b ..|exact .v _|exact aEz _ (.v _) (.b ..)
def aNz(x y z:AV):R2 g d B L (IW x y z) (IW (kf g d x) (kf g d y) (kf g d z)):=by
 cases x<;>first|exact .b ..|skip
 rename_i b;cases b<;>exact .v _
def aNA(H:HR g d B h h')(el n:Nat)(x:AV):R2 g d B L (IX h el n x) (IX h' el n (kf g d x)):=by
 simp[IX,aHy];cases bQ x with
 |none=>exact .b ..
 |some l=>
  simp[Option.map,aF2];exact aEz _ (aFS H rfl qak) (.b ..)
def aNB(H:HR g d B h h')(u n:Nat)(x:AV):R2 g d B L (Dz h u n x) (Dz h' u n (kf g d x)):=by
 cases x<;>first|exact .b ..|exact .v _|skip
 rename_i i off;simp[kf,Dz,H.a];cases e:h.ab i<;>first|exact .b ..|skip
 simp[mvO,aF2];exact aEz _ (.v _) (.b ..)
def aNC(x:AV):R2 g d B L (Mq x) (Mq (kf g d x)):=by cases x<;>first|exact .b ..|exact .v _
def aND(x:AV):R2 g d B L (uR x) (uR (kf g d x)):=by cases x<;>first|exact .b ..|exact .v' (aFH ..).symm|exact .v _
def aNE(x:AV):R2 g d B L (IY x) (IY (kf g d x)):=by cases x<;>first|exact .b ..|exact .v _
def aNF(k:IntKind)(x:AV):R2 g d B L (aEy k x) (aEy k (kf g d x)):=by unfold aEy;rw[aKi];split;exact .v' (aFH ..).symm;exact .b ..
def aNG(k:FloatKind)(x:AV):R2 g d B L (IZ k x) (IZ k (kf g d x)):=by unfold IZ;rw[aKi];split;exact .v _;exact .b ..
def aNH(k:FloatKind)(x:AV):R2 g d B L (Mr k x) (Mr k (kf g d x)):=by cases x<;>first|exact .b ..|exact aEz _ (.v _) (.b ..)
theorem aNI(H:HR g d B h h')(el rw b:Nat){e a:List AV}(i:a=R1 g d e)(x y:AV):R2 g d B L (DB h el rw b e x y) (DB h' el rw b a (kf g d x) (kf g d y)):=by
 subst i;simp[DB,aF0];cases mM x with
 |none=>exact .b ..
 |some n=>
  cases mM y with
  |none=>exact .b ..
  |some c=>
   exact aEz _ (aFS H (by show _=AO.b el rw c 0 (mvT g d _);rw[<-aIY];rfl) qak) (.b ..)
def aNJ(x:AV)(n:Nat):R2 g d B L (I0 x n) (I0 (kf g d x) n):=by cases x<;>first|exact .b ..|exact .v _
def aNK(x:AV):R2 g d B L (Qd x) (Qd (kf g d x)):=by cases x<;>first|exact .b ..|exact .f _
def aNL(e:Ix)(l:List AV):R2 g d B L (qo e l) (qo e (R1 g d l)):=by unfold qo;split;exact aEz _ (.v _) (.b ..);exact .v _;exact .v _;exact .v _;exact .v _;exact .v _;exact .b ..
section
variable (g:Nat)
mutual
def okV:AV->Bool
 |.a i _=>Nat.blt i g
 |.c i _ _ _ _ _=>Nat.blt i g
 |.j i=>Nat.blt i g
 |.r _ a b=>aE8 a&&aE8 b
 |.q _ v=>okV v
 |.p l=>aE8 l
 |.o l=>aE8 l
 |_=>true
def aE8:List AV->Bool
 |[]=>true
 |x::l=>okV x&&aE8 l
end
def okX:CX->Bool
 |.t _=>true
 |.k v=>okV g v
def aHB(l:List CX):Bool:=l.all (okX g)
def aI0:Option CX->Bool
 |none=>true
 |some x=>okX g x
def okO(L:List Nat):CO->Bool
 |.mv x|.box _ _ x|.yV x|.FE _ x|.I x|.neg x|.not x|.H _ x|.Iz _ x|.IA _ x|.Mg _ x|.IB _ x|.fa x _|.ID x _ _ _|.ext x _|.II x|.J _ _ x|.C x=>okX g x
 |.L a b c=>okX g a&&okX g b&&okX g c
 |.r _ l=>aE8 g l
 |.h _ _ _ rs=>rs.all (aE8 g)
 |.s z ps=>aE8 g z&&ps.all λp=>okX g p.2.2
 |.q _ _ _ z ps=>aE8 g z&&ps.all λp=>okX g p.2
 |.st _ x y|.U x y|.sub x y|.mul x y|.quo x y|.rem x y|.Y x y|.or x y|.j x y|.shl x y|.shr x y|.Z _ x y|.neq _ x y|.lss x y|.leq x y|.gtr x y|.geq x y|.ia _ x y|.B _ _ x y|.X x y|.o _ _ _ x y|.M _ x y|.O _ x y=>okX g x&&okX g y
 |.N _ _ _ z x y=>aE8 g z&&okX g x&&okX g y
 |.D x a b|.w _ _ x a b=>okX g x&&aI0 g a&&aI0 g b
 |.IG _ z x _=>okV g z&&okX g x
 |.A fn l=>L.contains fn.n&&aHB g l
 |.Q k x=> !Nat.beq k 2&&okX g x
 |.min l|.max l|.F _ l=>aHB g l
 |_=>false
end
mutual
theorem aHC:∀v,okV g v=true->kf g d v=v
 |.a i o,e=>by simp_all[kf,mvN,okV]
 |.c i ..,e=>by simp_all[kf,mvN,okV]
 |.j i,e=>by simp_all[kf,mvN,okV]
 |.r fn a b,e=>by simp[okV,atW] at e;simp only[kf];rw[aFo a e.1,aFo b e.2]
 |.q t v,e=>by simp[kf];rw[aHC v e]
 |.p l,e=>by simp[kf];rw[aFo l e]
 |.o l,e=>by simp[kf];rw[aFo l e]
 |.B,_|.g _,_|.i _,_|.s _,_|.d ..,_|.w ..,_|.y ..,_|.u,_|.h,_|.A,_|.C,_|.x,_|.D,_|.F _,_|.G _,_=>rfl
theorem aFo:∀l,aE8 g l=true->R1 g d l=l
 |[],_=>rfl
 |x::l,e=>by simp[aE8,atW] at e;simp only[R1];rw[aHC x e.1,aFo l e.2]
end
def s9(F:FR g d f f'){x:CX}(e:okX g x=true):x.ab f'=kf g d (x.ab f):=by
 cases x with
 |t p=>exact F p
 |k v=>exact(aHC v e).symm
def aGI(F:FR g d f f'):∀{l:List CX},aHB g l=true->jc (λx=>x.ab f') l=R1 g d (jc (λx=>x.ab f) l)
 |[],_=>rfl
 |x::l,e=>by simp only[aHB,aw2,atW] at e;simp only[jc,R1];rw[s9 F e.1,aGI F e.2]
def aHD(F:FR g d f f'){x:Option CX}(e:aI0 g x=true):uS (λx=>x.ab f') x=(uS (λx=>x.ab f) x).map (kf g d):=by
 cases x with
 |none=>rfl
 |some x=>simp[uS,Option.map];rw[s9 F e]
def aKx:∀{l:List (List AV)},l.all (aE8 g)=true->mvR g d l=l
 |[],_=>rfl
 |x::l,e=>by simp only[aw2,atW] at e;simp only[mvR];rw[aFo x e.1,aKx e.2]
theorem aI1(H:HR g d B h h')(F:FR g d f f'){o:CO}(e:okO g L o=true):R2 g d B L (aQ o f h) (aQ o f' h'):=by
 cases o with
 |mv x=>exact .v' (s9 F e)
 |L a b c=>
  simp[okO,atW] at e;simp[aQ,s9 F e.1.1,s9 F e.1.2,s9 F e.2];exact aNz ..
 |r el l=>simp[aQ];exact aFS H (by show _=AO.a el (R1 g d l);rw[aFo l e]) qak
 |h el rw c rs=>simp[aQ];exact aFS H (by rw[aGo,aKx e]) qak
 |s z ps=>
  simp only[okO,atW,auO] at e;simp[aQ,FY];have q:=aKt (G:=λx=>x.ab f) (G':=λx=>x.ab f') ps z λp i=>s9 F (e.2 p i);rw[aFo z e.1] at q;rw[q];cases AI (λx=>x.ab f) z ps with
  |none=>exact .b ..
  |some l=>exact .v _
 |q el rw n z ps=>
  simp only[okO,atW,auO] at e;simp[aQ,FZ];have q:=aKu rw n (G:=λx=>x.ab f) (G':=λx=>x.ab f') ps (qm z n 0 fG) λp i=>s9 F (e.2 p i);rw[<-aIY,aFo z e.1] at q;have q2:(mvT g d fG)=fG:=rfl;rw[q2] at q;rw[q];cases wg rw n (λx=>x.ab f) ps (qm z n 0 fG) with
  |none=>exact .b ..
  |some t=>exact aFS H rfl qak
 |N el rw b z x y=>
  simp[okO,atW] at e;simp[aQ,s9 F e.1.2,s9 F e.2];grind[aNI,aFo]
 |D x a b=>
  simp[okO,atW] at e;simp[aQ,s9 F e.1.1,aHD F e.1.2,aHD F e.2];exact aNe ..
 |w rw n x a b=>
  simp[okO,atW] at e;simp[aQ,s9 F e.1.1,aHD F e.1.2,aHD F e.2];exact aNg H ..
 |IG t z x ok=>
  simp[okO,atW] at e;simp[aQ,s9 F e.2];grind[aNo,aHC]
 |A fn l=>
  simp only[okO,atW] at e;simp[aQ,aGI F e.2];exact .c _ _ e.1
 |Q k x=>
  simp[okO,atW,avT] at e;simp[aQ,s9 F e.2];exact aNt H _ (by rintro rfl;simp at e) _
 |min l=>
  simp[aQ];rw[aGI F e];cases jc (λx=>x.ab f) l with
  |nil=>exact .b ..
  |cons x r=>exact aIZ ..
 |max l=>
  simp[aQ];rw[aGI F e];cases jc (λx=>x.ab f) l with
  |nil=>exact .b ..
  |cons x r=>exact aIZ ..
 |F k l=>simp[aQ,aGI F e];exact aNL ..
 |box=>simp[aQ,s9 F e];exact aNA H ..
 |yV=>simp[aQ,s9 F e];exact aKr H ..
 |FE=>simp[aQ,s9 F e];exact aKs H ..
 |I=>simp[aQ,s9 F e];exact aNC ..
 |neg=>simp[aQ,s9 F e];exact aND ..
 |not=>simp[aQ,s9 F e];exact aNE ..
 |H=>simp[aQ,s9 F e];exact aNF ..
 |Iz=>simp[aQ,s9 F e];exact aNG ..
 |IA=>simp[aQ,s9 F e];exact aNH ..
 |Mg=>simp[aQ,s9 F e];exact aNw H ..
 |IB=>simp[aQ,s9 F e];exact .v _
 |fa=>simp[aQ,s9 F e];exact aNJ ..
 |ID=>simp[aQ,s9 F e];exact aNl ..
 |ext=>simp[aQ,s9 F e];exact aNm ..
 |II=>simp[aQ,s9 F e];exact aNy ..
 |J=>simp[aQ,s9 F e];exact aNB H ..
 |C=>simp[aQ,s9 F e];exact aNK ..
 |st=>simp[okO,atW] at e;simp[aQ,s9 F e.1,s9 F e.2];exact aNd H ..
 |U=>simp[okO,atW] at e;simp[aQ,s9 F e.1,s9 F e.2];exact aM2 ..
 |sub=>simp[okO,atW] at e;simp[aQ,s9 F e.1,s9 F e.2];exact aM3 ..
 |mul=>simp[okO,atW] at e;simp[aQ,s9 F e.1,s9 F e.2];exact aM4 ..
 |quo=>simp[okO,atW] at e;simp[aQ,s9 F e.1,s9 F e.2];exact aM6 ..
 |rem=>simp[okO,atW] at e;simp[aQ,s9 F e.1,s9 F e.2];exact aM7 ..
 |Y=>simp[okO,atW] at e;simp[aQ,s9 F e.1,s9 F e.2];exact aIT ..
 |or=>simp[okO,atW] at e;simp[aQ,s9 F e.1,s9 F e.2];exact aIT ..
 |j=>simp[okO,atW] at e;simp[aQ,s9 F e.1,s9 F e.2];exact aIT ..
 |shl=>simp[okO,atW] at e;simp[aQ,s9 F e.1,s9 F e.2];exact aM8 (λ_ _ _=>aFH ..) _ _
 |shr=>simp[okO,atW] at e;simp[aQ,s9 F e.1,s9 F e.2];exact aM9 ..
 |Z=>simp[okO,atW] at e;simp[aQ,s9 F e.1,s9 F e.2];exact aM' ..
 |neq=>simp[okO,atW] at e;simp[aQ,s9 F e.1,s9 F e.2];exact aNa ..
 |lss=>simp[okO,atW] at e;simp[aQ,s9 F e.1,s9 F e.2];exact aHt ..
 |leq=>simp[okO,atW] at e;simp[aQ,s9 F e.1,s9 F e.2];exact aHt ..
 |gtr=>simp[okO,atW] at e;simp[aQ,s9 F e.1,s9 F e.2];exact aHt ..
 |geq=>simp[okO,atW] at e;simp[aQ,s9 F e.1,s9 F e.2];exact aHt ..
 |ia=>simp[okO,atW] at e;simp[aQ,s9 F e.1,s9 F e.2];exact aNh ..
 |B=>simp[okO,atW] at e;simp[aQ,s9 F e.1,s9 F e.2];exact aNi ..
 |X=>simp[okO,atW] at e;simp[aQ,s9 F e.1,s9 F e.2];exact aNj ..
 |o=>simp[okO,atW] at e;simp[aQ,s9 F e.1,s9 F e.2];exact aNs H ..
 |M=>simp[okO,atW] at e;simp[aQ,s9 F e.1,s9 F e.2];exact aNv H ..
 |O=>simp[okO,atW] at e;simp[aQ,s9 F e.1,s9 F e.2];exact aNx H ..
 |_=>simp[okO] at e
end
section
open Go
variable {H:Type}{di:TypeId×Value->H}{P:Program}{w:World}{base:Nat}{f:Nat->Bool}{held:Bool}{t e:TypeId}{cs:List Value}{p:List MemPlace}
def WZ:Lit->Value
 |.bool b=>.bool b
 |.int k n=>.int k n
 |.float k b=>.float k b
 |.string s=>.string ⟨s.toArray⟩
 |.nil=>.nilIface
theorem aeB{l:Lit}(h:DataW.trod di P w base f held c t cs=some (.lit l,p)):cs=[WZ l]:=by
 cases c with
 |zero=>simp[DataW.trod] at h
 |succ n=>
  unfold DataW.trod at h;split at h<;>first
   |(cases h;rfl)
   |(split at h<;>first|(cases h;rfl)|(cases h;done)|(simp[au',aw4] at h;done))
   |(simp[au',aw4] at h;done)
   |skip
  all_goals(repeat' split at h)<;>simp_all
  all_goals exact h.1 ▸rfl
def P5(P:Program)(t:TypeId)(n:Nat):Bool:=P.cellsOf t==n&&(match P.underlying t with|some (.struct fs)=>fs.size==n&&(fs.toList.zipIdx.all λx=>x.1.offset==x.2 &&P.cellsOf x.1.type==1)|_=>false)
theorem aoe{a:Type}{l:List a}{i:Nat}{x:a}(h:(l.drop i).take 1=[x]):l[i]? =some x:=by have:=aui (·[0]?) h;grind
theorem aof{b:List Lit}{n:Nat}(hr:P5 P t n=true)(h:DataW.trod di P w base f held c t cs=some (.agg (b.map .lit),p)):cs=b.map WZ:=by
 unfold P5 at hr;simp at hr;obtain⟨r,hr⟩:=hr;split at hr;rename_i fs j;simp only[atW,av9] at hr;obtain⟨s,d⟩:=hr;obtain⟨k,m,rfl,a,q,l,v⟩:=DataW.trod_struct j h;simp at a;obtain⟨a,_⟩:=a;have g:b.length=n:=by have:=aui List.length a;grind
 refine avs λi=>?_;by_cases hi:i<n;have u:=auO.1 d (fs[i],i) qaa
 have o:(b.map DataW.lit:List (DataW H))[i]? =some k[i].1 :=by grind
 grind[aoe,aeB];grind;grind
theorem aog{n:Nat}{ds:List (DataW H)}(a:P.underlying t=some (.array n e))(h:DataW.trod di P w base f held c t cs=some (.agg ds,p)):
 ds.length=n/\cs.length=P.cellsOf t/\∀(i:Nat) d,ds[i]? =some d->∃m q,DataW.trod di P w base f held m e ((cs.drop (i*P.cellsOf e)).take (P.cellsOf e))=some (d,q):=by
 obtain⟨l,m,rfl,j,g,b,k⟩:=DataW.trod_array a h;grind
theorem aeC{a:Addr}{k n:Nat}{l:List Value}(h:w.cells? base (a.add k) n=some l)(s:0<n):
 l.length=n/\(k=0->a.spot=none)/\∃b el d,w.heap[a.block]? =some (.cells b el d)/\∀j,j<n->b[a.off+(k+j)]? =l[j]? /\∃v,l[j]? =some v:=by
 obtain⟨_,r,m⟩:=World.cells?_some h;have g:k=0->a.spot=none:=λo=>by
  have i:(a.add 0).add 0=a:=by rfl
  cases u:a.spot with
  |none=>rfl
  |some q=>
   grind[World.cell?]
 grind[Addr.add,World.cell?]
theorem aeD{ds rest:List (DataW H)}(A:P.underlying t=some (.slice e))(C:0<P.cellsOf e)(h:DataW.trod di P w base (λ_=>true) held c t cs=some (.slice ds rest,p)):
 ∃a,cs=[.slice (some a) ds.length (ds.length+rest.length)]/\(0<ds.length+rest.length->a.spot=none/\∃b el o,w.heap[a.block]? =some (.cells b el o)/\a.off+(ds.length+rest.length)*P.cellsOf e<=b.size/\
  ∀(i:Nat) d,(ds++rest)[i]? =some d->∃l m q,DataW.trod di P w base (λ_=>true) held m e l=some (d,q)/\l.length=P.cellsOf e/\∀(j:Nat) v,l[j]? =some v->b[a.off+(i*P.cellsOf e+j)]? =some v):=by
 rcases Deep.open_slice A h with⟨_,B⟩|⟨a,len,cap,m,n,D,F,rfl,_,G,_,z,B,E⟩;grind;simp only[auo] at z;have L:ds.length=len:=by grind
 have M:rest.length=m- len:=by grind
 have g:ds.length+rest.length=m:=zo;refine⟨a,by grind,λr=>?_⟩;rw[g] at r|-;obtain⟨c0,h0,_⟩:=E 0 r;rw[awN] at h0;obtain⟨_,s,b,el,o,x,_⟩:=aeC h0 C;have k:∀i,i<m->∃l q,DataW.trod di P w base (λ_=>true) held n e l=some (D i,q)/\l.length=P.cellsOf e/\∀(j:Nat) v,l[j]? =some v->b[a.off+(i*P.cellsOf e+j)]? =some v:=λi hi=>by grind[aeC]
 refine⟨s rfl,b,el,o,x,?_,λi d hd=>?_⟩;obtain⟨l,q,_,K,y⟩:=k (m- 1) zo;have u:=y (P.cellsOf e- 1) _ (atT zo);have I:=(auc.1 u).1;have J:(m- 1)*P.cellsOf e+P.cellsOf e=m*P.cellsOf e:=by rw[<-Nat.succ_mul];grind
 omega;grind
theorem aoh{n:String}{g:Nat}{cs:Array Value}(b:P.globalNamed n=some g)(d:w.var? P n=some cs):∃el a,w.heap[g]? =some (.cells cs el a):=by grind[World.var?]
theorem yT{laid:List (String×DataW Unit)}{n:String}{d:DataW Unit}{g:Nat}{t:TypeId}(h:laidMetH P laid w)(i:(laid.filter λx=>x.1 ==n)=[(n,d)]) (hh:d.handleName?.isNone=true) (m:P.globalNamed n=some g) (o:(P.globals[g]?).map (·.type)=some t):
 ∃cs el b c p,w.heap[g]? =some (.cells cs el b)/\DataW.trod (λ_=>()) P w 0 (λ_=>true) false c t cs.toList=some (d,p):=by
 have a:=laidMetH.filter (λx=>x.1 ==n) h;rw[i,MakeChecks.laidMetH_plain _ _ _ qaa] at a;obtain⟨ps,⟨l,t',cs,c,p,q,j,k,r,hd,_⟩,_⟩:=a;grind[aoh]
end
@[simp] def tZ(a b:Nat):Nat.beq a b=decide (a=b):=by by_cases h:a=b;subst h;simp;rw[Jy h];simp[h]
@[simp] def ny(a b:Nat):Nat.ble a b=decide (a<=b):=by
 by_cases h:a<=b;rw[awz h];simp[h];have:Nat.ble a b=false:=by cases c:Nat.ble a b with|false=>rfl|true=>exact absurd (au1 c) h
 rw[this];simp[h]
@[simp] def vp(a b:Nat):Nat.add a b=a+b:=(rfl)
@[simp] def S9(a b:Nat):Nat.mul a b=a*b:=(rfl)
@[simp] def ao2(a b:Nat):Nat.sub a b=a- b:=(rfl)
def J9(a:Nat):Nat.succ a=a+1:=rfl
@[simp] def wL(a:Nat):Nat.succ a=a+1:=(rfl)
@[simp] def Ee(a b:Nat):Nat.div a b=a/b:=(rfl)
@[simp] def Ef(a b:Nat):Nat.mod a b=a% b:=(rfl)
def NA{a:Type _}(p:Prop)[Decidable p](x y:a):cond (decide p) x y=if p then x else y:=by by_cases h:p<;>simp[h]
attribute [simp] NA
@[simp ↓] def qA{p q:Nat}{v:AV}{f:Fr}:an p (fO q v f)=if p=q then v else an p f:=by unfold an fO;by_cases h:p=q;subst h;simp;simp[h]
def J':List AV->Nat->AV
 |[],_=>.B
 |x::_,0=>x
 |_::l,n+1=>J' l n
@[simp] def ao3{x l}:J' (x::l) 0=x:=(rfl)
@[simp] def ao4{x l n}:J' (x::l) (n+1)=J' l n:=(rfl)
@[simp ↓] def ao5{p:Nat}{l:List AV}:an p (nQ l)=J' l p:=by
 unfold an nQ;induction l generalizing p with
 |nil=>rfl
 |cons x l a=>cases p with|zero=>rfl|succ p=>simpa using a
@[simp ↓] def ao6{p:Nat}{f:Fr}:CX.ab (.t p) f=an p f:=(rfl)
@[simp ↓] def ao7{v:AV}{f:Fr}:CX.ab (.k v) f=v:=(rfl)
@[simp ↓] def GX{p:Nat}{v:AV}{f:Fr}:put (some p) v f=fO p v f:=(rfl)
@[simp ↓] def GY{v:AV}{f:Fr}:put none v f=f:=(rfl)
section
variable {A:mj}{kp:aT->Prop}{ds:List Df}{h:Hp}{k:AR}{d:Option Nat}
@[simp ↓] def ao8:qQ A kp [] ds f h=kp (.c f h ds):=(rfl)
@[simp ↓] def ao9{o:CO}{r:List CI}:qQ A kp (⟨d,o,none⟩::r) ds f h=sG A kp ds d f h (aQ o f h) (qQ A kp r):=(rfl)
def rU(v:AV)(b:Bool)(x y:Prop):Prop:=
 match v with
 |.g t=>cond (cond t b (!b)) x y
 |.o _=>y
 |_=>False
@[congr] def ao'{v w:AV}{b:Bool}{x y:Prop}(e:v=w):rU v b x y=rU w b x y:=by rw[e]
@[simp ↓] def apa{t:Bool}{x y:Prop}:rU (.g t) true x y=if t=true then x else y:=by cases t<;>simp[rU]
@[simp ↓] def apb{t:Bool}{x y:Prop}:rU (.g t) false x y=if t=true then y else x:=by cases t<;>simp[rU]
@[simp ↓] def apd{o:CO}{r:List CI}{p:Nat}{b:Bool}:qQ A kp (⟨d,o,some (p,b)⟩::r) ds f h=
 rU (an p f) b (sG A kp ds d f h (aQ o f h) (qQ A kp r)) (qQ A kp r ds (put d undef f) h):=by
 simp only[qQ,jO,rU];cases an p f<;>first|rfl|skip
 rename_i t;cases t<;>cases b<;>rfl
@[congr] def ape{r a:OR}(e:r=a):sG A kp ds d f h r k=sG A kp ds d f h a k:=by rw[e]
@[simp ↓] def apf{x:AV}:sG A kp ds d f h (.v x) k=k ds (put d x f) h:=(rfl)
@[simp ↓] def apg{x:AV}{h':Hp}:sG A kp ds d f h (.b x h') k=k ds (put d x f) h':=(rfl)
def NB(kp:aT->Prop)(ds:List Df)(d:Option Nat)(f:Fr)(k:AR)(o:aK):Prop:=
 match o with|.a v h'=>k ds (put d v f) h'|.b v h'=>kp (.d v f h' ds)
@[simp ↓] def aph{v h'}:NB kp ds d f k (.a v h')=k ds (put d v f) h':=(rfl)
@[simp ↓] def api{v h'}:NB kp ds d f k (.b v h')=kp (.d v f h' ds):=(rfl)
@[simp ↓] def apj{g:aM}{a:List AV}:sG A kp ds d f h (.c g a) k=A g a h (NB kp ds d f k):=(rfl)
@[simp ↓] def apl{x:Df}:sG A kp ds d f h (.j x) k=k (x::ds) (put d undef f) h:=(rfl)
@[simp ↓] def apn{r:Fr->Hp->List Df->(aT->Prop)->Prop}{k:aT->Prop}:bF r k (.c f h ds)=r f h ds k:=(rfl)
@[simp ↓] def apo{r:Fr->Hp->List Df->(aT->Prop)->Prop}{k:aT->Prop}:bF r k (.b f h ds)=k (.b f h ds):=(rfl)
@[simp ↓] def apq{r:Fr->Hp->List Df->(aT->Prop)->Prop}{k:aT->Prop}{i}:bF r k (.a i f h ds)=k (.a i f h ds):=(rfl)
@[simp ↓] def apr{r:Fr->Hp->List Df->(aT->Prop)->Prop}{k:aT->Prop}{v}:bF r k (.d v f h ds)=k (.d v f h ds):=(rfl)
@[simp ↓] def aps{i}{k:aT->Prop}:bY i k (.c f h ds)=k (.c f h ds):=(rfl)
@[simp ↓] def apt{i}{k:aT->Prop}:bY i k (.b f h ds)=k (.b f h ds):=(rfl)
@[simp ↓] def apu{i v}{k:aT->Prop}:bY i k (.d v f h ds)=k (.d v f h ds):=(rfl)
@[simp ↓] def apv{r:Fr->Hp->List Df->(aT->Prop)->Prop}{k:aT->Prop}{i}:bF r k (.g i f h ds)=k (.g i f h ds):=(rfl)
@[simp ↓] def apw{i j}{k:aT->Prop}:bY i k (.g j f h ds)=k (.g j f h ds):=(rfl)
@[simp ↓] def apx{r:fJ}{c n}{k:aT->Prop}:pH r c k n (.c f h ds)=k (.c f h ds):=by cases n<;>rfl
@[simp ↓] def Ta{r:fJ}{c n}{k:aT->Prop}:pH r c k n (.b f h ds)=k (.b f h ds):=by cases n<;>rfl
@[simp ↓] def apy{r:fJ}{c n i}{k:aT->Prop}:pH r c k n (.a i f h ds)=k (.a i f h ds):=by cases n<;>rfl
@[simp ↓] def apz{r:fJ}{c n v}{k:aT->Prop}:pH r c k n (.d v f h ds)=k (.d v f h ds):=by cases n<;>rfl
def Eg(r:fJ)(c:CC)(k:aT->Prop)(n l:Nat)(f:Fr)(h:Hp)(ds:List Df)(o:Option CC):Prop:=match o with|some a=>r a f h ds (pH r c k n)|none=>k (.g l f h ds)
@[simp ↓] def apA{r:fJ}{c n i}{k:aT->Prop}:pH r c k (n+1) (.g i f h ds)=Eg r c k n i f h ds (xO i c):=(rfl)
@[simp ↓] def ZO{r:fJ}{c i}{k:aT->Prop}:pH r c k 8 (.g i f h ds)=Eg r c k 7 i f h ds (xO i c):=(rfl)
@[congr] def apC{r:fJ}{c k n i f h ds}{o o':Option CC}(e:o=o'):Eg r c k n i f h ds o=Eg r c k n i f h ds o':=by rw[e]
@[simp ↓] def ZP{r:fJ}{c a k n i f h ds}:Eg r c k n i f h ds (some a)=r a f h ds (pH r c k n):=(rfl)
@[simp ↓] def apD{r:fJ}{c k n i f h ds}:Eg r c k n i f h ds none=k (.g i f h ds):=(rfl)
@[simp ↓] def apE{i j}{k:aT->Prop}:bY i k (.a j f h ds)=if j=i then k (.c f h ds) else k (.a j f h ds):=by simp[bY]
@[simp ↓] def aEE{l:List DI}:Mz A kp l ds f h=cE A kp (ku l f) ds l 0 [] f h:=(rfl)
variable {fm:Fr}{hi n:Nat}{B:List Pd}{r:List DI}{o:CO}
@[simp ↓] def apF:cE A kp fm ds [] n B f h=kp (.c f h ds):=(rfl)
def dV(x:OR)(k:AV->Prop):Prop:=match x with|.v x=>k x|_=>False
@[congr] def apG{r a:OR}{k}(e:r=a):dV r k=dV a k:=by rw[e]
@[simp ↓] def apH{x k}:dV (.v x) k=k x:=(rfl)
@[simp ↓] def apI:cE A kp fm ds (⟨i,⟨d,o,none⟩,.d,hi⟩::r) n B f h=dV (aQ o f h) λx=>cE A kp fm ds r n B (put d x f) h:=by simp only[cE,jO,dV];cases aQ o f h<;>rfl
@[simp ↓] def apJ:cE A kp fm ds (⟨i,⟨d,o,none⟩,.f,hi⟩::r) n B f h=dV (aQ o f h) λx=>cE A kp fm ds r n (⟨⟨d,o,none⟩,f,x,hi⟩::B) (put d x f) h:=by simp only[cE,jO,dV];cases aQ o f h<;>rfl
@[simp ↓] def Cp:cE A kp fm ds (⟨i,⟨d,o,none⟩,.g,hi⟩::r) n B f h=tO A kp fm ds d f h (aQ o f h) λf' h'=>qR B (n+1) h' λa=>cE A kp fm ds r (n+1) a f' h':=(rfl)
@[simp ↓] def apK{p b}:cE A kp fm ds (⟨i,⟨d,o,some (p,b)⟩,.d,hi⟩::r) n B f h=rU (an p f) b (dV (aQ o f h) λx=>cE A kp fm ds r n B (put d x f) h) (cE A kp fm ds r n B (put d undef f) h):=by
 simp only[cE,jO,rU,dV];cases an p f<;>first|rfl|skip
 rename_i t;cases t<;>cases b<;>first|rfl|(cases aQ o f h<;>rfl)
@[simp ↓] def aPX{p b}:cE A kp fm ds (⟨i,⟨d,o,some (p,b)⟩,.f,hi⟩::r) n B f h=rU (an p f) b (dV (aQ o f h) λx=>cE A kp fm ds r n (⟨⟨d,o,some (p,b)⟩,f,x,hi⟩::B) (put d x f) h) (cE A kp fm ds r n B (put d undef f) h):=by
 simp only[cE,jO,rU,dV];cases an p f<;>first|rfl|skip
 rename_i t;cases t<;>cases b<;>first|rfl|(cases aQ o f h<;>rfl)
@[simp ↓] def Ka{p b}:cE A kp fm ds (⟨i,⟨d,o,some (p,b)⟩,.g,hi⟩::r) n B f h=rU (an p f) b (tO A kp fm ds d f h (aQ o f h) λf' h'=>qR B (n+1) h' λa=>cE A kp fm ds r (n+1) a f' h') (cE A kp fm ds r (n+1) (mN (n+1) B) (put d undef f) h):=by
 simp only[cE,jO,rU];cases an p f<;>first|rfl|skip
 rename_i t;cases t<;>cases b<;>rfl
def zP(x:OR)(k:AV->Hp->Prop):Prop:=match x with|.b x h=>k x h|_=>False
@[congr] def apM{r a:OR}{k}(e:r=a):zP r k=zP a k:=by rw[e]
@[simp ↓] def apN{x h k}:zP (.b x h) k=k x h:=(rfl)
@[simp ↓] def apP{g}:cE A kp fm ds (⟨i,⟨d,o,g⟩,.b,hi⟩::r) n B f h=zP (aQ o f h) λx h'=>qR B (n+1) h' λa=>cE A kp fm ds r (n+1) a (put d x f) h':=by simp only[cE,zP];cases aQ o f h<;>rfl
@[simp ↓] def apQ{g}:cE A kp fm ds (⟨i,⟨d,o,g⟩,.a,hi⟩::r) n B f h=zP (aQ o f h) λ_ h'=>qR B (n+1) h' λa=>cE A kp fm ds r (n+1) a f h':=by simp only[cE,zP];cases aQ o f h<;>rfl
def dF(a b:Option Nat)(x:OR)(k:Hp->Prop):Prop:=match a,b with|some i,some j=>if i=j then False else zP x λ_=>k|_,_=>False
@[congr] def apR{a a' b c:Option Nat}{x g:OR}{k:Hp->Prop}(e:a=a')(l:b=c)(m:x=g):dF a b x k=dF a' c g k:=by rw[e,l,m]
@[simp ↓] def apS{i j x k}:dF (some i) (some j) x k=if i=j then False else zP x λ_=>k:=(rfl)
@[simp ↓] def apT{g e}:cE A kp fm ds (⟨i,⟨d,o,g⟩,.c,hi⟩::e::r) n B f h=dF (sF o f) (sF e.c.b f) (aQ o f h) λh'=>cE A kp fm ds (e::r) n B f h':=by
 simp only[cE,dF];cases sF o f<;>first|rfl|skip
 cases sF e.c.b f<;>first|rfl|skip
 simp only[tZ,NA,zP];split;rfl;cases aQ o f h<;>rfl
@[simp] def apU{m:Nat}{a v:CX}:sF (.st m a v) f=match a.ab f with|.a i _=>some i|_=>none:=(rfl)
variable {kd:Fr->Hp->Prop}
@[congr] def apV{r a:OR}(e:r=a):tO A kp fm ds d f h r kd=tO A kp fm ds d f h a kd:=by rw[e]
@[simp ↓] def apW{x:AV}:tO A kp fm ds d f h (.v x) kd=kd (put d x f) h:=(rfl)
@[simp ↓] def apX{x:AV}{h'}:tO A kp fm ds d f h (.b x h') kd=kd (put d x f) h':=(rfl)
def NC(kp:aT->Prop)(fm:Fr)(ds:List Df)(d:Option Nat)(f:Fr)(k:Fr->Hp->Prop)(o:aK):Prop:=
 match o with|.a v h'=>k (put d v f) h'|.b v h'=>kp (.d v fm h' ds)
@[simp ↓] def apY{v h'}:NC kp fm ds d f kd (.a v h')=kd (put d v f) h':=(rfl)
@[simp ↓] def apZ{v h'}:NC kp fm ds d f kd (.b v h')=kp (.d v fm h' ds):=(rfl)
@[simp ↓] def ZQ{g:aM}{a:List AV}:tO A kp fm ds d f h (.c g a) kd=A g a h (NC kp fm ds d f kd):=(rfl)
@[simp ↓] def ap0{m:Nat}{k:List Pd->Prop}:qR [] m h k=k []:=(rfl)
@[simp ↓] def ap1{m:Nat}{p:Pd}{k:List Pd->Prop}:qR (p::B) m h k=if m<=p.a then(Gf h p=true/\qR B m h λl=>k (p::l)) else qR B m h k:=by simp only[qR,mN,ny,NA];by_cases c:m<=p.a;simp only[c,auo,AS];cases Gf h p<;>simp[jX.lh];simp only[c,auM]
end
@[simp] def ap3{m}:mN m []=[]:=(rfl)
@[simp] def ap4{m:Nat}{p:Pd}{l:List Pd}:mN m (p::l)=if m<=p.a then p::mN m l else mN m l:=by simp[mN]
def ZR:∀b,Jf b b=true:=by intro b;cases b<;>rfl
def ND(a:Int):mJ a a=true:=by cases a<;>simp[mJ]
def ag1(k):qh k k=true:=by cases k<;>rfl
mutual
theorem Eh:∀x:AV,fP x x=true
 |.B=>rfl|.g b=>ZR b|.i n=>ND n|.s n=>by simp[fP]|.d k n=>by simp[fP,ag1,ND]|.w k b=>by cases k<;>simp[fP,uP]
 |.y a b=>by simp[fP]|.a i o=>by simp[fP]|.u=>rfl|.c i o r l c e=>by simp[fP,ZR]|.h=>rfl|.j i=>by simp[fP]|.A=>rfl
 |.r f a b=>by simp[fP,Kb a,Kb b]|.C=>rfl|.q t v=>by simp[fP,Eh v]|.x=>rfl|.p l=>by simp[fP,Kb l]|.o l=>by simp[fP,Kb l]
 |.D=>rfl|.F a=>ND a|.G a=>ND a
theorem Kb:∀l:List AV,zj l l=true
 |[]=>rfl
 |x::l=>by simp[zj,Eh x,Kb l]
end
attribute [simp] Eh
@[simp] def ap5{h:Hp}{c:CI}{f:Fr}{x:AV}{m:Nat}:(Gf h ⟨c,f,x,m⟩=true)=(match aQ c.b f h with|.v y=>fP y x=true|_=>False):=by simp only[Gf];cases aQ c.b f h<;>simp
@[simp] def ap6{b}:bQ (.g b)=some [.g b]:=(rfl)
@[simp] def ap7{n}:bQ (.i n)=some [.i n]:=(rfl)
@[simp] def ap8{n}:bQ (.s n)=some [.s n]:=(rfl)
@[simp] def ap9{k n}:bQ (.d k n)=some [.d k n]:=(rfl)
@[simp] def aqa{i o}:bQ (.a i o)=some [.a i o]:=(rfl)
@[simp] def aqc{i o r l c e}:bQ (.c i o r l c e)=some [.c i o r l c e]:=(rfl)
@[simp] def aqd:bQ .h=some [.h]:=(rfl)
@[simp] def aqe{i}:bQ (.j i)=some [.j i]:=(rfl)
@[simp] def aqg{f a b}:bQ (.r f a b)=some [.r f a b]:=(rfl)
@[simp] def aqi{t v}:bQ (.q t v)=some [.q t v]:=(rfl)
@[simp] def aqk{l}:bQ (.p l)=some l:=(rfl)
@[simp] theorem Hp.jp{h:Hp}{j:Nat}{o:AO}(hj:j<h.a):(h.am o).ab j=h.ab j:=by rw[Hp.ma,if_neg (Nat.ne_of_lt hj)]
@[simp] def Hp.bv{h:Hp}{j:Nat}{o:AO}(hj:j=h.a):(h.am o).ab j=o:=by rw[Hp.ma,if_pos hj]
@[simp] theorem Hp.fv{h:Hp}{i j:Nat}{o:AO}(hj:j≠i):(h.dT i o).ab j=h.ab j:=by rw[Hp.lj,if_neg hj]
@[simp] def Hp.fp{h:Hp}{i j:Nat}{o:AO}(hj:j=i):(h.dT i o).ab j=o:=by rw[Hp.lj,if_pos hj]
theorem Hp.ka{h:Hp}{i:Nat}{o:AO}:(h.dT i o).a=max h.a (i+1):=rfl
@[simp] theorem Hp.ii{h:Hp}{o:AO}:(h.am o).a=h.a+1:=(rfl)
def Hp.lt{h:Hp}{i:Nat}{o:AO}(e:h.ab i=o)(n:jN o=false):i<h.a:=Hp.Or (by rw[e];exact n)
structure ah(M:Nat->Prop)(h h':Hp):Prop where
 g:h.a<=h'.a
 f:∀i,i<h.a->¬M i->h'.ab i=h.ab i
abbrev ax:=ah λ_=>False
theorem ah.cg{M:Nat->Prop}(h:Hp):ah M h h:=⟨at2 _,λ_ _ _=>rfl⟩
def ah.ba{M:Nat->Prop}{a b c:Hp}(x:ah M a b)(y:ah M b c):ah M a c:=⟨at1 x.g y.g,λi hi e=>(y.f i (aur hi x.g) e).trans (x.f i hi e)⟩
def ah.bc{M N:Nat->Prop}{a b:Hp}(x:ah M a b)(le:∀i,i<a.a->M i->N i):ah N a b:=⟨x.g,λi hi e=>x.f i hi λc=>e (le i hi c)⟩
def ah.mr{N:Nat->Prop}{a b:Hp}(x:ax a b):ah N a b:=x.bc λ_ _=>False.elim
theorem ah.am{M:Nat->Prop}{a b:Hp}(x:ah M a b)(o:AO):ah M a (b.am o):=⟨awv x.g,λi hi c=>(Hp.jp (aur hi x.g)).trans (x.f i hi c)⟩
theorem ah.dT{M:Nat->Prop}{a b:Hp}(x:ah M a b){i:Nat}(o:AO)(hi:a.a<=i\/M i):ah M a (b.dT i o):=by refine⟨at1 x.g (by unfold Hp.dT;simp only;omega),λj hj c=>(Hp.fv ?_).trans (x.f j hj c)⟩;rintro rfl;rcases hi with hi|hi;omega;exact c hi
section
variable {T:aM->Option CF}
def Kc(v:AV)(x y:Prop):Prop:=match v with|.g t=>cond t x y|_=>False
def ag2{x a b f h ds k}:W T (.i x a b) f h ds k=Kc (x.ab f) (W T a f h ds k) (W T b f h ds k):=ae6
@[congr] def aql{v w:AV}{x y:Prop}(e:v=w):Kc v x y=Kc w x y:=by rw[e]
@[simp ↓] def aqm{t:Bool}{x y:Prop}:Kc (.g t) x y=if t=true then x else y:=by cases t<;>simp[Kc]
@[congr] def aqn{c f h ds k}:W T c f h ds k=W T c f h ds k:=(rfl)
@[congr] def aqo{X:fJ}{g a a' h k}(e:a=a'):aE T X g a h k=aE T X g a' h k:=by rw[e]
attribute [simp ↓] Qq ae1 lI Gi ae2 ae3 ae4 Xg Qr ae5 ag2
def aEr{n:Nat}{b:Bool}{c:CC}{rs:List CR}{args h k}(a:T ⟨n⟩=some ⟨n,b,c,rs⟩):aE T (W T) ⟨n⟩ args h k=W T c (nQ args) h [] (finish T (W T) rs k):=by unfold aE;simp[a]
variable {X:fJ}{rs:List CR}{C:aK->Prop}{h:Hp}
@[simp ↓] def aqp:finish T X rs C (.c f h [])=wz h f rs C:=(rfl)
@[simp ↓] def aqq:finish T X rs C (.b f h [])=wz h f rs C:=(rfl)
@[simp ↓] def aqr{v}:finish T X rs C (.d v f h [])=C (.b v h):=(rfl)
end
attribute [simp] wz DN Jh
@[simp] theorem dZ{t:N3 (List AV)}{k j:Nat}{r:List AV}:cx t k r j=if j=k then r else t j:=by unfold cx;simp
attribute [simp] FZ wg qm
def ua(x y:AV):OR:=mc (λo=>Nat.beq o 0) x y
def vq(x y:AV):OR:=mc (λo=>Nat.ble o 1) x y
def uc(x y:AV):OR:=mc (λo=>Nat.beq o 2) x y
def vt(x y:AV):OR:=mc (λo=>Nat.ble 1 o) x y
@[simp ↓] def aqs{f:Fr}{h:Hp}{x}:aQ (.mv x) f h=.v (x.ab f):=(rfl)
@[simp ↓] def aqt{f:Fr}{h:Hp}{c a b}:aQ (.L c a b) f h=IW (c.ab f) (a.ab f) (b.ab f):=(rfl)
@[simp ↓] def aqu{f:Fr}{h:Hp}{el l}:aQ (.r el l) f h=alloc h (.a el l) λi=>.a i 0:=(rfl)
@[simp ↓] def aqv{f:Fr}{h:Hp}{el rw l5 rs}:aQ (.h el rw l5 rs) f h=alloc h (jJ el rw l5 rs) λi=>.a i 0:=(rfl)
@[simp ↓] def aqw{f:Fr}{h:Hp}{el n x}:aQ (.box el n x) f h=IX h el n (x.ab f):=(rfl)
@[simp ↓] def aqx{f:Fr}{h:Hp}{z ps}:aQ (.s z ps) f h=FY (λq=>q.ab f) z ps:=(rfl)
@[simp ↓] def aqy{f:Fr}{h:Hp}{el rw len z ps}:aQ (.q el rw len z ps) f h=FZ (λq=>q.ab f) h el rw len z ps:=(rfl)
@[simp ↓] def aqz{f:Fr}{h:Hp}{x}:aQ (.yV x) f h=Dw h (x.ab f):=(rfl)
@[simp ↓] def aqA{f:Fr}{h:Hp}{n x}:aQ (.FE n x) f h=Dx h n (x.ab f):=(rfl)
@[simp ↓] def aqB{f:Fr}{h:Hp}{n a v}:aQ (.st n a v) f h=FP h n (a.ab f) (v.ab f):=(rfl)
@[simp ↓] def aqC{f:Fr}{h:Hp}{x}:aQ (.I x) f h=Mq (x.ab f):=(rfl)
@[simp ↓] def aqD{f:Fr}{h:Hp}{x y}:aQ (.U x y) f h=lG (x.ab f) (y.ab f):=(rfl)
@[simp ↓] def aqE{f:Fr}{h:Hp}{x y}:aQ (.sub x y) f h=jb (x.ab f) (y.ab f):=(rfl)
@[simp ↓] def aqF{f:Fr}{h:Hp}{x y}:aQ (.mul x y) f h=qj (x.ab f) (y.ab f):=(rfl)
@[simp ↓] def aqG{f:Fr}{h:Hp}{x y}:aQ (.quo x y) f h=we (x.ab f) (y.ab f):=(rfl)
@[simp ↓] def aqH{f:Fr}{h:Hp}{x y}:aQ (.rem x y) f h=AH (x.ab f) (y.ab f):=(rfl)
@[simp ↓] def aqI{f:Fr}{h:Hp}{x y}:aQ (.Y x y) f h=jI (λ_ a b=>a&&&b) (x.ab f) (y.ab f):=(rfl)
@[simp ↓] def aqJ{f:Fr}{h:Hp}{x y}:aQ (.or x y) f h=jI (λ_ a b=>a|||b) (x.ab f) (y.ab f):=(rfl)
@[simp ↓] def aqL{f:Fr}{h:Hp}{x y}:aQ (.j x y) f h=jI (λ_ a b=>a&&&~~~b) (x.ab f) (y.ab f):=(rfl)
@[simp ↓] def aqM{f:Fr}{h:Hp}{x y}:aQ (.shl x y) f h=oQ pF (x.ab f) (y.ab f):=(rfl)
@[simp ↓] def aqN{f:Fr}{h:Hp}{x y}:aQ (.shr x y) f h=sC (x.ab f) (y.ab f):=(rfl)
@[simp ↓] def aqO{f:Fr}{h:Hp}{k x y}:aQ (.Z k x y) f h=Dv k (x.ab f) (y.ab f):=(rfl)
@[simp ↓] def aqP{f:Fr}{h:Hp}{k x y}:aQ (.neq k x y) f h=Mo k (x.ab f) (y.ab f):=(rfl)
@[simp ↓] def aqQ{f:Fr}{h:Hp}{x y}:aQ (.lss x y) f h=ua (x.ab f) (y.ab f):=(rfl)
@[simp ↓] def aqR{f:Fr}{h:Hp}{x y}:aQ (.leq x y) f h=vq (x.ab f) (y.ab f):=(rfl)
@[simp ↓] def aqS{f:Fr}{h:Hp}{x y}:aQ (.gtr x y) f h=uc (x.ab f) (y.ab f):=(rfl)
@[simp ↓] def aqT{f:Fr}{h:Hp}{x y}:aQ (.geq x y) f h=vt (x.ab f) (y.ab f):=(rfl)
@[simp ↓] def aqU{f:Fr}{h:Hp}{x}:aQ (.neg x) f h=uR (x.ab f):=(rfl)
@[simp ↓] def aqV{f:Fr}{h:Hp}{x}:aQ (.not x) f h=IY (x.ab f):=(rfl)
@[simp ↓] def aqX{f:Fr}{h:Hp}{k x}:aQ (.H k x) f h=aEy k (x.ab f):=(rfl)
@[simp ↓] def aqY{f:Fr}{h:Hp}{k x}:aQ (.Iz k x) f h=IZ k (x.ab f):=(rfl)
@[simp ↓] def aq0{f:Fr}{h:Hp}{el x}:aQ (.Mg el x) f h=BX h el (x.ab f):=(rfl)
@[simp ↓] def aq1{f:Fr}{h:Hp}{t x}:aQ (.IB t x) f h=.v (.q t (x.ab f)):=(rfl)
@[simp ↓] def aq2{f:Fr}{h:Hp}{fn a b}:aQ (.FG fn a b) f h=.v (.r fn (jc (λq=>q.ab f) a) (jc (λq=>q.ab f) b)):=(rfl)
@[simp ↓] def aq3{f:Fr}{h:Hp}:aQ (.P) f h=alloc h (.f [] 0) λi=>.j i:=(rfl)
@[simp ↓] def aq4{f:Fr}{h:Hp}{el rw a z l c}:aQ (.N el rw a z l c) f h=DB h el rw a z (l.ab f) (c.ab f):=(rfl)
@[simp ↓] def aq5{f:Fr}{h:Hp}{x lo hi}:aQ (.D x lo hi) f h=wh (x.ab f) (uS (λq=>q.ab f) lo) (uS (λq=>q.ab f) hi):=(rfl)
@[simp ↓] def aq6{f:Fr}{h:Hp}{rw n x lo hi}:aQ (.w rw n x lo hi) f h=FQ h rw n (x.ab f) (uS (λq=>q.ab f) lo) (uS (λq=>q.ab f) hi):=(rfl)
@[simp ↓] def aq7{f:Fr}{h:Hp}{x off}:aQ (.fa x off) f h=I0 (x.ab f) off:=(rfl)
@[simp ↓] def aq8{f:Fr}{h:Hp}{x off n agg}:aQ (.ID x off n agg) f h=IQ (x.ab f) off n agg:=(rfl)
@[simp ↓] def aq9{f:Fr}{h:Hp}{rw x i}:aQ (.ia rw x i) f h=Dy rw (x.ab f) (i.ab f):=(rfl)
@[simp ↓] def aq'{f:Fr}{h:Hp}{rw n x i}:aQ (.B rw n x i) f h=yY rw n (x.ab f) (i.ab f):=(rfl)
@[simp ↓] def ara{f:Fr}{h:Hp}{x i}:aQ (.X x i) f h=nh (x.ab f) (i.ab f):=(rfl)
@[simp ↓] def arb{f:Fr}{h:Hp}{a z x k ok}:aQ (.jV a z x k ok) f h=me a h z (x.ab f) (k.ab f) ok:=(rfl)
@[simp ↓] def arc{f:Fr}{h:Hp}{a m k v}:aQ (.T a m k v) f h=aFk a h (m.ab f) (k.ab f) (v.ab f):=(rfl)
@[simp ↓] def ard{f:Fr}{h:Hp}{a x}:aQ (.Mj a x) f h=FT a h (x.ab f):=(rfl)
@[simp ↓] def are{f:Fr}{h:Hp}{x s}:aQ (.IF x s) f h=BV h (x.ab f) s:=(rfl)
@[simp ↓] def arf{f:Fr}{h:Hp}{x}:aQ (.G x) f h=FU h (x.ab f):=(rfl)
@[simp ↓] def arh{f:Fr}{h:Hp}{t z x ok}:aQ (.IG t z x ok) f h=IU t z (x.ab f) ok:=(rfl)
@[simp ↓] def ari{f:Fr}{h:Hp}{x i}:aQ (.ext x i) f h=IV (x.ab f) i:=(rfl)
@[simp ↓] def ZS{f:Fr}{h:Hp}{fn args}:aQ (.A fn args) f h=.c fn (jc (λq=>q.ab f) args):=(rfl)
@[simp ↓] def arj{f:Fr}{h:Hp}{fn args}:aQ (.K fn args) f h=Ms (fn.ab f) (jc (λq=>q.ab f) args):=(rfl)
@[simp ↓] def ark{f:Fr}{h:Hp}{el rw a x y}:aQ (.o el rw a x y) f h=kJ h el rw a (x.ab f) (y.ab f):=(rfl)
@[simp ↓] def arl{f:Fr}{h:Hp}{k x}:aQ (.Q k x) f h=aEW k h (x.ab f):=(rfl)
@[simp ↓] def arn{f:Fr}{h:Hp}{rw x y}:aQ (.M rw x y) f h=FV h rw (x.ab f) (y.ab f):=(rfl)
@[simp ↓] def aro{f:Fr}{h:Hp}{l}:aQ (.min l) f h=(match jc (λq=>q.ab f) l with|[]=>.a "min"|x::r=>wq true x r):=(rfl)
@[simp ↓] def arp{f:Fr}{h:Hp}{l}:aQ (.max l) f h=(match jc (λq=>q.ab f) l with|[]=>.a "max"|x::r=>wq false x r):=(rfl)
@[simp ↓] def arq{f:Fr}{h:Hp}{x}:aQ (.II x) f h=FX (x.ab f):=(rfl)
@[simp ↓] def ars{f:Fr}{h:Hp}{u n x}:aQ (.J u n x) f h=Dz h u n (x.ab f):=(rfl)
@[simp ↓] def art{f:Fr}{h:Hp}{e l}:aQ (.F e l) f h=qo e (jc (λq=>q.ab f) l):=(rfl)
@[simp ↓] def aru{f:Fr}{h:Hp}{u p n}:aQ (.O u p n) f h=AL h u (p.ab f) (n.ab f):=(rfl)
@[simp ↓] def arw{f:Fr}{h:Hp}{fn args}:aQ (.IJ fn args) f h=Mt (fn.ab f) (jc (λq=>q.ab f) args):=(rfl)
@[simp ↓] def arx{f:Fr}{h:Hp}{x}:aQ (.C x) f h=Qd (x.ab f):=(rfl)
attribute [simp] alloc Hp.my gK kH FN uS jc gk fF BQ mK
section
variable {h:Hp}{o n:Nat}{v w:AV}
def ZT(o:Option (List AV)):OR:=match o with|some (v::_)=>.v v|_=>.a "load"
def ZU(o:Option (List AV)):OR:=match o with|some l=>.v (.p l)|none=>.a "load n"
@[simp] def arz{v:AV}{l:List AV}:ZT (some (v::l))=.v v:=(rfl)
@[simp] def arA{l:List AV}:ZU (some l)=.v (.p l):=(rfl)
@[simp] def arB:Dw h (.a i o)=ZT (cellsOf (h.ab i) o 1):=(rfl)
@[simp] def arC:Dx h n (.a i o)=ZU (cellsOf (h.ab i) o n):=(rfl)
@[simp] def arD:FP h n (.a i o) v=(match bQ v with
 |some l=>cond (Nat.beq (gk l) n) (match setCells (h.ab i) o l with|some a=>.b undef (h.dT i a)|none=>.a "store") (.a "store: size")
 |none=>.a "store: cells"):=(rfl)
@[simp] def arE{el l}:cellsOf (.a el l) o n=gK n (kH o l):=(rfl)
@[simp] def arF{el r l}:setCells (.a el r) o l=match mK o l r with|some a=>some (.a el a)|none=>none:=(rfl)
@[simp] def arG{fn first a args}:Ms (.r fn first a) args=.c fn (fF first (fF args a)):=(rfl)
attribute [simp] Mq I0 IQ IP IV y7 IY IW IX AI FY mM BP
end
section
variable {l5 fz el k j n off r cap:Nat}{t:N3 (List AV)}{b:Nat}{ex:Bool}
@[simp] def Kd(e:k<l5)(hj:j+n<=rw)(g:0<n):cellsOf (.b el rw l5 fz t) (k*rw+j) n=gK n (kH j (t k)):=by
 have a:(k*rw+j)/rw=k:=by rw[auB,axa qaq,avY qaq,aud]
 have c:(k*rw+j)% rw=j:=by rw[auB,awG,avy qaq]
 simp only[cellsOf,Ee,Ef,vp,wL,ny,a,c];have:(decide (j+n<=rw)&&decide (k+1<=l5))=true:=by simp;omega
 rw[this];rfl
@[simp] def ZV(a:k<l5)(hj:n<=rw)(c:0<n):cellsOf (.b el rw l5 fz t) (k*rw) n=gK n (t k):=by have:=Kd (el:=el) (fz:=fz) (t:=t) (j:=0) a (by rw[aue];exact hj) c;simpa using this
@[simp] def arH(a:k<l5):cellsOf (.b el 1 l5 fz t) k 1=gK 1 (t k):=by have:=ZV (rw:=1) (el:=el) (fz:=fz) (t:=t) a (at2 1) qaq;simpa using this
@[simp] def ZW{l:List AV}(m:k<l5)(hj:j+gk l<=rw)(p:0<gk l)(g:fz<=k*rw+j):setCells (.b el rw l5 fz t) (k*rw+j) l=
 match mK j l (t k) with|some e=>some (.b el rw l5 fz (cx t k e))|none=>none:=by
 have a:(k*rw+j)/rw=k:=by rw[auB,axa qaq,avY qaq,aud]
 have c:(k*rw+j)% rw=j:=by rw[auB,awG,avy qaq]
 simp only[setCells,Ee,Ef,vp,wL,ny,a,c,dY];have:(decide (j+gk l<=rw)&&decide (k+1<=l5)&&decide (fz<=k*rw+j))=true:=by simp;omega
 rw[this];rfl
@[simp] def ag3{l:List AV}(a:k<l5)(hj:gk l<=rw)(c:0<gk l)(g:fz<=k*rw):setCells (.b el rw l5 fz t) (k*rw) l=
 match mK 0 l (t k) with|some e=>some (.b el rw l5 fz (cx t k e))|none=>none:=by
 have:=ZW (rw:=rw) (el:=el) (fz:=fz) (t:=t) (j:=0) (l:=l) a qaq c qaq;simpa using this
@[simp] def arI{l:List AV}(a:0<l5)(hj:gk l<=rw)(c:0<gk l)(g:fz=0):setCells (.b el rw l5 fz t) 0 l=
 match mK 0 l (t 0) with|some e=>some (.b el rw l5 fz (cx t 0 e))|none=>none:=by
 have:=ag3 (rw:=rw) (el:=el) (fz:=fz) (t:=t) (k:=0) (l:=l) a hj c qaq;simpa using this
@[simp] def arK(a:0<l5)(hj:j+n<=rw)(c:0<n):cellsOf (.b el rw l5 fz t) j n=gK n (kH j (t 0)):=by have:=Kd (el:=el) (fz:=fz) (t:=t) (k:=0) a hj c;simpa using this
@[simp] def ag4{v:AV}(c:k<l5)(a:fz<=k):setCells (.b el 1 l5 fz t) k [v]=
 match mK 0 [v] (t k) with|some e=>some (.b el 1 l5 fz (cx t k e))|none=>none:=by
 have:=ZW (rw:=1) (el:=el) (fz:=fz) (t:=t) (j:=0) (l:=[v]) c (by simp) (by simp) (by simpa using a);simpa using this
@[simp] def arL{a:Int}(h0:0<=a)(c:a.toNat<len):Dy rw (.c b off r len cap ex) (.i a)=.v (.a b (off+a.toNat*rw)):=by obtain⟨n,rfl⟩:=at6 h0;have c:n+1<=len:=c;simp only[Dy,mM,BP,wL,ny,S9,vp];simp[c]
end
def zq{p:Prop}(h:p:=by simp only[Hp.eE,Hp.iy];omega):p:=h
def bh{p:Prop}(h:p:=by first|omega|(simp only[Hp.ii,Hp.ka];done)|(simp only[Hp.ii,Hp.ka,gk,J9];omega)):p:=h
def zA{p:Prop}(h:p:=by first|assumption|(simp(maxSteps:=400000) (disch:=first|exact bh|fail)<;>assumption)):p:=h
def zy{a p:Prop}(h:a->p:=by intro x;simp(maxSteps:=400000) (disch:=first|exact bh|fail) [x]):a->p:=h
def zz{a q p:Prop}(h:a->q->p:=by intro x y;simp(maxSteps:=400000) (disch:=first|exact bh|fail) [x];exact y):a->q->p:=h
def zx{a p:Prop}(h:a->p:=by intro x;exact⟨by(try simp only[Hp.ii,Hp.ka]);omega,λi hi c=>by simp(maxSteps:=400000) (disch:=first|exact bh|fail) [x,hi,c]⟩):a->p:=h
def aa{p:Prop}(e:p:=by simp(maxSteps:=400000) (disch:=first|exact bh|fail)):p:=e
def ag{p q:Prop}(y:q)(e:q->p:=by intro y;simp(maxSteps:=400000) (disch:=first|exact bh|fail);exact y):p:=e y
def au{a0 p:Prop}(x0:a0)(e:a0->p:=by intro x0;simp(maxSteps:=400000) (disch:=first|exact bh|fail) [x0]):p:=e x0
def aB{a0 p q:Prop}(x0:a0)(y:q)(e:a0->q->p:=by intro x0 y;simp(maxSteps:=400000) (disch:=first|exact bh|fail) [x0];exact y):p:=e x0 y
def iQ{a0 p:Prop}(x0:a0)(e:a0->p:=by intro x0;exact⟨by(try simp only[Hp.ii,Hp.ka]);omega,λi hi a=>by simp(maxSteps:=400000) (disch:=first|exact bh|fail) [x0,hi,a]⟩):p:=e x0
def bV{a0 a p:Prop}(x0:a0)(c:a)(e:a0/\a->p:=by exact zy):p:=e ⟨x0,c⟩
def aS{a0 a p q:Prop}(x0:a0)(c:a)(y:q)(e:a0/\a->q->p:=by exact zz):p:=e ⟨x0,c⟩ y
def eF{a0 a p:Prop}(x0:a0)(c:a)(e:a0/\a->p:=by exact zx):p:=e ⟨x0,c⟩
def cX{a0 a c p:Prop}(x0:a0)(g:a)(l:c)(e:a0/\a/\c->p:=by exact zy):p:=e ⟨x0,g,l⟩
def aU{a0 a c p q:Prop}(x0:a0)(g:a)(l:c)(y:q)(e:a0/\a/\c->q->p:=by exact zz):p:=e ⟨x0,g,l⟩ y
def fH{a0 a c p:Prop}(x0:a0)(g:a)(l:c)(e:a0/\a/\c->p:=by exact zx):p:=e ⟨x0,g,l⟩
def mw{a0 a c a3 p:Prop}(x0:a0)(g:a)(l:c)(m:a3)(e:a0/\a/\c/\a3->p:=by exact zy):p:=e ⟨x0,g,l,m⟩
def bK{a0 a c a3 p q:Prop}(x0:a0)(g:a)(l:c)(m:a3)(y:q)(e:a0/\a/\c/\a3->q->p:=by exact zz):p:=e ⟨x0,g,l,m⟩ y
def qB{a0 a c a3 p:Prop}(x0:a0)(g:a)(l:c)(m:a3)(e:a0/\a/\c/\a3->p:=by exact zx):p:=e ⟨x0,g,l,m⟩
def zg5{a0 a c a3 a4 p:Prop}(x0:a0)(g:a)(l:c)(m:a3)(q:a4)(e:a0/\a/\c/\a3/\a4->p:=by exact zy):p:=e ⟨x0,g,l,m,q⟩
def cC{a0 a c a3 a4 p q:Prop}(x0:a0)(g:a)(l:c)(m:a3)(s:a4)(y:q)(e:a0/\a/\c/\a3/\a4->q->p:=by exact zz):p:=e ⟨x0,g,l,m,s⟩ y
def Ei{a0 a c a3 a4 p:Prop}(x0:a0)(g:a)(l:c)(m:a3)(q:a4)(e:a0/\a/\c/\a3/\a4->p:=by exact zx):p:=e ⟨x0,g,l,m,q⟩
def cq{a0 a c a3 a4 a5 p q:Prop}(x0:a0)(g:a)(l:c)(m:a3)(s:a4)(u:a5)(y:q)(e:a0/\a/\c/\a3/\a4/\a5->q->p:=by exact zz):p:=e ⟨x0,g,l,m,s,u⟩ y
def zp6{a0 a c a3 a4 a5 p:Prop}(x0:a0)(g:a)(l:c)(m:a3)(q:a4)(s:a5)(e:a0/\a/\c/\a3/\a4/\a5->p:=by exact zx):p:=e ⟨x0,g,l,m,q,s⟩
def zg7{a0 a c a3 a4 a5 g p:Prop}(x0:a0)(l:a)(m:c)(q:a3)(s:a4)(u:a5)(z:g)(e:a0/\a/\c/\a3/\a4/\a5/\g->p:=by exact zy):p:=e ⟨x0,l,m,q,s,u,z⟩
def iR{a0 a c a3 a4 a5 g p q:Prop}(x0:a0)(l:a)(m:c)(s:a3)(u:a4)(z:a5)(D:g)(y:q)(e:a0/\a/\c/\a3/\a4/\a5/\g->q->p:=by exact zz):p:=e ⟨x0,l,m,s,u,z,D⟩ y
def ZX{a0 a c a3 a4 a5 g p:Prop}(x0:a0)(l:a)(m:c)(q:a3)(s:a4)(u:a5)(z:g)(e:a0/\a/\c/\a3/\a4/\a5/\g->p:=by exact zx):p:=e ⟨x0,l,m,q,s,u,z⟩
def fY{a0 a c a3 a4 a5 g l p q:Prop}(x0:a0)(m:a)(s:c)(u:a3)(z:a4)(D:a5)(E:g)(F:l)(y:q)(e:a0/\a/\c/\a3/\a4/\a5/\g/\l->q->p:=by exact zz):p:=e ⟨x0,m,s,u,z,D,E,F⟩ y
def zp8{a0 a c a3 a4 a5 g l p:Prop}(x0:a0)(m:a)(q:c)(s:a3)(u:a4)(z:a5)(D:g)(E:l)(e:a0/\a/\c/\a3/\a4/\a5/\g/\l->p:=by exact zx):p:=e ⟨x0,m,q,s,u,z,D,E⟩
def mz{a0 a c a3 a4 a5 g l m p q:Prop}(x0:a0)(s:a)(u:c)(z:a3)(D:a4)(E:a5)(F:g)(G:l)(H:m)(y:q)(e:a0/\a/\c/\a3/\a4/\a5/\g/\l/\m->q->p:=by exact zz):p:=e ⟨x0,s,u,z,D,E,F,G,H⟩ y
def nA{a0 a c a3 a4 a5 g l m a9 p q:Prop}(x0:a0)(s:a)(u:c)(z:a3)(D:a4)(E:a5)(F:g)(G:l)(H:m)(I:a9)(y:q)(e:a0/\a/\c/\a3/\a4/\a5/\g/\l/\m/\a9->q->p:=by exact zz):p:=e ⟨x0,s,u,z,D,E,F,G,H,I⟩ y
def wM{a0 g l a3 a4 a5 m s u a9 a p q:Prop}(x0:a0)(z:g)(D:l)(E:a3)(F:a4)(G:a5)(H:m)(I:s)(J:u)(K:a9)(c:a)(y:q)(e:a0/\g/\l/\a3/\a4/\a5/\m/\s/\u/\a9/\a->q->p:=by exact zz):p:=e ⟨x0,z,D,E,F,G,H,I,J,K,c⟩ y
def pU{a0 m s a3 a4 a5 u z D a9 a c p q:Prop}(x0:a0)(E:m)(F:s)(G:a3)(H:a4)(I:a5)(J:u)(K:z)(L:D)(M:a9)(g:a)(l:c)(y:q)(e:a0/\m/\s/\a3/\a4/\a5/\u/\z/\D/\a9/\a/\c->q->p:=by exact zz):p:=e ⟨x0,E,F,G,H,I,J,K,L,M,g,l⟩ y
def kC{a0 u z a3 a4 a5 D E F a9 a c g p q:Prop}(x0:a0)(G:u)(H:z)(I:a3)(J:a4)(K:a5)(L:D)(M:E)(N:F)(O:a9)(l:a)(m:c)(s:g)(y:q)(e:a0/\u/\z/\a3/\a4/\a5/\D/\E/\F/\a9/\a/\c/\g->q->p:=by exact zz):p:=e ⟨x0,G,H,I,J,K,L,M,N,O,l,m,s⟩ y
def bH{h h':Hp}{q:Prop}(g:ax h h')(e:h.a<=h'.a->q:=by intro n;(try simp only[Hp.ii,Hp.ka] at n);exact n):q/\∀i,i<h.a->h'.ab i=h.ab i:=⟨e g.g,λi hi=>g.f i hi id⟩
def bw{c:Nat}{h h':Hp}{q:Prop}(g:ah (·=c) h h')(e:h.a<=h'.a->q:=by intro n;(try simp only[Hp.ii,Hp.ka] at n);exact n):q/\∀i,i<h.a->i≠c->h'.ab i=h.ab i:=⟨e g.g,g.f⟩
def fZ{p:Prop}(h:p:=by repeat(first|exact ah.cg _|assumption|refine ah.am ?_ _|refine ah.dT ?_ _ (by first|(left;(try simp only[Hp.ii,Hp.ka]);omega)|(right;left;omega)|(right;right;(try simp only[Hp.ii,Hp.ka]);omega)|(right;(try simp only[Hp.ii,Hp.ka]);omega)))):p:=h
def aZ{p:Prop}(h:p:=by repeat(first|exact ah.cg _|assumption|refine ah.am ?_ _|refine ah.dT ?_ _ (by first|exact .inr rfl|exact .inl (at2 _)|(left;simp only[Hp.ii,Hp.ka];omega)))):p:=h
section
open Go (IntKind)
@[simp] theorem gf{n:Int}(c:-9223372036854775808<=n)(d:n<=9223372036854775807):w64 n=n:=by unfold w64;rw[IntKind.wrap_i64];omega
section
variable {a b:Int}{n:Nat}
def ag5:xK a b=decide (a<b):=by cases a<;>cases b<;>simp[xK]<;>omega
def A6:mJ a b=decide (a=b):=by cases a<;>cases b<;>simp[mJ]<;>omega
def Ej:uQ a b=if a<b then 0 else if a=b then 1 else 2:=by simp[uQ,ag5,A6]
@[simp] def zR:lG (.i a) (.i b)=.v (.i (w64 (a+b))):=(rfl)
@[simp] def kD:jb (.i a) (.i b)=.v (.i (w64 (a- b))):=(rfl)
@[simp] def NG:qj (.i a) (.i b)=.v (.i (w64 (a*b))):=(rfl)
@[simp] def arR(h:b≠0):AH (.i a) (.i b)=.v (.i (a.tmod b)):=by simp[AH,A6,h]
@[simp] def arS:ua (.i a) (.i b)=.v (.g (decide (a<b))):=by simp only[ua,mc,tK,qk,Ej];by_cases h:a<b<;>by_cases e:a=b<;>simp[h,e]
@[simp] def arT:vq (.i a) (.i b)=.v (.g (decide (a<=b))):=by simp only[vq,mc,tK,qk,Ej];by_cases h:a<b<;>by_cases e:a=b<;>simp[h,e]<;>omega
@[simp] def arU:uc (.i a) (.i b)=.v (.g (decide (b<a))):=by simp only[uc,mc,tK,qk,Ej];by_cases h:a<b<;>by_cases e:a=b<;>simp[h,e]<;>omega
@[simp] def arV:vt (.i a) (.i b)=.v (.g (decide (b<=a))):=by simp only[vt,mc,tK,qk,Ej];by_cases h:a<b<;>by_cases e:a=b<;>simp[h,e]<;>omega
theorem NH:(cond (Nat.beq m n) 1 (cond (Nat.ble m n) 0 2):Nat)=if m<n then 0 else if m=n then 1 else 2:=by simp;grind
@[simp] def arW:ua (.s m) (.s n)=.v (.g (decide (m<n))):=by simp only[ua,mc,tK,qk,NH];by_cases h:m<n<;>by_cases e:m=n<;>simp[h,e]
@[simp] def arX:vq (.s m) (.s n)=.v (.g (decide (m<=n))):=by simp only[vq,mc,tK,qk,NH];by_cases h:m<n<;>by_cases e:m=n<;>simp[h,e]<;>omega
@[simp] def arY:uc (.s m) (.s n)=.v (.g (decide (n<m))):=by simp only[uc,mc,tK,qk,NH];by_cases h:m<n<;>by_cases e:m=n<;>simp[h,e]<;>omega
@[simp] def arZ:vt (.s m) (.s n)=.v (.g (decide (n<=m))):=by simp only[vt,mc,tK,qk,NH];by_cases h:m<n<;>by_cases e:m=n<;>simp[h,e]<;>omega
attribute [simp] Dv Mo
@[simp] def ar0:cJ (.a (.b .i64)) (.i a) (.i b)=some (decide (a=b)):=by simp[cJ,sD,A6]
@[simp] def ar1:cJ (.a (.b .u8)) (.s m) (.s n)=some (decide (m=n)):=by simp[cJ,sD]
@[simp] def ar2{x y:Bool}:cJ (.a .c) (.g x) (.g y)=some (x==y):=by cases x<;>cases y<;>rfl
@[simp] def ar3:cJ .d .u .u=some true:=(rfl)
@[simp] def ar5{i o}:cJ .d (.a i o) .u=some false:=(rfl)
end
@[simp] def ar6{h:Hp}{i o r l c e}:aEW 1 h (.c i o r l c e)=.v (.i l):=(rfl)
@[simp] def ar7{h:Hp}:aEW 1 h .h=.v (.i 0):=(rfl)
def ag6{b:Nat}{l:List Nat}(c:b<256):lF (cO (b::l)) 0=b:=by simp_all[lF,cO,auL]
theorem ZY{b:Nat}{l:List Nat}(c:b<256)(n:Nat):(cO (b::l))>>>(8*(n+1))=(cO l)>>>(8*n):=by show(b+(cO l)<<<8)>>>(8*(n+1))=_;rw[show 8*(n+1)=8+8*n from by omega,awl,auL];grind[Nat.shiftRight_eq_div_pow]
theorem ag7:∀(l:List Nat),(∀b∈l,b<256)->cO l<256^l.length
 |[],_=>by simp[cO]
 |b::l,h=>by have c:=ag7 l λx e=>h x qaa;have d:=h b zm;show b+(cO l)<<<8<_;grind[Nat.shiftLeft_eq]
theorem Tb(l:List Nat)(h:∀b∈l,b<256):∀(k:Nat),lF (cO l) k=l.getD k 0:=by
 induction l with
 |nil=>simp_all[lF,cO]
 |cons b l d=>
  intro k;have c:=h b zm;cases k with
  |zero=>rw[ag6 c];rfl
  |succ k=>
   rw[awi,<-d (λx e=>h x qaa) k];show((cO (b::l))>>>(8*(k+1)))% 256=_;rw[ZY c];rfl
theorem ag8(l:List Nat)(h:∀b∈l,b<256):∀k,(cO l)>>>(8*k)=cO (l.drop k):=by
 induction l with
 |nil=>intro k;simp[cO]
 |cons b l c=>
  intro k;cases k with
  |zero=>simp
  |succ k=>grind[ZY]
theorem ag9(l:List Nat)(h:∀b∈l,b<256):∀k,(cO l)% 2^(8*k)=cO (l.take k):=by
 induction l with
 |nil=>intro k;simp[cO]
 |cons b l c=>
  intro k;cases k with
  |zero=>simp[cO,axV]
  |succ k=>
   have d:=h b zm;show(b+(cO l)<<<8)% 2^(8*(k+1))=b+(cO (l.take k))<<<8;rw[<-c (λx e=>h x qaa) k,auL,auL,show 8*(k+1)=8*k+8 from by omega,auT,show(2:Nat)^8=256 from rfl];grind[Nat.mod_mul]
def ag'(l m:List Nat):cO (l++m)=cO l+(cO m)<<<(8*l.length):=by
 induction l with
 |nil=>simp[cO]
 |cons b l c=>
  show b+(cO (l++m))<<<8=b+(cO l)<<<8+_;rw[c,atX,show 8*(l.length+1)=8*l.length+8 from by omega,Nat.shiftLeft_add];omega
theorem ZZ:∀(l m:List Nat),(∀b∈l,b<256)->(∀b∈m,b<256)->l.length=m.length->cO l=cO m->l=m
 |[],[],_,_,_,_=>rfl
 |[],_::_,_,_,h,_=>by grind
 |_::_,[],_,_,h,_=>by grind
 |a::l,b::m,c,d,q,i=>by have o:=c a zm;have p:=d b zm;have e:a+(cO l)<<<8=b+(cO m)<<<8:=i;have f:a=b:=zo;have g:cO l=cO m:=zo;rw[f,ZZ l m (λx j=>c x qaa) (λx j=>d x qaa) qaa g]
theorem GZ(l:List UInt8):∀b∈l.map (·.toNat),b<256:=by intro b c;obtain⟨x,_,rfl⟩:=auR.1 c;exact x.toNat_lt
section
variable {l m:List UInt8}{a b:Int}{k:Nat}{h:Hp}
@[simp] def ar8:aEW 0 h (S l)=.v (.i l.length):=(rfl)
@[simp] def dQ(h0:0<=a)(c:a.toNat<l.length):nh (S l) (.i a)=.v (.s (l.getD a.toNat 0).toNat):=by obtain⟨n,rfl⟩:=at6 h0;have c:n+1<=l.length:=c;simp only[S,nh,mM,BP,wL,ny,c,auS,cond];rw[Tb _ (GZ l)];simp only[aub,auh,awr];have:n<l.length:=c;simp[this]
@[simp] theorem Tc(c:l.length+m.length<=9223372036854775807):lG (S l) (S m)=.v (S (l++m)):=by simp only[S,lG,Mn,vp,ny,Du,c,auS,cond,auk,au4,ag',avd];rfl
@[simp] def ar9:bQ (S l)=some [S l]:=(rfl)
theorem aha:S l=S m->l=m:=by intro h;simp[S,AV.y.injEq] at h;have:=ZZ _ _ (GZ l) (GZ m) qaa h.2;grind[List.map_inj_right,UInt8.toNat_inj]
theorem Z1:sD .a (S l) (S m)=some (decide (l=m)):=by simp[S,sD,tZ];congr 1;by_cases e:l=m;grind;by_cases c:l.length=m.length;have:¬cO (l.map (·.toNat))=cO (m.map (·.toNat)):=λd=>e (aha (by simp only[S,c,d]));grind;grind
@[simp] def Td:cJ (.a .a) (S l) (S m)=some (decide (l=m)):=Z1
theorem Te(lo hi:Nat):sub (cO (l.map (·.toNat))) lo hi=cO (((l.drop lo).take (hi- lo)).map (·.toNat)):=by show((cO (l.map (·.toNat)))>>>(8*lo))% 2^(8*(hi- lo))=_;grind[ag8,GZ,ag9,List.map_take,List.map_drop]
def NI(h0:0<=a):mM (.i a)=some a.toNat:=by obtain⟨n,rfl⟩:=at6 h0;rfl
@[simp] def asa(h0:0<=a)(e:a<=b)(f:b<=l.length):wh (S l) (some (.i a)) (some (.i b))=.v (S ((l.drop a.toNat).take (b.toNat- a.toNat))):=by simp only[S,wh,bounds,NI h0,NI (avU h0 e),ny,Te];have c:b.toNat<=l.length:=zo;have d:a.toNat<=b.toNat:=zo;simp[c,d];omega
@[simp] def ahb(h0:0<=a)(d:a<=l.length):wh (S l) (some (.i a)) none=.v (S (l.drop a.toNat)):=by simp only[S,wh,bounds,NI h0,ny,Te];have c:a.toNat<=l.length:=zo;simp[c];rw[avG zm]
@[simp] def Z2(h0:0<=b)(d:b<=l.length):wh (S l) none (some (.i b))=.v (S (l.take b.toNat)):=by simp only[S,wh,bounds,NI h0,ny,Te];have c:b.toNat<=l.length:=zo;simp[c]
end
end
def zte{L e c N b h}:@zt L e c N b h=b:=rfl
def aJ{T:aM->Option CF}{n:Nat}{b:Bool}{c a:CC}{rs:List CR}{args h k}(d:T ⟨n⟩=some ⟨n,b,c,rs⟩)(e:c=a:=by first|exact zte|rfl):aE T (W T) ⟨n⟩ args h k=W T a (nQ args) h [] (finish T (W T) rs k):=by subst e;exact aEr d
variable {T:aM->Option CF}
section
variable {h:Hp}{k:aK->Prop}
def cY(h:Hp)(v:AV)(ws:List (List UInt8)):Prop:=
 ∃b cap ex r t,v=.c b 0 1 ws.length cap ex/\h.ab b=.b 9 1 r 0 t/\ws.length<=r/\∀j,(hj:j<ws.length)->t j=[S ws[j]]
theorem ahc(p:aA T){v:AV}{ws:List (List UInt8)}{x:List UInt8}(y:cY h v ws)(B:ws.length<4294967296)
 (l:∀r:Int,(0<=r <-> x∈ws)->(∀i:Nat,r=i->ws[i]? =some x)->(x∉ws->r=-1)->k (.a (.i r) h)):aE T (W T) ⟨62⟩ [v,S x] h k:=by
 obtain⟨b,cap,ex,r,t,rfl,s,hr,w⟩:=y;rw[aJ p.t62];refine ag ?_;have key:∀(m i:Nat)(f:Fr),m=ws.length- i->i<=ws.length->(∀j,j<i->ws[j]? ≠some x)->an 7 f=.i ws.length->an 8 f=.i i->
  an 0 f=.c b 0 1 ws.length cap ex->an 1 f=S x->W T (.d l62_0) f h [] (bY 0 (bF (W T (.f (.g (z q62 7)) .k)) (finish T (W T) [.a 4] k))):=by
  intro m;induction m with
  |zero=>
   intro i f u hi n d g h0 c;have a:¬i<ws.length:=zo;rw[aP];refine cC d g h0 c a ?_;refine l _ ⟨λh=>by omega,λh=>?_⟩ (λi e=>by omega) λ_=>rfl;grind[List.getElem_of_mem]
  |succ m A=>
   intro i f u hi n d g h0 c;have a:i<ws.length:=zo;rw[aP];have:=w i a;refine iR d g h0 c s this a ?_;by_cases e:x=ws[i];refine aB e ?_;refine l _ ⟨λ_=>e▸auy a,λ_=>by omega⟩ (λj q=>?_) λq=>absurd (e▸auy a) q;obtain rfl:j=i:=zo;grind;refine aB e ?_;refine A (i+1) _ zo zo (λj hj=>?_) (au d) aa (au h0) (au c);by_cases o:j=i;subst o;rw[atT a];exact λq=>e (auQ q).symm;exact n j zo
 refine key _ 0 _ rfl zo (λj hj=>by omega) ?_ ?_ ?_ ?_<;>simp(disch:=omega)
def Ek(a:aA T){v:AV}{ws:List (List UInt8)}{x:List UInt8}(c:cY h v ws)(b:ws.length<4294967296)
 (d:k (.a (.g (decide (x∈ws))) h)):aE T (W T) ⟨34⟩ [v,S x] h k:=by
 rw[aJ a.t34];refine ag ?_;refine ahc a c b λr hr _ _=>?_;simp_all
def cY.bc{M:Nat->Prop}{h h':Hp}{v ws}(e:cY h v ws)(g:ah M h h')(d:∀i r t,h.ab i=.b 9 1 r 0 t->¬M i):cY h' v ws:=by obtain⟨b,cap,ex,r,t,rfl,a,c⟩:=e;exact⟨b,cap,ex,r,t,rfl,by rw[g.f _ (Hp.lt a rfl) (d _ _ _ a)];omega,c⟩
def yb(h:Hp)(v:AV)(ws:List (List UInt8)):Prop:=ws≠[]->cY h v ws
theorem Cq{a:Type}{l:List a}{j:Nat}(h:j<l.length):l≠[]:=by grind
theorem cY.kw{b r cap ex t}{x:List UInt8}(a:h.ab b=.b 9 1 r 0 t)(hr:1<=r)(c:t 0=[S x]):cY h (.c b 0 1 1 cap ex) [x]:=
 ⟨b,cap,ex,r,t,rfl,a,hr,λj hj=>by grind⟩
end
def aFg{i m p:Nat}{v:AV}{f:Fr}(hi:i<m)(a:m<=p):an i (fO p v f)=an i f:=by simp[show¬i=p by omega]
section
variable {h:Hp}{k:aK->Prop}{c:UInt8}
def aE6(s:List UInt8)(c:UInt8):Int:=if c∈s then(s.idxOf c:Int) else-1
def w9(s p:List UInt8):Bool:=decide (s.take p.length=p)
def vu(s p:List UInt8):Bool:=decide (p.length<=s.length)&&decide (s.drop (s.length- p.length)=p)
theorem Z3(s:List UInt8)(c:UInt8):∀l j,s.length=l+j->DC (cO (s.map (·.toNat))) c.toNat l j=if c∈s.drop j then((j+(s.drop j).idxOf c:Nat):Int) else-1
 |0,j,e=>by rw[auJ zo];rfl
 |l+1,j,e=>by have hj:j<s.length:=zo;unfold DC;rw[Tb _ (GZ s),aut hj,tZ,Z3 s c l (Nat.succ j) zo];grind[UInt8.toNat_inj]
@[simp] theorem asb:qo .b [S s,.s c.toNat]=.v (.i (aE6 s c)):=by
 have h:=Z3 s c s.length 0 zm;have a:Nat.ble c.toNat 255=true:=by have:=c.toNat_lt;rw[ny];grind
 simp only[S,qo,a,cond,h,axq,aue,aE6]
theorem G0:0<=aE6 s c <-> c∈s:=by grind[aE6]
theorem ahd(h:c∈s):aE6 s c<s.length:=by grind[aE6]
@[simp] def asd{l:List UInt8}:nh (S (c::l)) (.i 0)=.v (.s c.toNat):=by simp
def Z4(a:aA T)(b:k (.a (.i (aE6 s c)) h)):aE T (W T) ⟨78⟩ [S s,.s c.toNat] h k:=by rw[aJ a.t78];refine ag ?_;omega
def Tf(a:aA T)(b:k (.a (.i (aE6 s c)) h)):aE T (W T) ⟨49⟩ [S s,.s c.toNat] h k:=by rw[aJ a.t49];refine ag ?_;refine Z4 a ?_;simp_all
theorem Z5(a:aA T)(g:s.length<4611686018427387904)(f:k (.a (.g (w9 s p)) h)):aE T (W T) ⟨73⟩ [S s,S p] h k:=by
 rw[aJ a.t73];by_cases e:p.length<=s.length;simp_all[w9];have b:¬(p.length:Int)<=s.length:=zo;have d:w9 s p=false:=by unfold w9;grind
 refine aS b e ?_;grind
def NJ(a:aA T)(b:s.length<4611686018427387904)(d:k (.a (.g (w9 s p)) h)):aE T (W T) ⟨50⟩ [S s,S p] h k:=by rw[aJ a.t50];refine ag ?_;refine Z5 a b ?_;simp_all
theorem ahe(b:aA T)(g:s.length<4611686018427387904)(f:k (.a (.g (vu s p)) h)):aE T (W T) ⟨74⟩ [S s,S p] h k:=by rw[aJ b.t74];unfold vu at f;by_cases e:p.length<=s.length;have a:(p.length:Int)<=s.length:=zo;have d:((s.length:Int)- p.length).toNat=s.length- p.length:=zo;refine aU a e d ?_;grind;have a:¬(p.length:Int)<=s.length:=zo;refine aS a e ?_;grind
theorem ahf(a:aA T)(b:s.length<4611686018427387904)(f:k (.a (.o [S (if w9 s p=true then s.drop p.length else s),.g (w9 s p)]) h)):aE T (W T) ⟨40⟩ [S s,S p] h k:=by
 rw[aJ a.t40];refine ag ?_;refine Z5 a b ?_;cases e:w9 s p with
 |true=>
  have d:p.length<=s.length:=by simp[w9,auU] at e;grind
  simp_all
 |false=>
  simp_all
def Tg(a:aA T)(b:s.length<4611686018427387904)(d:k (.a (.o [S (if w9 s p=true then s.drop p.length else s),.g (w9 s p)]) h)):aE T (W T) ⟨23⟩ [S s,S p] h k:=by rw[aJ a.t23];refine ag ?_;refine ahf a b ?_;simp_all
theorem ahg(a:aA T)(f:s.length<4611686018427387904)(i:k (.a (.o [S (if vu s p=true then s.take (s.length- p.length) else s),.g (vu s p)]) h)):aE T (W T) ⟨42⟩ [S s,S p] h k:=by
 rw[aJ a.t42];refine ag ?_;refine ahe a f ?_;cases e:vu s p with
 |true=>
  have g:p.length<=s.length:=by simp_all[vu]
  have b:(p.length:Int)<=s.length:=zo;have d:((s.length:Int)- p.length).toNat=s.length- p.length:=zo;refine aS b d ?_;grind
 |false=>
  simp_all
def ahh(a:aA T)(b:s.length<4611686018427387904)(d:k (.a (.o [S (if vu s p=true then s.take (s.length- p.length) else s),.g (vu s p)]) h)):aE T (W T) ⟨25⟩ [S s,S p] h k:=by rw[aJ a.t25];refine ag ?_;refine ahg a b ?_;simp_all
def ahi(a:aA T)(b:k (.a (.i (aE6 s c)) h)):aE T (W T) ⟨72⟩ [S s,S [c]] h k:=by rw[aJ a.t72];by_cases e:[c]=s;subst e;refine ag ?_;simpa[aE6] using b;refine aB e ?_;refine Z4 a ?_;simp_all
def iz(s:List UInt8)(c:UInt8):List UInt8×List UInt8×Bool:=if c∈s then(s.take (s.idxOf c),s.drop (s.idxOf c+1),true) else(s,[],false)
theorem ahj(a:aA T)(g:s.length<4611686018427387904)(b:k (.a (.o [S (iz s c).1,S (iz s c).2.1,.g (iz s c).2.2]) h)):aE T (W T) ⟨41⟩ [S s,S [c]] h k:=by
 rw[aJ a.t41];refine ag ?_;refine ahi a ?_;unfold iz at b;by_cases e:c∈s;have d:=ahd e;have h0:=G0.2 e;have f:(aE6 s c).toNat=s.idxOf c:=by simp_all[aE6]
 refine aB h0 ?_;grind;simp_all[G0]
def Th(a:aA T)(b:s.length<4611686018427387904)(d:k (.a (.o [S (iz s c).1,S (iz s c).2.1,.g (iz s c).2.2]) h)):aE T (W T) ⟨24⟩ [S s,S [c]] h k:=by rw[aJ a.t24];refine ag ?_;refine ahj a b ?_;simp_all
end
section
variable {h:Hp}{el bytes n l5:Nat}{t:N3 (List AV)}{rs:List (List AV)}
def rV(a:(2*n+1024)*bytes<=281474976710656)(b:n<1152921504606846976):room bytes n=true:=by unfold room;simp;omega
def A7(b:rL h rw y=some rs)(a:lenOf y=some (n+1))(hr:room bytes (n+1)=true):
 kJ h el rw bytes .h y=.b (.c h.a 0 rw (n+1) (n+1) false) (h.am (jJ el rw (n+1) rs)):=by
 simp_all[kJ]
theorem A8(hi:h.ab i=.b el rw l5 0 t)(a:len<=l5)(c:rL h rw y=some rs)(b:lenOf y=some (n+1))(hr:room bytes (len+(n+1))=true):
 kJ h el rw bytes (.c i 0 rw len len false) y=.b (.c h.a 0 rw (len+(n+1)) (len+(n+1)) false) ((h.dT i .c).am (.b el rw (len+(n+1)) 0 (jy t len rs))):=by
 have d:=Hp.lt hi rfl;unfold kJ;simp[wL,vp,tZ,auS,hr,avl,cond,ny,alloc,hi,BW];grind[Hp.my]
def wN{b cap ex r f}(a:h.ab b=.b el rw r 0 f)(hr:1<=r):rL h rw (.c b 0 rw 1 cap ex)=some [f 0]:=by simp only[rL,a,wo,kZ,tZ,Ef,Ee,vp,axN,axO,aue,ny,hr,auS,avl,cond,dw,dY]
@[simp] def Ti{k:Nat}{r:List AV}:jy t k [r]=cx t k r:=rfl
@[simp] def ase{r:List AV}:jJ el rw n [r]=.b el rw n 0 (cx fG 0 r):=rfl
theorem NK{b:Nat}{cap ex}(c:rL h rw y=some rs)(a:lenOf y=some 0):kJ h el rw bytes (.c b 0 rw len cap ex) y=.v (.c b 0 rw len cap ex):=by grind[kJ]
theorem oZ(t:N3 (List AV)):∀n k,(dw t n k).length=n
 |0,_=>rfl
 |n+1,k=>by simp only[dw,atX,oZ t n]
theorem vw(t:N3 (List AV)):∀n k j,j<n->(dw t n k)[j]? =some (t (k+j))
 |0,_,_,h=>absurd h (avm _)
 |n+1,k,0,_=>by rfl
 |n+1,k,j+1,h=>by simp[dw,auV];rw[vw t n _ j zo];grind
theorem NL{r n:Nat}{f:N3 (List AV)}(a:0<rw)(hr:n<=r):kZ (.b el rw r 0 f) 0 rw n=some (dw f n 0):=by simp only[kZ,tZ,Ef,Ee,vp,axN,axO,aue,ny,hr,auS,avl,cond]
theorem Ke{b cap ex r f}(a:0<rw)(c:h.ab b=.b el rw r 0 f)(hr:n<=r):rL h rw (.c b 0 rw n cap ex)=some (dw f n 0):=by grind[rL,wo,NL]
theorem G2(a:0<rw)(hi:h.ab i=.b el rw l5 0 t)(b:len<=l5)(d:rL h rw y=some rs)(c:lenOf y=some (n+1))(hr:room bytes (len+(n+1))=true):
 kJ h el rw bytes (.c i 0 rw len len true) y=.b (.c h.a 0 rw (len+(n+1)) (len+(n+1)) false) (h.am (jJ el rw (len+(n+1)) (dw t len 0++rs))):=by
 unfold kJ;simp;grind[NL]
theorem G3(rs:List (List AV)):∀(t:N3 (List AV))(k j:Nat),jy t k rs j=if k<=j/\j<k+rs.length then rs.getD (j- k) [] else t j:=by
 induction rs with
 |nil=>intro t k j;simp[jy];omega
 |cons r rs a=>
  intro t k j;simp[jy,wL,a,dZ,atX];grind
theorem wO{L:List (List AV)}{j:Nat}(hj:j<L.length):jy fG 0 L j=L[j]:=by simp_all[G3]
end
section
variable {h:Hp}{k:aK->Prop}{c:UInt8}
def NM{a:Type}:∀l:List a,gk l=l.length
 |[]=>rfl
 |_::l=>by simp[gk,NM l]
theorem Z6{a:Type}:∀l:List a,gK l.length l=some l
 |[]=>rfl
 |x::l=>by simp only[atX,gK,Z6 l]
def bm(t:Nat->List AV)(n:Nat):List AV:=(List.range n).map λi=>(t i).headD .B
def Z7{t:Nat->List AV}:∀n k,(∀i,k<=i->i<k+n->∃v,t i=[v])->xL t n k=(List.range' k n).map λi=>(t i).headD .B
 |0,k,_=>rfl
 |n+1,k,h=>by obtain⟨v,e⟩:=h k zl zo;simp only[xL,dY,e,fF,awD,aul,axh];rw[Z7 n (Nat.succ k) λi a b=>h i zo zo]
theorem Kg{t:Nat->List AV}{n:Nat}:(bm t n).length=n:=by simp[bm]
theorem ahk{el:Nat}{t:Nat->List AV}(h:∀i,i<256->∃v,t i=[v]):cellsOf (.b el 1 256 0 t) 0 256=some (bm t 256):=by
 have e:=Z7 (t:=t) 256 0 λi _ hi=>h i zo;rw[<-avQ] at e;have:gK 256 (xL t 256 0)=some (bm t 256):=by grind[Z6,bm,Kg]
 exact this
def Z8:∀l:List AV,uO 1 l.length l=some (l.map λv=>[v])
 |[]=>rfl
 |x::l=>by simp[uO,gK,kH,Z8 l]
def Z9{el:Nat}{t:Nat->List AV}{l:List AV}(a:l.length=256):setCells (.b el 1 256 0 t) 0 l=some (.b el 1 256 0 (jy t 0 (l.map λv=>[v]))):=by have e:=Z8 l;simp_all[NM,setCells]
def yc(s:List UInt8)(i:Nat):Bool:=decide (∃c∈s,c.toNat=i)
def G4(s:List UInt8)(t:Nat->List AV):Prop:=∀i,i<256->t i=[.g (yc s i)]
theorem G4.bm{t:Nat->List AV}(x:G4 s t):∀j,jy t 0 ((bm t 256).map λv=>[v]) j=t j:=by
 intro j;rw[G3];split;rename_i hj;have a:j<256:=by simpa[Kg] using hj
 simp[Yv.bm,a,x j a];rfl
def ri{rw n i b:Nat}(h:i<n)(a:n<=256):yY rw n (.a b 0) (.s i)=.v (.a b (i*rw)):=by unfold yY;simp[mM,show i+1<=n by omega]
theorem ahl{j:Nat}(hj:j<s.length)(i:Nat):yc (s.take (j+1)) i=(decide (i=s[j].toNat)||yc (s.take j) i):=by grind[yc,List.take_succ_eq_append_getElem]
def ahm{t:Nat->List AV}(x:G4 s t):∀i,i<256->(bm t 256)[i]? =some (.g (yc s i)):=by intro i hi;simp[bm,hi,x i hi]
theorem ahn(B:aA T)(hh:Hp)(u:∀c∈s,c.toNat<128) (G:s.length<1073741824) (w:∀h' l,ax hh h'->l.length=256->(∀i,i<256->l[i]? =some (.g (yc s i)))->k (.a (.o [.p l,.g true]) h')):∀(m j:Nat)(h:Hp)(t:Nat->List AV)(f:Fr),m=s.length- j->j<=s.length->ax hh h->h.ab hh.a=.b 196 1 256 0 t->G4 (s.take j) t->
 an 0 f=S s->an 2 f=.a hh.a 0->an 4 f=.i j->
 W T (.d l137_0) f h [] (bY 0 (bF (W T ((CC.g (z q137 8)).f CC.k)) (finish T (W T) [CR.b 256 true 2,CR.a 3] k))):=by
 intro m;induction m with
 |zero=>
  intro j h t f x hj o g st f0 n f4;have b:¬(j:Int)<s.length:=zo;rw[aP];rw[avG zo] at st;have q:=ahk (el:=196) λi hi=>⟨_,st i hi⟩;have d:cellsOf (.b 196 1 256 0 (jy t 0 ((bm t 256).map λv=>[v]))) 0 256=some (bm t 256):=by have e:jy t 0 ((bm t 256).map λv=>[v])=t:=funext st.bm;grind
  have a:gk (bm t 256)=256:=by rfl
  simp(disch:=omega) [f0,n,f4,b,g,q,Z9 Kg,a,bQ,d];refine w _ _ (o.dT _ (.inl zl)) Kg (ahm st)
 |succ m y=>
  intro j h t f x hj o g st f0 n f4;have b:j<s.length:=zo;have r:(j:Int)<s.length:=zo;have q:=u s[j] (auy b);have F:s.getD j 0=s[j]:=by grind
  have E:=Hp.lt g rfl;rw[aP];have A:¬128<=s[j].toNat:=zo;have d:s[j].toNat<256:=zo;simp(disch:=omega) [f0,n,f4,r,g,A,ri d zl,st _ d];refine y (j+1) _ _ _ zo zo (o.dT _ (.inl zl)) (Hp.fp rfl) (λi hi=>?_) zA zA aa;have C:=ahl b i;have D:=st i hi;grind[dZ]
theorem aho(a:aA T)(b:∀c∈s,c.toNat<128) (e:s.length<1073741824) (d:∀h' l,ax h h'->l.length=256->(∀i,i<256->l[i]? =some (.g (yc s i)))->k (.a (.o [.p l,.g true]) h')):aE T (W T) ⟨137⟩ [S s] h k:=by rw[aJ a.t137];simp(disch:=omega) [-List.reduceReplicate];refine ahn a h b e d s.length 0 _ (jy fG 0 (List.replicate 256 [.g false])) _ zm (auz _) aZ (Hp.bv rfl) (λi hi=>?_) aa aa aa;grind[wO,yc]
def ahp(d:aA T){b:Nat}{t:Nat->List AV}(e:h.ab b=.b 196 1 256 0 t)(st:G4 p t)(f:k (.a (.g (yc p c.toNat)) h)):aE T (W T) ⟨164⟩ [.a b 0,.s c.toNat] h k:=by rw[aJ d.t164];have a:=c.toNat_lt;simp(disch:=omega) [ri a zl,e,st _ a];omega
def ahq:yc p c.toNat=decide (c∈p):=by apply aEf.2;exact⟨λ⟨x,a,e⟩=>UInt8.toNat_inj.1 e▸a,λh=>⟨c,h,rfl⟩⟩
def sW(s p:List UInt8):List UInt8:=s.dropWhile λc=>decide (c∈p)
theorem aaa(g:aA T){b:Nat}{t:Nat->List AV}(i:h.ab b=.b 196 1 256 0 t)(st:G4 p t):∀(s:List UInt8)(f:Fr),k (.a (S (sW s p)) h)->an 0 f=S s->an 1 f=.a b 0->
 W T (.d l138_0) f h [] (bY 0 (bF (W T (.f (.g (z q138 4)) .k)) (finish T (W T) [.a 4] k)))
 |[],f,a,f0,d=>by rw[aP];refine aS f0 d ?_;simpa[sW] using a
 |c::s,f,a,f0,d=>by
  rw[aP];have j:(0:Int)<((c::s).length:Nat):=by grind
  refine aU f0 d j ?_;refine ahp g i st ?_;rw[ahq];by_cases e:c∈p;have l:(1:Int)<=((c::s).length:Nat):=zo;rw[sW,avJ qaa] at a;refine aU e f0 l ?_;exact aaa g i st s _ a aa zA;simp_all[sW]
theorem aab(a:aA T)(n:∀c∈p,c.toNat<128) (q:p.length<1073741824) (u:2<=p.length) (o:∀h',ax h h'->k (.a (S (sW s p)) h')):aE T (W T) ⟨112⟩ [S s,S p] h k:=by
 rw[aJ a.t112];generalize w:CC.g (z q112 8)=r;have g:¬p=[]:=by grind
 have j:¬(p.length:Int)=1:=zo;by_cases f:s=[];simp_all[sW,ah.cg];simp(disch:=omega) [f,g,j,-List.reduceReplicate];refine aho a n q λm l g1 d x=>?_;have e:gk l=256:=by rw[NM,d]
 simp(disch:=omega) [-List.reduceReplicate,Z9 d,bQ,e,jJ];rw[aJ a.t138];simp(disch:=omega) [-List.reduceReplicate];refine aaa a (b:=m.a) (t:=jy (jy fG 0 (List.replicate 256 [AV.g false])) 0 (List.map (λv=>[v]) l)) (p:=p) (Hp.fp rfl) (λi hi=>?_) s _ ?_ aa aa;simp_all[G3];simp(disch:=omega) [-List.reduceReplicate];exact o _ (g1.ba aZ)
def wP:List UInt8:=[65,66,67,68,69,70,71,72,73,74,75,76,77,78,79,80,81,82,83,84,85,86,87,88,89,90,97,98,99,100,101,102,103,104,105,106,107,108,109,110,111,112,113,114,115,116,117,118,119,120,121,122,95]
def rj:List UInt8:=[48,49,50,51,52,53,54,55,56,57]
def aac(s p:List UInt8):(sW s p).length<=s.length:=(aQc _).length_le
def dU(s:List UInt8):Nat:=s.length- (sW s rj).length
def gu(s:List UInt8):Nat:=match s with|[]=>0|c::_=>if c∈wP then s.length- (sW s (wP++rj)).length else 0
theorem aad{c:UInt8}{s:List UInt8}:gu (c::s)=if c∈wP then(c::s).length- (sW (c::s) (wP++rj)).length else 0:=rfl
theorem aHj(a:aA T)(e:s.length<4611686018427387904)(d:∀h',ax h h'->k (.a (.i (dU s)) h')):aE T (W T) ⟨114⟩ [S s] h k:=by rw[aJ a.t114];refine ag ?_;refine aab a (p:=rj) zd zd zd λb g1=>?_;have:=aac s rj;refine ag ?_;grind[dU]
theorem aae(b:aA T)(d:s.length<4611686018427387904)(a:∀h',ax h h'->k (.a (.i (gu s)) h')):aE T (W T) ⟨79⟩ [S s] h k:=by
 rw[aJ b.t79];cases s with
 |nil=>
  exact ag (a _ (ah.cg _))
 |cons c s=>
  refine ag ?_;refine Tf (s:=wP) b ?_;rw[aad] at a;by_cases e:c∈wP;rw[if_pos e] at a;have h0:¬aE6 wP c<0:=by simp_all[G0]
  refine aB h0 ?_;refine aab b (p:=wP++rj) zd zd zd λf g1=>?_;have:=aac (c::s) (wP++rj);simp only[atX] at this d;refine ag ?_;have e:((s.length:Int)+1)- (sW (c::s) (wP++rj)).length=(((c::s).length- (sW (c::s) (wP++rj)).length:Nat):Int):=by grind
  rw[e];exact a _ g1;rw[if_neg e] at a;have h0:aE6 wP c<0:=by have:=mt G0.1 e;omega
  refine aB h0 ?_;exact a _ (ah.cg _)
def Cr:List (List UInt8):=[[98,114,101,97,107],[99,111,110,116,105,110,117,101],[101,108,115,101],[102,97,108,115,101],[102,108,111,97,116,54,52],[102,111,114],[102,117,110,99],[105,102],[105,109,112,111,114,116],[105,110,116],[98,111,111,108],[115,116,114,105,110,103],[108,101,110],[112,97,99,107,97,103,101],[112,97,110,105,99],[112,114,105,110,116],[114,101,116,117,114,110],[115,116,114,117,99,116],[116,114,117,101],[116,121,112,101],[118,97,114]]
def aaf(a:aA T)(b:∀h',ax h h'->k (.a (.g (decide (s∈Cr))) h')):aE T (W T) ⟨80⟩ [S s] h k:=by
 rw[aJ a.t80];refine ag ?_;rw[aJ a.t113];refine ag ?_;refine Ek a (ws:=Cr) ⟨h.a,21,true,21,_,rfl,Hp.bv rfl,by decide,λj hj=>?_⟩ zd ?_;exact match j,hj with
 |0,_=>rfl
 |1,_=>rfl
 |2,_=>rfl
 |3,_=>rfl
 |4,_=>rfl
 |5,_=>rfl
 |6,_=>rfl
 |7,_=>rfl
 |8,_=>rfl
 |9,_=>rfl
 |10,_=>rfl
 |11,_=>rfl
 |12,_=>rfl
 |13,_=>rfl
 |14,_=>rfl
 |15,_=>rfl
 |16,_=>rfl
 |17,_=>rfl
 |18,_=>rfl
 |19,_=>rfl
 |20,_=>rfl
 |n+21,hj=>absurd hj (by simp[Cr])
 refine ag ?_;exact b _ aZ
def El(s:List UInt8):Bool:=decide (s≠[])&&decide (gu s=s.length)&&decide (s.length<=40)&&decide (s≠[95])&&decide (s∉Cr)
theorem aag(b:aA T)(l:s.length<4611686018427387904)(f:∀h',ax h h'->k (.a (.g (El s)) h')):aE T (W T) ⟨81⟩ [S s] h k:=by rw[aJ b.t81];unfold El at f;by_cases d:s=[];refine aB d ?_;grind[ah.cg];refine aB d ?_;refine aae b l λn g1=>?_;by_cases e:gu s=s.length;by_cases m:s.length<=40;have a:(s.length:Int)<=40:=zo;by_cases i:s=[95];simp_all;refine aU e a i ?_;refine aaf b λj g2=>?_;refine ag ?_;have q:=f j (g1.ba g2);grind;have a:¬(s.length:Int)<=40:=zo;refine aS e a ?_;grind;have g:¬((gu s:Nat):Int)=s.length:=zo;simp_all
def zS(s:List UInt8):Bool:=decide (dU s≠0)&&w9 (s.drop (dU s)) [46]&&decide (dU (s.drop (dU s+1))≠0)
theorem Kh(s:List UInt8):dU s<=s.length:=by unfold dU;omega
theorem aah{n:Nat}(h:w9 (s.drop n) [c]=true):n+1<=s.length:=by unfold w9 at h;grind
def aEN:List UInt8->Nat
 |101::c::s=>if c=43\/c=45 then(if 0<dU s then dU s+2 else 0) else if 0<dU (c::s) then dU (c::s)+1 else 0
 |_=>0
def aFF(s:List UInt8):Nat:=dU s+1+dU (s.drop (dU s+1))
def aE3(s:List UInt8):Nat:=aFF s+aEN (s.drop (aFF s))
theorem aMF{s:List UInt8}(h:w9 s [101]=false):aEN s=0:=by unfold aEN;grind[w9]
def aMG{s:List UInt8}(h:w9 s [101]=true):s=101::s.drop 1:=by cases s<;>simp_all[w9]
theorem aMH(s:List UInt8):aEN s<=s.length:=by unfold aEN;grind[Kh]
theorem aJ4(h:zS s=true):aE3 s<=s.length:=by grind[zS,Kh,aMH,aFF,aE3]
theorem aJ5(s:List UInt8):0<aE3 s:=by unfold aE3 aFF;omega
theorem ahr(e:aA T){hh:Hp}{f:Fr}{N D:Nat}(L:s.length<1073741824)(A:ax hh h)(B:dU (s.drop (N+1))=D)(I:0<N)(hi:N+1+D<=s.length)(f0:an 0 f=S s)(f4:an 4 f=.i N)
 (r:∀h',ax hh h'->k (.a (.o [.i 4,.i (N+(1+D)+aEN (s.drop (N+(1+D))):Nat)]) h')):
 W T (.f (.g (z q82 4)) (.f (.f (.g (z q82 5)) (.f (.g r82_6) (.i (.t 44) (.f (.g (z q82 7)) (.f (.f (.g (z q82 8)) (.i (.t 57) (.g (z q82 9)) .j)) (.f (.g (z q82 10)) (.f (.g (z q82 11)) (.i (.t 63) (.g (z q82 12)) .j))))) .j))) (.f (.g (z q82 13)) .k))) f h [] (finish T (W T) [.a 2,.a 3] k):=by
 generalize C:CC.f (.g (z q82 10)) (.f (.g (z q82 11)) (.i (.t 63) (.g (z q82 12)) .j))=v;have t:(N:Int)+1<=s.length:=zo;have E:((N:Int)+1).toNat=N+1:=zo;refine bK f0 f4 t E ?_;refine aHj e qaa λG y=>?_;rw[B];have u:(N:Int)+(1+(D:Int))<=s.length:=zo;have j:((N:Int)+(1+(D:Int))).toNat=N+(1+D):=zo;have a:=A.ba y;refine bK f0 f4 u j ?_;refine Tg e qaa ?_;cases w:w9 (s.drop (N+(1+D))) [101] with
 |false=>
  simp_all[aMF]
 |true=>
  have x:=aMG w;generalize J:(s.drop (N+(1+D))).drop 1=P at x|-;have O:P.length=s.length- (N+(1+D))- 1:=by grind
  have d:∀(H:Hp)(f:Fr)(R:List UInt8),ax hh H->R.length<=P.length->aEN (101::P)=(if 0<dU R then 1+P.length- R.length+dU R else 0)->an 4 f=.i (N+(1+(D:Int)))->an 5 f=S P->an 7 f=S R->
   W T v f H [] (bF (W T (.f (.g (z q82 13)) .k)) (finish T (W T) [.a 2,.a 3] k)):=by
   intro H f R n K M f4 f5 f7;subst C;have F:=Kh R;refine aU f4 f5 f7 ?_;refine aHj e zo λo m=>?_;by_cases l:0<dU R;refine bK l f4 f5 f7 ?_;have q:=r o (n.ba m);grind;refine bK l f4 f5 f7 ?_;have q:=r o (n.ba m);grind
  cases P with
  |nil=>
   refine aS f0 f4 ?_;exact d _ _ [] a zl rfl aa aa aa
  |cons c P=>
   have g:(1:Int)<=((c::P).length:Nat):=by grind
   by_cases b:c.toNat=43;refine bK f0 f4 b g ?_;exact d _ _ P a zm (by rw[aEN,if_pos (.inl (UInt8.toNat_inj.1 b))];grind) aa aa aa;by_cases i:c.toNat=45;refine cC f0 f4 b i g ?_;exact d _ _ P a zm (by rw[aEN,if_pos (.inr (UInt8.toNat_inj.1 i))];grind) aa aa aa;refine cC f0 f4 b i g ?_;exact d _ _ (c::P) a zl (by rw[aEN,if_neg (by rintro(rfl|rfl);exact b rfl;grind)];grind) aa aa aa
theorem ahs(a:aA T)(l:s.length<1073741824)(m:zS s=false->∀h',ax h h'->k (.a (.o [.i 3,.i (dU s)]) h'))
 (g:zS s=true->∀h',ax h h'->k (.a (.o [.i 4,.i (aE3 s:Nat)]) h')):aE T (W T) ⟨82⟩ [S s] h k:=by
 rw[aJ a.t82];generalize n:CC.f (.g (z q82 4)) (.f (.f (.g (z q82 5)) (.f (.g r82_6) (.i (.t 44) (.f (.g (z q82 7)) (.f (.f (.g (z q82 8)) (.i (.t 57) (.g (z q82 9)) .j)) (.f (.g (z q82 10)) (.f (.g (z q82 11)) (.i (.t 63) (.g (z q82 12)) .j))))) .j))) (.f (.g (z q82 13)) .k))=r;have t:=Kh s;refine ag ?_;refine aHj a zo λu g1=>?_;by_cases e:dU s=0;simp_all[zS];have i:((dU s:Nat):Int)<=s.length:=zo;refine aS e i ?_;refine NJ a qaa ?_;cases f:w9 (s.drop (dU s)) [46] with
 |false=>
  simp_all[zS]
 |true=>
  have hi:=aah f;have d:((dU s:Nat):Int)+1<=s.length:=zo;have o:(((dU s:Nat):Int)+1).toNat=dU s+1:=zo;have j:=Kh (s.drop (dU s+1));rw[auf] at j;refine aS d o ?_;refine aHj a qaa λv g2=>?_;by_cases b:dU (s.drop (dU s+1))=0;have q:=m (by simp[zS,b]);exact aB b (q _ (g1.ba g2));have g:=g (by simp[zS,e,f,b]);refine aB b ?_;subst n;exact ahr (N:=dU s) a l (g1.ba g2) rfl zo zo aa aa (by grind[aE3,aFF])
end
section
open Go (IntKind)
variable {a b:Int}{n:Nat}
def bI(op:(n:Nat)->BitVec n->BitVec n->BitVec n)(a b:Int):Int:=match qN op .i64 a b with|.i n=>n|_=>0
def bU(op:(n:Nat)->BitVec n->BitVec n->BitVec n)(m n:Nat):Nat:=match qN op .u8 (.ofNat m) (.ofNat n) with|.s n=>n|_=>0
def bW(op:(n:Nat)->BitVec n->BitVec n->BitVec n)(a b:Int):Int:=match qN op .u64 a b with|.d _ n=>n|_=>0
@[simp] def G5{op}:jI op (.i a) (.i b)=.v (.i (bI op a b)):=rfl
@[simp] def asf{op}:jI op (.s m) (.s n)=.v (.s (bU op m n)):=rfl
@[simp] def oy{op}:jI op (.d .u64 a) (.d .u64 b)=.v (.d .u64 (bW op a b)):=rfl
theorem aht{op}:bU op m n<256:=by grind[bU,qN,mL,Go.IntKind.wrap_u8]
@[simp] def asg{k:Int}(h:0<=k):oQ pF (.i a) (.d .u64 k)=.v (.i (w64 (a*2^(min k.toNat 64)))):=by obtain⟨n,rfl⟩:=at6 h;rfl
@[simp] def ash:aEy .u8 (.i a)=.v (.s (a% 256).toNat):=by rfl
@[simp] def asi{x:AV}:qo .f [x]=.v x:=rfl
@[simp] def ahv{i o:Nat}:cJ .d (.a i o) (.a i o)=some true:=by simp[cJ,IM]
end
section
variable {h:Hp}{k:aK->Prop}{c:UInt8}
def ahw(h:Hp)(i n:Nat):Prop:=∃l5 t,h.ab i=.b 5 1 l5 0 t/\n<=l5/\∀j,j<n->∃u,u<256/\t j=[.s u]
def A9(lo:Nat)(h:Hp)(b n:Nat):Prop:=
 n=0/\h.ab b=.a 169 [.u,.h]\/0<n/\∃i,lo<=i/\i≠b/\h.ab b=.a 169 [.a b 0,.c i 0 1 n n false]/\ahw h i n
def A9.lt{lo b n:Nat}(x:A9 lo h b n):b<h.a:=by rcases x with⟨_,e⟩|⟨_,i,_,_,e,_⟩<;>exact Hp.lt e rfl
def aai(d:aA T){b n u lo:Nat}(x:u<256)(l:A9 lo h b n)(B:n<1073741824)(y:lo<=h.a)(g:∀h',ah (λi=>i=b\/lo<=i) h h'->A9 lo h' b (n+1)->k (.a .x h')):aE T (W T) ⟨121⟩ [.a b 0,.s u] h k:=by rw[aJ d.t121];have A:=l.lt;refine ag ?_;rw[aJ d.t144];rcases l with⟨rfl,e⟩|⟨h0,i,hi,E,e,l5,t,f,o,v⟩;simp(disch:=omega) [e,Dz,cJ];rw[A7 (n:=0) (wN (Hp.bv qae) zl) rfl qab];refine aB e ?_;refine g _ fZ (.inr ⟨by omega,h.a+1,by omega,by omega,?_,1,cx fG 0 [.s u],?_,at2 _,λj hj=>⟨u,x,?_⟩⟩);simp;exact aa;simp_all;have r:=Hp.lt f rfl;simp(disch:=omega) [e,ahv];obtain⟨n,rfl⟩:∃q,n=q+1:=⟨n- 1,by omega⟩;rw[A8 (n:=0) (l5:=l5) (t:=t) (au f) o (wN (Hp.bv rfl) zl) rfl (rV zo zo)];refine aB e ?_;refine g _ fZ (.inr ⟨by omega,h.a+1,by omega,by omega,?_,n+1+1,cx t (n+1) [.s u],?_,at2 _,λj hj=>?_⟩);simp;exact aa;by_cases D:j=n+1;simp_all;obtain⟨w,C,z⟩:=v j zo;simp_all
def ahx{l:List Nat}(d:∀b∈l,b<256):AV.y l.length (cO l)=S (l.map UInt8.ofNat):=by
 unfold S;rw[avd,av4];congr 2
 conv=>lhs;rw[<-axU l]
 apply avB;simp_all[avy]
theorem Tm{t:Nat->List AV}:∀n k,(∀j,k<=j->j<k+n->∃u,u<256/\t j=[.s u])->∃l,bytesRow (dw t n k)=some l/\l.length=n/\∀b∈l,b<256
 |0,k,_=>⟨[],rfl,rfl,λ_ h=>by grind⟩
 |n+1,k,h=>by obtain⟨u,q,e⟩:=h k zl zo;obtain⟨l,d,f,g⟩:=Tm (t:=t) n (Nat.succ k) λj i o=>h j zo zo;refine⟨u::l,?_,by grind,?_⟩;simp only[dw,dY,e,bytesRow,d,ny,show u<=255 by omega,auS,cond];grind
theorem ahy(f:aA T){b n lo:Nat}(x:A9 lo h b n)(d:∀h' v,ah (λi=>lo<=i) h h'->v.length=n->k (.a (S v) h')):aE T (W T) ⟨119⟩ [.a b 0] h k:=by
 rw[aJ f.t119];rcases x with⟨rfl,e⟩|⟨h0,i,hi,C,e,l5,t,z,u,w⟩;simp(disch:=omega) [e,FX,AL];exact d h [] (ah.cg _) rfl;obtain⟨n,rfl⟩:∃q,n=q+1:=⟨n- 1,by omega⟩;obtain⟨l,y,g,o⟩:=Tm (t:=t) (n+1) 0 λj _ B=>w j zo;have er:kZ (.b 5 1 l5 0 t) 0 1 (n+1)=some (dw t (n+1) 0):=NL zm u;have r:AL h 5 (.a i 0) (.i ((n:Int)+1))=.b (S (l.map UInt8.ofNat)) (h.dT i .c):=by rw[<-ahx o,g];have A:mM (.i ((n:Int)+1))=some (n+1):=rfl;simp_all[AL]
 simp(disch:=omega) [e,FX,r];exact d _ _ fZ qaa
end
section
open Go (IntKind)
variable {h:Hp}{k:aK->Prop}{c:UInt8}
def aHk:List UInt8:=rj++[97,98,99,100,101,102]
def aEw:List UInt8->Nat
 |[]=>0
 |c::s=>if c=110 then 1 else if c=116 then 1 else if c=34\/c=92 then 1
  else if c=120 then match s with
   |x::y::_=>if x∈aHk/\y∈aHk then 3 else 0
   |_=>0
  else 0
def aEY:Nat->List UInt8->Nat->Nat->Nat×Nat
 |0,_,_,_=>(0,0)
 |_+1,[],_,_=>(0,0)
 |g+1,c::s,v,i=>if c=34 then(v,i+1) else if c<32\/c=127 then(0,0)
  else if c=92 then(if aEw s=0 then(0,0) else aEY g (s.drop (aEw s)) (v+1) (i+1+aEw s))
  else aEY g s (v+1) (i+1)
def aEA(s:List UInt8):Nat×Nat:=match s with|34::s=>aEY (s.length+1) s 0 1|_=>(0,0)
theorem aJ6(s:List UInt8):aEw s<=s.length:=by
 cases s with
 |nil=>exact at2 _
 |cons c s=>
  simp[aEw,atX];grind
def aaj(a:aA T)(b:∀A:Int,(0<=A <-> c∈s)->k (.a (.i A) h)):aE T (W T) ⟨49⟩ [S s,.s c.toNat] h k:=Tf a (b _ G0)
def ahz(u:aA T)(z:s.length<1073741824)(a:∀x:Nat,x<256->k (.a (.o [.s x,.i (aEw s)]) h)):aE T (W T) ⟨120⟩ [S s] h k:=by
 rw[aJ u.t120];cases s with
 |nil=>
  exact ag (a 0 zm)
 |cons c s=>
  replace a:∀(x n:Nat),x<256->aEw (c::s)=n->k (.a (.o [.s x,.i n]) h):=λx n C e=>e▸a x C;have f:∀n:UInt8,c.toNat≠n.toNat->c≠n:=λn h e=>h (e▸rfl);simp only[atX] at z;have F:=c.toNat_lt;have D:(c::s).length=s.length+1:=rfl;by_cases d:c.toNat=110;exact aB d (a 10 1 zm (by unfold aEw;dsimp only;rw[if_pos (UInt8.toNat_inj.1 d)]));by_cases g:c.toNat=116;exact aS d g (a 9 1 zm (by unfold aEw;dsimp only;rw[if_neg (f 110 d),if_pos (UInt8.toNat_inj.1 g)]));by_cases j:c.toNat=34;exact aU d g j (a 34 1 zm (by unfold aEw;dsimp only;rw[if_neg (f 110 d),if_neg (f 116 g),if_pos (.inl (UInt8.toNat_inj.1 j))]));by_cases o:c.toNat=92;exact bK d g j o (a 92 1 zm (by unfold aEw;dsimp only;rw[if_neg (f 110 d),if_neg (f 116 g),if_pos (.inr (UInt8.toNat_inj.1 o))]));by_cases l:c.toNat=120;have b:c=120:=UInt8.toNat_inj.1 l;by_cases E:2<s.length+1;have i:(2:Int)<(s.length:Int)+1:=zo;simp(disch:=omega) [l,i,atX];refine aaj u λA v=>?_;refine aB D ?_;refine aaj u λB w=>?_;obtain⟨x,y,r,rfl⟩:∃x y r,s=x::y::r:=by rcases s with _|⟨x,_|⟨y,r⟩⟩<;>simp_all
  by_cases m:0<=A;by_cases t:0<=B;refine aS m t ?_;exact a _ 3 zo (by subst b;exact if_pos ⟨v.1 m,w.1 t⟩);exact aS m t (a 0 0 zm (by subst b;exact if_neg λq=>t (w.2 q.2)));exact aB m (a 0 0 zm (by subst b;exact if_neg λq=>m (v.2 q.1)));have i:¬(2:Int)<(s.length:Int)+1:=zo;simp(disch:=omega) [l,i,atX];exact a 0 0 zm (by rcases s with _|⟨x,_|⟨y,r⟩⟩<;>simp_all[aEw]);refine cC d g j o l ?_;exact a 0 0 zd (by unfold aEw;dsimp only;rw[if_neg (f 110 d),if_neg (f 116 g),if_neg (by rintro(q|q);exact f 34 j q;exact f 92 o q),if_neg (f 120 l)])
theorem ah.na{M:Nat->Prop}{a b d:Hp}(x:ax a b)(y:ah M b d)(e:∀i,M i->a.a<=i):ax a d:=
 ⟨at1 x.g y.g,λi hi _=>(y.f i (aur hi x.g) λm=>by grind).trans (x.f i hi id)⟩
def A9.bc{M:Nat->Prop}{lo b n:Nat}{h h':Hp}(x:A9 lo h b n)(g:ah M h h')(a:¬M b)(j:∀i,lo<=i->¬M i):A9 lo h' b n:=by rcases x with⟨rfl,e⟩|⟨h0,i,hi,m,e,l5,t,d,f,l⟩;exact .inl ⟨rfl,by rw[g.f _ (Hp.lt e rfl) a];omega⟩;exact .inr ⟨h0,i,hi,m,by rw[g.f _ (Hp.lt e rfl) a];omega,l5,t,by rw[g.f _ (Hp.lt d rfl) (j i hi)];omega,f,l⟩
theorem ahA(t:aA T){hh:Hp}(P:s.length<1073741824){Q:Nat×Nat}(G:∀v h',ax hh h'->v.length=Q.1 ->k (.a (.o [S v,.i (Q.2 :Nat)]) h')):∀(m i n:Nat)(h:Hp)(f:Fr),s.length<=m+i->n<i->i<=s.length->aEY (m+1) (s.drop i) n i=Q->ax hh h->A9 (hh.a+1) h hh.a n->
 an 0 f=S s->an 4 f=.a hh.a 0->an 5 f=.i i->W T (.d l85_0) f h [] (bY 0 (bF (W T ((CC.g (z q85 19)).f CC.k)) (finish T (W T) [.a 2,.a 3] k))):=by
 intro m;induction m with
 |zero=>
  intro i n h f K L hi a j o f0 f4 f5;have y:¬(i:Int)<s.length:=zo;rw[aP];refine aU f0 f5 y ?_;rw[auJ zo,aEY] at a;grind
 |succ m H=>
  intro i n h f K L hi a j o f0 f4 f5;rw[aP];by_cases y:i<s.length;have b:(i:Int)<s.length:=zo;have r:s.getD i 0=s[i]:=by grind
  have J:=s[i].toNat_lt;rw[aut y,aEY] at a;have F:∀n:UInt8,s[i].toNat≠n.toNat->s[i]≠n:=λn h e=>h (e▸rfl);have O:=o.lt;by_cases g:s[i].toNat=34;refine cq f0 f4 f5 b r g ?_;refine ahy t o λl v g1 M=>?_;refine aB f5 ?_;rw[if_pos (UInt8.toNat_inj.1 g)] at a;subst a;have q:=G v l (j.na g1 λx w=>by omega) M;grind;rw[if_neg (F 34 g)] at a;by_cases B:s[i].toNat<32;refine iR f0 f4 f5 b r g B ?_;rw[if_pos (.inl (axc.2 B))] at a;grind;by_cases C:s[i].toNat=127;refine cq f0 f4 f5 b r C ?_;rw[if_pos (.inr (UInt8.toNat_inj.1 C))] at a;grind;rw[if_neg (by simp_all[axc])] at a;by_cases u:s[i].toNat=92;rw[if_pos (UInt8.toNat_inj.1 u)] at a;have N:((i:Int)+1).toNat=i+1:=zo;have I:(i:Int)+1<=s.length:=zo;refine fY f0 f4 f5 b r u I N ?_;refine ahz t qaa λx w=>?_;have hd:=aJ6 (s.drop (i+1));rw[auf] at hd;rw[aP2] at a;generalize aEw (s.drop (i+1))=d at hd a|-;by_cases D:d=0;refine aB D ?_;grind;rw[if_neg D,Nat.add_right_comm] at a;refine aU D f4 f5 ?_;refine aai t w o zo zo λl g1 A=>?_;refine aB f5 ?_;refine H (i+d+1) (n+1) l _ zo zo zo zo (j.na g1 λx w=>by omega) A zA zA aa;rw[if_neg (F 92 u)] at a;have E:=J;refine mz f0 f4 f5 b r g B C u ?_;refine aai t E o zo zo λl g1 A=>?_;refine aB f5 ?_;refine H (i+1) (n+1) l _ zo zo zo a (j.na g1 λx w=>by omega) A zA zA aa;have b:¬(i:Int)<s.length:=zo;refine aU f0 f5 b ?_;rw[auJ zo,aEY] at a;subst a;exact G [] _ j rfl
end
section
variable {h:Hp}{k:aK->Prop}{c:UInt8}
def aMI{s:List UInt8}(h:∀r,s≠34::r):aEA s=(0,0):=by simp_all[aEA]
theorem aIK:∀(g:Nat)(s:List UInt8)(v i:Nat),(aEY g s v i).2 <=i+s.length
 |0,_,_,_=>auz _
 |_+1,[],_,_=>auz _
 |g+1,c::s,v,i=>by have a:=aIK g (s.drop (aEw s)) (v+1) (i+1+aEw s);have b:=aIK g s (v+1) (i+1);grind[aJ6,aEY]
theorem aIL(s:List UInt8):(aEA s).2 <=s.length:=by unfold aEA;grind[aIK]
def aak(b:aA T)(f:s.length<1073741824)(a:∀v h',ax h h'->v.length=(aEA s).1 ->k (.a (.o [S v,.i ((aEA s).2 :Nat)]) h')):aE T (W T) ⟨85⟩ [S s] h k:=by
 rw[aJ b.t85];cases s with
 |nil=>
  exact ag (a [] _ (ah.cg _) rfl)
 |cons c s=>
  by_cases e:c.toNat=34;have d:c=34:=UInt8.toNat_inj.1 e;subst d;refine ag ?_;refine ahA b (hh:=h) f a s.length 1 0 _ _ zm zo zm rfl aZ (.inl ⟨rfl,Hp.bv rfl⟩) aa aa aa;rw[aMI (by rintro r q;simp_all)] at a;exact aB e (a [] _ (ah.cg _) rfl)
end
section
open Go (IntKind)
def lO(o:AO):Prop:=∃t,o=.h 1 256 t/\∀c:UInt8,t c.toNat=[.s (if Go.Lib.isSp c=true then 1 else 0)]
abbrev vA(s:List UInt8):List (List UInt8):=Go.Lib.fields s
def sY{l5 k:Nat}{t:Nat->List AV}(a:k<l5):cellsOf (.h 1 l5 t) k 1=gK 1 (t k):=by simp only[cellsOf,Ee,Ef,vp,wL,ny,axV,axW,kH];rw[avf (by omega:0+1<=1),avf (by omega:k+1<=l5)];rfl
@[simp] def aal{n:Nat}(a:n<256):aEy .i64 (.s n)=.v (.i n):=by simp only[aEy,intOf,mL];rw[gf]<;>simp<;>omega
section
variable {h:Hp}{k:aK->Prop}
def aan{el rw bytes n:Nat}{z:List AV}(b:n<1152921504606846976)(a:n*bytes<=281474976710656):DB h el rw bytes z (.i (n:Nat)) (.i (n:Nat))=.b (.c h.a 0 rw n n true) (h.am (.b el rw n 0 (qm z n 0 fG))):=by have e:mM (.i ((n:Nat):Int))=some n:=rfl;unfold DB;rw[e];simp only[ny,J9,S9,at2,auS,a,show n+1<=1152921504606846976 by omega,avl,cond,alloc]
theorem aao{z:List AV}:∀n k(t:Nat->List AV) j,qm z n k t j=if k<=j/\j<k+n then z else t j:=by
 intro n;induction n with
 |zero=>intro k t j;simp;omega
 |succ n a=>
  intro k t j;simp[qm,a,wL,dZ];grind
def aap(a:aA T)(d:∀c∈s,c.toNat<128) (g:s.length<1073741824) (e:lO (h.ab 1)) (b:(vA s).length<1073741824) (f:∀h' v,ax h h'->cY h' v (vA s)->k (.a v h')):aE T (W T) ⟨44⟩ [S s] h k:=by unfold aE;rw[a.t44];show aFm 2 [S s] h k;refine⟨s,rfl,d,g,b,e,f _ _ aZ ⟨h.a,_,_,_,_,rfl,Hp.bv rfl,at2 _,λj hj=>?_⟩⟩;simp[List.getD,atT hj]
end
end
section
variable {h:Hp}{k:aK->Prop}{c:UInt8}
def aaq:List UInt8:=[61,61,32,33,61,32,60,61,32,62,61,32,38,38,32,124,124,32,58,61,32,43,32,45,32,42,32,47,32,37,32,60,32,62,32,33,32,61,32,40,32,41,32,123,32,125,32,44,32,46,32,58]
def G7:List (List UInt8):=[[61,61],[33,61],[60,61],[62,61],[38,38],[124,124],[58,61],[43],[45],[42],[47],[37],[60],[62],[33],[61],[40],[41],[123],[125],[44],[46],[58]]
def ahI:vA aaq=G7:=by rfl
def wR(s:List UInt8)(n:Nat)(ws:List (List UInt8)):Bool:=ws.any λm=>decide (m.length=n)&&w9 s m
def o6(s:List UInt8):Nat:=if wR s 2 G7=true then 2 else if wR s 1 G7=true then 1 else 0
theorem aar(s:List UInt8):o6 s<=s.length:=by
 have key:∀n,wR s n G7=true->n<=s.length:=by intro n h;unfold wR at h;rw[awE] at h;obtain⟨m,_,h⟩:=h;simp[atW,auU,w9] at h;grind
 grind[o6]
theorem ahJ(w:aA T)(B:s.length<1073741824){b cap:Nat}{ex:Bool}{a:List (List UInt8)}{r:Nat}{t:Nat->List AV}(q:h.ab b=.b 9 1 r 0 t)(hr:a.length<=r)(u:∀j,(hj:j<a.length)->t j=[S a[j]]) (C:a.length<1073741824) (n:Nat) {l:aT->Prop}:∀(m j:Nat)(f:Fr),a.length<=j+m->j<=a.length->
 an 0 f=S s->an 3 f=.i n->an 10 f=.c b 0 1 a.length cap ex->an 11 f=.i a.length->an 12 f=.i j->
 (wR s n (a.drop j)=true->∀f',an 0 f'=S s->an 3 f'=.i n->l (.a 0 f' h []))->(wR s n (a.drop j)=false->∀f',an 0 f'=S s->an 3 f'=.i n->l (.a 2 f' h []))->W T (.d l86_0) f h [] l:=by
 intro m;induction m with
 |zero=>
  intro j f z hj f0 f3 f10 f11 f12 i d;have e:¬(j:Int)<a.length:=zo;rw[aP];refine aU f11 f12 e ?_;exact d (by rw[auJ zo];rfl) _ zA zA
 |succ m v=>
  intro j f z hj f0 f3 f10 f11 f12 i d;rw[aP];by_cases e:j<a.length;have g:(j:Int)<a.length:=zo;have hd:=aut e;have x:wR s n (a.drop j)=(decide (a[j].length=n)&&w9 s a[j]||wR s n (a.drop (j+1))):=by rw[hd];rfl
  rw[x] at i d;by_cases y:a[j].length=n;refine mz f0 f3 f10 f11 f12 g q (u j e) y ?_;refine NJ w zo ?_;cases A:w9 s a[j] with
  |true=>
   simp_all
  |false=>
   refine aB f12 ?_;refine v (j+1) _ zo zo zA zA zA zA aa (λh=>i qaa) (λh=>d qaa)
  have o:¬(a[j].length:Int)=n:=zo;refine mz f0 f3 f10 f11 f12 g q (u j e) o ?_;refine v (j+1) _ zo zo zA zA zA zA aa (λh=>i qaa) (λh=>d qaa);have g:¬(j:Int)<a.length:=zo;refine aU f11 f12 g ?_;exact d (by rw[auJ zo];rfl) _ zA zA
def To(i:aA T){hh:Hp}(u:s.length<1073741824)(n:Nat)(B:n<3)(f:Fr)(l:lO (h.ab 1))(j:ax hh h)(f0:an 0 f=S s)(f3:an 3 f=.i n){a:aT->Prop}
 (h0:n=0->∀f' h',ax hh h'->an 3 f'=.i 0->a (.a 0 f' h' [])) (z:0<n->wR s n G7=true->∀f' h',ax hh h'->an 3 f'=.i n->a (.a 0 f' h' []))
 (y:0<n->wR s n G7=false->∀f' h',ax hh h'->lO (h'.ab 1)->an 0 f'=S s->an 3 f'=.i ((n:Int)- 1)->W T (.d l86_1) f' h' [] a):W T (.d l86_1) f h [] a:=by
 have A:1<h.a:=by obtain⟨t,e,_⟩:=l;exact Hp.lt e rfl
 rw[aP];by_cases e:n=0;refine aB f3 ?_;simp_all;have d:0<n:=zo;refine aU f0 f3 d ?_;refine aap (s:=aaq) i zd zd l zd λo v g1 x=>?_;obtain⟨b,cap,ex,r,t,rfl,q,hr,w⟩:=x;refine ag ?_;have m:lO (o.ab 1):=by rw[g1.f 1 A id];omega
 refine ahJ (cap:=cap) (ex:=ex) i u q hr w zd n 23 0 _ zd zm zA zA aa aa aa (λg f' y0 y3=>?_) (λg f' y0 y3=>?_);exact ag (z d g _ _ (j.ba g1) y3);refine aB y3 ?_;exact y d g _ _ (j.ba g1) m (au y0) aa
theorem ahK(b:aA T)(d:s.length<1073741824)(a:lO (h.ab 1))(j:∀h',ax h h'->k (.a (.i (o6 s)) h')):aE T (W T) ⟨86⟩ [S s] h k:=by
 rw[aJ b.t86];generalize i:CC.d l86_1=L;refine ag ?_;subst i;unfold o6 at j;refine To (hh:=h) b d 2 zm _ a (ah.cg _) aa aa (λe=>by omega) (λ_ f f' h' g y3=>?_) λ_ f f' h' g a y0 y3=>?_;simp_all;refine To (hh:=h) b d 1 zm _ a g y0 qaa (λe=>by omega) (λ_ f f' h' g y3=>?_) λ_ f f' h' g a y0 y3=>?_;simp_all;refine To (hh:=h) b d 0 zm _ a g y0 qaa (λ_ f' h' g y3=>?_) (λe=>by omega) λe=>by cases e
 simp_all
end
structure Tk where
 c:Int
 b:List UInt8
 a:Int
 d:Int
def tk(l:List Tk)(n:Nat):Tk:=l.getD n ⟨0,[],0,0⟩
inductive Tree where
 |mk (kind frm toz at_:Int) (name:List UInt8) (kids:List Tree)
inductive PR(α:Type) where
 |b (a:α) (n:Nat)
 |d (p e:Int)
 |c
def PR.dC{g h:Type}(r:PR g)(f:g->Nat->PR h):PR h:=
 match r with
 |.b a n=>f a n
 |.d p e=>.d p e
 |.c=>.c
def bD(t:Tk)(ws:List (List UInt8)):Bool:=(decide (t.c=6)||decide (t.c=2))&&decide (t.b∈ws)
def aV(l:List Tk)(n:Nat)(kind b a:Int)(name:List UInt8)(kids:List Tree):Tree:=.mk kind b (tk l (n- 1)).d a name kids
def NT:List UInt8:=[105,110,116]
def NU:List UInt8:=[98,111,111,108]
def NV:List UInt8:=[115,116,114,105,110,103]
def NW:List UInt8:=[102,108,111,97,116,54,52]
def jR(l:List Tk)(q:Int)(n:Nat):PR Tk:=if(tk l n).c=q then .b (tk l n) (n+1) else .d (tk l n).a 4
def lR(l:List Tk)(x:List UInt8)(n:Nat):PR Tk:=if bD (tk l n) [x]=true then .b (tk l n) (n+1) else .d (tk l n).a 4
def Ct(l:List Tk)(n:Nat):PR Tree:=
 if bD (tk l n) [NT,NU,NV,NW]=true then .b (aV l (n+1) 8 (tk l n).a (tk l n).a (tk l n).b []) (n+1)
 else(jR l 1 n).dC λt m=>
  if bD (tk l m) [[46]]=true then(jR l 1 (m+1)).dC λu o=>.b (aV l o 9 (tk l n).a u.a u.b [aV l m 25 (tk l n).a (tk l n).a t.b []]) o
  else .b (aV l m 8 (tk l n).a (tk l n).a t.b []) m
def En(l:List Tk)(kind:Int)(n:Nat):PR Tree:=
 (jR l 1 n).dC λt m=>(Ct l m).dC λx o=>.b (aV l o kind t.a t.a t.b [x]) o
def ug(l:List Tk)(right:List UInt8)(b:Nat->PR Tree)(a:Nat->PR Unit):Nat->Nat->PR (List Tree)
 |0,_=>.c
 |f+1,n=>if bD (tk l n) [right]=true then .b [] n else(b n).dC λt m=>if bD (tk l m) [right]=true then .b [t] m else(a m).dC λ_ o=>(ug l right b a f o).dC λts q=>.b (t::ts) q
theorem aas{l:List Tk}{right g a}:∀{f n ts m},ug l right g a f n=.b ts m->ts.length<=f
 |0,_,_,_,h=>by simp[ug] at h
 |f+1,n,ts,m,h=>by
  unfold ug at h;split at h;grind;cases hr:g n with
  |c=>rw[hr] at h;cases h
  |d p e=>rw[hr] at h;cases h
  |b t j=>
   rw[hr] at h;simp[PR.dC] at h;split at h;grind;cases q:a j with
   |c=>grind
   |d p e=>grind
   |b u k=>
    cases i:ug l right g a f k with
    |c=>grind
    |d p e=>grind
    |b o r=>
     have:=aas i;grind
def wS(l:List Tk)(left right:List UInt8)(c:Nat->PR Tree)(a:Nat->PR Unit)(op:Int)(b n:Nat):PR (List Tree):=
 if bD (tk l n) [left]=true then if op=128 then .d (tk l n).a 3 else(ug l right c a b (n+1)).dC λts m=>if bD (tk l m) [right]=true then .b ts (m+1) else .d (tk l m).a 4
 else .d (tk l n).a 4
theorem aat{l:List Tk}{left right g f op F n ts m}(h:wS l left right g f op F n=.b ts m):ts.length<=F:=by
 unfold wS at h;split at h;split at h;grind;cases a:ug l right g f F (n+1) with
 |c=>rw[a] at h;cases h
 |d p e=>rw[a] at h;cases h
 |b i j=>
  rw[a] at h;simp[PR.dC] at h;split at h;cases h;exact aas a;grind
 grind
def Tree.toz:Tree->Int|.mk _ _ t _ _ _=>t
def Tree.at:Tree->Int|.mk _ _ _ a _ _=>a
def Tree.bi:Tree->Int|.mk k _ _ _ _ _=>k
def Tree.ib:Tree->Int|.mk _ f _ _ _ _=>f
def Tree.bj:Tree->List UInt8|.mk _ _ _ _ nm _=>nm
def Tree.fg:Tree->List Tree|.mk _ _ _ _ _ ks=>ks
section
variable (l:List Tk)
def Cu(right:List UInt8)(n:Nat):PR Unit:=(lR l [44] n).dC λ_ m=>if bD (tk l m) [right]=true then .d (tk l m).a 4 else .b () m
def mU(n:Nat):PR Unit:=(jR l 7 n).dC λ_ m=>.b () m
def o7(t:Tk):Int:=
 if t.c=3 then 21 else if t.c=4 then 22 else if t.c=5 then 23 else if t.c=1 then 25
 else if t.c=2/\(t.b=[116,114,117,101]\/t.b=[102,97,108,115,101]) then 24 else 0
def Bb(t:Tk):Int:=
 if t.c≠6 then 0 else if t.b=[124,124] then 1 else if t.b=[38,38] then 2
 else if t.b∈[[61,61],[33,61],[60],[60,61],[62],[62,61]] then 3 else if t.b∈[[43],[45]] then 4 else if t.b∈[[42],[47],[37]] then 5 else 0
variable (F:Nat)
section
variable (ex:Int->Bool->Int->Nat->PR Tree)
def Kj(op:Int)(n:Nat):PR (List Tree):=wS l [40] [41] (λn=>ex (op+1) false 0 n) (Cu l [41]) op F n
def Kl(op:Int)(hd:Bool)(n:Nat):PR Tree:=
 (jR l 1 n).dC λt m=>(lR l [58] m).dC λ_ o=>(ex op hd 0 o).dC λx q=>.b (aV l q 29 t.a t.a t.b [x]) q
def Cv(op:Int)(sZ:Tree)(n:Nat):PR Tree:=
 (wS l [123] [125] (Kl l ex (op+1) false) (Cu l [125]) op F n).dC λts m=>.b (aV l m 28 sZ.ib (tk l n).a [] (sZ::ts)) m
def NX(op:Int)(n:Nat):PR Tree:=
 if bD (tk l n) [[40]]=true then if op=128 then .d (tk l n).a 3 else
  (ex (op+1) false 0 (n+1)).dC λx m=>if bD (tk l m) [[41]]=true then .b (aV l (m+1) 33 (tk l n).a (tk l n).a [] [x]) (m+1) else .d (tk l m).a 4
 else .d (tk l n).a 4
def Km(op:Int)(hd:Bool)(n:Nat):PR Tree:=
 if o7 (tk l n)≠0 then
  if o7 (tk l n)=25/\hd=false/\bD (tk l (n+1)) [[123]]=true then Cv l F ex op (aV l (n+1) 8 (tk l n).a (tk l n).a (tk l n).b []) (n+1)
  else .b (aV l (n+1) (o7 (tk l n)) (tk l n).a (tk l n).a (tk l n).b []) (n+1)
 else if bD (tk l n) [[105,110,116],[102,108,111,97,116,54,52],[108,101,110],[112,114,105,110,116],[112,97,110,105,99]]=true then(Kj l F ex op (n+1)).dC λts m=>.b (aV l m 32 (tk l n).a (tk l n).a (tk l n).b ts) m
 else NX l ex op n
def ye(op:Int)(hd:Bool):Nat->Tree->Nat->PR Tree
 |0,_,_=>.c
 |g+1,x,n=>
  if bD (tk l n) [[46]]=true then(jR l 1 (n+1)).dC λt m=>
   if x.bi=25/\hd=false/\bD (tk l m) [[123]]=true then(Cv l F ex op (aV l m 9 x.ib t.a t.b [x]) m).dC λy o=>ye op hd g y o
   else ye op hd g (aV l m 26 x.ib t.a t.b [x]) m
  else if bD (tk l n) [[40]]=true/\(x.bi=25\/x.bi=26) then(Kj l F ex op n).dC λts m=>ye op hd g (aV l m 27 x.ib (tk l n).a [] (x::ts)) m
  else .b x n
def aEZ(op:Int)(hd:Bool)(n:Nat):PR Tree:=(Km l F ex op hd n).dC λx m=>ye l F ex op hd F x m
def G8(op:Int)(hd:Bool):Nat->Nat->PR Tree
 |0,_=>.c
 |g+1,n=>if bD (tk l n) [[45],[33]]=true then(G8 op hd g (n+1)).dC λx m=>.b (aV l m 30 (tk l n).a (tk l n).a (tk l n).b [x]) m else aEZ l F ex op hd n
def G9(op:Int)(hd:Bool)(a:Int):Nat->Tree->Nat->PR Tree
 |0,_,_=>.c
 |g+1,x,n=>if a<Bb (tk l n) then(ex op hd (Bb (tk l n)) (n+1)).dC λy m=>G9 op hd a g (aV l m 31 x.ib (tk l n).a (tk l n).b [x,y]) m else .b x n
end
def zU:Nat->Int->Bool->Int->Nat->PR Tree
 |0,_,_,_,_=>.c
 |f+1,op,hd,a,n=>(G8 l F (zU f) op hd F n).dC λx m=>G9 l (zU f) op hd a F x m
end
def Tk.fj(t:Tk):List AV:=[.i t.c,S t.b,.i t.a,.i t.d]
structure bp(h:Hp)(c tb:Nat)(l:List Tk)(n:Nat)(op:Int)(hd:Bool):Prop where
 a:∃cap ex,h.ab c=.a 82 [.c tb 0 4 l.length cap ex,.i n,.i op,.g hd]
 d:∃r t,h.ab tb=.b 80 4 r 0 t/\l.length<=r/\∀k,k<l.length->t k=(tk l k).fj
 j:l.length<4294967296
def bp.bc{h h':Hp}{c tb l n op hd}(x:bp h c tb l n op hd)(g:ax h h'):bp h' c tb l n op hd:=by obtain⟨⟨cap,ex,e⟩,⟨r,t,f,b⟩,le⟩:=x;exact⟨⟨cap,ex,by rw[g.f _ (Hp.lt e rfl) id];omega⟩,⟨r,t,by rw[g.f _ (Hp.lt f rfl) id];omega,b⟩,le⟩
def bp.lt{h:Hp}{c tb l n op hd}(x:bp h c tb l n op hd):c<h.a:=by obtain⟨⟨cap,ex,b⟩,_⟩:=x;exact Hp.lt b rfl
def bp.qn{h:Hp}{c tb l n op hd}(x:bp h c tb l n op hd):tb<h.a:=by obtain⟨_,⟨r,t,b,e⟩,_⟩:=x;exact Hp.lt b rfl
theorem bp.ne{h:Hp}{c tb l n op hd}(x:bp h c tb l n op hd):tb≠c:=by obtain⟨⟨cap,ex,e⟩,⟨r,t,f,b⟩,_⟩:=x;grind
def bp.pg{M:Nat->Prop}{h h':Hp}{c tb l n op hd}(x:bp h c tb l n op hd)(g:ah M h h')(b:¬M c)(e:¬M tb):bp h' c tb l n op hd:=by obtain⟨⟨cap,ex,i⟩,⟨r,t,m,f⟩,le⟩:=x;exact⟨⟨cap,ex,by rw[g.f _ (Hp.lt i rfl) b];omega⟩,⟨r,t,by rw[g.f _ (Hp.lt m rfl) e];omega,f⟩,le⟩
abbrev Pg(c:Nat):=ah (·=c)
section
variable {h:Hp}{n:Nat}{l:List Tk}{hd:Bool}{k:aK->Prop}
def qC(e:aA T)(a:bp h c tb l n op hd)(g:n<l.length)
 (f:∀h',ax h h'->k (.a (.p (tk l n).fj) h')):aE T (W T) ⟨89⟩ [.a c 0] h k:=by
 obtain⟨⟨cap,ex,a⟩,⟨r,t,d,hr,b⟩,le⟩:=a;have c1:=Hp.lt a rfl;have c2:=Hp.lt d rfl;have b:=b n g;rw[aJ e.t89];refine bK a d b Tk.fj.eq_1 ?_;exact f _ aZ
theorem vB(f:aA T)(a:bp h c tb l n op hd)(i:n<l.length)
 (g:∀h',Pg c h h'->bp h' c tb l (n+1) op hd->k (.a (.p (tk l n).fj) h')):aE T (W T) ⟨88⟩ [.a c 0] h k:=by
 obtain⟨⟨cap,ex,a⟩,⟨r,t,d,hr,e⟩,le⟩:=a;have c1:=Hp.lt a rfl;have c2:=Hp.lt d rfl;have j:c≠tb:=by grind
 have b:=e n i;rw[aJ f.t88];refine bK a d b Tk.fj.eq_1 ?_;exact g _ aZ ⟨⟨cap,ex,aa⟩,⟨r,t,au d,hr,e⟩,le⟩
theorem ke(a:aA T)(j:bp h c tb l n op hd)(m:n<l.length){v:AV}{ws}(o:cY h v ws)(i:ws.length<4294967296)
 (f:∀h',ax h h'->k (.a (.g (bD (tk l n) ws)) h')):aE T (W T) ⟨55⟩ [.a c 0,v] h k:=by
 rw[aJ a.t55];refine ag ?_;refine qC a j m λg g1=>?_;have p:cY (((g.am (.a 80 [.i 0,S [],.i 0,.i 0])).dT g.a (.a 80 (tk l n).fj))) v ws:=o.bc (g1.ba aZ) λ_ _ _ _=>id;by_cases d:(tk l n).c=6;have e:bD (tk l n) ws=decide ((tk l n).b∈ws):=by simp[bD,d]
 refine aS Tk.fj.eq_1 d ?_;refine Ek a (by grind[Tk.fj]) i ?_;refine ag ?_;rw[<-e];exact f _ (g1.ba aZ);by_cases b:(tk l n).c=2;have e:bD (tk l n) ws=decide ((tk l n).b∈ws):=by simp[bD,b]
 refine aS Tk.fj.eq_1 b ?_;refine Ek a (by grind[Tk.fj]) i ?_;refine ag ?_;rw[<-e];exact f _ (g1.ba aZ);have e:bD (tk l n) ws=false:=by simp[bD,d,b]
 refine aU Tk.fj.eq_1 d b ?_;rw[<-e];exact f _ (g1.ba aZ)
def qD(p:Int)(e:Int):AV:=.q 77 (.p [.i p,.i e])
def Cw(a:aA T)(b:bp h c tb l n op hd)(f:n<l.length){e:Int}
 (d:∀h',ax h h'->k (.b (qD (tk l n).a e) h')):aE T (W T) ⟨87⟩ [.a c 0,.i e] h k:=by
 rw[aJ a.t87];refine ag ?_;exact qC a b f λg g1=>(aB Tk.fj.eq_1 (d _ g1))
def Eo(d:aA T)(b:bp h c tb l n op hd)(f:n<l.length){q:Int}
 (p:(tk l n).c=q->∀h',Pg c h h'->bp h' c tb l (n+1) op hd->k (.a (.p (tk l n).fj) h'))
 (o:(tk l n).c≠q->∀h',Pg c h h'->k (.b (qD (tk l n).a 4) h')):aE T (W T) ⟨53⟩ [.a c 0,.i q] h k:=by
 rw[aJ d.t53];refine ag ?_;refine qC d (b.bc aZ) f λg g1=>?_;have a:ax h g:=ah.ba aZ g1;by_cases e:(tk l n).c=q;refine aS Tk.fj.eq_1 e ?_;refine vB d (b.bc a) f λi g2 c2=>?_;have j:g.ab h.a=.a 80 [.i 0,S [],.i 0,.i 0]:=by rw[g1.f _ zm id];simp
 have r:=b.lt;have m:i.ab h.a=.a 80 [.i 0,S [],.i 0,.i 0]:=by rw[g2.f _ (Hp.lt j rfl) zo];omega
 refine aS m Tk.fj.eq_1 ?_;have:=b.qn;exact p e _ (a.mr.ba g2|>.dT _ (.inl zl)) (c2.pg (M:=(·=h.a)) ((ah.cg _).dT _ (.inr rfl)) zo zo);refine aS Tk.fj.eq_1 e ?_;exact Cw d (b.bc a) f λi g2=>(ag (o e _ (a.ba g2).mr))
def Cx(d:aA T)(b:bp h c tb l n op hd)(f:n<l.length){x:List UInt8}
 (p:bD (tk l n) [x]=true->∀h',Pg c h h'->bp h' c tb l (n+1) op hd->k (.a (.p (tk l n).fj) h'))
 (o:bD (tk l n) [x]=false->∀h',Pg c h h'->k (.b (qD (tk l n).a 4) h')):aE T (W T) ⟨52⟩ [.a c 0,S x] h k:=by
 have r:=b.lt;have q:=b.qn;rw[aJ d.t52];refine ag ?_;refine ke d (b.bc aZ) f (cY.kw (x:=x) (Hp.bv zm) zl zm) zm λg g1=>?_;have a:ax h g:=ah.ba aZ g1;have j:g.ab h.a=.a 80 [.i 0,S [],.i 0,.i 0]:=by rw[g1.f _ zn id];simp
 cases e:bD (tk l n) [x] with
 |true=>
  refine aB e ?_;refine vB d (b.bc a) f λi g2 c2=>?_;have m:i.ab h.a=.a 80 [.i 0,S [],.i 0,.i 0]:=by rw[g2.f _ (Hp.lt j rfl) zo];omega
  exact aS m Tk.fj.eq_1 (p e _ (a.mr.ba g2|>.dT _ (.inl zl)) (c2.pg (M:=(·=h.a)) ((ah.cg _).dT _ (.inr rfl)) zo zo))
 |false=>
  refine aB e ?_;exact Cw d (b.bc a) f λi g2=>(ag (o e _ (a.ba g2).mr))
def He(b:aA T)(d:bp h c tb l n op hd)(f:n<l.length){x:List UInt8}
 (j:bD (tk l n) [x]=true->∀h',Pg c h h'->bp h' c tb l (n+1) op hd->k (.a (.g true) h'))
 (i:bD (tk l n) [x]=false->∀h',Pg c h h'->bp h' c tb l n op hd->k (.a (.g false) h')):aE T (W T) ⟨150⟩ [.a c 0,S x] h k:=by
 rw[aJ b.t150];refine ag ?_;refine ke b (d.bc aZ) f (cY.kw (x:=x) (Hp.bv zm) zl zm) zm λg g1=>?_;have a:ax h g:=ah.ba aZ g1;cases e:bD (tk l n) [x] with
 |true=>
  refine aB e ?_;exact vB b (d.bc a) f λm g2 c2=>(ag (j e _ (a.mr.ba g2) c2))
 |false=>
  exact aB e (i e _ a.mr (d.bc a))
def NZ(a:aA T)(d:bp h c tb l n op hd)(f:n<l.length)
 (i:(tk l n).c=7->∀h',Pg c h h'->bp h' c tb l (n+1) op hd->k (.a (.o []) h'))
 (g:(tk l n).c≠7->∀h',Pg c h h'->k (.b (qD (tk l n).a 4) h')):aE T (W T) ⟨54⟩ [.a c 0] h k:=by
 rw[aJ a.t54];refine ag ?_;refine Eo a d f (λe b g1 c1=>?_) λe b g1=>?_;simp_all;simp_all
def gS(g:aA T)(d:bp h c tb l (n+1) op hd)(j:n<l.length){kind b a:Int}{nm:List UInt8}{kv:AV}(m:bQ kv=some [kv])
 (i:∀h',ax h h'->k (.a (.p [.i kind,.i b,.i (tk l n).d,.i a,S nm,kv]) h')):aE T (W T) ⟨91⟩ [.a c 0,.i kind,.i b,.i a,S nm,kv] h k:=by
 obtain⟨⟨cap,ex,d⟩,⟨r,t,f,hr,e⟩,le⟩:=d;have c1:=Hp.lt d rfl;have c2:=Hp.lt f rfl;have e:=e n j;rw[aJ g.t91];refine cC d f e Tk.fj.eq_1 m ?_;exact i _ aZ
end
mutual
def ay(lo:Nat)(h:Hp):Tree->List AV->Prop
 |.mk kind b d a nm kids,row=>∃kv,row=[.i kind,.i b,.i d,.i a,S nm,kv]/\dO lo h kids kv
def dO(lo:Nat)(h:Hp):List Tree->AV->Prop
 |[],v=>v=.h
 |t::ts,v=>∃b cap ex r f,v=.c b 0 6 (ts.length+1) cap ex/\h.ab b=.b 61 6 r 0 f/\ts.length+1<=r/\lo<=b/\ay lo h t (f 0)/\aEs lo h ts λj=>f (j+1)
def aEs(lo:Nat)(h:Hp):List Tree->(Nat->List AV)->Prop
 |[],_=>True
 |t::ts,f=>ay lo h t (f 0)/\aEs lo h ts λj=>f (j+1)
end
def g0{h h':Hp}(g:ax h h'):∀i,i<h.a->h'.ab i=h.ab i:=λi hi=>g.f i hi id
def gp{c:Nat}{h h':Hp}(g:Pg c h h'):∀i,i<h.a->i≠c->h'.ab i=h.ab i:=g.f
def NF(lo:Nat)(h h':Hp):Prop:=∀i r f,lo<=i->h.ab i=.b 61 6 r 0 f->h'.ab i=.b 61 6 r 0 f
mutual
theorem ay.nf{lo kg:Nat}{h h':Hp}(g:NF lo h h')(le:kg<=lo):∀(t:Tree)(row:List AV),ay lo h t row->ay kg h' t row
 |.mk ..,_,a=>by simp only[ay] at a|-;obtain⟨kv,e,b⟩:=a;exact⟨kv,e,dO.nf g le _ _ b⟩
theorem dO.nf{lo kg:Nat}{h h':Hp}(g:NF lo h h')(le:kg<=lo):∀(ts:List Tree)(v:AV),dO lo h ts v->dO kg h' ts v
 |[],_,d=>by grind[dO]
 |t::ts,_,d=>by obtain⟨b,cap,ex,r,f,e,m,hr,a,i,j⟩:=d;exact⟨b,cap,ex,r,f,e,g _ _ _ a m,hr,at1 le a,ay.nf g le _ _ i,aEs.nf g le _ _ j⟩
theorem aEs.nf{lo kg:Nat}{h h':Hp}(g:NF lo h h')(le:kg<=lo):∀(ts:List Tree)(f:Nat->List AV),aEs lo h ts f->aEs kg h' ts f
 |[],_,_=>by simp only[aEs]
 |t::ts,f,a=>by simp only[aEs] at a|-;exact⟨ay.nf g le _ _ a.1,aEs.nf g le _ _ a.2⟩
end
section
variable {lo:Nat}
theorem NF.cg(h:Hp):NF lo h h:=λ_ _ _ _ e=>e
def NF.ba{a b c:Hp}(x:NF lo a b)(y:NF lo b c):NF lo a c:=λi r f d e=>y i r f d (x i r f d e)
theorem NF.am{a b:Hp}(x:NF lo a b)(o:AO):NF lo a (b.am o):=λi r f d e=>by have:=x i r f d e;rw[Hp.jp (Hp.lt this rfl)];omega
theorem NF.dT{a b:Hp}(x:NF lo a b){i:Nat}(o:AO){el l}(g:b.ab i=.a el l):NF lo a (b.dT i o):=λj r f d e=>by have:=x j r f d e;grind[Hp.fv]
def NF.py{a b:Hp}(x:NF lo a b){i:Nat}(o:AO)(hi:i<lo):NF lo a (b.dT i o):=λj r f d e=>by rw[Hp.fv zo];exact x j r f d e
def NF.bc{kg:Nat}{a b:Hp}(x:NF lo a b)(h:lo<=kg):NF kg a b:=λi r f d e=>x i r f (at1 h d) e
def NF.vm{M:Nat->Prop}{h h':Hp}(g:ah M h h')(a:∀i r f,M i->h.ab i≠.b 61 6 r 0 f):NF lo h h':=λi r f _ e=>by rw[g.f _ (Hp.lt e rfl) λm=>a i r f m e];omega
theorem bp.nf{h h':Hp}{c tb l n op hd}(x:bp h c tb l n op hd)(g:Pg c h h'):NF lo h h':=NF.vm g λi r f m e=>by obtain⟨⟨cap,ex,b⟩,_⟩:=x;grind
end
theorem bp.am{h:Hp}{c tb l n op hd}(x:bp h c tb l n op hd)(o:AO):bp (h.am o) c tb l n op hd:=x.bc aZ
theorem bp.dT{h:Hp}{c tb l n op hd}(x:bp h c tb l n op hd){b:Nat}(o:AO)(e:c≠b)(f:tb≠b):bp (h.dT b o) c tb l n op hd:=
 x.pg (M:=(·=b)) ((ah.cg _).dT _ (.inr rfl)) e f
def ay.agg{lo:Nat}{h:Hp}{t:Tree}{row:List AV}(x:ay lo h t row):row.length=6:=by cases t;obtain⟨kv,rfl,_⟩:=x;rfl
def fc(l:List Tk):Prop:=∀n,n<l.length->(tk l n).c≠0->n+1<l.length
def cU(lo c tb:Nat)(l:List Tk)(op:Int)(hd:Bool)(h:Hp)(k:aK->Prop)(r:PR Tree):Prop:=
 match r with
 |.b t n=>∀h' row,Pg c h h'->bp h' c tb l n op hd->ay lo h' t row->n<l.length->0<n->k (.a (.p row) h')
 |.d p e=>∀h',Pg c h h'->k (.b (qD p e) h')
 |.c=>False
abbrev lS(c tb:Nat)(l:List Tk)(op:Int)(hd:Bool)(h:Hp)(k:aK->Prop)(r:PR Tree):Prop:=cU h.a c tb l op hd h k r
section
variable {h:Hp}{n:Nat}{l:List Tk}{hd:Bool}{k:aK->Prop}
theorem cY.aau{b r cap ex t}{x y z w:List UInt8}(a:h.ab b=.b 9 1 r 0 t)(hr:4<=r)(h0:t 0=[S x])(d:t 1=[S y])(e:t 2=[S z])(f:t 3=[S w]):cY h (.c b 0 1 4 cap ex) [x,y,z,w]:=
 ⟨b,cap,ex,r,t,rfl,a,hr,λj hj=>by grind⟩
def lT(b:fc l)(a:n<l.length){ws}(e:bD (tk l n) ws=true):n+1<l.length:=by refine b n a λh0=>?_;simp[bD,h0] at e
def wT(b:fc l)(a:n<l.length){q:Int}(e:(tk l n).c=q)(d:q≠0):n+1<l.length:=b n a zo
theorem aIM(b:aA T)(C:fc l)(B:bp h c tb l n op hd)(g:n<l.length)(a:lS c tb l op hd h k (Ct l n)):aE T (W T) ⟨96⟩ [.a c 0] h k:=by
 have Y:=B.lt;have Z:=B.qn;rw[aJ b.t96];refine ag ?_;refine qC b (B.am _) g λR g1=>?_;obtain⟨n1,j⟩:=bH g1;have c1:=(B.am _).bc g1;refine aB Tk.fj.eq_1 ?_;refine ke b (c1.am _) g (cY.aau (x:=NT) (y:=NU) (z:=NV) (w:=NW) (Hp.bv zm) zl qab qab qab qab) zm λU g2=>?_;obtain⟨n2,m⟩:=bH g2;have c2:=(c1.am _).bc g2;unfold Ct at a;cases e:bD (tk l n) [NT,NU,NV,NW] with
 |true=>
  rw[e] at a;have p:=lT C g e;refine aB e ?_;refine vB b c2 g λF s c3=>?_;obtain⟨K,d⟩:=bw s;refine aB Tk.fj.eq_1 ?_;refine gS b ((c3.am _).dT _ zo zo) g rfl λG t=>?_;obtain⟨O,i⟩:=bH t;refine bK i d m j ?_;exact a _ _ (qB i d m j) ((((c3.am _).dT _ zo zo).bc t).dT _ zo zo) (by simp[ay,dO,aV]) p zo
 |false=>
  rw[e] at a;simp[at3,auM,jR] at a;refine aB e ?_;refine Eo b c2 g (λf F s c3=>?_) λf F s=>?_;have p:=wT C g f zm;rw[if_pos f] at a;simp[PR.dC] at a;obtain⟨K,d⟩:=bw s;refine aB Tk.fj.eq_1 ?_;refine ke b (((c3.am _).dT _ zo zo).am _) p (cY.kw (x:=[46]) (Hp.bv aa) zl zm) zm λG t=>?_;obtain⟨O,i⟩:=bH t;have v:=(((c3.am _).dT _ zo zo).am _).bc t;have H:G.ab F.a=.a 80 (tk l n).fj:=bV i Tk.fj.eq_1;have hr:G.ab h.a=.a 61 [.i 0,.i 0,.i 0,.i 0,S [],.h]:=mw i d m j;cases q:bD (tk l (n+1)) [[46]] with
  |false=>
   rw[q] at a;refine aU q H Tk.fj.eq_1 ?_;refine gS b v g rfl λM u=>?_;obtain⟨P,o⟩:=bH u;refine aS o hr ?_;exact a _ _ (Ei o i d m j) ((v.bc u).dT _ zo zo) (by simp[ay,dO,aV]) p zo
  |true=>
   rw[q] at a;have I:=lT C p q;refine aU q H Tk.fj.eq_1 ?_;refine gS b v g rfl λM u=>?_;obtain⟨P,o⟩:=bH u;refine ag ?_;refine vB b (((v.bc u).am _).dT _ zo zo) p λV g6 c6=>?_;obtain⟨n6,A⟩:=bw g6;refine ag ?_;refine Eo b c6 I (λf N E c7=>?_) λf N E=>?_;have L:=wT C I f zm;rw[if_pos f] at a;obtain⟨Q,r⟩:=bw E;refine cC r A o H Tk.fj.eq_1 ?_;refine gS b ((c7.dT _ zo zo).am _) I rfl λX J=>?_;obtain⟨n8,D⟩:=bH J;refine cC D r A o hr ?_;exact a _ _ (zp8 D r A o i d m j) ((((c7.dT _ zo zo).am _).bc J).dT _ zo zo)
    (by simp[ay,dO,aEs,aV];exact⟨1,_,by rw[Hp.fv zo,D _ qav];exact Hp.bv aa,by simp,by omega,by simp⟩) L zo
   rw[if_neg f] at a;refine ag ?_;obtain⟨Q,r⟩:=bw E;exact a _ (ZX r A o i d m j)
  rw[if_neg f] at a;refine ag ?_;obtain⟨K,d⟩:=bw s;exact a _ (fH d m j)
end
structure Orc where
 a:List UInt8->Int
 b:List UInt8->Int
 c:List UInt8->List UInt8×Int
def Cz(T:aM->Option CF)(O:Orc)(h:Hp):Prop:=∀(s:List UInt8)(k:aK->Prop),s.length<1073741824->(∀v h',ax h h'->k (.a (.o [v,.i (O.a s)]) h'))->aE T (W T) ⟨83⟩ [S s] h k
def CA(T:aM->Option CF)(O:Orc)(h:Hp):Prop:=∀(s:List UInt8)(k:aK->Prop),s.length<1073741824->(∀v h',ax h h'->k (.a (.o [v,.i (O.b s)]) h'))->aE T (W T) ⟨84⟩ [S s] h k
def azS(nE fE:List UInt8->Int)(s:List UInt8):Int×Nat×Int:=
 if 0<gu s then
  if s.take (gu s)∈Cr then(2,gu s,0) else if 40<gu s then(1,gu s,3) else if El (s.take (gu s))=false then(1,gu s,9) else(1,gu s,0)
 else if 0<dU s then
  if zS s=true then(4,aE3 s,fE (s.take (aE3 s))) else(3,dU s,nE (s.take (dU s)))
 else if 0<(aEA s).2 then(5,(aEA s).2,if 4096<(aEA s).1 then 3 else 0)
 else if w9 s [59]=true then(7,1,0) else if 0<o6 s then(6,o6 s,0) else(0,0,4)
section
variable {O:Orc}{h:Hp}{k:aK->Prop}{c:UInt8}
theorem aav(s:List UInt8):gu s<=s.length:=by
 cases s with
 |nil=>exact at2 _
 |cons c s=>grind[aad]
abbrev Bc(hh:Hp)(s:List UInt8)(k:aK->Prop)(r:Int×Nat×Int):Prop:=∀h'(a:Int) b(c d:Int),ax hh h'->(r.2.2 =0->a=r.1 /\b=s.take r.2.1 /\c=0/\d=r.2.1)->k (.a (.o [.p [.i a,S b,.i c,.i d],.i r.2.2]) h')
abbrev aE7:List AV:=[.i 0,S [],.i 0,.i 0]
theorem ahN(g:aA T){hh:Hp}{f:Fr}(n:s.length<1073741824)(m:lO (h.ab 1))(j:hh.a≠1)(d:ax hh h)(hr:h.ab hh.a=.a 80 aE7)(f0:an 0 f=S s)(b:an 2 f=.a hh.a 0)
 (a:Bc hh s k (if w9 s [59]=true then(7,1,0) else if 0<o6 s then(6,o6 s,0) else(0,0,4))):
 W T aAX f h [] (finish T (W T) [.b 4 true 2,.a 3] k):=by
 have t:=Hp.lt hr rfl;have r:=aar s;refine aS f0 b ?_;refine NJ g zo ?_;cases e:w9 s [59] with
 |true=>
  rw[if_pos e] at a;have i:s.take 1=[59]:=by simpa[w9] using e
  refine aU f0 b hr ?_;have q:=a (h.dT hh.a (.a 80 [.i 7,S [59],.i 0,.i 1])) 7 [59] 0 1 (d.dT _ (.inl zl)) (λ_=>⟨rfl,i.symm,rfl,rfl⟩);omega
 |false=>
  rw[if_neg qaa] at a;refine aS f0 b ?_;refine ahK g n m λj g1=>?_;have i:=g0 g1;have l:j.ab hh.a=.a 80 aE7:=by grind
  by_cases em:0<o6 s;rw[if_pos em] at a;have o:((o6 s:Nat):Int)<=s.length:=zo;exact cC f0 b em o l (a _ _ _ _ _ ((d.ba g1).dT _ (.inl zl)) (λ_=>⟨rfl,rfl,rfl,rfl⟩));rw[if_neg em] at a;exact bK f0 b em l (a _ _ _ _ _ ((d.ba g1).dT _ (.inl zl)) (λh=>by grind))
theorem ahO(l:aA T){hh:Hp}{f:Fr}(o:s.length<1073741824)(t:lO (h.ab 1))(n:1<hh.a)(g:ax hh h)(hr:h.ab hh.a=.a 80 aE7)(f0:an 0 f=S s)(e:an 2 f=.a hh.a 0)
 (a:Bc hh s k (if 0<(aEA s).2 then(5,(aEA s).2,if 4096<(aEA s).1 then 3 else 0) else if w9 s [59]=true then(7,1,0) else if 0<o6 s then(6,o6 s,0) else(0,0,4))):
 W T (CC.f (.f (.g (z q51 18)) (.f (.g (z q51 19)) (.i (.t 74) (.f (.g r51_20) (.f (.f (.g (z q51 21)) (.i (.t 77) (.g r51_22) .j)) (.f (.g (z q51 23)) .k))) .j))) aAX) f h [] (finish T (W T) [.b 4 true 2,.a 3] k):=by
 have q:=Hp.lt hr rfl;have u:=aIL s;generalize i:aAX=r;refine aS f0 e ?_;refine aak l o λv n g1 w=>?_;have j:n.ab hh.a=.a 80 aE7:=by rw[g1.f _ q id];omega
 by_cases b:0<(aEA s).2;have m:((aEA s).2 :Int)<=s.length:=zo;rw[if_pos b] at a;by_cases ev:4096<v.length;have d:(4096:Int)<v.length:=zo;rw[if_pos zo] at a;exact cq f0 e b m d j (a _ _ _ _ _ ((g.ba g1).dT _ (.inl zl)) (λh=>by grind));have d:¬(4096:Int)<v.length:=zo;rw[if_neg zo] at a;exact cq f0 e b m d j (a _ _ _ _ _ ((g.ba g1).dT _ (.inl zl)) (λ_=>⟨rfl,rfl,rfl,rfl⟩));rw[if_neg b] at a;refine aB b ?_;subst i;exact ahN l o (by rw[g1.f 1 zo id];omega) zo (g.ba g1) j zA zA a
theorem ahP(n:aA T)(w:∀h',ax h h'->Cz T O h') (u:∀h',ax h h'->CA T O h') {hh:Hp} {f:Fr} (r:s.length<1073741824) (B:lO (h.ab 1)) (i:1<hh.a) (j:ax hh h) (hr:h.ab hh.a=.a 80 aE7) (f0:an 0 f=S s) (g:an 2 f=.a hh.a 0)
 (b:Bc hh s k (if 0<dU s then if zS s=true then(4,aE3 s,O.b (s.take (aE3 s))) else(3,dU s,O.a (s.take (dU s)))
  else if 0<(aEA s).2 then(5,(aEA s).2,if 4096<(aEA s).1 then 3 else 0) else if w9 s [59]=true then(7,1,0) else if 0<o6 s then(6,o6 s,0) else(0,0,4))):
 W T (CC.f (.f (.g (z q51 11)) (.f (.g (z q51 12)) (.i (.t 44) (.f (.g r51_13) (.f (.f (.g (z q51 14)) (.i (.t 46) (.g (z q51 15)) (.g (z q51 16)))) (.f (.g (z q51 17)) .k))) .j))) aIa) f h [] (finish T (W T) [.b 4 true 2,.a 3] k):=by
 have t:=Hp.lt hr rfl;have hd:=Kh s;generalize y:aIa=A;refine aS f0 g ?_;refine ahs n r (λe i g1=>?_) λe i g1=>?_;have d:i.ab hh.a=.a 80 aE7:=by rw[g1.f _ t id];omega
 by_cases a:0<dU s;have o:((dU s:Nat):Int)<=s.length:=zo;rw[if_pos a,if_neg qaa] at b;refine cC f0 g a o d ?_;refine w _ g1 _ _ qaa λv l g2=>?_;have m:l.ab hh.a=.a 80 aE7:=by rw[g2.f _ (Hp.lt d rfl) id];omega
 exact bK f0 g o m (b _ _ _ _ _ (((j.ba g1).ba g2).dT _ (.inl zl)) (λ_=>⟨rfl,rfl,rfl,rfl⟩));rw[if_neg a] at b;refine aB a ?_;subst y;refine ahO n r (by rw[g1.f 1 zo id];omega) zo (j.ba g1) d zA zA b;have d:i.ab hh.a=.a 80 aE7:=by rw[g1.f _ t id];omega
 have a:0<dU s:=by grind[zS]
 have C:=aJ4 e;have x:=aJ5 s;have q:((aE3 s:Nat):Int)<=s.length:=zo;rw[if_pos a,if_pos e] at b;refine cC f0 g x q d ?_;refine u _ g1 _ _ qaa λv l g2=>?_;have m:l.ab hh.a=.a 80 aE7:=by rw[g2.f _ (Hp.lt d rfl) id];omega
 exact bK f0 g q m (b _ _ _ _ _ (((j.ba g1).ba g2).dT _ (.inl zl)) (λ_=>⟨rfl,rfl,rfl,rfl⟩))
theorem ahQ(d:aA T)(D:∀h',ax h h'->Cz T O h') (C:∀h',ax h h'->CA T O h') (H:s.length<1073741824) (z:lO (h.ab 1)) (a:Bc h s k (azS O.a O.b s)):aE T (W T) ⟨51⟩ [S s] h k:=by
 rw[aJ d.t51];have N:=aav s;have B:1<h.a:=by obtain⟨t,e,_⟩:=z;exact Hp.lt e rfl
 generalize K:aJI=L;refine ag ?_;refine aae d zo λl g1=>?_;have E:=g0 g1;have I:=g1.g;simp only[Hp.ii] at I;have i:ax h l:=ah.ba aZ g1;have A:l.ab h.a=.a 80 aE7:=au E;by_cases j:0<gu s;have G:((gu s:Nat):Int)<=s.length:=zo;unfold azS at a;rw[if_pos j] at a;refine aS j G ?_;refine aaf d λo g2=>?_;have u:=g0 g2;have J:=g2.g;simp only[Hp.ii,Hp.ka] at J;have m:o.ab h.a=.a 80 aE7:=bV u A;have q2:o.ab l.a=.a 80 [.i 1,S (s.take (gu s)),.i 0,.i (gu s)]:=au u;have n:ax h o:=ah.ba (i.ba aZ) g2;have M:=Hp.lt q2 rfl;by_cases f:s.take (gu s)∈Cr;rw[if_pos f] at a;refine aU f q2 m ?_;exact a _ _ _ _ _ ((n.dT _ (.inl zo)).dT _ (.inl zl)) (λ_=>⟨rfl,rfl,rfl,rfl⟩);rw[if_neg f] at a;by_cases w:40<gu s;rw[if_pos w] at a;have b:(40:Int)<(gu s:Nat):=zo;exact bK f q2 m b (a _ _ _ _ _ (n.dT _ (.inl zl)) (λh=>by grind));rw[if_neg w] at a;have b:¬(40:Int)<(gu s:Nat):=zo;refine bK f q2 m b ?_;refine aag (s:=s.take (gu s)) d qaa λy x=>?_;have v:=g0 x;have q3:y.ab l.a=.a 80 [.i 1,S (s.take (gu s)),.i 0,.i (gu s)]:=bV v q2;have q:y.ab h.a=.a 80 aE7:=bV v m;have r:=n.ba x;cases F:El (s.take (gu s)) with
 |true=>
  rw[if_neg qaa] at a;exact aS q3 q (a _ _ _ _ _ (r.dT _ (.inl zl)) (λ_=>⟨rfl,rfl,rfl,rfl⟩))
 |false=>
  rw[if_pos F] at a;exact aS q3 q (a _ _ _ _ _ (r.dT _ (.inl zl)) (λh=>by grind))
 refine aB j ?_;subst K;refine ahP d (λh' g=>D h' (i.ba g)) (λh' g=>C h' (i.ba g)) H (by rw[i.f 1 B id];exact z) B i A aa aa ?_;unfold azS at a;rwa[if_neg j] at a
end
section
variable {h:Hp}{n:Nat}{l:List Tk}{hd:Bool}{k:aK->Prop}
def bp.Hm{h:Hp}{c tb l n op hd}(x:bp h c tb l n op hd){cap ex}{n':Nat}{e:Int}{b:Bool}:
 bp (h.dT c (.a 82 [.c tb 0 4 l.length cap ex,.i n',.i e,.g b])) c tb l n' e b:=by
 have:=x.ne;obtain⟨_,⟨r,t,g,f⟩,le⟩:=x;exact⟨⟨cap,ex,Hp.fp rfl⟩,⟨r,t,by simp_all,f⟩,le⟩
def WK(c tb:Nat)(l:List Tk)(op:Int)(hd:Bool)(right:List UInt8)(k:aK->Prop)(o:aK):Prop:=
 match o with
 |.a _ b=>∃m,m<l.length/\bp b c tb l m (op+1) false/\(bD (tk l m) [right]=true->∀a,Pg c b a->bp a c tb l (m+1) op hd->k (.a (.o []) a))/\
  (bD (tk l m) [right]=false->∀a,Pg c b a->k (.b (qD (tk l m).a 4) a))
 |.b v b=>k (.b v b)
theorem Ts(d:aA T)(K:fc l)(s:bp h c tb l n op hd)(q:n<l.length)(h0:0<=op)(i:op<=128){left right:List UInt8}{g:aM}{fs cs:List AV}
 (H:bD (tk l n) [left]=true->op=128->∀h',Pg c h h'->k (.b (qD (tk l n).a 3) h'))
 (G:bD (tk l n) [left]=false->∀h',Pg c h h'->k (.b (qD (tk l n).a 4) h'))
 (hr:bD (tk l n) [left]=true->op≠128->∀i,Pg c h i->bp i c tb l (n+1) (op+1) false->aE T (W T) g (fF fs (fF [] cs)) i (WK c tb l op hd right k)):
 aE T (W T) ⟨123⟩ [.a c 0,S left,S right,.r g fs cs] h k:=by
 have z:=s.qn;rw[aJ d.t123];refine ag ?_;refine ke d (s.am _) q (cY.kw (x:=left) (Hp.bv zm) zl zm) zm λi g1=>?_;obtain⟨M,r⟩:=bH g1;have c1:=(s.am _).bc g1;obtain⟨⟨cap,ex,q1⟩,_⟩:=id c1;cases e:bD (tk l n) [left] with
 |false=>
  refine aS e q1 ?_;refine Cx d c1 q (λj=>by grind) λ_ w g2=>?_;obtain⟨A,f⟩:=bw g2;refine ag ?_;exact G e _ (eF f r)
 |true=>
  by_cases p:op=128;refine aU e q1 p ?_;refine Cw d c1 q λw g2=>?_;obtain⟨A,f⟩:=bH g2;refine ag ?_;exact H e p _ (eF f r);refine aU e q1 p ?_;refine Cx d c1 q (λ_ w g2 c2=>?_) λj=>by grind
  obtain⟨A,f⟩:=bw g2;obtain⟨⟨B,J,q2⟩,_⟩:=id c2;refine aB q2 ?_;refine ae0 (hr e p _ (eF f r) c2.Hm.Hm) λo y=>?_;cases o with
  |b v E=>exact y
  |a v E=>
   obtain⟨m,I,c3,z,L⟩:=y;refine ag ?_;refine Cx d c3 I (λj F u t=>?_) λj F u=>?_;obtain⟨⟨C,D,q4⟩,_⟩:=id t;exact aB q4 (z j _ ((u.dT _ (.inr rfl)).dT _ (.inr rfl)) t.Hm.Hm);simp_all
end
section
variable {h hh:Hp}{n:Nat}{l:List Tk}{hd:Bool}{k:aK->Prop}
def Kn(T:aM->Option CF)(hh:Hp)(c tb:Nat)(l:List Tk)(op:Int)(hd:Bool)(g:aM)(b:List AV)(d:Nat->PR Tree):Prop:=
 ∀(a:Hp)(n:Nat)(k:aK->Prop),Pg c hh a->bp a c tb l n op hd->n<l.length->lS c tb l op hd a k (d n)->aE T (W T) g b a k
def ahR(c tb:Nat)(l:List Tk)(op:Int)(hd:Bool)(h:Hp)(k:aK->Prop)(r:PR Unit):Prop:=
 match r with
 |.b _ n=>∀h',Pg c h h'->bp h' c tb l n op hd->n<l.length->0<n->k (.a (.o []) h')
 |.d p e=>∀h',Pg c h h'->k (.b (qD p e) h')
 |.c=>False
def N4(T:aM->Option CF)(hh:Hp)(c tb:Nat)(l:List Tk)(op:Int)(hd:Bool)(g:aM)(d:List AV)(b:Nat->PR Unit):Prop:=
 ∀(a:Hp)(n:Nat)(k:aK->Prop),Pg c hh a->bp a c tb l n op hd->n<l.length->ahR c tb l op hd a k (b n)->aE T (W T) g d a k
def CB(lo:Nat)(h:Hp)(lb:Nat)(ts:List Tree):Prop:=
 ∃v,h.ab lb=.a 52 [v]/\(ts=[]/\v=.h\/
  ∃b r f,lo<=b/\v=.c b 0 6 ts.length ts.length false/\ts≠[]/\h.ab b=.b 61 6 r 0 f/\ts.length<=r/\aEs lo (h.dT b .c) ts f)
def NF.ow{lo:Nat}{a b:Hp}(x:NF lo a b){i:Nat}(o:AO)(hi:a.a<=i):NF lo a (b.dT i o):=λj r f d e=>by have:=Hp.lt e rfl;rw[Hp.fv zo];exact x j r f d e
def Ko{lo:Nat}{h:Hp}:∀{ts:List Tree}{t:Tree}{f:Nat->List AV},aEs lo h ts f->ay lo h t (f ts.length)->aEs lo h (ts++[t]) f
 |[],_,_,_,b=>by simp_all[aEs]
 |x::ts,t,f,a,b=>by exact⟨a.1,Ko a.2 b⟩
theorem Kp{lo:Nat}{h:Hp}:∀{ts:List Tree}{f g:Nat->List AV},(∀j,j<ts.length->g j=f j)->aEs lo h ts f->aEs lo h ts g
 |[],_,_,_,_=>by simp only[aEs]
 |x::ts,f,g,e,a=>by simp[aEs] at a|-;exact⟨by grind,Kp (λj hj=>e (j+1) qaa) a.2⟩
theorem CB.pg{lo:Nat}{h h':Hp}{c lb ts}(x:CB lo h lb ts)(g:Pg c h h')(A:c<lo)(u:lo<=lb):CB lo h' lb ts:=by
 obtain⟨v,z,x⟩:=x;have e:∀i o,lo<=i->h.ab i=o->jN o=false->h'.ab i=o:=λi o hi y w=>by rw[g.f i (Hp.lt y w) zo];omega
 refine⟨v,e lb _ u z rfl,?_⟩;rcases x with x|⟨b,r,f,a,j,m,p,q,s⟩;grind;refine .inr ⟨b,r,f,a,j,m,e b _ a p rfl,q,aEs.nf (lo:=lo) (λi r f hi d=>?_) zl _ _ s⟩;by_cases t:i=b;simp_all;rw[Hp.fv t] at d|-;exact e i _ hi d rfl
structure LB(h:Hp)(c lb cb rb fb bb:Nat)(right:List UInt8)(gr:aM)(ar:List AV)(gb:aM)(ab1 ab2:List AV):Prop where
 b:h.ab cb=.a 78 [.a c 0]
 f:h.ab rb=.a 9 [S right]
 d:h.ab fb=.a 101 [.r gr [] ar]\/∃x,h.ab fb=.a 101 [.r gr x []]/\ar=x
 a:h.ab bb=.a 1 [.r gb ab1 ab2]
def Tt(hh:Hp)(c tb lb:Nat)(l:List Tk)(op:Int)(hd:Bool)(ts:List Tree)(k:aK->Prop)(r:PR (List Tree)):Prop:=
 match r with
 |.b a m=>∀h',Pg c hh h'->bp h' c tb l m op hd->m<l.length->0<m->CB hh.a h' lb (ts++a)->k (.a (.o []) h')
 |.d p e=>∀h',Pg c hh h'->k (.b (qD p e) h')
 |.c=>False
theorem aax(HT:aA T)(hs:fc l){lb cb rb fb bb:Nat}{right:List UInt8}{gr gb:aM}{L cr Er Es:List AV}{rd Q}
 (R:Kn T hh c tb l op hd gr (fF L cr) rd) (B:N4 T hh c tb l op hd gb (fF Er Es) Q)
 (o1:hh.a<=cb) (o2:hh.a<=rb) (o3:hh.a<=fb) (o4:hh.a<=bb) (o5:hh.a<=lb) (zV:cb≠lb) (N5:rb≠lb) (Tu:fb≠lb) (ne4:bb≠lb) (NY:c<hh.a) (Tv:tb<hh.a):
 ∀(V n:Nat)(h:Hp)(ts:List Tree)(f:Fr)(K:aT->Prop),ts.length+V<8589934592->Pg c hh h->bp h c tb l n op hd->n<l.length->0<n->CB hh.a h lb ts->
  h.ab cb=.a 78 [.a c 0]->h.ab rb=.a 9 [S right]->h.ab fb=.a 101 [.r gr L cr]->h.ab bb=.a 1 [.r gb Er Es]->
  an 0 f=.a cb 0->an 1 f=.a rb 0->an 2 f=.a lb 0->an 3 f=.a fb 0->an 4 f=.a bb 0->
  Tt hh c tb lb l op hd ts (λo=>match o with|.a _ h'=>(∀f,K (.a 0 f h' []))/\∀f,K (.b f h' [])|.b v h'=>∀f,K (.d v f h' [])) (ug l right rd Q V n)->
  W T (.d l124_0) f h [] K
 |0,_,_,_,_,_,_,_,_,_,_,_,_,_,_,_,_,_,_,_,_,a=>a.elim
 |V+1,n,h,ts,f,K,N6,g,G,hn,hz,I,q1,q2,q3,q4,f0,Z,D,f3,f4,a=>by
  have pP:=I;obtain⟨v,y,I⟩:=I;have x1:=Hp.lt q1 rfl;have x2:=Hp.lt q2 rfl;have x3:=Hp.lt q3 rfl;have x4:=Hp.lt q4 rfl;have x5:=Hp.lt y rfl;have hx:=G.lt;have hy:=G.qn;have tail:∀(H:Hp)(f:Fr)(t:Tree)(m:Nat),Pg c hh H->bp H c tb l m op hd->m<l.length->0<m->CB hh.a H lb (ts++[t])->
   H.ab cb=.a 78 [.a c 0]->H.ab rb=.a 9 [S right]->H.ab fb=.a 101 [.r gr L cr]->H.ab bb=.a 1 [.r gb Er Es]->
   an 0 f=.a cb 0->an 1 f=.a rb 0->an 2 f=.a lb 0->an 3 f=.a fb 0->an 4 f=.a bb 0->
   Tt hh c tb lb l op hd ts (λo=>match o with|.a _ h'=>(∀f,K (.a 0 f h' []))/\∀f,K (.b f h' [])|.b v h'=>∀f,K (.d v f h' []))
    (if bD (tk l m) [right]=true then .b [t] m else(Q m).dC λ_ o=>(ug l right rd Q V o).dC λts q=>.b (t::ts) q)->
   W T (.f (.f (.g (z q124 2)) (.i (.t 20) .k .j)) (.g (z q124 3))) f H [] (bY 1 (bF (W T (.d l124_0)) K)):=by
   intro H f t m g G O hz I q1 q2 q3 q4 f0 Z D f3 f4 a;have x1:=Hp.lt q1 rfl;have x2:=Hp.lt q2 rfl;have x3:=Hp.lt q3 rfl;have x4:=Hp.lt q4 rfl;have pP:=I;obtain⟨v,y,I⟩:=I;have x5:=Hp.lt y rfl;have hx:=G.lt;have hy:=G.qn;refine nA f0 Z D f3 f4 q1 q2 q3 q4 y ?_;refine ke HT (G.am _) O (cY.kw (x:=right) (Hp.bv zm) zl zm) zm λA g1=>?_;obtain⟨n1,s⟩:=bH g1;have c1:=(G.am _).bc g1;have C:Pg c hh A:=(g.am _).ba g1.mr;have E:Pg c H A:=((ah.cg H).am _).ba g1.mr;cases e:bD (tk l m) [right] with
   |true=>
    rw[if_pos e] at a;exact aB e ((a A C c1 O hz (pP.pg E zo zo)).2 _)
   |false=>
    rw[e] at a;simp only[at3,auM] at a;refine pU e f0 Z D f3 f4 s q1 q2 q3 q4 y ?_;refine B A m _ C c1 O ?_;cases F:Q m with
    |c=>rw[F] at a;exact a
    |d p e=>
     rw[F] at a;intro w g2;exact ag (a _ (C.ba g2) _)
    |b _ m2=>
     rw[F] at a;simp only[PR.dC] at a;intro w g2 c2 Hg X;obtain⟨n2,u⟩:=bw g2;refine ag ?_;refine aax HT hs (right:=right) R B o1 o2 o3 o4 o5 zV N5 Tu ne4 NY Tv V m2 w (ts++[t]) _ K qaa (C.ba g2) c2 Hg X ((pP.pg E zo zo).pg g2 zo zo)
      (cX u s q1) (cX u s q2) (cX u s q3) (cX u s q4) zA zA zA zA zA ?_
     revert a;cases ug l right rd Q V m2<;>simp[Tt]
  rw[aP];show W T (.f (.f (.g (z q124 0)) (.i (.t 9) .j (.p 0))) (.m 1 (.f (.h r124_1) (.f (.f (.g (z q124 2)) (.i (.t 20) .k .j)) (.g (z q124 3)))))) f h [] _;generalize Hh:CC.f (CC.f (.g (z q124 2)) (.i (.t 20) .k .j)) (.g (z q124 3))=TC at tail|-;refine nA f0 Z D f3 f4 q1 q2 q3 q4 y ?_;refine ke HT (G.am _) hn (cY.kw (x:=right) (Hp.bv zm) zl zm) zm λA g1=>?_;obtain⟨n1,s⟩:=bH g1;have c1:=(G.am _).bc g1;have C:Pg c hh A:=(g.am _).ba g1.mr;have E:Pg c h A:=((ah.cg h).am _).ba g1.mr;unfold ug at a;cases e:bD (tk l n) [right] with
  |true=>
   rw[if_pos e] at a;refine aB e ?_;refine(a A C c1 hn hz ?_).1 _;rw[av5];exact pP.pg E zo zo
  |false=>
   rw[e] at a;simp only[at3,auM] at a;refine pU e f0 Z D f3 f4 s q1 q2 q3 q4 y ?_;cases U:rd n with
   |c=>rw[U] at a;exact a.elim
   |d p e=>
    rw[U] at a;rcases I with⟨rfl,rfl⟩|⟨b,r,L,N7,rfl,Y,F,hr,kz⟩
    all_goals
     refine ag ?_;refine R A n _ C c1 hn ?_;rw[U];intro w g2;refine ag ?_;exact a _ (C.ba g2) _
   |b t m=>
    rw[U] at a;simp only[PR.dC] at a;rcases I with⟨rfl,rfl⟩|⟨b,r,L,N7,rfl,Y,F,hr,kz⟩;refine ag ?_;refine R A n _ C c1 hn ?_;rw[U];intro w row g2 c2 nd O X;obtain⟨n2,u⟩:=bw g2;have jt:=nd;obtain⟨kind,M,P,J,nm,kids⟩:=t;simp only[ay] at nd;obtain⟨kv,rfl,nd⟩:=nd;have Y:¬(w.a+1=lb):=zo;refine bK u s y D ?_;rw[A7 (n:=0) (wN (Hp.bv rfl) zl) rfl zd];refine cC u s y D Y ?_;refine tail _ _ (.mk kind M P J nm kids) m (fH u s (gp g)) ((((c2.am _).am _).dT _ zo zo).dT _ zo zo) O X ⟨_,Hp.fp rfl,.inr ⟨w.a+1,1,_,by omega,rfl,by simp,by refine ag ?_;rfl,by simp,?_⟩⟩
     (cX u s q1) (cX u s q2) (cX u s q3) (cX u s q4) zA zA zA zA zA a
    refine Ko (by simp only[aEs]) ?_;simp only[aup,dZ,auo];exact ay.nf (((((NF.cg w).am _).am _).ow _ zo).py _ zo|>.ow _ zo) zo _ _ jt;refine ag ?_;refine R A n _ C c1 hn ?_;rw[U];intro w row g2 c2 nd O X;obtain⟨n2,u⟩:=bw g2;have jt:=nd;obtain⟨kind,M,P,J,nm,kids⟩:=t;simp only[ay] at nd;obtain⟨kv,rfl,nd⟩:=nd;have Y:¬(w.a+1=lb):=zo;have xb:=Hp.lt F rfl;have wF:lb≠b:=by rintro rfl;rw[F] at y;cases y
    have CD:∀{x o},h.ab x=o->(∀r f,o≠.b 61 6 r 0 f)->x≠b:=by rintro x o A w rfl;exact w _ _ (A.symm.trans F)
    have y1:=CD q1 zm;have y2:=CD q2 zm;have y3:=CD q3 zm;have y4:=CD q4 zm;have fX:w.ab b=.b 61 6 r 0 L:=cX u s F;refine bK u s y D ?_;rw[A8 (n:=0) (l5:=r) (t:=L) (au fX) hr (wN (Hp.bv rfl) zl) rfl (rV zo zo)];refine cC u s y D Y ?_;refine tail _ _ (.mk kind M P J nm kids) m (fH u s (gp g)) (((((c2.am _).dT _ zo zo).am _).dT _ zo zo).dT _ zo zo) O X
     ⟨_,Hp.fp rfl,.inr ⟨w.a+1,ts.length+1,_,by omega,by simp,by simp,by refine ag ?_;rfl,by simp,?_⟩⟩
     (cX u s q1) (cX u s q2) (cX u s q3) (cX u s q4) zA zA zA zA zA a
    refine Ko (aEs.nf (lo:=hh.a) (h:=h.dT b .c) (λi r f hi N=>?_) zl _ _ (Kp (λj hj=>?_) kz)) ?_;by_cases ue:i=b;subst ue;rw[Hp.fp rfl] at N;cases N;rw[Hp.fv ue] at N;have:=Hp.lt N rfl;have:i≠lb:=by rintro rfl;rw[y] at N;cases N
    exact cX u s N;simp only[dZ];rw[if_neg zo,if_neg zo];simp only[dZ,auo];exact ay.nf ((((((NF.cg w).am _).py _ zo).am _).ow _ zo).py _ zo|>.ow _ zo) zo _ _ jt
theorem CB.fg{lo lb:Nat}{h:Hp}{ts}(x:CB lo h lb ts):∃v,h.ab lb=.a 52 [v]/\bQ v=some [v]/\dO lo h ts v:=by
 obtain⟨v,e,x⟩:=x;refine⟨v,e,?_⟩;rcases x with⟨rfl,rfl⟩|⟨b,r,f,g,rfl,j,m,o,a⟩;exact⟨rfl,by rfl⟩;refine⟨rfl,?_⟩;cases ts with
 |nil=>grind
 |cons t ts=>
  have d:=aEs.nf (lo:=lo) (h':=h) (λi r f _ q=>by by_cases p:i=b;simp_all;simp_all) zl _ _ a
  grind[aEs,dO]
def Et(c tb:Nat)(l:List Tk)(op:Int)(hd:Bool)(h:Hp)(k:aK->Prop)(r:PR (List Tree)):Prop:=
 match r with
 |.b ts n=>∀h' kv,Pg c h h'->bp h' c tb l n op hd->n<l.length->0<n->bQ kv=some [kv]->dO h.a h' ts kv->k (.a kv h')
 |.d p e=>∀h',Pg c h h'->k (.b (qD p e) h')
 |.c=>False
theorem Kq(o:aA T)(t:fc l)(E:bp h c tb l n op hd)(J:n<l.length)(h0:0<=op)(O:op<=128){left right:List UInt8}{D C:aM}{A y u w:List AV}{G x}{r:Nat}(X:r<8589934592)
 (R:op≠128->Kn T h c tb l (op+1) false D (fF A y) G) (B:op≠128->N4 T h c tb l (op+1) false C (fF u w) x)
 (a:Et c tb l op hd h k (wS l left right G x op r n)):
 aE T (W T) ⟨92⟩ [.a c 0,S left,S right,.r C u w,.r D A y] h k:=by
 have K:=E.lt;have V:=E.qn;rw[aJ o.t92];refine ag ?_;unfold wS at a;refine Ts o t (((((E.am _).am _).am _).am _).am _) J h0 O (λe i h' j=>?_) (λe h' j=>?_) (λe i h' j N=>?_);rw[if_pos e,if_pos i] at a;obtain⟨n',g⟩:=bw j;refine ag ?_;exact a _ (iQ g);rw[e] at a;obtain⟨n',g⟩:=bw j;refine ag ?_;exact a _ (iQ g);rw[if_pos e,if_neg i] at a;obtain⟨n',g⟩:=bw j;rw[aJ o.t124];refine ag ?_;refine aax o t (R i) (B i) (cb:=h.a) (rb:=h.a+1) (fb:=h.a+1+1+1) (bb:=h.a+1+1) (lb:=h.a+1+1+1+1) (right:=right)
  zl zo zo zo zo zo zo zo zo K V r (n+1) h' [] _ _ qaa (iQ g) N (lT t J e) zo ⟨.h,au g,.inl ⟨rfl,rfl⟩⟩
  qah qah qah qah qab qab qab qab qab ?_
 cases F:ug l right G x r (n+1) with
 |c=>rw[F] at a;exact a
 |d p Y=>
  rw[F] at a;intro H g2 f;exact a _ g2
 |b ts m=>
  rw[F] at a;simp[PR.dC] at a;intro H g2 c2 I Z Q;have key:WK c tb l op hd right (NB (bF (W T (.f (.g (z q92 3)) .k)) (finish T (W T) [.a 10] k)) [] (some 16)
   (fO 15 (.r ⟨124⟩ [] [.a h.a 0,.a (h.a+1) 0,.a (h.a+1+1+1+1) 0,.a (h.a+1+1+1) 0,.a (h.a+1+1) 0]) (fO 14 (S right) (fO 13 (S left) (fO 12 (.a c 0)
    (fO 11 (.a (h.a+1+1+1+1) 0) (fO 10 .h (fO 9 (.a (h.a+1+1+1) 0) (fO 8 (.a (h.a+1+1) 0) (fO 7 (.a (h.a+1) 0) (fO 5 (.a h.a 0) (nQ [.a c 0,S left,S right,.r C u w,.r D A y])))))))))))
   (qQ (aE T (W T)) (bF (W T (.f (.g (z q92 3)) .k)) (finish T (W T) [.a 10] k)) [])) (.a (.o []) H):=by
   refine⟨m,I,c2,λq P s c3=>?_,λq P s=>?_⟩;rw[if_pos q] at a;obtain⟨v,U,L,M⟩:=(Q.pg s K zo).fg;exact aB U (a _ _ (g2.ba s) c3 (lT t I q) zo L M);rw[q] at a;exact ag (a _ (g2.ba s))
  simp_all
theorem ahS(j:aA T){t:Tk}(o:∀h',ax h h'->k (.a (.i (o7 t)) h')):aE T (W T) ⟨198⟩ [.p t.fj] h k:=by have m:=o _ (((ah.cg h).am (.a 80 t.fj)));rw[aJ j.t198];unfold o7 at m;by_cases f:t.c=3;refine aS Tk.fj.eq_1 f ?_;grind[Tk.fj];by_cases g:t.c=4;refine aS Tk.fj.eq_1 g ?_;grind[Tk.fj];by_cases i:t.c=5;refine aS Tk.fj.eq_1 i ?_;grind[Tk.fj];by_cases e:t.c=1;refine aS Tk.fj.eq_1 e ?_;grind[Tk.fj];by_cases a:t.c=2;by_cases b:t.b=[116,114,117,101];refine aU Tk.fj.eq_1 a b ?_;grind[Tk.fj];by_cases d:t.b=[102,97,108,115,101];refine aU Tk.fj.eq_1 a d ?_;grind[Tk.fj];refine bK Tk.fj.eq_1 a b d ?_;grind[Tk.fj];refine cq Tk.fj.eq_1 f g i e a ?_;grind[Tk.fj]
theorem aay(a:aA T){t:Tk}(i:∀h',ax h h'->k (.a (.i (Bb t)) h')):aE T (W T) ⟨177⟩ [.p t.fj] h k:=by have f:=i _ (((ah.cg h).am (.a 80 t.fj)));rw[aJ a.t177];unfold Bb at f;by_cases g:¬t.c=6;refine aS Tk.fj.eq_1 g ?_;grind[Tk.fj];by_cases j:t.b=[124,124];simp_all[Tk.fj];by_cases m:t.b=[38,38];simp_all[Tk.fj];by_cases o:t.b=[61,61];simp_all[Tk.fj];by_cases p:t.b=[33,61];simp_all[Tk.fj];by_cases q:t.b=[60];simp_all[Tk.fj];by_cases r:t.b=[60,61];simp_all[Tk.fj];by_cases s:t.b=[62];simp_all[Tk.fj];by_cases u:t.b=[62,61];simp_all[Tk.fj];by_cases v:t.b=[43];simp_all[Tk.fj];by_cases w:t.b=[45];simp_all[Tk.fj];by_cases b:t.b=[42];simp_all[Tk.fj];by_cases d:t.b=[47];simp_all[Tk.fj];by_cases e:t.b=[37];simp_all[Tk.fj];simp_all[Tk.fj]
def Tw(d:aA T){right:List UInt8}(f:c<h.a)
 (e:∀h' a b,ax h h'->h'.ab a=.a 78 [.a c 0]->h'.ab b=.a 9 [S right]->h.a<=a->h.a<=b->k (.a (.r ⟨127⟩ [] [.a a 0,.a b 0]) h')):aE T (W T) ⟨95⟩ [.a c 0,S right] h k:=by
 rw[aJ d.t95];refine ag ?_;exact e _ h.a (h.a+1) aZ aa aa zl zo
theorem Tx(d:aA T)(w:fc l){right:List UInt8}{f i:Nat}(q1:hh.ab f=.a 78 [.a c 0])(q2:hh.ab i=.a 9 [S right])(r:f≠c)(s:i≠c):
 N4 T hh c tb l op hd ⟨127⟩ [.a f 0,.a i 0] (Cu l right):=by
 intro h n k g v q a;have y:=Hp.lt q1 rfl;have z:=Hp.lt q2 rfl;have m:h.ab f=.a 78 [.a c 0]:=by rw[g.f _ y r];omega
 have r2:h.ab i=.a 9 [S right]:=by rw[g.f _ z s];omega
 have y1:=Hp.lt m rfl;have y2:=Hp.lt r2 rfl;rw[aJ d.t127];unfold Cu lR at a;refine aB m ?_;refine Cx d v q (λe u g1 c1=>?_) λe u g1=>?_;have p:=lT w q e;rw[if_pos e] at a;simp[PR.dC] at a;obtain⟨r,j⟩:=bw g1;refine aU j m r2 ?_;refine ke d (c1.am _) p (cY.kw (x:=right) (Hp.bv zm) zl zm) zm λA g2=>?_;obtain⟨s,o⟩:=bH g2;have c2:=(c1.am _).bc g2;cases b:bD (tk l (n+1)) [right] with
 |true=>
  rw[if_pos b] at a;refine bK b o j m ?_;refine Cw d c2 p λB t=>?_;obtain⟨C,b⟩:=bH t;refine ag ?_;exact a _ (fH b o j)
 |false=>
  rw[b] at a;exact aB b (a _ (eF o j) c2 p zo)
 rw[if_neg qaa] at a;exact ag (a _ g1)
def aaz(d:aA T)(j:fc l):N4 T hh c tb l op hd ⟨54⟩ [.a c 0] (mU l):=by intro h n k g i b a;unfold mU jR at a;refine NZ d i b (λe f g1 c1=>?_) λe f g1=>?_;rw[if_pos e] at a;exact a _ g1 c1 (wT j b e zm) zo;rw[if_neg e] at a;exact a _ g1
def pW(T:aM->Option CF)(c tb:Nat)(l:List Tk)(ex:Int->Bool->Int->Nat->PR Tree):Prop:=
 ∀(h:Hp)(n:Nat)(op:Int)(hd:Bool)(a:Int)(k:aK->Prop),0<=op->op<=128->0<=a->bp h c tb l n op hd->n<l.length->lS c tb l op hd h k (ex op hd a n)->aE T (W T) ⟨151⟩ [.a c 0,.i a] h k
def lS.vm{i:Hp}{r:PR Tree}(g:Pg c h i)(f:lS c tb l op hd h k r):lS c tb l op hd i k r:=by
 cases r with
 |c=>exact f
 |d p e=>exact λh' a=>f h' (g.ba a)
 |b t n=>exact λh' row a j nd m o=>f h' row (g.ba a) j (ay.nf (NF.cg _) g.g _ _ nd) m o
theorem dO.ip{lo:Nat}{h:Hp}{ts:List Tree}{v:AV}(x:dO lo h ts v):bQ v=some [v]:=by
 cases ts with
 |nil=>simp_all[dO]
 |cons t ts=>obtain⟨b,cap,ex,r,f,rfl,_⟩:=x;rfl
def ay.gc{lo:Nat}{h:Hp}{t:Tree}{row:List AV}(x:ay lo h t row):
 ∃kv,row=[.i t.bi,.i t.ib,.i t.toz,.i t.at,S t.bj,kv]/\bQ kv=some [kv]/\dO lo h t.fg kv:=by
 cases t;obtain⟨kv,e,x⟩:=x;exact⟨kv,e,x.ip,x⟩
def ay.of{lo:Nat}{h:Hp}{t:Tree}{kv}(x:dO lo h t.fg kv):ay lo h t [.i t.bi,.i t.ib,.i t.toz,.i t.at,S t.bj,kv]:=by cases t;exact⟨kv,rfl,x⟩
@[simp] def Ty{b d:Type}{a:b}{n:Nat}{f:b->Nat->PR d}:(PR.b a n).dC f=f a n:=(rfl)
@[simp] def ahT{a b:Type}{p e:Int}{f:a->Nat->PR b}:(PR.d p e).dC f=.d p e:=(rfl)
def Hi{a:Type}(r:PR a):r.dC .b=r:=by cases r<;>rfl
def NF.g0{lo:Nat}{a b d:Hp}(x:NF lo a b)(g:ax b d):NF lo a d:=x.ba (NF.vm g λ_ _ _=>False.elim)
def NF.gp{lo:Nat}{a b d:Hp}(x:NF lo a b)(g:Pg c b d)(m:c<lo):NF lo a d:=λi r f j e=>by have:=x i r f j e;rw[g.f i (Hp.lt this rfl) zo];omega
def vD{lo b cap r f}{ex:Bool}{t:Tree}(a:h.ab b=.b 61 6 r 0 f)(hr:1<=r)(d:lo<=b)(n0:ay lo h t (f 0)):dO lo h [t] (.c b 0 6 1 cap ex):=by simp only[dO,aEs,axS];exact⟨b,cap,ex,r,f,rfl,a,hr,d,n0⟩
def Tz{lo b cap r f}{ex:Bool}{t u:Tree}(a:h.ab b=.b 61 6 r 0 f)(hr:2<=r)(d:lo<=b)(n0:ay lo h t (f 0))(e:ay lo h u (f 1)):dO lo h [t,u] (.c b 0 6 2 cap ex):=by simp only[dO,aEs,axS];exact⟨b,cap,ex,r,f,rfl,a,hr,d,n0,e⟩
def cU.rc{lo:Nat}{s:Int}{q:Bool}{i:Hp}{o:aK->Prop}{r:PR Tree}{f:Tree->Nat->PR Tree}(j:cU lo c tb l op hd h k (r.dC f))(g:Pg c h i)(w:∀v a,k (.b v a)->o (.b v a))
 (u:∀t m,cU lo c tb l op hd h k (f t m)->∀a row,Pg c i a->bp a c tb l m s q->ay i.a a t row->m<l.length->0<m->o (.a (.p row) a)):lS c tb l s q i o r:=by
 cases r with
 |c=>exact j
 |d p e=>exact λa g2=>w _ _ (j a (g.ba g2))
 |b t m=>exact u t m j
def cU.Hk{lo:Nat}{s:Int}{q:Bool}{i:Hp}{o:aK->Prop}{r:PR (List Tree)}{f:List Tree->Nat->PR Tree}(j:cU lo c tb l op hd h k (r.dC f))(g:Pg c h i)(w:∀v a,k (.b v a)->o (.b v a))
 (u:∀t m,r=.b t m->cU lo c tb l op hd h k (f t m)->∀a kv,Pg c i a->bp a c tb l m s q->m<l.length->0<m->bQ kv=some [kv]->dO i.a a t kv->o (.a kv a)):Et c tb l s q i o r:=by
 cases r with
 |c=>exact j
 |d p e=>exact λa g2=>w _ _ (j a (g.ba g2))
 |b t m=>exact u t m rfl j
def Et.pass{f:Hp}{j:aK->Prop}{r:PR (List Tree)}(i:Et c tb l op hd h k r)(g:Pg c h f)(s:∀v a,k (.b v a)->j (.b v a))
 (q:∀kv a,k (.a kv a)->j (.a kv a)):Et c tb l op hd f j r:=by
 cases r with
 |c=>exact i
 |d p e=>exact λa g2=>s _ _ (i a (g.ba g2))
 |b t m=>exact λa kv g2 c2 o u f w=>q _ _ (i a kv (g.ba g2) c2 o u f (dO.nf (NF.cg _) g.g _ _ w))
theorem bp.ww{x:Nat}{v:AV}{el:Nat}(b:bp h c tb l n op hd)(q:h.ab x=.a el [v]):x≠c:=by obtain⟨⟨cap,ex,b⟩,_⟩:=b;grind
theorem cU.er{lo:Nat}{p e:Int}(a:cU lo c tb l op hd h k (.d p e)){h':Hp}(g:Pg c h h'):k (.b (qD p e) h'):=a h' g
variable {ex:Int->Bool->Int->Nat->PR Tree}
def N9(f:aA T)(E:pW T c tb l ex)(q:0<=op)(r:op<=128):Kn T hh c tb l op hd ⟨174⟩ [.a c 0] (λn=>ex op hd 0 n):=by
 intro h n k g b o a;have a:lS c tb l op hd h k ((ex op hd 0 n).dC .b):=by rw[Hi];omega
 rw[aJ f.t174];have u:=b.lt;have w:=b.qn;refine ag ?_;refine E _ n op hd 0 _ q r (atY 0) (b.am _) o (a.rc aZ (λv e s=>by simp_all) λt m a e row g2 c2 nd j p=>?_);obtain⟨x,d⟩:=bw g2;obtain⟨kv,rfl,i,y⟩:=nd.gc;refine aB d ?_;exact a _ _ (iQ d) (c2.dT _ zo zo) (ay.nf (((NF.cg e).py _ zm)) zm _ _ nd) j p
def aaA(a:aA T)(d:fc l)(E:pW T c tb l ex)(b:bp h c tb l n op hd)(j:n<l.length)(p:0<=op)(q:op<=128){F:Nat}(g:F<8589934592)
 (i:Et c tb l op hd h k (Kj l F ex op n)):aE T (W T) ⟨180⟩ [.a c 0] h k:=by
 rw[aJ a.t180];have o:=b.lt;refine ag ?_;refine Tw a o λt r s g1 q1 q2 u w=>?_;refine ag ?_;have c1:=b.bc g1;exact Kq a d c1 j p q g (λe=>N9 a E zo zo) (λe=>Tx a d q1 q2 (c1.ww q1) (c1.ww q2)) (i.pass g1.mr (λv f m=>by simp_all) λkv f m=>by simp_all)
theorem ahU(f:aA T)(w:fc l)(E:pW T c tb l ex)(H:0<=op)(I:op<=128):Kn T hh c tb l op hd ⟨200⟩ [.a c 0] (Kl l ex op hd):=by
 intro h n k g p u a;rw[aJ f.t200];have L:=p.lt;have M:=p.qn;unfold Kl jR at a;refine ag ?_;refine Eo f (p.am _) u (λe y g1 c1=>?_) λe y g1=>?_;rw[if_pos e] at a;have r:=wT w u e zm;simp[Ty,lR] at a;obtain⟨F,b⟩:=bw g1;refine aB Tk.fj.eq_1 ?_;refine Cx f ((c1.am _).dT _ zo zo) r (λd s g2 c2=>?_) λd s g2=>?_;rw[if_pos d] at a;have D:=lT w r d;obtain⟨G,d⟩:=bw g2;refine ag ?_;refine E _ (n+1+1) op hd 0 _ H I (atY 0) c2 D (a.rc (eF (gp g2) b) (λv s K=>by simp_all) λt m a z row x c3 nd B C=>?_);obtain⟨N,i⟩:=bw x;obtain⟨kv,rfl,A,P⟩:=nd.gc;refine aU i (gp g2) Tk.fj.eq_1 ?_;obtain⟨m,rfl⟩:∃q,m=q+1:=⟨m- 1,by omega⟩;refine gS f (((c3.am _).dT _ zo zo).am _) zo rfl λJ o=>?_;obtain⟨O,j⟩:=bH o;refine bK j i (gp g2) b ?_;refine a _ _ (qB j i (gp g2) b) (((((c3.am _).dT _ zo zo).am _).bc o).dT _ zo zo) ?_ B C;refine ay.of (t:=aV l (m+1) 29 (tk l n).a (tk l n).a (tk l n).b [t]) ?_;exact vD ((Hp.fv zo).trans ((j _ zm).trans (Hp.bv aa))) zl zo
  (by exact ay.nf (((((NF.cg z).am _).ow _ zo).am _).g0 o|>.py _ zo) zo _ _ nd)
 rw[if_neg qaa] at a;refine ag ?_;obtain⟨G,d⟩:=bw g2;exact a.er (eF (gp g2) b);rw[if_neg e] at a;refine ag ?_;obtain⟨F,b⟩:=bw g1;exact a.er (iQ b)
theorem aaB{lo:Nat}{h:Hp}:∀{ts:List Tree}{f:Nat->List AV},aEs lo h ts f->∀j(hj:j<ts.length),ay lo h ts[j] (f j)
 |[],_,_,j,hj=>by grind
 |t::ts,f,a,0,_=>by grind[aEs]
 |t::ts,f,a,j+1,hj=>by exact aaB a.2 j qaa
theorem dO.ph{lo:Nat}{h:Hp}{ts:List Tree}{v:AV}(x:dO lo h ts v)(a:ts≠[]):∃b cap ex r f,v=.c b 0 6 ts.length cap ex/\h.ab b=.b 61 6 r 0 f/\ts.length<=r/\lo<=b/\aEs lo h ts f:=by
 cases ts with
 |nil=>grind
 |cons t ts=>
  grind[dO,aEs]
theorem aaC{lo:Nat}{h:Hp}{t:Tree}{ts:List Tree}{b cap r f}{ex:Bool}(a:h.ab b=.b 61 6 r 0 f)(hr:ts.length+1<=r)(d:lo<=b)(n0:ay lo h t (f 0))(e:aEs lo h ts λj=>f (j+1)):dO lo h (t::ts) (.c b 0 6 (ts.length+1) cap ex):=by simp[dO];grind
theorem aaD(g:aA T)(y:fc l)(E:pW T c tb l ex)(x:bp h c tb l n op hd)(C:n<l.length)(P:0<=op)(Q:op<=128){F:Nat}(L:F<8589934592){lo:Nat}{sZ:Tree}{row:List AV}(nt:ay lo h sZ row)(A:c<lo)(R:lo<=h.a)
 (s:cU lo c tb l op hd h k (Cv l F ex op sZ n)):aE T (W T) ⟨179⟩ [.a c 0,.p row] h k:=by
 rw[aJ g.t179];have hy:=x.qn;obtain⟨kv,rfl,a,nk⟩:=nt.gc;refine ag ?_;refine qC g ((x.am _).am _) C λY g1=>?_;obtain⟨n1,d⟩:=bH g1;refine aB Tk.fj.eq_1 ?_;refine Tw g zo λI U V g2 q1 q2 w1 w2=>?_;obtain⟨n2,e⟩:=bH g2;have c2:=(((x.am _).am _).bc g1).bc g2;refine ag ?_;refine Kq g y c2 C P Q L (λH=>ahU g y E zo zo) (λH=>Tx g y q1 q2 (c2.ww q1) (c2.ww q2)) (s.Hk (eF e d) (λv I Z=>by simp_all) λts m u s J zW w c3 B D S z=>?_);have X:=aat u;obtain⟨n3,i⟩:=bw w;obtain⟨m,rfl⟩:∃q,m=q+1:=⟨m- 1,by omega⟩;by_cases G:ts=[];subst G;subst z;refine bK i e d a ?_;rw[NK (rs:=[]) rfl rfl];refine bK i e d a ?_;refine gS g (c3.am _) zo rfl λK o=>?_;obtain⟨O,p⟩:=bH o;refine cC p i e d a ?_;refine s _ _ (qB p i e d) (((c3.am _).bc o).dT _ zo zo) (ay.of (t:=aV l (m+1) 28 sZ.ib (tk l n).a [] [sZ]) ?_) B D;exact vD ((Hp.fv zo).trans ((p _ zm).trans (Hp.bv aa))) zl zo
  (by exact ay.nf ((((((((NF.cg h).am _).am _).g0 g1).g0 g2).gp w A).am _).g0 o|>.ow _ zo) zl _ _ nt)
 obtain⟨b,cap,ex,r,f,rfl,M,hr,wF,nr⟩:=z.ph G;obtain⟨q,N⟩:∃q,ts.length=q+1:=⟨ts.length- 1,by grind[List.length_pos_iff]⟩;refine bK i e d a ?_;have xb:=Hp.lt M rfl;rw[G2 (n:=q) zo (Hp.bv rfl) (at2 1) (Ke zo (by rw[Hp.jp xb];omega) hr) (by rw[N];rfl) (rV zo zo)];refine bK i e d a ?_;rw[show 1+(q+1)=ts.length+1 from by omega];refine gS g ((c3.am _).am _) zo rfl λK o=>?_;obtain⟨O,p⟩:=bH o;simp(disch:=first|exact bh|fail) [p,i,e,d,jJ];refine s _ _ (qB p i e d) ((((c3.am _).am _).bc o).dT _ zo zo) (ay.of (t:=aV l (m+1) 28 sZ.ib (tk l n).a [] (sZ::ts)) ?_) B D;refine aaC ((Hp.fv zo).trans ((p _ zm).trans (Hp.bv aa))) zl zo ?_ ?_;rw[wO (by simp[dw])];exact ay.nf (((((((((NF.cg h).am _).am _).g0 g1).g0 g2).gp w A).am _).am _).g0 o|>.ow _ zo) zl _ _ nt;refine Kp (f:=f) (λj hj=>?_) (aEs.nf ((((NF.cg J).am _).am _).g0 o|>.py _ zo) zo _ _ nr);rw[wO (by grind[oZ])];simp[dw,dY,dZ,auY,au5,auu];have:=vw f ts.length 0 j hj;grind
end
section
variable {h hh:Hp}{n:Nat}{l:List Tk}{hd:Bool}{k:aK->Prop}
variable {ex:Int->Bool->Int->Nat->PR Tree}
theorem cY.ahW{b r cap ex t}{x y z w v:List UInt8}(a:h.ab b=.b 9 1 r 0 t)(hr:5<=r)(h0:t 0=[S x])(d:t 1=[S y])(e:t 2=[S z])(f:t 3=[S w])(g:t 4=[S v]):cY h (.c b 0 1 5 cap ex) [x,y,z,w,v]:=
 ⟨b,cap,ex,r,t,rfl,a,hr,λj hj=>by grind⟩
def ahX(d:fc l)(a:n<l.length)(b:o7 (tk l n)≠0):n+1<l.length:=by refine d n a λh0=>b ?_;simp[o7,h0]
theorem ahY(f:aA T)(G:fc l)(E:pW T c tb l ex)(P:bp h c tb l n op hd)(C:n<l.length)(o0:0<=op)(o1:op<=128){F:Nat}(hF:F<8589934592)
 (a:lS c tb l op hd h k (Km l F ex op hd n)):aE T (W T) ⟨178⟩ [.a c 0] h k:=by
 rw[aJ f.t178];have hx:=P.lt;have hy:=P.qn;unfold Km at a;refine ag ?_;refine qC f ((P.am _).am _) C λh1 g1=>?_;obtain⟨n1,K⟩:=bH g1;have c1:=((P.am _).am _).bc g1;refine aB Tk.fj.eq_1 ?_;refine ahS f (t:=tk l n) λu g2=>?_;obtain⟨n2,L⟩:=bH g2;have c2:=((c1.am _).dT _ zo zo).bc g2;have q1:u.ab h.a=.a 78 [.a c 0]:=bV L K;have q2:u.ab (h.a+1)=.a 61 [.i 0,.i 0,.i 0,.i 0,S [],.h]:=bV L K;have q3:u.ab h1.a=.a 80 (tk l n).fj:=cX L K Tk.fj.eq_1;have o:Pg c h u:=(eF L K);have Ex:NF h.a h u:=((((((NF.cg h).am _).am _).g0 g1).am _).ow _ zo).g0 g2;have n2':h.a+2<u.a:=zo;by_cases Z:o7 (tk l n)=0
 ·rw[if_neg zo] at a;refine aS Z q1 ?_;refine ke f (c2.am _) C (cY.ahW (x:=[105,110,116]) (y:=[102,108,111,97,116,54,52]) (z:=[108,101,110]) (w:=[112,114,105,110,116]) (v:=[112,97,110,105,99]) (Hp.bv zm) zl zm zm zm zm zm) zm λh3 M=>?_;obtain⟨n3,b⟩:=bH M;have c3:=(c2.am _).bc M;cases e:bD (tk l n) [[105,110,116],[102,108,111,97,116,54,52],[108,101,110],[112,114,105,110,116],[112,97,110,105,99]] with
  |true=>
   rw[if_pos e] at a;have r:=lT G C e;refine aU e b q1 ?_;refine vB f c3 C λN j B=>?_;obtain⟨R,d⟩:=bw j;refine aU d b q1 ?_;refine aaA f G E B r o0 o1 hF (a.Hk (fH d b (gp o)) (λv u hv=>by simp_all) λts m jh a I kv s H D Q A nk=>?_);obtain⟨m,rfl⟩:∃q,m=q+1:=⟨m- 1,by omega⟩;obtain⟨n5,g⟩:=bw s;refine cq g d b q1 q3 Tk.fj.eq_1 ?_;refine gS f H zo A λO g6=>?_;obtain⟨n6,p⟩:=bH g6;refine cq p g d b q2 A ?_;exact a _ _ (Ei p g d b (gp o)) ((H.bc g6).dT _ zo zo) (ay.of (t:=aV l (m+1) 32 (tk l n).a (tk l n).a (tk l n).b ts) (dO.nf (((NF.cg I).g0 g6).py _ zo) zo _ _ nk)) D Q
  |false=>
   rw[e] at a;simp at a;refine aU e b q1 ?_;unfold NX at a;refine Ts f G (c3.am _) C o0 o1 (left:=[40]) (right:=[41]) (λe X h' J=>?_) (λe h' J=>?_) (λe X N j B=>?_)
   ·rw[if_pos e,if_pos X] at a;have n':=J.g;have U:=gp J;try simp only[Hp.ii] at n'
    refine ag ?_;exact a.er (fH U b (gp o))
   ·rw[if_neg qaa] at a;have n':=J.g;have U:=gp J;try simp only[Hp.ii] at n'
    refine ag ?_;exact a.er (fH U b (gp o))
   rw[if_pos e,if_neg X] at a;obtain⟨R,d⟩:=bw j;have r:=lT G C e;rw[aJ f.t199];refine aU d b q1 ?_;refine E _ (n+1) (op+1) false 0 _ zo zo (atY 0) B r (a.rc (fH d b (gp o)) (λv u hv=>by simp_all[WK]) λt m a I row s H nd D Q=>?_);obtain⟨n5,g⟩:=bw s;obtain⟨kv,rfl,A,nk⟩:=nd.gc;simp(disch:=first|exact bh|fail) [g,d,WK];refine⟨m,D,H.dT _ zo zo,λey O g6 c6=>?_,λen O g6=>?_⟩;rw[if_pos ey] at a;obtain⟨n6,p⟩:=bw g6;have a:=a;refine iR p g d b q1 q3 Tk.fj.eq_1 ?_;refine gS f (c6.am _) D rfl λh7 Y=>?_;obtain⟨n7,V⟩:=bH Y;refine cq V p g d b q2 ?_;refine a _ _ (zp6 V p g d b (gp o)) (((c6.am _).bc Y).dT _ zo zo) (ay.of (t:=aV l (m+1) 33 (tk l n).a (tk l n).a [] [t]) ?_) (lT G D ey) zo;exact vD ((Hp.fv zo).trans ((V _ zm).trans (Hp.bv aa))) zl zo
    (by exact ay.nf (((((NF.cg I).py _ zo).gp g6 zo).am _).g0 Y|>.py _ zo) zo _ _ nd)
   rw[if_neg qaa] at a;obtain⟨n6,p⟩:=bw g6;exact a.er (Ei p g d b (gp o))
 rw[if_pos zo] at a;have r:=ahX G C Z;refine aS Z q1 ?_;refine vB f c2 C λh3 M c3=>?_;obtain⟨n3,b⟩:=bw M;obtain⟨⟨cap,Ey,q4⟩,_⟩:=id c3;have sK:cU h.a c tb l op hd h k (.b (aV l (n+1) (o7 (tk l n)) (tk l n).a (tk l n).a (tk l n).b []) (n+1))\/(o7 (tk l n)=25/\hd=false/\bD (tk l (n+1)) [[123]]=true):=by grind
 by_cases i:o7 (tk l n)=25;cases hd with
 |true=>
  have a:=sK.resolve_right zm;rw[i] at a;refine cq i b q1 q3 q4 Tk.fj.eq_1 ?_;refine gS f c3 zo rfl λN j=>?_;obtain⟨R,d⟩:=bH j;refine aU d b q2 ?_;exact a _ _ (fH d b (gp o)) ((c3.bc j).dT _ zo zo) (ay.of (t:=aV l (n+1) 25 (tk l n).a (tk l n).a (tk l n).b []) rfl) r zo
 |false=>
  refine cq i b q1 q3 q4 Tk.fj.eq_1 ?_;refine ke f (c3.am _) r (cY.kw (x:=[123]) (Hp.bv zm) zl zm) zm λN j=>?_;obtain⟨R,d⟩:=bH j;have B:=(c3.am _).bc j;cases e:bD (tk l (n+1)) [[123]] with
  |true=>
   rw[if_pos ⟨i,rfl,e⟩] at a;refine cq e d b q1 q3 Tk.fj.eq_1 ?_;refine gS f B zo rfl λI s=>?_;obtain⟨n5,g⟩:=bH s;have H:=B.bc s;refine cq g d b q1 q3 Tk.fj.eq_1 ?_;rw[<-Hi (Cv l F ex op _ _)] at a;refine aaD f G E H r o0 o1 hF (lo:=I.a) (sZ:=aV l (n+1) 8 (tk l n).a (tk l n).a (tk l n).b []) (ay.of rfl) zo zl (a.rc (qB g d b (gp o)) (λv u hv=>by simp_all) λt m a O row g6 c6 nd D Q=>?_);obtain⟨n6,p⟩:=bw g6;obtain⟨kv,rfl,A,nk⟩:=nd.gc;refine cC p g d b q2 ?_;exact a _ _ (Ei p g d b (gp o)) (c6.dT _ zo zo) (ay.nf ((NF.cg O).py _ zo) zo _ _ nd) D Q
  |false=>
   have a:=sK.resolve_right qaa;rw[i] at a;refine cq e d b q1 q3 Tk.fj.eq_1 ?_;refine gS f B zo rfl λI s=>?_;obtain⟨n5,g⟩:=bH s;refine bK g d b q2 ?_;exact a _ _ (qB g d b (gp o)) ((B.bc s).dT _ zo zo) (ay.of (t:=aV l (n+1) 25 (tk l n).a (tk l n).a (tk l n).b []) rfl) r zo
 have a:=sK.resolve_right zo;refine cC i b q1 q3 Tk.fj.eq_1 ?_;refine gS f c3 zo rfl λN j=>?_;obtain⟨R,d⟩:=bH j;refine aU d b q2 ?_;exact a _ _ (fH d b (gp o)) ((c3.bc j).dT _ zo zo) (ay.of (t:=aV l (n+1) (o7 (tk l n)) (tk l n).a (tk l n).a (tk l n).b []) rfl) r zo
end
@[simp ↓] def asp{b:Bool}{x y:Prop}:rU undef b x y=y:=(rfl)
section
variable {h hh:Hp}{n:Nat}{l:List Tk}{hd:Bool}{k:aK->Prop}
variable {ex:Int->Bool->Int->Nat->PR Tree}
def cU.Oa{lo u:Nat}{s:Int}{q:Bool}{i:Hp}{o:aK->Prop}{r:PR Tree}{f:Tree->Nat->PR Tree}(j:cU lo c tb l op hd h k (r.dC f))(g:Pg c h i)(x:∀v a,k (.b v a)->o (.b v a))
 (w:∀t m,cU lo c tb l op hd h k (f t m)->∀a row,Pg c i a->bp a c tb l m s q->ay u a t row->m<l.length->0<m->o (.a (.p row) a)):cU u c tb l s q i o r:=by
 cases r with
 |c=>exact j
 |d p e=>exact λa g2=>x _ _ (j a (g.ba g2))
 |b t m=>exact w t m j
theorem Kr(u:aA T)(N:fc l)(E:pW T c tb l ex)(o0:0<=op)(o1:op<=128){F:Nat}(Y:F<8589934592){xb rb:Nat}(O:c<hh.a)(Hl:hh.a<=xb)(Ho:hh.a<=rb)(Hq:xb≠rb):∀(g n:Nat)(h:Hp)(x:Tree)(row:List AV)(f:Fr),
 Pg c hh h->bp h c tb l n op hd->n<l.length->0<n->h.ab xb=.a 61 row->ay hh.a h x row->h.ab rb=.a 61 [.i 0,.i 0,.i 0,.i 0,S [],.h]->
 an 0 f=.a c 0->an 2 f=.a rb 0->an 3 f=.a xb 0->cU hh.a c tb l op hd hh k (ye l F ex op hd g x n)->
 W T (.d l152_0) f h [] (bY 0 (finish T (W T) [.b 6 true 2] k))
 |0,_,_,_,_,_,_,_,_,_,_,_,_,_,_,_,a=>a.elim
 |g+1,n,h,x,row,f,gg,Z,R,hz,C,nd,hr,f0,d,f3,a=>by
  obtain⟨kv,rfl,I,nk⟩:=nd.gc;have hcx:=Z.lt;have hcy:=Z.qn;have zt:xb≠tb:=by rintro rfl;obtain⟨_,⟨r,t,ht,_⟩,_⟩:=Z;grind
  have zr:rb≠tb:=by rintro rfl;obtain⟨_,⟨r,t,ht,_⟩,_⟩:=Z;grind
  have y1:=Hp.lt C rfl;have y2:=Hp.lt hr rfl;rw[aP];show W T (.m 1 (.m 2 (.f (.g (z q152 2)) (.i (.t 11) (.f (.g (z q152 3)) (.f (.g (z q152 4)) (.f (.g r152_5) (.f (.f (.g (z q152 6)) (.i (.t 33) (.g r152_7) .j)) (.f (.g (z q152 8)) (.f (.g (z q152 9)) (.i (.t 46) (.g (z q152 10)) .j))))))) (.f (.g (z q152 11)) (.i (.t 50) (.f (.g (z q152 12)) (.f (.g (z q152 13)) (.h r152_14))) (.f (.g (z q152 15)) .k))))))) f h [] _;generalize Hh:CC.f (.g (z q152 8)) (.f (.g (z q152 9)) (.i (.t 46) (.g (z q152 10)) .j))=TC;have tail:∀(H:Hp)(f:Fr)(t4:Nat)(q:Int),Pg c h H->bp H c tb l (n+1+1) op hd->n+1+1<l.length->h.a<=t4->H.ab t4=.a 80 (tk l (n+1)).fj->an 0 f=.a c 0->an 2 f=.a rb 0->an 3 f=.a xb 0->an 4 f=.a t4 0->an 5 f=.i q->
   (q=26/\cU hh.a c tb l op hd hh k (ye l F ex op hd g (aV l (n+1+1) 26 x.ib (tk l (n+1)).a (tk l (n+1)).b [x]) (n+1+1))\/
    q=9/\cU hh.a c tb l op hd hh k ((Cv l F ex op (aV l (n+1+1) 9 x.ib (tk l (n+1)).a (tk l (n+1)).b [x]) (n+1+1)).dC λy o=>ye l F ex op hd g y o))->
   W T TC f H [] (bY 2 (bY 1 (bF (W T (.d l152_0)) (bY 0 (finish T (W T) [.b 6 true 2] k))))):=by
   intro H f t4 q gH cH hm ht Hr f0 d f3 f4 f5 a;have B:=gp gH;have nH:=gH.g;subst Hh;rcases a with⟨rfl,a⟩|⟨rfl,a⟩;refine mz f0 d f3 f4 f5 B C Hr Tk.fj.eq_1 ?_;refine gS u (cH.am _) zo rfl λh1 g1=>?_;obtain⟨n1,i⟩:=bH g1;have mV:h1.ab xb=.a 61 [.i x.bi,.i x.ib,.i x.toz,.i x.at,S x.bj,kv]:=cX i B C;refine nA f0 d f3 f4 f5 i B C Hr Tk.fj.eq_1 ?_;refine Kr u N E o0 o1 Y O Hl Ho Hq g (n+1+1) _ (aV l (n+1+1) 26 x.ib (tk l (n+1)).a (tk l (n+1)).b [x]) _ _ (fH i B (gp gg)) (((cH.am _).bc g1).dT _ zo zo) hm zo (Hp.fp rfl) (ay.of (t:=aV l (n+1+1) 26 x.ib (tk l (n+1)).a (tk l (n+1)).b [x]) ?_)
    (cX i B hr) zA zA zA a
   exact vD ((Hp.fv zo).trans ((i _ zm).trans (Hp.bv aa))) zl zo
    qao
   refine mz f0 d f3 f4 f5 B C Hr Tk.fj.eq_1 ?_;refine gS u (cH.am _) zo rfl λh1 g1=>?_;obtain⟨n1,i⟩:=bH g1;have mV:h1.ab xb=.a 61 [.i x.bi,.i x.ib,.i x.toz,.i x.at,S x.bj,kv]:=cX i B C;refine nA f0 d f3 f4 f5 i B C Hr Tk.fj.eq_1 ?_;have key:ay hh.a (h1.dT xb (.a 61 [.i 9,.i x.ib,.i (tk l (n+1)).d,.i (tk l (n+1)).a,S (tk l (n+1)).b,.c H.a 0 6 1 1 true])) (aV l (n+1+1) 9 x.ib (tk l (n+1)).a (tk l (n+1)).b [x]) [.i 9,.i x.ib,.i (tk l (n+1)).d,.i (tk l (n+1)).a,S (tk l (n+1)).b,.c H.a 0 6 1 1 true]:=by
    refine ay.of (t:=aV l (n+1+1) 9 x.ib (tk l (n+1)).a (tk l (n+1)).b [x]) ?_;exact vD ((Hp.fv zo).trans ((i _ zm).trans (Hp.bv aa))) zl zo
     qao
   refine aaD u N E (((cH.am _).bc g1).dT _ zo zo) hm o0 o1 Y key O qal (a.Oa (fH i B (gp gg)) (λv A hv=>by simp_all) λt m a A row g2 c2 cZ Hg Bd=>?_);obtain⟨n2,s⟩:=bw g2;have J:A.ab xb=.a 61 [.i 9,.i x.ib,.i (tk l (n+1)).d,.i (tk l (n+1)).a,S (tk l (n+1)).b,.c H.a 0 6 1 1 true]:=au s;obtain⟨zX,rfl,wW,Ob⟩:=cZ.gc;refine cq f0 d f3 s i B ?_;exact Kr u N E o0 o1 Y O Hl Ho Hq g m _ t _ _ (qB s i B (gp gg)) (c2.dT _ zo zo) Hg Bd (Hp.fp rfl) (ay.nf ((NF.cg A).dT _ J) zo _ _ cZ)
    (mw s i B hr) zA zA zA a
  unfold ye at a;refine cC f0 d f3 C hr ?_;refine ke u (Z.am _) R (cY.kw (x:=[46]) (Hp.bv zm) zl zm) zm λh1 g1=>?_;obtain⟨n1,i⟩:=bH g1;have c1:=(Z.am _).bc g1;cases e:bD (tk l n) [[46]] with
  |true=>
   rw[if_pos e] at a;have cV:=lT N R e;refine bK e f0 d f3 ?_;refine vB u c1 R λA g2 c2=>?_;obtain⟨n2,s⟩:=bw g2;refine aU f0 d f3 ?_;refine Eo u c2 cV (λek X Q c3=>?_) λek X Q=>?_;simp[jR,if_pos ek,Ty] at a;have jB:=wT N cV ek zm;obtain⟨n3,w⟩:=bw Q;by_cases p:x.bi=25;cases hd with
   |true=>
    rw[if_neg zm] at a;obtain⟨⟨cap,Ey,q4⟩,_⟩:=id c3;refine nA f0 d f3 w s i C p q4 Tk.fj.eq_1 ?_;exact tail _ _ X.a 26 (fH w s i) ((c3.am _).dT _ zo zo) jB zo (Hp.fp rfl) zA zA zA aa aa (.inl ⟨rfl,a⟩)
   |false=>
    obtain⟨⟨cap,Ey,q4⟩,_⟩:=id c3;refine nA f0 d f3 w s i C p q4 Tk.fj.eq_1 ?_;refine ke u (((c3.am _).dT _ zo zo).am _) jB (cY.kw (x:=[123]) (Hp.bv zm) zl zm) zm λM g4=>?_;obtain⟨n4,K⟩:=bH g4;have P:=(((c3.am _).dT _ zo zo).am _).bc g4;cases eb:bD (tk l (n+1+1)) [[123]] with
    |true=>
     rw[if_pos ⟨p,rfl,eb⟩] at a;refine aB eb ?_;exact tail _ _ X.a 9 (qB K w s i) P jB zo (by refine aB K ?_;rfl) zA zA zA aa aa (.inr ⟨rfl,a⟩)
    |false=>
     rw[if_neg qaa] at a;refine aB eb ?_;exact tail _ _ X.a 26 (qB K w s i) P jB zo (by refine aB K ?_;rfl) zA zA zA aa aa (.inl ⟨rfl,a⟩)
   rw[if_neg zo] at a;refine mz f0 d f3 w s i C p Tk.fj.eq_1 ?_;exact tail _ _ X.a 26 (fH w s i) ((c3.am _).dT _ zo zo) jB zo (Hp.fp rfl) zA zA zA aa aa (.inl ⟨rfl,a⟩);simp[jR,if_neg ek,ahT] at a;obtain⟨n3,w⟩:=bw Q;refine ag ?_;exact a.er (qB w s i (gp gg))
  |false=>
   rw[if_neg qaa] at a;refine bK e f0 d f3 ?_;refine ke u (c1.am _) R (cY.kw (x:=[40]) (Hp.bv zm) zl zm) zm λA g2=>?_;obtain⟨n2,s⟩:=bH g2;have c2:=(c1.am _).bc g2;have lU:A.ab rb=.a 61 [.i 0,.i 0,.i 0,.i 0,S [],.h]:=cX s i hr;have J:A.ab xb=.a 61 [.i x.bi,.i x.ib,.i x.toz,.i x.at,S x.bj,kv]:=cX s i C;have gv:Pg c hh A:=(fH s i (gp gg));have cZ:ay hh.a A x [.i x.bi,.i x.ib,.i x.toz,.i x.at,S x.bj,kv]:=ay.nf (((((NF.cg h).am _).g0 g1).am _).g0 g2) zo _ _ nd;have b8:∀f:Fr,an 2 f=.a rb 0->an 3 f=.a xb 0->cU hh.a c tb l op hd hh k (.b x n)->W T (.f (.g (z q152 15)) .k) f A [] (bY 2 (bY 1 (bF (W T (.d l152_0)) (bY 0 (finish T (W T) [.b 6 true 2] k))))):=by intro f d f3 a;exact bK d f3 J lU (a _ _ (iQ (gp gv)) (c2.dT _ zo zo) (ay.nf ((NF.cg A).dT _ lU) zo _ _ cZ) R hz)
   generalize hFC:CC.f (.g (z q152 15)) .k=FC at b8;cases ep:bD (tk l n) [[40]] with
   |false=>
    simp_all
   |true=>
    have call:∀f:Fr,an 0 f=.a c 0->an 2 f=.a rb 0->an 3 f=.a xb 0->cU hh.a c tb l op hd hh k ((Kj l F ex op n).dC λts m=>ye l F ex op hd g (aV l m 27 x.ib (tk l n).a [] (x::ts)) m)->
     W T (.f (.g (z q152 12)) (.f (.g (z q152 13)) (.h r152_14))) f A [] (bY 2 (bY 1 (bF (W T (.d l152_0)) (bY 0 (finish T (W T) [.b 6 true 2] k))))):=by
     intro f f0 d f3 a;refine bK f0 d f3 J ?_;refine qC u c2 R λX Q=>?_;obtain⟨n3,w⟩:=bH Q;have c3:=c2.bc Q;refine cq f0 d f3 w J Tk.fj.eq_1 ?_;refine aaA u N E c3 R o0 o1 Y (a.Hk (eF w (gp gv)) (λv A hv=>by simp_all) λts m jh a M Ez g4 P hm hz zY zZ=>?_);have bz:=aat jh;obtain⟨n4,K⟩:=bw g4;obtain⟨m,rfl⟩:∃q,m=q+1:=⟨m- 1,by omega⟩;have V:M.ab xb=.a 61 [.i x.bi,.i x.ib,.i x.toz,.i x.at,S x.bj,kv]:=cX K w J;have CE:M.ab rb=.a 61 [.i 0,.i 0,.i 0,.i 0,S [],.h]:=cX K w lU;have uh:Pg c hh M:=(fH K w (gp gv));have rW:ay hh.a M x [.i x.bi,.i x.ib,.i x.toz,.i x.at,S x.bj,kv]:=ay.nf (((NF.cg A).g0 Q).gp g4 O) zl _ _ cZ;by_cases jh:ts=[];subst jh;subst zZ;refine cC f0 d f3 V I ?_;rw[NK (rs:=[]) rfl rfl];refine cC f0 d f3 V I ?_;refine gS u (P.am _) zo rfl λh5 L=>?_;obtain⟨n5,G⟩:=bH L;have U:h5.ab xb=.a 61 [.i x.bi,.i x.ib,.i x.toz,.i x.at,S x.bj,kv]:=bV G V;refine bK f0 d f3 U ?_;refine Kr u N E o0 o1 Y O Hl Ho Hq g (m+1) _ (aV l (m+1) 27 x.ib (tk l n).a [] [x]) _ _ (eF G (gp uh)) (((P.am _).bc L).dT _ zo zo) hm zo (Hp.fp rfl) (ay.of (t:=aV l (m+1) 27 x.ib (tk l n).a [] [x]) ?_)
      (bV G CE) zA zA zA a
     exact vD ((Hp.fv zo).trans ((G _ zm).trans (Hp.bv aa))) zl zo
      (by exact ay.nf ((((NF.cg M).am _).g0 L).dT _ U) zo _ _ rW)
     obtain⟨b,cap,Hf,r,fr,rfl,hb,Bg,wF,nr⟩:=zZ.ph jh;obtain⟨q,hq⟩:∃q,ts.length=q+1:=⟨ts.length- 1,by grind[List.length_pos_iff]⟩;refine cC f0 d f3 V I ?_;have xb':=Hp.lt hb rfl;rw[G2 (n:=q) zo (Hp.bv rfl) (at2 1) (Ke zo (by rw[Hp.jp xb'];exact hb) Bg) (by rw[hq];rfl) (rV zo zo)];refine cC f0 d f3 V I ?_;rw[show 1+(q+1)=ts.length+1 from by omega];refine gS u ((P.am _).am _) zo rfl λh5 L=>?_;obtain⟨n5,G⟩:=bH L;have U:h5.ab xb=.a 61 [.i x.bi,.i x.ib,.i x.toz,.i x.at,S x.bj,kv]:=bV G V;refine bK f0 d f3 U ?_;refine Kr u N E o0 o1 Y O Hl Ho Hq g (m+1) _ (aV l (m+1) 27 x.ib (tk l n).a [] (x::ts)) _ _ (eF G (gp uh)) ((((P.am _).am _).bc L).dT _ zo zo) hm zo (Hp.fp rfl) (ay.of (t:=aV l (m+1) 27 x.ib (tk l n).a [] (x::ts)) ?_)
      (bV G CE) zA zA zA a
     refine aaC ((Hp.fv zo).trans ((G _ (by simp only[Hp.ii];omega)).trans (Hp.bv aa))) zl zo ?_ ?_;rw[wO (by simp[dw])];simp only[dw,dY,dZ,auo,auY,aus];exact ay.nf (((((NF.cg M).am _).am _).g0 L).dT _ U) zo _ _ rW;refine Kp (f:=fr) (λj hj=>?_) (aEs.nf (((((NF.cg M).am _).am _).g0 L).dT _ U) zo _ _ nr);have pO:j<(dw fr ts.length 0).length:=by rw[oZ];exact hj
     rw[wO (by simp[dw,oZ];omega)];simp only[dw,dY,dZ,auo,auY,au5,auu];have:=vw fr ts.length 0 j hj;rw[atT pO] at this;simpa using this
    generalize hPC:CC.f (.g (z q152 12)) (.f (.g (z q152 13)) (.h r152_14))=PC at call;by_cases p:x.bi=25;rw[if_pos ⟨ep,.inl p⟩] at a;refine cq ep f0 d f3 J p ?_;exact call _ zA zA zA a;by_cases D:x.bi=26;rw[if_pos ⟨ep,.inr D⟩] at a;refine cq ep f0 d f3 J D ?_;exact call _ zA zA zA a;rw[if_neg (by simp[p,D])] at a;refine iR ep f0 d f3 J p D ?_;exact b8 _ zA zA a
end
end Yv
