/- A part of the proof of 'ScopeOwnUptoCardSaid'. No condition. -/
import Derived.Test.YtpllhjebgjcigaaGreatDoorX02
import Derived.MapKept
import Derived.ChangeKeysEq
import Derived.WideLaws
import Derived.Maps.RangeRun
import Derived.Deep.DeepAppendWide
import Derived.Laws.BytesString
import Derived.RangeFuncLeaves
import Derived.OrdersIn
import Derived.RecoverIn
import Derived.Scope
set_option maxHeartbeats 16000000
set_option maxRecDepth 100000
set_option linter.all false
namespace Yv
open Go
section
variable{P:Program}{φ:aH}{h:Hp}{w:World}{f:Fr}{a:Act}{o:Oper}
theorem YG{α β:Type}(F:α->Option β):∀l:List α,iJ F l=l.mapM F
 |[]=>rfl
 |x::l=>by simp only[iJ,YG F l,List.mapM_cons];cases F x<;>cases l.mapM F<;>rfl
theorem afW{fs:List Field}{pl:List (Nat×Nat)}(hm:iJ (λf:Field=>match fI P f.type with|some n=>some (f.offset,n)|none=>none) fs=some pl):
 fs.mapM (λf=>(P.info? f.type).map λi=>(f.offset,i.size))=some pl:=by
 rw[YG] at hm;rw[<-hm];congr 1;funext f;unfold fI;cases P.info? f.type<;>rfl
theorem YH{t:TypeId}{kG:Array (Nat×Value)}{cells:Array Value}{s:Sem Value}(hs:s=Instr.build t kG)(hb:P.built t kG.toList=some cells):s.run P w=.ok (.agg cells) w:=by rw[hs];exact run_build w t kG cells hb
theorem afX(G:jq φ P)(hf:iq φ f a.tmps){t:TypeId}{kG:Array (Nat×Operand)}(ho:o.op=.build t kG):Good P φ h w f a o (Gb P t kG.toList):=by
 have jz:execOp a.eval o=(do pure (.value (<-Instr.build t (kG.map λ(i,x)=>(i,a.eval x))))):=by unfold execOp;rw[ho]
 have hl:(kG.map λ(i,x)=>(i,a.eval x)).toList=kG.toList.map λq=>(q.1,a.eval q.2):=by simp
 unfold Gb;split;rename_i fs z hu hz;split;rename_i pl GJ;split;rename_i cs oW;refine iO jz ?_;simp only[aQ,FY];split;rename_i l' fV;obtain⟨i,v,hi,hv,tY⟩:=GH hz;have hd:=tY φ;simp only[aj] at hd;obtain⟨zs,rfl,iu,lN⟩:=hd;have pk:=Sq (φ:=φ) (get:=λx=>x.get f) (zK:=(pl.toArray[·]?)) (ev:=a.eval) (λq c hq=>by split at hq;rename_i g x hg hx;simp only[atU] at hq;subst hq;exact⟨by simpa using hg,Gv G hf hx⟩;cases hq) oW
 obtain⟨mo,f1,f2,f3⟩:=So pk fV iu lN;refine⟨.agg mo,YH rfl ?_,by simp only[aj];exact⟨_,rfl,f2,f3⟩⟩;unfold Program.built;simp only[hi,hu,hv,afW GJ,hl,Value.cells];exact f1;trivial;exact cy;exact cy;rename_i n e z hu hz;split;rename_i s hs;split;rename_i cs oW;refine iO jz ?_;simp only[aQ,FY];split;rename_i l' fV;obtain⟨i,v,hi,hv,tY⟩:=GH hz;have hd:=tY φ;simp only[aj] at hd;obtain⟨zs,rfl,iu,lN⟩:=hd;obtain⟨ie,hie,rfl⟩:=R7 hs;have pk:=Sq (φ:=φ) (get:=λx=>x.get f) (zK:=λi=>some (i*ie.size,ie.size)) (ev:=a.eval) (λq c hq=>by split at hq;rename_i x hx;simp only[atU] at hq;subst hq;exact⟨rfl,Gv G hf hx⟩;cases hq) oW
 obtain⟨mo,f1,f2,f3⟩:=So pk fV iu lN;refine⟨.agg mo,YH rfl ?_,by simp only[aj];exact⟨_,rfl,f2,f3⟩⟩;unfold Program.built;simp only[hi,hu,hv,hie,hl,Value.cells];exact f1;trivial;exact cy;exact cy;exact cy
def xW(φ:aH)(rw len:Nat)(t:N3 (List AV))(aO:Array Value):Prop:=
 aO.size=len*rw/\(∀k,k<len->(dY t k).length=rw)/\(∀k j,k<len->j<rw->∀x,(dY t k)[j]? =some x->∃v,aO[k*rw+j]? =some v/\aj φ x v)/\∀(j:Nat)(v:Value),aO[j]? =some v->v.oneCell'=true
theorem xW.gq{rw len:Nat}{t:N3 (List AV)}{aO:Array Value}{n:Nat}{el:Nat}(dX:0<rw)(bz:len<=1152921504606846976)(hk:xW (φ.put n w.heap.size 0 (len*rw)) rw len t aO):
 kM (φ.put n w.heap.size 0 (len*rw)) (w.alloc (.cells aO el)) n (.rows el rw len 0 t):=by
 obtain⟨h1,h2,h3,h4⟩:=hk;rw[<-h1] at h3⊢;refine JR (o':=.rows el rw len 0 t) ⟨dX,bz,h2⟩ rfl ⟨by simp only[AO.count];omega,λh=>by cases h⟩ (λj x hx=>?_) h4;simp only[AO.cell] at hx;split at hx;rename_i hj;obtain⟨v,hv,hd⟩:=h3 (j/rw) (j% rw) (auw qap) (avn _ dX) x hx;exact⟨v,by rw[<-hv,zx],hd⟩;cases hx
theorem YI(r:List AV):∀(n k:Nat)(t:N3 (List AV)),k+n<=1152921504606846976->∀j,j<1152921504606846976->dY (qm r n k t) j=if k<=j/\j<k+n then r else dY t j
 |0,k,t,_,j,_=>by rw[atS zo];rfl
 |n+1,k,t,hk,j,hj=>by
  simp only[qm];rw[YI r n (k+1) _ zo j hj,Gr t k j r zo hj]
  by_cases h1:j=k
  subst h1;rw[atS zo,atV rfl,atV zo];rw[atS h1]
  by_cases h2:k+1<=j/\j<k+1+n
  rw[atV h2,atV zo];rw[atS h2,atS zo]
theorem afY{z:Array Value}{n j:Nat}(hj:j<n):((Array.range n).map (z[·% z.size]!))[j]? =some z[j% z.size]! :=by simp[hj]
theorem YJ{r:List AV}{z:Array Value}{rw len:Nat}(dX:0<rw)(bz:len<=1152921504606846976)(hd:cz φ r z.toList)(h1:∀v∈z.toList,v.oneCell'=true) (hr:r.length=rw) {aO:Array Value}
 (ha:aO=(Array.range (len*rw)).map (z[·% z.size]!)):xW φ rw len (qm r len 0 fG) aO:=by
 have hz:z.size=rw:=by have:=tP hd;simp at this;omega
 have key:∀k,k<len->dY (qm r len 0 fG) k=r:=λk hk=>by rw[YI r len 0 _ zo k zo,atV zo]
 have ij:∀j,j<len*rw->∃v,z[j% rw]? =some v/\aO[j]? =some v:=λj hj=>by
  have hm:j% rw<z.size:=by rw[hz];exact avn _ dX
  refine⟨z[j% rw],au7 hm,?_⟩;rw[ha,afY hj,hz,axe z _ hm]
 refine⟨by rw[ha];simp,λk hk=>by rw[key k hk];exact hr,λk j hk hj x hx=>?_,λj v hv=>?_⟩;rw[key k hk] at hx;obtain⟨v,hv,qw⟩:=tQ hd _ _ hx;obtain⟨v',tV,Nc⟩:=ij (k*rw+j) (AW hk hj);rw[auB,awG,avy hj,<-at5,hv] at tV;cases tV;exact⟨v,Nc,qw⟩;have hj:j<len*rw:=by have:=(auc.1 hv).1;rw[ha] at this;simpa using this
 obtain⟨v',tV,Nc⟩:=ij j hj;rw[hv] at Nc;cases Nc;exact h1 v (aua (by rw[at5];exact tV))
theorem xW.mono{ψ:aH}(le:φ.le ψ){rw len:Nat}{t:N3 (List AV)}{aO:Array Value}(h:xW φ rw len t aO):xW ψ rw len t aO:=
 ⟨h.1,h.2.1,λk j hk hj x hx=>by obtain⟨v,hv,hd⟩:=h.2.2.1 k j hk hj x hx;exact⟨v,hv,nS le _ _ hd⟩,h.2.2.2⟩
theorem GK{s:Sem Value}{o':AO}{k:Nat->AV}{gq:Obj}{v:Value}{z:Nat}(r:R φ h w)(cS:s.run P w=.ok v (w.alloc gq))(hl:dH o'=true)
 (DQ:φ.le (φ.put h.nx w.heap.size 0 z)->kM (φ.put h.nx w.heap.size 0 z) (w.alloc gq) h.nx o') (k8:(φ.put h.nx w.heap.size 0 z).dom h.nx->φ.le (φ.put h.nx w.heap.size 0 z)->aj (φ.put h.nx w.heap.size 0 z) (k h.nx) v):k6 P φ h w s (alloc h o' k):=by
 by_cases hn:jN (h.get h.nx)=true
 have dB:¬φ.dom h.nx:=λd=>by rw[(r.dom _).1 d] at hn;cases hn
 exact Sj r cS hl (DQ (aH.Ca dB)) k8;exact absurd h.fresh hn
def GL(φ:aH)(get:CX->AV):List (Nat×CX)->List (Nat×Value)->Prop
 |[],[]=>True
 |(i,x)::r,(j,v)::s=>i=j/\aj φ (get x) v/\GL φ get r s
 |_,_=>False
theorem YK{get:CX->AV}{rw len:Nat}(bz:len<=1152921504606846976):∀{cs:List (Nat×CX)}{ps:List (Nat×Value)}{t t':N3 (List AV)}{aO:Array Value},GL φ get cs ps->wg rw len get cs t=some t'->
 xW φ rw len t aO->∃mo,Instr.fill (λi=>some (i*rw,rw)) aO ps=some mo/\xW φ rw len t' mo
 |[],[],t,t',aO,_,hf,hk=>by simp only[wg,atU] at hf;subst hf;exact⟨aO,rfl,hk⟩
 |(i,x)::r,(j,v)::s,t,t',aO,⟨hp,hx,hr⟩,hf,hk=>by
  subst hp;simp only[wg] at hf;split at hf;rename_i c hc;obtain⟨hn,hf⟩:=qt hf;simp only[atW,beq_iff,je,tR,AX] at hn;obtain⟨hn,hi⟩:=hn;obtain⟨JT,Sp⟩:=GI hc hx;have nT:=tP JT;simp only[avc] at nT;obtain⟨k1,k2,k3,k4⟩:=hk;have hm:i*rw+rw<=len*rw:=by have:=at4 rw (show i+1<=len from hi);rwa[auC,avz] at this
  obtain⟨p1,p2⟩:=YF v aO (i*rw) zo;unfold Instr.fill;simp only;rw[atS zn];refine YK bz hr hf ⟨by rw[p1,k1],λk hk=>?_,λk j hk hj y hy=>?_,λj u hu=>?_⟩;rw[Gr t i k c zo zo];split;exact hn;exact k2 k hk;rw[Gr t i k c zo zo] at hy;rw[p2];split at hy;rename_i e;subst e;rw[atV zo];obtain⟨z,hz,tY⟩:=tQ JT _ _ hy;exact⟨z,by rw[<-at5,<-hz];congr 1;omega,tY⟩;rename_i e;rw[atS ?_];exact k3 k j hk hj y hy;intro hh;rcases Nat.lt_or_gt_of_ne e with ao|GM;have:=at4 rw (show k+1<=i from ao);rw[auC,avz] at this;omega;have:=at4 rw (show i+1<=k from GM);rw[auC,avz] at this;omega;rw[p2] at hu;split at hu;exact Sp u (aua (by rw[at5];exact hu));exact k4 j u hu;cases hf
 |[],_::_,_,_,_,hp,_,_=>by simp[GL] at hp
 |_::_,[],_,_,_,hp,_,_=>by simp[GL] at hp
theorem YL{get:CX->AV}{F:Nat×Operand->Option (Nat×CX)}{ev:Operand->Value}
 (hF:∀q c,F q=some c->c.1 =q.1 /\aj φ (get c.2) (ev q.2)):∀{ps:List (Nat×Operand)}{cs:List (Nat×CX)},iJ F ps=some cs->GL φ get cs (ps.map λq=>(q.1,ev q.2))
 |[],cs,hm=>by simp only[iJ,atU] at hm;subst hm;trivial
 |q::ps,cs,hm=>by simp only[iJ] at hm;split at hm;rename_i c r hc hr;cases hm;obtain⟨g1,g2⟩:=hF q c hc;exact⟨g1,g2,YL hF hr⟩;cases hm
theorem JU{n:Nat}{b len cap c rw z:Nat}{ex:Bool}(hl:len<=cap)(hc:cap<=c)(jz:ex=true->c=cap)(hz:c*rw=z):aj (φ.put n b 0 z) (.slice n 0 rw len cap ex) (.slice (some ⟨b,0,none⟩) len c):=by simp only[aj];exact⟨.inl rfl,⟨b,0,none⟩,c,rfl,hl,hc,jz,λ_=>⟨by simp[aH.put],by simp only[aH.put,auo];omega⟩⟩
theorem JV{t:TypeId}{l:List AV}(hz:rO P t=some l):∃i v,P.info? t=some i/\i.zero=some v/\∀ψ,cz ψ l v.cells.toList/\∀c∈v.cells.toList,c.oneCell'=true:=by unfold rO at hz;split at hz;rename_i z zI;obtain⟨i,v,hi,hv,hd⟩:=GH zI;exact⟨i,v,hi,hv,λψ=>GI hz (hd ψ)⟩;cases hz
theorem afZ(G:jq φ P)(hf:iq φ f a.tmps)(r:R φ h w){t:TypeId}{n:Nat}{kG:Array (Nat×Operand)}(ho:o.op=.buildSlice t n kG):Good P φ h w f a o (Gc P t n kG.toList):=by
 have jz:execOp a.eval o=(do pure (.value (<-Instr.buildSlice t n (kG.map λ(i,x)=>(i,a.eval x))))):=by unfold execOp;rw[ho]
 have hl:(kG.map λ(i,x)=>(i,a.eval x)).toList=kG.toList.map λq=>(q.1,a.eval q.2):=by simp
 unfold Gc;split;rename_i e hu;split;rename_i cs z s oW hz hs;split;rename_i hn;rw[tR] at hn;refine vf jz ?_;simp only[aQ,FZ];split;rename_i t' jL;obtain⟨i,v,hi,hv,hd⟩:=JV hz;obtain⟨i',dD,cP⟩:=R7 hs;rw[hi] at dD;cases dD;have pk:=YL (φ:=φ) (get:=λx=>x.get f) (ev:=a.eval) (λq c hq=>by split at hq;rename_i x hx;simp only[atU] at hq;subst hq;exact⟨rfl,Gv G hf hx⟩;cases hq) oW
 by_cases h0:n=0
 subst h0;have af0:kG.toList.map (λq=>(q.1,a.eval q.2))=[]/\t'=fG:=by
  cases cs with
  |nil=>
   simp only[wg,qm,atU] at jL;cases hp:kG.toList.map (λq=>(q.1,a.eval q.2)) with
   |nil=>exact⟨rfl,jL.symm⟩
   |cons=>rw[hp] at pk;simp[GL] at pk
  |cons q cs=>
   obtain⟨qi,qx⟩:=q;simp only[wg] at jL;split at jL;obtain⟨hc,_⟩:=qt jL;simp only[atW,je,AX] at hc;omega;cases jL
 obtain⟨A0,rfl⟩:=af0;have cS:(Instr.buildSlice t 0 (kG.map λ(i,x)=>(i,a.eval x))).run P w=.ok (.slice (some ⟨w.heap.size,0,none⟩) 0 0) (w.alloc (.cells #[] e)):=by
  have fu:kG=#[]:=by simpa using A0
  have JW:Array.range 0=#[]:=rfl;simp[Instr.buildSlice,bZ hu,Go.sizeOf,typeInfo,hi,fu,JW,Instr.fill,newRow]
 refine GK (z:=0*(s+1)) r cS rfl (λle=>xW.gq zo zo ?_) λd le=>?_;exact⟨by simp,λk hk=>absurd hk (avm _),λk j hk=>absurd hk (avm _),λj v hv=>by simp at hv⟩;exact JU zl zl (λ_=>rfl) rfl;have zk:=YJ (φ:=φ) (len:=n) (rw:=s+1) zo zo (hd φ).1 (hd φ).2 (by rw[hn.2.1]) rfl;obtain⟨mo,f1,f2⟩:=YK zo pk jL zk;have cS:=run_buildSlice w t e n (kG.map λ(i,x)=>(i,a.eval x)) mo i v hu hi hv (by rw[cP];exact axJ.2 (at1 (axp hn.1 hn.2.2) zd))
  (by rw[cP];exact Nat.mul_ne_zero h0 zo) (by rw[hl,cP];exact f1)
 refine GK (z:=n*(s+1)) r cS rfl (λle=>xW.gq zo zo (f2.mono le)) λd le=>?_;exact JU zl zl (λ_=>rfl) rfl;trivial;exact cy;exact cy;exact cy
theorem af1{n':Nat}{el rw n:Nat}{rs:List (List AV)}{c:Nat->Option AV}{cs:Array Value}(dX:0<rw)(hn:n<=1152921504606846976)(hr:nj rs rw n c)(hs:n*rw<=cs.size)
 (hc:∀(j:Nat)(x:AV),j<n*rw->c j=some x->∃v,cs[j]? =some v/\aj (φ.put n' w.heap.size 0 cs.size) x v) (h1:∀(j:Nat)(v:Value),cs[j]? =some v->v.oneCell'=true):
 kM (φ.put n' w.heap.size 0 cs.size) (w.alloc (.cells cs el)) n' (jJ el rw n rs):=by
 obtain⟨m1,m2⟩:=Gs (el:=el) dX hn hr;refine JR (o':=jJ el rw n rs) m1 rfl ⟨hs,λh=>by cases h⟩ (λj x hx=>?_) h1
 by_cases hj:j<n*rw
 exact hc j x hj (by rw[<-m2 j hj];exact hx);simp only[jJ,AO.cell,atS hj] at hx;cases hx
theorem YM{cs:Array Value}(h:∀v∈cs.toList,v.oneCell'=true) (j:Nat) (v:Value) (hv:cs[j]? =some v):v.oneCell'=true:=h v (aua (by rw[at5];exact hv))
theorem af2{t:TypeId}{i:TypeInfo}{v:Value}(hi:P.info? t=some i)(hv:i.zero=some v):(Instr.alloc t true (.tuple #[])).run P w=.ok (.pointer (some ⟨w.heap.size,0,none⟩)) (w.alloc (.cells v.cells t)):=by simp[Instr.alloc,DY hi hv,newVar,newRow]
theorem YN{n:Nat}{b z:Nat}:aj (φ.put n b 0 z) (.ptr n 0) (.pointer (some ⟨b,0,none⟩)):=by simp only[aj,aH.put,auo];exact⟨.inl trivial,by simp⟩
theorem af3{rw n:Nat}{l:List AV}{rs:List (List AV)}(hc:uO rw n l=some rs):nj rs rw n (λj=>l[j]?):=by obtain⟨h1,h2,h3⟩:=MR _ _ _ hc;refine⟨h1,λr hr=>?_,λk j hk hj=>?_⟩;obtain⟨k,hk⟩:=aum hr;exact(h3 k r hk).1;have uW:k<rs.length:=zo;rw[aub,atT uW,avo,(h3 k _ (atT uW)).2 j hj]
theorem af4(r:R φ h w){t:TypeId}(ho:o.op=.alloc t):Good P φ h w f a o (Ga P t):=by
 have jz:execOp a.eval o=(do pure (.value (<-Instr.alloc t true (.tuple #[])))):=by unfold execOp;rw[ho]
 unfold Ga;split;split;rename_i n e hu s se z hs hse hz;split;split;rename_i rs gO;split;rename_i hn;rw[tR] at hn;refine vf jz ?_;obtain⟨i,v,hi,hv,hd⟩:=JV hz;simp only[aQ];have bz:=tP (hd φ).1;simp only[avc] at bz;refine GK (z:=v.cells.size) r (af2 hi hv) rfl (λle=>?_) λ_ _=>YN;refine af1 zo hn.1 (af3 gO) zo (λj x hj hx=>?_) (YM (hd φ).2);obtain⟨y,hy,hdy⟩:=tQ (hd _).1 j x hx;exact⟨y,by rw[<-at5];exact hy,hdy⟩;exact cy;exact cy;refine vf jz ?_;simp only[aQ];exact YE r hz;exact cy;split;rename_i z hz;refine vf jz ?_;simp only[aQ];exact YE r hz;exact cy;exact cy
theorem af5{t e:TypeId}{s:Nat}{i:TypeInfo}{z:List AV}(r:R φ h w)(ht:P.underlying t=some (.slice e))(hi:P.info? e=some i)(hz:rO P e=some z)(hs:i.size=s+1)(A1:gk z=s+1)
 {x y:AV} {u v:Value} (hx:aj φ x u) (hy:aj φ y v):k6 P φ h w (Instr.makeSlice t u v) (DB h e (s+1) i.bytes z x y):=by
 unfold DB;split;rename_i l c hl hc;refine zH (λfK=>?_) λ_=>trivial;simp only[atW,je,AX,B9] at fK;obtain⟨kl,rfl⟩:=tU hx hl;obtain⟨kc,rfl⟩:=tU hy hc;obtain⟨i',zv,dD,hv,hd⟩:=JV hz;rw[hi] at dD;cases dD;rw[tR] at A1;have cS:=run_make (P:=P) w t e i zv ht hi hv kl kc l c zo zo (by
  have:((i.bytes*c:Nat):Int)<=281474976710656:=by rw[auB];omega
  rwa[Int.natCast_mul] at this) zo
 simp only[awr,hs] at cS;refine GK (z:=c*(s+1)) r cS rfl (λle=>xW.gq zo zo ?_) λd le=>JU fK.1.1 zl (λ_=>rfl) rfl;exact YJ zo zo (hd _).1 (hd φ).2 A1 rfl;trivial
theorem af6{t:TypeId}(r:R φ h w):k6 P φ h w (Instr.makeMap t none) (alloc h (.map [] 0) λi=>.map i):=by
 have cS:(Instr.makeMap t none).run P w=.ok (.map (some w.heap.size)) (w.alloc (.map #[] 0)):=by simp[Instr.makeMap]
 refine GK (z:=0) r cS rfl (λle=>?_) λd le=>?_;refine⟨#[],?_,⟨[],rfl,rfl,by simp⟩,by simp,by simp,by simp,by simp⟩;have e:(φ.put h.nx w.heap.size 0 0).aL h.nx=w.heap.size:=atV rfl;rw[e];exact avw;simp only[aj,aH.put,auo];exact⟨.inl trivial,by simp⟩
theorem af7{fn:Nat}(zL:(AP fn).n=fn){l m:List AV}{us vs:List Value}(hl:cz φ l us)(hm:cz φ m vs):dI P φ w (Instr.makeFunc (.func fn) us.toArray vs.toArray) (.v (.func (AP fn) l m)):=by refine⟨_,rfl,?_⟩;simp only[aj];exact⟨_,_,by rw[zL],hl,hm⟩
theorem af8{x:Operand}{c:CX}(ho:o.op=.nilCheck x)(hx:aj φ (c.get f) (a.eval x)):Good P φ h w f a o (.Ds c):=by
 unfold Good;simp only[aQ];unfold Mq execOp;rw[ho];cases hv:c.get f<;>simp only[Gw]<;>rw[hv] at hx
 case ptr=>have hd:=hx;simp only[aj] at hx;obtain⟨d,e⟩:=hx;simp only[e] at hd⊢;exact⟨_,_,w,rfl,.inl rfl,hd,.refl w⟩
 case func=>have hd:=hx;simp only[aj] at hx;obtain⟨fs,cs,e,_⟩:=hx;simp only[e] at hd⊢;exact⟨_,_,w,rfl,.inl rfl,hd,.refl w⟩
 case iface=>have hd:=hx;simp only[aj] at hx;obtain⟨y,e,_⟩:=hx;simp only[e] at hd⊢;exact⟨_,_,w,rfl,.inl rfl,hd,.refl w⟩
theorem Sr{x:AV}{v:Value}{b:Bool}(hx:aj φ x v):aj φ (.bA [x,.bool b]) (.tuple #[v,.bool b]):=by simp only[aj];exact⟨_,rfl,qS.2 ⟨hx,qS.2 ⟨by simp only[aj],sJ⟩⟩⟩
theorem Nd{s:Sem Value}{ok b:Bool}{x:AV}{v:Value}(hx:aj φ x v)(hs:s.run P w=.ok (if ok then .tuple #[v,.bool b] else v) w):dI P φ w s (y7 ok x b):=by
 cases ok with
 |true=>exact⟨_,hs,Sr hx⟩
 |false=>exact⟨_,hs,hx⟩
theorem af9{xt t:TypeId}{z:AV}{ok:Bool}{dd:TypeDesc}(ht:P.underlying t=some dd)(lK:∀m,dd≠.interface m) (hz:ze P t=some z) {x:AV} {u:Value} (hx:aj φ x u):dI P φ w (Instr.typeAssert u xt t ok) (IU t z x ok):=by
 obtain⟨i,zv,hi,hv,hd⟩:=GH hz;unfold IU;cases x<;>simp only[dI]<;>simp only[aj] at hx
 case ji=>
  subst hx;cases ok with
  |false=>trivial
  |true=>
   refine⟨.tuple #[zv,.bool false],?_,Sr (hd φ)⟩;unfold Instr.typeAssert;cases dd<;>first|exact absurd rfl (lK _)|simp[bZ ht,DY hi hv]
 case iface t' y=>
  obtain⟨v,rfl,hy⟩:=hx;cases hb:Nat.beq t' t with
  |true=>
   rw[beq_iff] at hb;subst hb;refine Nd hy ?_;unfold Instr.typeAssert;cases ok<;>cases dd<;>first|exact absurd rfl (lK _)|simp[bZ ht]
  |false=>
   have bg:¬t'=t:=λe=>by rw[<-beq_iff,hb] at e;cases e
   cases ok with
   |false=>trivial
   |true=>
    refine⟨.tuple #[zv,.bool false],?_,Sr (hd φ)⟩;unfold Instr.typeAssert;cases dd<;>first|exact absurd rfl (lK _)|simp[bZ ht,bg,DY hi hv]
theorem af'{ty:TypeId}{at_:Array TypeId}{x:AV}{u:Value}(hx:aj φ x u):dI P φ w (Builtin.unsafeSliceData_ at_ ty #[u]) (FX x):=by
 unfold FX;cases x<;>simp only[dI]<;>simp only[aj] at hx
 case bx=>subst hx;exact⟨.pointer none,rfl,by simp only[aj]⟩
 case slice i off rw len cap ex=>
  obtain⟨d,ad,c,rfl,h1,h2,h3,h4⟩:=hx;cases hc:Nat.ble 1 cap with
  |false=>trivial
  |true=>
   rw[je] at hc;have wE:c≠0:=zo;obtain⟨e1,e2⟩:=h4 wE;refine⟨.pointer (some ad),?_,by simp only[aj];exact⟨d,by rw[e1]⟩⟩;unfold Builtin.unsafeSliceData_;show(if c≠0 then _ else _:Sem Value).run P w=_;rw[atV wE];rfl
theorem Ss{t:TypeId}{ty:TypeId}(r:R φ h w){dd:TypeDesc}(ht:P.underlying t=some dd){k:Nat}(vg:(k=0/\dd=.string)\/(k=1/\∃e,dd=.slice e)\/(k=2/\∃q e,dd=.map q e)){x:AV}{u:Value}(hx:aj φ x u):
 dI P φ w (Builtin.len_ #[t] ty #[u]) (tL k h x):=by
 have vc:∀{c:Bool}{x:AV}{s:Sem Value},(c=true->dI P φ w s (.v x))->dI P φ w s (cond c (.v x) (.bad "len: kind")):=λ{c} _ _ hh=>by
  cases c with
  |true=>exact hh rfl
  |false=>trivial
 cases x<;>simp only[aj] at hx<;>first|trivial|skip
 case str l n=>
  refine vc λhk=>?_;rw[beq_iff] at hk;subst hk;rcases vg with⟨_,rfl⟩|⟨h0,_⟩|⟨h0,_⟩<;>first|(exact absurd h0 zd)|skip
  obtain⟨s,rfl,hs⟩:=hx;refine⟨.int .i64 l,?_,by simp only[aj];rfl⟩;simp[Builtin.len_,bZ ht,goInt,hs.size]
 case slice i off rw len cap ex=>
  refine vc λhk=>?_;rw[beq_iff] at hk;subst hk;rcases vg with⟨h0,_⟩|⟨_,e,rfl⟩|⟨h0,_⟩<;>first|(exact absurd h0 zd)|skip
  obtain⟨d,ad,c,rfl,_⟩:=hx;refine⟨.int .i64 len,?_,by simp only[aj];rfl⟩;simp[Builtin.len_,bZ ht,goInt]
 case bx=>
  refine vc λhk=>?_;rw[beq_iff] at hk;subst hk;rcases vg with⟨h0,_⟩|⟨_,e,rfl⟩|⟨h0,_⟩<;>first|(exact absurd h0 zd)|skip
  subst hx;refine⟨.int .i64 0,?_,by simp only[aj]⟩;simp[Builtin.len_,bZ ht,goInt]
 case kQ=>
  refine vc λhk=>?_;rw[beq_iff] at hk;subst hk;rcases vg with⟨h0,_⟩|⟨h0,_⟩|⟨_,q,e,rfl⟩<;>first|(exact absurd h0 zd)|skip
  subst hx;refine⟨.int .i64 0,?_,by simp only[aj]⟩;simp[Builtin.len_,bZ ht,goInt]
 case map i=>
  simp only[tL];split
  ·rename_i es aD hg;refine vc λhk=>?_;rw[beq_iff] at hk;subst hk;rcases vg with⟨h0,_⟩|⟨h0,_⟩|⟨_,q,e,rfl⟩<;>first|(exact absurd h0 zd)|skip
   obtain⟨d,rfl⟩:=hx;have ob:=r.gq i;rw[hg] at ob;obtain⟨aW,hb,⟨l,hp,hl,_⟩,_⟩:=ob;refine⟨.int .i64 es.length,?_,by simp only[aj,tR];rfl⟩;have:aW.size=es.length:=by rw[<-hl,(aui List.length hp)];simp
   simp[Builtin.len_,bZ ht,goInt,getObj,Sem.run,hb,this]
  trivial
def JX(P:Program)(kt:TypeId)(u v:Value)(b:Bool):Prop:=
 ((∃d,P.underlying kt=some d/\Instr.sameNow d u v=some b)\/(∃d,P.underlying kt=some d/\oR d=true/\∀w,(Op.equal kt u v).run P w=.ok b w))/\(b=true <-> u=v)
theorem aga{s t:ByteArray}:(s.toList==t.toList)=true <-> s=t:=by rw[av9,ByteArray.toList_eq,ByteArray.toList_eq];constructor;intro h;have:s.data=t.data:=aw5.1 h;cases s;cases t;simp_all;rintro rfl;rfl
theorem JY{k:FK}{u v:Value}{b:Bool}(hc:cF k u v=some b):b=true <-> u=v:=by
 cases k with
 |int k=>obtain⟨a,c,rfl,rfl,rfl⟩:=M8 hc;simp
 |str=>
  obtain⟨s,t,rfl,rfl,rfl⟩:=JK hc;rw[aga];simp
 |bool=>obtain⟨s,t,rfl,rfl,rfl⟩:=M9 hc;simp
theorem Su:∀{ks:List FK}{l r:List Value}{b:Bool},cL ks l r=some b->(b=true <-> l=r)
 |[],[],[],b,hc=>by simp only[cL,atU] at hc;subst hc;simp
 |k::ks,x::l,y::r,b,hc=>by simp only[cL] at hc;split at hc;rename_i h1;have e:=(JY h1).1 rfl;rw[Su hc,e];simp;rename_i h1;cases hc;have e:=mt (JY h1).2 zd;simp[e];cases hc
 |[],[],_::_,_,hc=>by simp[cL] at hc
 |[],_::_,_,_,hc=>by simp[cL] at hc
 |_::_,[],_,_,hc=>by simp[cL] at hc
 |_::_,_::_,[],_,hc=>by simp[cL] at hc
theorem xX{kt:TypeId}{ek:EK}(hk:qq P kt=some ek){p q:AV}{b:Bool}(he:cJ ek p q=some b){u v:Value}(hu:aj φ p u)(hv:aj φ q v):JX P kt u v b:=by unfold qq at hk;split at hk;rename_i ht;cases hk;have hc:=GA (show sD .str p q=some b from he) hu hv;refine⟨.inl ⟨_,ht,?_⟩,JY hc⟩;obtain⟨m,n,rfl,rfl,rfl⟩:=JK hc;simp only[Instr.sameNow];rw[beq_toListBytes];rename_i fs ht;split at hk;rename_i l hl;cases hk;simp only[cJ] at he;split at he;simp only[aj] at hu hv;obtain⟨X,rfl,hX,_⟩:=hu;obtain⟨Y,rfl,hY,_⟩:=hv;have hc:=GB he hX hY;refine⟨.inr ⟨_,ht,rfl,λw=>?_⟩,?_⟩;exact(Sg 5).1 kt l hl 10000 zo (.agg X) (.agg Y) X.toList Y.toList b w qaE qbg hc;rw[Su hc];constructor;intro e;rw[axK e];intro e;cases e;rfl;cases he;cases hk;cases hk
theorem YO{kt:TypeId}{u:Value}:∀(aW:List MapEntry)(i:Nat),(∀e∈aW,∃b,∀w,(Op.equal kt u e.key).run P w=.ok b w/\(b=true <-> u=e.key))->∀w,
 (∃j e,(Instr.findAsking kt u aW i).run P w=.ok (some (i+j,e.val)) w/\aW[j]? =some e/\e.key=u)\/((Instr.findAsking kt u aW i).run P w=.ok none w/\∀e∈aW,e.key≠u)
 |[],i,_,w=>.inr ⟨rfl,by simp⟩
 |e::es,i,hh,w=>by
  obtain⟨b,hb⟩:=hh e zm;have hr:=(hb w).1;cases b with
  |true=>exact .inl ⟨0,e,by simp[Instr.findAsking,hr],rfl,((hb w).2.1 rfl).symm⟩
  |false=>
   have bg:e.key≠u:=λhk=>by have:=(hb w).2.2 hk.symm;cases this
   rcases YO es (i+1) (λe he=>hh e (by simp[he])) w with⟨j,e',h1,h2,h3⟩|⟨h1,h2⟩;refine .inl ⟨j+1,e',?_,by simpa using h2,h3⟩;simp[Instr.findAsking,hr,h1];omega;exact .inr ⟨by simp[Instr.findAsking,hr,h1],by simpa using⟨bg,h2⟩⟩
theorem YP{d:TypeDesc}{u:Value}:∀(aW:List MapEntry)(i:Nat),(∀e∈aW,∃b,Instr.sameNow d u e.key=some b/\(b=true <-> u=e.key))->
 (∃j e,Instr.findNow d u aW i=some (some (i+j,e.val))/\aW[j]? =some e/\e.key=u)\/(Instr.findNow d u aW i=some none/\∀e∈aW,e.key≠u)
 |[],i,_=>.inr ⟨rfl,by simp⟩
 |e::es,i,hh=>by
  obtain⟨b,hb,hi⟩:=hh e zm;cases b with
  |true=>exact .inl ⟨0,e,by simp[Instr.findNow,hb],rfl,(hi.1 rfl).symm⟩
  |false=>
   have bg:e.key≠u:=λhk=>by have:=hi.2 hk.symm;cases this
   rcases YP es (i+1) (λe he=>hh e (by simp[he])) with⟨j,e',h1,h2,h3⟩|⟨h1,h2⟩;refine .inl ⟨j+1,e',?_,by simpa using h2,h3⟩;simp[Instr.findNow,hb,h1];omega;exact .inr ⟨by simp[Instr.findNow,hb,h1],by simpa using⟨bg,h2⟩⟩
theorem Nf{kt:TypeId}{ek:EK}(hk:qq P kt=some ek){u:Value}(aW:List MapEntry)(hh:∀e∈aW,∃b,JX P kt u e.key b) (w:World):
 (∃j e,(Instr.findKey kt u aW).run P w=.ok (some (j,e.val)) w/\aW[j]? =some e/\e.key=u)\/((Instr.findKey kt u aW).run P w=.ok none w/\∀e∈aW,e.key≠u):=by
 have JJ:∀d,P.underlying kt=some d->oR d=false->(∃j e,(Instr.findKey kt u aW).run P w=.ok (some (j,e.val)) w/\aW[j]? =some e/\e.key=u)\/((Instr.findKey kt u aW).run P w=.ok none w/\∀e∈aW,e.key≠u):=by
  intro d hd DU;have Sv:∀e∈aW,∃b,Instr.sameNow d u e.key=some b/\(b=true <-> u=e.key):=λe he=>by obtain⟨b,hb,hi⟩:=hh e he;rcases hb with⟨d',bC,hs⟩|⟨d',pK,ha,_⟩;rw[hd] at bC;cases bC;exact⟨b,hs,hi⟩;rw[hd] at pK;cases pK;rw[DU] at ha;cases ha
  rcases YP aW 0 Sv with⟨j,e,h1,h2,h3⟩|⟨h1,h2⟩;exact .inl ⟨j,e,by rw[aue] at h1;exact MapKept.run_findKey hd h1,h2,h3⟩;exact .inr ⟨MapKept.run_findKey hd h1,h2⟩
 have asks:∀{d:TypeDesc},P.underlying kt=some d->oR d=true->(∃j e,(Instr.findKey kt u aW).run P w=.ok (some (j,e.val)) w/\aW[j]? =some e/\e.key=u)\/((Instr.findKey kt u aW).run P w=.ok none w/\∀e∈aW,e.key≠u):=by
  intro d ht ha;have YQ:∀a b,Instr.sameNow d a b=none:=λa b=>by cases d<;>first|(simp[oR] at ha;done)|rfl
  cases aW with
  |nil=>
   refine .inr ⟨?_,by simp⟩;simp[Instr.findKey,bZ ht,Instr.findNow]
  |cons e es=>
   have hn:Instr.findNow d u (e::es) 0=none:=by simp[Instr.findNow,YQ]
   have cS:(Instr.findKey kt u (e::es)).run P w=(Instr.findAsking kt u (e::es)).run P w:=by simp[Instr.findKey,bZ ht,hn]
   rw[cS];have Sv:∀x∈e::es,∃b,∀w,(Op.equal kt u x.key).run P w=.ok b w/\(b=true <-> u=x.key):=λx hx=>by obtain⟨b,hb,hi⟩:=hh x hx;rcases hb with⟨d',bC,hs⟩|⟨d',pK,_,hr⟩;rw[ht] at bC;cases bC;rw[YQ] at hs;cases hs;exact⟨b,λw=>⟨hr w,hi⟩⟩
   rcases YO (e::es) 0 Sv w with⟨j,x,h1,h2,h3⟩|⟨h1,h2⟩;exact .inl ⟨j,x,by rw[aue] at h1;exact h1,h2,h3⟩;exact .inr ⟨h1,h2⟩
 unfold qq at hk;split at hk;rename_i ht;exact JJ _ ht rfl
 all_goals
  first
  |(cases hk;done)
  |skip
 rename_i fs ht;exact asks ht rfl
def Sw(e:Bool)(n:Nat)(X:Array Value)(f:Go.Field)(_:PUnit):Sem (ForInStep PUnit):=do
 if f.name≠ "_" then
  Instr.checkKey e n f.type (<-part f.type X f.offset)
  pure (.yield .unit)
 else pure (.yield .unit)
def JZ(P:Program)(d:Nat):Prop:=∀t ks,rP P d t=some ks->∀D,d<=D->∀e u cu w,qV P t u cu->cL ks cu cu=some true->(Instr.checkKey e D t u).run P w=.ok () w
def Sx(P:Program)(d:Nat):Prop:=∀fs off ks,zf P (rP P d) off fs=some ks->∀D,d<=D->∀e(X:Array Value) w,cL ks (X.toList.drop off) (X.toList.drop off)=some true->(forIn fs PUnit.unit (Sw e D X)).run P w=.ok .unit w
theorem Ng{t:TypeId}{d:TypeDesc}(hd:P.underlying t=some d)(hp:(∃k,d=.int k)\/d=.bool\/d=.string)(e:Bool)(n:Nat)(u:Value)(w:World):(Instr.checkKey e (n+1) t u).run P w=.ok () w:=by unfold Instr.checkKey;rw[Sem.run_bind,bZ hd];rcases hp with⟨k,rfl⟩|rfl|rfl<;>cases u<;>rfl
theorem YR{d:Nat}(hB:∀d',d=d'+1->Sx P d'):JZ P d:=by
 intro t ks hk D hD e u cu w hu hc;have DW:∃D',D=D'+1:=by
  cases d with
  |zero=>simp[rP] at hk
  |succ d=>exact⟨D- 1,by omega⟩
 obtain⟨D',rfl⟩:=DW;rcases Sa hk with⟨k,rfl,ht⟩|⟨rfl,ht⟩|⟨rfl,ht⟩|⟨fs,d',bC,ht,lJ,pK⟩;exact Ng ht (.inl ⟨_,rfl⟩) e D' u w;exact Ng ht (.inr (.inl rfl)) e D' u w;exact Ng ht (.inr (.inr rfl)) e D' u w;simp only[qV,ht] at hu;obtain⟨X,rfl,rfl⟩:=hu;unfold Instr.checkKey;rw[Sem.run_bind,bZ ht];have:=hB d' bC fs.toList 0 ks pK D' zo e X w (by simpa using hc);simp only[Result.andThen];rw[<-Array.forIn_toList,Sem.run_bind];show Result.andThen (Sem.run P (forIn fs.toList PUnit.unit (Sw e D' X)) w) _=_;rw[this];rfl
theorem YS{d:Nat}(A:JZ P d):Sx P d:=by
 intro fs
 induction fs with
 |nil=>intro off ks hk D hD e X w hc;rfl
 |cons f r ih=>
  intro off ks hk D hD e X w hc;simp only[zf] at hk;split at hk;cases hk;rename_i jK;have sQ:f.name≠ "_":=λe=>jK (.inl e);have rQ:f.offset=off:=avt λe=>jK (.inr e);split at hk;rename_i l hl;split at hk;rename_i m hm;split at hk;rename_i hs;cases hk;have hX:l.length=1->off<X.size\/∃fs,P.underlying f.type=some (.struct fs):=λh1=>by refine .inl (avt λg=>?_);have:X.toList.drop off=[]:=auJ (by simpa using g);rw[this] at hc;cases l<;>simp[cL] at h1 hc
  obtain⟨u,p1,o1⟩:=Sb hl hs hX w;rcases R6 hc with⟨_,c2⟩|⟨c1,c2⟩;cases c2;rw[List.forIn_cons];simp only[Sw,ne_eq,sQ,avR,auo,rQ,Sem.run_bind,p1,Result.andThen_ok,A _ _ hl D hD e u _ w o1 c1,Sem.run_pure];exact ih (off+l.length) m hm D hD e X w (by simpa[List.drop_drop] using c2);cases hk;cases hk;cases hk
theorem YT:∀d,JZ P d/\Sx P d
 |0=>have A:JZ P 0:=YR (λd' h=>by omega);⟨A,YS A⟩
 |d+1=>have A:JZ P (d+1):=YR (λd' h=>by have:d'=d:=zo;subst this;exact(YT d').2);⟨A,YS A⟩
theorem YU{kt:TypeId}{ek:EK}(hk:qq P kt=some ek){p:AV}(ho:BS ek p=true){u:Value}(hu:aj φ p u)(e:Bool)(w:World):(Instr.checkKey e 10000 kt u).run P w=.ok () w:=by unfold qq at hk;split at hk;rename_i ht;exact Ng ht (.inr (.inr rfl)) e 9999 u w;rename_i fs ht;split at hk;rename_i l hl;cases hk;simp only[BS] at ho;split at ho;rename_i he;simp only[cJ] at he;split at he;rename_i l1 l2 e1 e2;simp only[aj] at hu;obtain⟨X,rfl,hX,_⟩:=hu;have hc:=GB he hX hX;exact(YT 5).1 kt l hl 10000 zo e (.agg X) X.toList w qaE hc;cases he;cases ho;cases hk;cases hk
theorem Sy{ek:EK}{k:AV}:∀{es:List (AV×AV)},yZ ek k es=true->∀e∈es,cJ ek k e.1 =some false
 |[],_,e,he=>by cases he
 |(k',v)::r,hh,e,he=>by simp only[yZ] at hh;split at hh;rename_i h1;rcases atZ.1 he with rfl|he;exact h1;exact Sy hh e he;cases hh
theorem Nh{ek:EK}{k:AV}:∀{es:List (AV×AV)}{r:Option AV},wj ek k es=some r->
 (r=none/\∀e∈es,cJ ek k e.1 =some false)\/(∃j k' v,r=some v/\es[j]? =some (k',v)/\cJ ek k k'=some true/\∀(j':Nat)(e:AV×AV),es[j']? =some e->j'≠j->cJ ek k e.1 =some false)
 |[],r,hh=>by simp only[wj,atU] at hh;subst hh;exact .inl ⟨rfl,by simp⟩
 |(k',v)::es,r,hh=>by
  simp only[wj] at hh;split at hh;rename_i h1;obtain⟨h2,h3⟩:=qt hh;cases h3;refine .inr ⟨0,k',v,rfl,rfl,h1,λj' e he hj=>?_⟩;cases j' with
  |zero=>exact absurd rfl hj
  |succ j'=>exact Sy h2 e (aua qaL)
  rename_i h1;rcases Nh hh with⟨rfl,h2⟩|⟨j,k2,v2,rfl,h2,h3,h4⟩;exact .inl ⟨rfl,λe he=>by rcases atZ.1 he with rfl|he;exact h1;exact h2 e he⟩
  refine .inr ⟨j+1,k2,v2,rfl,by simpa using h2,h3,λj' e he hj=>?_⟩;cases j' with
  |zero=>simp at he;subst he;exact h1
  |succ j'=>exact h4 j' e qaL zo
  cases hh
theorem agb{ek:EK}{k:AV}{es:List (AV×AV)}{r:Option AV}(hh:wj ek k es=some r)(e:AV×AV)(he:e∈es):∃b,cJ ek k e.1 =some b:=by
 rcases Nh hh with⟨_,h2⟩|⟨j,k2,v2,_,h2,h3,h4⟩;exact⟨_,h2 e he⟩;obtain⟨j',eY⟩:=aum he
 by_cases hj:j'=j
 subst hj;rw[h2] at eY;cases eY;exact⟨_,h3⟩;exact⟨_,h4 j' e eY hj⟩
theorem YV{kt:TypeId}{ek:EK}(hk:qq P kt=some ek){k:AV}{u:Value}(hu:aj φ k u){es:List (AV×AV)}{aW:List MapEntry}(ha:JA φ es aW){r:Option AV}(hf:wj ek k es=some r)(w:World):
 (∃v j m,r=some v/\(Instr.findKey kt u aW).run P w=.ok (some (j,m.val)) w/\aW[j]? =some m/\m.key=u/\aj φ v m.val)\/(r=none/\(Instr.findKey kt u aW).run P w=.ok none w/\∀e∈aW,e.key≠u):=by
 obtain⟨l,A2,bz,pQ⟩:=ha;have hp:l.Perm aW:=.of_eq A2;have at_:∀m∈aW,∃(j:Nat) (e:AV×AV),es[j]? =some e/\l[j]? =some m/\aj φ e.1 m.key/\aj φ e.2 m.val:=λm hm=>by
  obtain⟨j,hj⟩:=aum (hp.mem_iff.2 hm);have kL:j<es.length:=by rw[<-bz];exact(at0.1 hj).1
  obtain⟨m',h1,h2,h3⟩:=pQ j es[j] (atT kL);rw[hj] at h1;cases h1;exact⟨j,es[j],atT kL,hj,h2,h3⟩
 have J2:∀m∈aW,∃b,JX P kt u m.key b:=λm hm=>by obtain⟨j,e,h1,_,h3,_⟩:=at_ m hm;obtain⟨b,hb⟩:=agb hf e (aua h1);exact⟨b,xX hk hb hu h3⟩
 have YW:=Nf hk aW J2 w;rcases Nh hf with⟨rfl,h2⟩|⟨j0,k0,v0,rfl,h2,h3,h4⟩;have bg:∀m∈aW,m.key≠u:=λm hm e=>by obtain⟨j,x,h1,_,h3,_⟩:=at_ m hm;have:=(xX hk (h2 x (aua h1)) hu h3).2.2 e.symm;cases this
 rcases YW with⟨j,m,_,g2,g3⟩|⟨g1,g2⟩;exact absurd g3 (bg m (aua g2));exact .inr ⟨rfl,g1,g2⟩;obtain⟨m0,p1,p2,p3⟩:=pQ j0 (k0,v0) h2;have Ni:m0∈aW:=hp.mem_iff.1 (aua p1);have js:u=m0.key:=(xX hk h3 hu p2).2.1 rfl;rcases YW with⟨j,m,g1,g2,g3⟩|⟨g1,g2⟩;obtain⟨j1,e,q1,q2,q3,q4⟩:=at_ m (aua g2)
 by_cases hj:j1=j0
 subst hj;rw[h2] at q1;cases q1;exact .inl ⟨v0,j,m,rfl,g1,g2,g3,q4⟩;have:=(xX hk (h4 j1 e q1 hj) hu q3).2.2 g3.symm;cases this;exact absurd js.symm (g2 m0 Ni)
theorem agc{t kt e:TypeId}{ek:EK}{z:AV}{ok:Bool}(r:R φ h w)(ht:P.underlying t=some (.map kt e))(hk:qq P kt=some ek)(hz:ze P e=some z){x k:AV}{u v:Value}(hx:aj φ x u)(hv:aj φ k v):
 dI P φ w (Instr.lookup t u v ok) (me ek h z x k ok):=by
 obtain⟨i,zv,hi,zI,hd⟩:=GH hz;unfold me;refine sP (λGN=>?_) λ_=>trivial;have GO:=λb w=>YU hk GN hv b w;cases x<;>simp only[aj] at hx<;>first|trivial|skip
 case kQ=>
  subst hx;refine Nd (hd φ) ?_;rcases Nf (u:=v) hk [] zm w with⟨j,m,_,g2,_⟩|⟨g1,_⟩;simp at g2;cases ok<;>simp[Instr.lookup,bZ ht,GO,g1,DY hi zI]
 case map i'=>
  obtain⟨d,rfl⟩:=hx;simp only[];split;rename_i es aD hg;have ob:=r.gq i';rw[hg] at ob;obtain⟨aW,hb,ha,_⟩:=ob;split;rename_i y hf;rcases YV hk hv ha hf w with⟨v',j,m,e1,g1,g2,g3,g4⟩|⟨e1,_⟩;cases e1;refine Nd g4 ?_;cases ok<;>simp[Instr.lookup,bZ ht,getObj,Sem.run,hb,GO,g1];cases e1;rename_i hf;rcases YV hk hv ha hf w with⟨v',j,m,e1,_⟩|⟨e1,g1,g2⟩;cases e1;refine Nd (hd φ) ?_;cases ok<;>simp[Instr.lookup,bZ ht,getObj,Sem.run,hb,GO,g1,DY hi zI];trivial;trivial
theorem YX{ek:EK}{k v:AV}:∀{es BT:List (AV×AV)}{b:Bool},AJ ek k v es=some (b,BT)->
 (b=true/\(∀e∈es,cJ ek k e.1 =some false)/\BT=es++[(k,v)])\/
 (b=false/\∃j k' v0,es[j]? =some (k',v0)/\cJ ek k k'=some true/\(∀(j':Nat)(e:AV×AV),es[j']? =some e->j'≠j->cJ ek k e.1 =some false)/\BT=es.set j (k',v))
 |[],BT,b,hh=>by simp only[AJ,atU,avj] at hh;obtain⟨rfl,rfl⟩:=hh;exact .inl ⟨rfl,by simp,rfl⟩
 |(k',v0)::es,BT,b,hh=>by
  simp only[AJ] at hh;split at hh;rename_i h1;obtain⟨h2,h3⟩:=qt hh;simp only[atU,avj] at h3;obtain⟨rfl,rfl⟩:=h3;refine .inr ⟨rfl,0,k',v0,rfl,h1,λj' e he hj=>?_,rfl⟩;cases j' with
  |zero=>exact absurd rfl hj
  |succ j'=>exact Sy h2 e (aua qaL)
  rename_i h1;split at hh;rename_i b' r' hr;simp only[atU,avj] at hh;obtain⟨rfl,rfl⟩:=hh;rcases YX hr with⟨rfl,h2,rfl⟩|⟨rfl,j,k2,v2,h2,h3,h4,rfl⟩;exact .inl ⟨rfl,λe he=>by rcases atZ.1 he with rfl|he;exact h1;exact h2 e he,rfl⟩
  refine .inr ⟨rfl,j+1,k2,v2,by simpa using h2,h3,λj' e he hj=>?_,rfl⟩;cases j' with
  |zero=>simp at he;subst he;exact h1
  |succ j'=>exact h4 j' e qaL zo
  cases hh;cases hh
theorem YY{k:FK}{u v:Value}(hc:cF k u v=some true)(n:Nat):Instr.sameBits n u v=true:=by
 have e:=(JY hc).1 rfl;cases k with
 |int k=>obtain⟨a,c,rfl,rfl,_⟩:=M8 hc;cases n<;>simp_all[Instr.sameBits]
 |str=>
  obtain⟨s,t,rfl,rfl,hb⟩:=JK hc;cases n<;>simp only[Instr.sameBits,beq_toListBytes]<;>exact hb.symm
 |bool=>obtain⟨s,t,rfl,rfl,_⟩:=M9 hc;cases n<;>simp_all[Instr.sameBits]
theorem YZ(n:Nat):∀{ks:List FK}{l r:List Value},cL ks l r=some true->(l.zip r).all (λ(x,y)=>Instr.sameBits n x y)=true
 |[],[],[],_=>rfl
 |k::ks,x::l,y::r,hc=>by simp only[cL] at hc;split at hc;rename_i h1;simp only[List.zip_cons_cons,aw2,YY h1 n,av8];exact YZ n hc;cases hc;cases hc
 |[],[],_::_,hc=>by simp[cL] at hc
 |[],_::_,_,hc=>by simp[cL] at hc
 |_::_,[],_,hc=>by simp[cL] at hc
 |_::_,_::_,[],hc=>by simp[cL] at hc
theorem agd{kt:TypeId}{ek:EK}(hk:qq P kt=some ek){p q:AV}(he:cJ ek p q=some true){u v:Value}(hu:aj φ p u)(hv:aj φ q v):Instr.sameBits 10000 v u=true:=by have e:u=v:=(xX hk he hu hv).2.1 rfl;subst e;unfold qq at hk;split at hk;cases hk;exact YY (GA (show sD .str p q=some true from he) hu hv) _;split at hk;cases hk;simp only[cJ] at he;split at he;simp only[aj] at hu hv;obtain⟨X,rfl,hX,_⟩:=hu;obtain⟨Y,hY',hY,_⟩:=hv;cases hY';have hc:=GB he hX hY;show Instr.sameBits (9999+1) (.agg X) (.agg X)=true;simp only[Instr.sameBits,avX,av8];exact YZ 9999 hc;cases he;cases hk;cases hk
theorem age{aW:Array MapEntry}{i:Nat}{m:MapEntry}{F:MapEntry->MapEntry}(hi:aW[i]? =some m)(hb:(aW.toList.map (·.born)).Nodup):
 (aW.modify i F).toList=aW.toList.map λe=>if e.born=m.born then F e else e:=by
 refine avs λk=>?_;rw[at5,av3,auh,at5]
 by_cases hk:i=k
 subst hk;rw[atV rfl,hi];simp;rw[atS hk];cases he:aW[k]? with
 |none=>rfl
 |some e=>
  have bg:e.born≠m.born:=λh2=>hk (by
   have h3:(aW.toList.map (·.born))[i]? =some m.born:=by rw[auh,at5,hi];rfl
   have h4:(aW.toList.map (·.born))[k]? =some m.born:=by rw[auh,at5,he,<-h2];rfl
   have hki:i<(aW.toList.map (·.born)).length:=(at0.1 h3).1;exact(aws hki hb).1 (h3.trans h4.symm))
  simp[bg]
theorem Y0{t kt e:TypeId}{ek:EK}(r:R φ h w)(ht:P.underlying t=some (.map kt e))(hk:qq P kt=some ek){x k y:AV}{u v z:Value}(hx:aj φ x u)(hv:aj φ k v)(hy:aj φ y z):
 GG P φ h w (Instr.mapUpdate t u v z) (wk ek h x k y):=by
 unfold wk;refine YD (λGN=>?_) λ_=>trivial;have GO:=λb w=>YU hk GN hv b w;cases x<;>simp only[aj] at hx<;>first|trivial|skip
 case map i'=>
  obtain⟨d,rfl⟩:=hx;simp only[];split;rename_i es aD hg;have ob:=r.gq i';rw[hg] at ob;obtain⟨aW,hb,⟨l,A2,bz,pQ⟩,GP,xY,DZ,GQ⟩:=ob;have hp:l.Perm aW.toList:=.of_eq A2;have zC:dH (h.get i')=true:=by rw[hg];rfl
  have ao:=r.lt i' zC;split;rename_i b BT Sz;have at_:∀m∈aW.toList,∃(j:Nat) (e:AV×AV),es[j]? =some e/\l[j]? =some m/\aj φ e.1 m.key/\aj φ e.2 m.val:=λm hm=>by
   obtain⟨j,hj⟩:=aum (hp.mem_iff.2 hm);have kL:j<es.length:=by rw[<-bz];exact(at0.1 hj).1
   obtain⟨m',h1,h2,h3⟩:=pQ j es[j] (atT kL);rw[hj] at h1;cases h1;exact⟨j,es[j],atT kL,hj,h2,h3⟩
  rcases YX Sz with⟨rfl,h2,rfl⟩|⟨rfl,j0,k',v0,h2,h3,h4,rfl⟩;have J2:∀m∈aW.toList,∃b,JX P kt v m.key b:=λm hm=>by obtain⟨j,e,h1,_,h3,_⟩:=at_ m hm;exact⟨_,xX hk (h2 e (aua h1)) hv h3⟩
  have bg:∀m∈aW.toList,m.key≠v:=λm hm e=>by obtain⟨j,x,h1,_,h3,_⟩:=at_ m hm;have:=(xX hk (h2 x (aua h1)) hv h3).2.2 e.symm;cases this
  rcases Nf hk aW.toList J2 w with⟨j,m,_,g2,g3⟩|⟨g1,_⟩;exact absurd g3 (bg m (aua g2));have cS:(Instr.mapUpdate t (.map (some (φ.aL i'))) v z).run P w=.ok () {w with heap:=w.heap.setIfInBounds (φ.aL i') (.map (aW.push {key:=v,val:=z,born:=aD}) (aD+1))}:=by simp[Instr.mapUpdate,bZ ht,getObj,setObj,Sem.run,hb,GO,g1]
  have vi:=MapKept.heap_set (o':=.map (aW.push {key:=v,val:=z,born:=aD}) (aD+1)) hb;obtain⟨r',st⟩:=JC (h':=h.set i' (.map (es++[(k,y)]) (aD+1))) (w':={w with heap:=w.heap.setIfInBounds (φ.aL i') (.map (aW.push {key:=v,val:=z,born:=aD}) (aD+1))}) (i:=i') (o':=.map (es++[(k,y)]) (aD+1)) r qaD rfl (λj=>Hp.tS _ _ _ _) zm (λc hc=>vi.2 c hc)
   (by
    refine⟨_,vi.1,⟨l++[{key:=v,val:=z,born:=aD}],by simp[A2],by simp[bz],λj e he=>?_⟩,?_,?_,?_,?_⟩
    by_cases hj:j<es.length
    rw[aun hj] at he;obtain⟨m,q1,q2,q3⟩:=pQ j e he;exact⟨m,by rw[aun zo];exact q1,q2,q3⟩;have pO:j=es.length:=by have:=(at0.1 he).1;simp at this;omega
    subst pO;rw[auq zl] at he;simp at he;subst he;exact⟨{key:=v,val:=z,born:=aD},by rw[auq zo];simp[bz],hv,hy⟩;simp only[awZ,au4,aul,awx];refine av'.2 ⟨GP,by simp,λa ha b oY e=>?_⟩;simp at oY;obtain⟨m,hm,rfl⟩:=auR.1 ha;exact bg m hm (e.trans oY);simp only[awZ,au4,aul,awx];refine av'.2 ⟨xY,by simp,λa ha b oY e=>?_⟩;simp at oY;obtain⟨m,hm,rfl⟩:=auR.1 ha;have:=DZ m hm;omega;intro e he;simp at he;rcases he with he|rfl;have:=DZ e qaL;omega;simp;simp only[awZ,au4,aul,awx,GQ,List.range_succ])
   (λj ek m vr todo eC _ _ e D5 fQ he=>by rw[e,vi.1] at he;cases he;exact⟨aW,aD,by rw[e];exact hb,by omega,λh=>by omega⟩) rfl rfl rfl
  exact⟨rfl,_,φ,cS,r',st⟩;obtain⟨m0,p1,p2,p3⟩:=pQ j0 (k',v0) h2;have J2:∀m∈aW.toList,∃b,JX P kt v m.key b:=λm hm=>by
   obtain⟨j,e,q1,_,q3,_⟩:=at_ m hm
   by_cases hj:j=j0
   subst hj;rw[h2] at q1;cases q1;exact⟨_,xX hk h3 hv q3⟩;exact⟨_,xX hk (h4 j e q1 hj) hv q3⟩
  have Ni:m0∈aW.toList:=hp.mem_iff.1 (aua p1);have js:v=m0.key:=(xX hk h3 hv p2).2.1 rfl;rcases Nf hk aW.toList J2 w with⟨j,m,g1,g2,g3⟩|⟨_,g2⟩;have zy:m=m0:=by
   obtain⟨j1,e,q1,q2,q3,q4⟩:=at_ m (aua g2)
   by_cases hj:j1=j0
   subst hj;rw[p1] at q2;cases q2;rfl;have:=(xX hk (h4 j1 e q1 hj) hv q3).2.2 g3.symm;cases this
  subst zy;rw[at5] at g2;have GR:=agd hk h3 hv p2;have GS:(Instr.keyThatStays m.key v).run P w=.ok v w:=by simp[Instr.keyThatStays,GR]
  have cS:(Instr.mapUpdate t (.map (some (φ.aL i'))) v z).run P w=.ok () {w with heap:=w.heap.setIfInBounds (φ.aL i') (.map (aW.modify j λe=>{e with key:=v,val:=z}) aD)}:=by simp[Instr.mapUpdate,bZ ht,getObj,setObj,Sem.run,hb,GO,g1,g2,GS]
  have vi:=MapKept.heap_set (o':=.map (aW.modify j λe=>{e with key:=v,val:=z}) aD) hb;have GU:=age (F:=λe=>{e with key:=v,val:=z}) g2 xY;have wF:(l.map (·.born)).Nodup:=(hp.map _).nodup_iff.2 xY;have Y1:∀e∈aW.toList,(if e.born=m.born then{e with key:=v,val:=z} else e:MapEntry).key=e.key:=λe he=>by
   split;rename_i DP;have:e=m:=by
    obtain⟨q,hq⟩:=aum he;obtain⟨q',Ci⟩:=aum Ni;have e1:(aW.toList.map (·.born))[q]? =some m.born:=by rw[auh,hq,<-DP];rfl
    have e2:(aW.toList.map (·.born))[q']? =some m.born:=by rw[auh,Ci];rfl
    have:=(aws (at0.1 e1).1 xY).1 (e1.trans e2.symm);subst this;rw[hq] at Ci;cases Ci;rfl
   rw[this];exact js;rfl
  have Nj:∀e:MapEntry,(if e.born=m.born then{e with key:=v,val:=z} else e:MapEntry).born=e.born:=λe=>by split<;>rfl
  obtain⟨r',st⟩:=JC (h':=h.set i' (.map (es.set j0 (k',y)) aD)) (w':={w with heap:=w.heap.setIfInBounds (φ.aL i') (.map (aW.modify j λe=>{e with key:=v,val:=z}) aD)}) (i:=i') (o':=.map (es.set j0 (k',y)) aD) r qaD rfl (λj=>Hp.tS _ _ _ _) zm (λc hc=>vi.2 c hc)
   (by
    refine⟨_,vi.1,⟨l.map λe=>if e.born=m.born then{e with key:=v,val:=z} else e,by rw[GU,A2],by simp[bz],λq e he=>?_⟩,?_,?_,?_,?_⟩;rw[auh];rw[awt] at he;split at he;rename_i hq;subst hq;split at he;cases he;rw[p1];exact⟨_,rfl,by simp only[auo];rw[js];exact p2,by simp only[auo];exact hy⟩;cases he;rename_i hq;obtain⟨m1,q1,q2,q3⟩:=pQ q e he;rw[q1];have bg:¬m1.born=m.born:=λDP=>by
     have e1:(l.map (·.born))[q]? =some m.born:=by rw[auh,q1,<-DP];rfl
     have e2:(l.map (·.born))[j0]? =some m.born:=by rw[auh,p1];rfl
     exact hq ((aws (at0.1 e1).1 wF).1 (e1.trans e2.symm)).symm
    exact⟨m1,by simp only[au3,bg,auM],q2,q3⟩;rw[GU,av4];have:aW.toList.map ((·.key)∘λe=>if e.born=m.born then{e with key:=v,val:=z} else e)=aW.toList.map (·.key):=avB λe he=>Y1 e he;rw[this];exact GP;rw[GU,av4];have:aW.toList.map ((·.born)∘λe=>if e.born=m.born then{e with key:=v,val:=z} else e)=aW.toList.map (·.born):=avB λe _=>Nj e;rw[this];exact xY;intro e he;rw[GU] at he;obtain⟨e0,he0,rfl⟩:=auR.1 he;rw[Nj];exact DZ e0 he0;rw[GU,av4];have:aW.toList.map ((·.born)∘λe=>if e.born=m.born then{e with key:=v,val:=z} else e)=aW.toList.map (·.born):=avB λe _=>Nj e;rw[this];exact GQ)
   (λq ek m' vr todo eC _ _ e D5 fQ he=>by rw[e,vi.1] at he;cases he;exact⟨aW,aD,by rw[e];exact hb,at2 _,λ_=>⟨λe=>if e.born=m.born then{e with key:=v,val:=z} else e,Nj,λe a he hd=>by rw[Y1 e he];exact hd,GU⟩⟩) rfl rfl rfl
  exact⟨rfl,_,φ,cS,r',st⟩;exact absurd js.symm (g2 m0 Ni);trivial;trivial
theorem agf{w:World}{φ:aH}{n:Nat}{o:Obj}{z:Nat}:(w.alloc o).heap[(φ.put n w.heap.size 0 z).aL n]? =some o:=by have e:(φ.put n w.heap.size 0 z).aL n=w.heap.size:=atV rfl;rw[e];exact avw
theorem SA:∀es:List (AV×AV),FR es=es.map (·.1)
 |[]=>rfl
 |e::r=>by simp[FR,SA r]
theorem agh{t kt e:TypeId}{ek:EK}(r:R φ h w)(ht:P.underlying t=some (.map kt e))(hk:Qb ek=false){x:AV}{u:Value}(hx:aj φ x u):k6 P φ h w (Instr.range t u) (FT ek h x):=by
 cases x<;>simp only[aj] at hx<;>first|trivial|skip
 case map m=>
  obtain⟨d,rfl⟩:=hx;simp only[FT,hk,awX];split;rename_i es aD hg;have ob:=r.gq m;rw[hg] at ob;obtain⟨aW,hb,⟨l,A2,bz,pQ⟩,GP,xY,DZ,GQ⟩:=ob;have hp:l.Perm aW.toList:=.of_eq A2;have ao:φ.aL m<w.heap.size:=r.lt m qaD;have cS:(Instr.range t (.map (some (φ.aL m)))).run P w=.ok (.pointer (some ⟨w.heap.size,0,none⟩)) (w.alloc (.mapIter (some (φ.aL m)) aD #[] aD)):=by simp[Instr.range,bZ ht,getObj,Sem.run,hb]
  have A3:(w.alloc (.mapIter (some (φ.aL m)) aD #[] aD)).heap[φ.aL m]? =some (.map aW aD):=by rw[(MapKept.heap_alloc w _).2 _ ao];exact hb
  refine GK (z:=0) r cS rfl (λle=>?_) λ_ _=>YN;have vj:(φ.put h.nx w.heap.size 0 0).aL m=φ.aL m:=le.aL m d;refine⟨by simp[aH.put],le.dom m d,by rw[vj];simp;omega,λD5 fQ he=>?_,#[],by rw[vj];exact agf,λD5 he=>?_⟩;rw[vj,A3] at he;cases he;exact at2 _;rw[vj,A3] at he;cases he;have nV:aW.toList.filter (λe=> !(#[]:Array Nat).contains e.born)=aW.toList:=awL.2 zm;refine⟨⟨l,by rw[nV];exact hp,by rw[bz,SA];simp,λk a ha=>?_⟩,λk hk=>by cases hk⟩;rw[SA,auh] at ha;cases he:es[k]? with
  |none=>rw[he] at ha;cases ha
  |some e'=>
   rw[he] at ha;cases ha;obtain⟨m',q1,q2,_⟩:=pQ k e' he;exact⟨m',q1,nS le _ _ q2⟩
  trivial
theorem aoW{s:ByteArray}{pos:Nat}{b:UInt8}(hb:s[pos]? =some b)(h7:b.toNat<=127):Utf8.decode s pos=(b.toNat,1):=by
 have hp:pos<s.size:=(awd.1 hb).1;have e:s.get! pos=b:=by have h2:=(awd.1 hb).2;have h3:s.get! pos=s.data[pos]! :=rfl;rw[h3,axe s.data pos hp];exact h2
 unfold Utf8.decode;simp only[aud,e];rw[atV zo]
theorem jY{s:Sem Value}{m:String}:k6 P φ h w s (.bad m):=trivial
theorem Y2:∀(c:Nat)(l:List AV)(x:AV),l[c]? =some x->BU c l=some (x,l.eraseIdx c)
 |_,[],x,hx=>by simp at hx
 |0,e::r,x,hx=>by simp at hx;subst hx;rfl
 |c+1,e::r,x,hx=>by simp only[auV] at hx;simp only[BU,Y2 c r x hx,aw3]
theorem Y3{e:MapEntry}:∀(l:List MapEntry)(c:Nat),l[c]? =some e->(l.map (·.born)).Nodup->l.filter (λx=> !(x.born==e.born))=l.eraseIdx c
 |[],c,hc,_=>by simp at hc
 |x::l,0,hc,hn=>by
  simp at hc;subst hc;simp only[aul,au6] at hn;simp only[List.eraseIdx_cons_zero,awB,avX,axB,at3,auM];exact awL.2 λy hy=>by have:y.born≠x.born:=λh=>hn.1 (h▸awJ hy);simpa using this
 |x::l,c+1,hc,hn=>by simp only[auV] at hc;simp only[aul,au6] at hn;have:x.born≠e.born:=λh=>hn.1 (h▸awJ (aua hc));simp only[aw3,awB];rw[atV (by simpa using this),Y3 l c hc hn.2]
theorem agi{i m:Nat}{ek:EK}{aD:Nat}{todo:List AV}{eC:Option AV}{es:List (AV×AV)}{ty:TypeId}(r:R φ h w)(hg:h.get i=.jx ek m aD todo eC)(hm:h.get m=.map es aD):
 (todo=[]/\(Instr.next (.pointer (some ⟨φ.aL i,φ.sh i+0,none⟩)) false ty).run P w=.ok (.tuple #[.bool false]) w)\/
 ∃c x v z w',c<todo.length/\todo[c]? =some x/\(Instr.next (.pointer (some ⟨φ.aL i,φ.sh i+0,none⟩)) false ty).run P w=.ok (.tuple #[.bool true,v,z]) w'/\
  R φ (h.set i (.jx ek m aD (todo.eraseIdx c) (some x))) w'/\eS φ h w φ w' (h.set i (.jx ek m aD (todo.eraseIdx c) (some x))):=by
 have ob:=r.gq i;rw[hg] at ob;obtain⟨D7,dm,ao,JB,seen,hb,hh⟩:=ob;have om:=r.gq m;rw[hm] at om;obtain⟨aW,vj,_,GP,xY,DZ,_⟩:=om;obtain⟨⟨l,hp,bz,pQ⟩,_⟩:=hh aW vj;have cK:(leftOf aW seen).toList=aW.toList.filter λe=> !seen.contains e.born:=by simp[leftOf]
 rw[D7,aue];rcases run_next_at (P:=P) w ty (φ.aL i) (φ.aL m) aD aD seen aW aD hb vj DZ zl with⟨h0,cS⟩|⟨e,he,w1,Cj,cS⟩;refine .inl ⟨auv ?_,cS⟩;rw[<-bz,hp.length_eq,<-cK];simpa using h0;rw[cK] at he;obtain⟨c,hc⟩:=aum (hp.mem_iff.2 he);have nT:c<todo.length:=by rw[<-bz];exact(at0.1 hc).1
 obtain⟨e',q1,q2⟩:=pQ c todo[c] (atT nT);rw[hc] at q1;cases q1;refine .inr ⟨c,todo[c],e.key,e.val,_,nT,atT nT,cS,?_⟩;have agj:w1.heap=w.heap:=by rcases Cj with rfl|rfl<;>rfl
 have D8:w1.os=w.os:=by rcases Cj with rfl|rfl<;>rfl
 have sM:w1.output=w.output:=by rcases Cj with rfl|rfl<;>rfl
 have agk:w1.tape=w.tape:=by rcases Cj with rfl|rfl<;>rfl
 have vi:=MapKept.heap_set (o':=.mapIter (some (φ.aL m)) aD (seen.push e.born) aD) hb;have D9:(ChangeMaps.setBlock w1 (φ.aL i) (.mapIter (some (φ.aL m)) aD (seen.push e.born) aD)).heap=w.heap.setIfInBounds (φ.aL i) (.mapIter (some (φ.aL m)) aD (seen.push e.born) aD):=by show w1.heap.setIfInBounds _ _=_;rw[agj]
 have bg:φ.aL m≠φ.aL i:=λe=>by rw[e,hb] at vj;cases vj
 have wF:(l.map (·.born)).Nodup:=(hp.map _).nodup_iff.2 ((List.filter_sublist.map _).nodup xY);refine JC (h':=h.set i (.jx ek m aD (todo.eraseIdx c) (some todo[c]))) (i:=i) (o':=.jx ek m aD (todo.eraseIdx c) (some todo[c])) r qaD rfl (λj=>Hp.tS ..) (by rw[D9];simp) (λc hc=>by rw[D9];exact vi.2 c hc) ?_
  (λj ek m' vr td cr _ _ e D5 fQ he=>by rw[D9,e,vi.1] at he;cases he) D8 sM agk
 refine⟨D7,dm,by rw[D9];simpa using ao,λD5 fQ he=>?_,seen.push e.born,by rw[D9];exact vi.1,λD5 he=>?_⟩;rw[D9,vi.2 _ bg] at he;exact JB D5 fQ he;rw[D9,vi.2 _ bg,vj] at he;cases he;refine⟨⟨l.eraseIdx c,?_,by rw[axl,axl,bz],λk x hx=>?_⟩,λk hk=>?_⟩;rw[<-Y3 l c hc wF];refine(hp.filter _).trans (List.Perm.of_eq ?_);rw[List.filter_filter];refine awY λy _=>?_;rw[avA];simp[and_comm];rw[List.getElem?_eraseIdx] at hx⊢;split at hx;rename_i SB;rw[atV SB];exact pQ k x hx;rename_i SB;rw[atS SB];exact pQ (k+1) x hx;cases hk;exact⟨e.born,e,by simp,(avv.1 he).1,rfl,q2⟩
theorem agl{ek:EK}{p q:AV}(hf:Qa ek=false)(he:cJ ek p q=some true){u v:Value}(hu:aj φ p u)(hv:aj φ q v):u=v:=by
 cases ek with
 |cell k=>exact(JY (GA (show sD k p q=some true from he) hu hv)).1 rfl
 |Dm ks=>
  simp only[cJ] at he;split at he;simp only[aj] at hu hv;obtain⟨X,rfl,hX,_⟩:=hu;obtain⟨Y,rfl,hY,_⟩:=hv;rw[axK ((Su (GB he hX hY)).1 rfl)];cases he
 |bN k=>cases hf
 |ptr=>
  simp only[cJ] at he;split at he;simp only[aj] at hu hv;rw[hu,hv];cases he;cases he;obtain⟨_,rfl,rfl⟩:=Ys he;simp only[aj] at hu hv;rw[hu.2,hv.2];cases he
 |Mc l=>
  simp only[cJ] at he;split at he;rename_i g1 v1 g2 v2;simp only[aj] at hu hv;obtain⟨u1,rfl,wD⟩:=hu;obtain⟨u2,rfl,pM⟩:=hv;cases hg:Nat.beq g1 g2 with
  |false=>rw[hg] at he;cases he
  |true=>
   rw[hg] at he;obtain rfl:=at7 hg;cases hm:BR g1 l with
   |false=>rw[hm] at he;cases he
   |true=>
    rw[hm] at he;simp only[cond] at he;split at he;rename_i a1 a2;simp only[atU,Yt,av9] at he;simp only[aj] at wD pM;rw[wD,pM,he];cases he
  cases he
 |_=>
  simp only[cJ] at he;split at he<;>first|cases he|skip
  simp only[aj] at hu hv;rw[hu,hv]
theorem agm{i:Nat}{off:Nat}(r:R φ h w)(hx:aj φ (.ptr i off) (.pointer (some ⟨φ.aL i,φ.sh i+off,none⟩))):dI P φ w (Instr.entry (.pointer (some ⟨φ.aL i,φ.sh i+off,none⟩))) (FU h (.ptr i off)):=by
 simp only[FU];refine sP (λrQ=>?_) λ_=>trivial;rw[beq_iff] at rQ;subst rQ;split;rename_i ek m aD todo k hg;split;rename_i es IT hm;refine sP (λhv=>?_) λ_=>trivial;simp only[atW,avT] at hv;obtain⟨hv,Gz⟩:=hv;rw[beq_iff] at hv;subst hv;split;rename_i v hf;have ob:=r.gq i;rw[hg] at ob;obtain⟨D7,dm,ao,JB,seen,hb,hh⟩:=ob;have om:=r.gq m;rw[hm] at om;obtain⟨aW,vj,⟨l,A2,bz,pQ⟩,GP,xY,DZ,_⟩:=om;have hp:l.Perm aW.toList:=.of_eq A2;obtain⟨_,SC⟩:=hh aW vj;obtain⟨b,e,agn,he,DP,pR⟩:=SC k rfl;rcases Nh hf with⟨h0,_⟩|⟨j,k',v',h0,h1,h2,_⟩;cases h0;cases h0;obtain⟨m1,q1,q2,q3⟩:=pQ j _ h1;have ago:e.key=m1.key:=agl Gz h2 pR q2;have nW:m1∈aW.toList:=hp.mem_iff.1 (aua q1);have zM:e=m1:=by
  obtain⟨x,hx⟩:=aum he;obtain⟨y,hy⟩:=aum nW;have e1:(aW.toList.map (·.key))[x]? =some m1.key:=by rw[auh,hx,<-ago];rfl
  have e2:(aW.toList.map (·.key))[y]? =some m1.key:=by rw[auh,hy];rfl
  have:=(aws (at0.1 e1).1 GP).1 (e1.trans e2.symm);subst this;rw[hx] at hy;cases hy;rfl
 subst zM;subst DP;have SD:aW.find? (·.born==e.born)=some e:=by rw[<-Array.find?_toList];exact find_born e aW.toList xY he
 refine⟨.tuple #[e.key,e.val],?_,by simp only[aj];exact⟨_,rfl,qS.2 ⟨pR,qS.2 ⟨q3,sJ⟩⟩⟩⟩;rw[D7,aue];simp only[Instr.entry,getObj,Sem.run_bind,Sem.run,hb,vj,Result.andThen,agn,bne_self_eq_false,at3,auM,SD];rfl;trivial;trivial;trivial
theorem agp{i:AO}{off rw n:Nat}{l:List (List AV)}(h:kZ i off rw n=some l):i.ig=true:=by cases i<;>first|rfl|simp[kZ] at h
def sS(φ:aH)(n:Nat)(c:Nat->Option AV)(vs:List Value):Prop:=
 vs.length=n/\(∀(j:Nat)(x:AV),j<n->c j=some x->∃v,vs[j]? =some v/\aj φ x v)/\∀v∈vs,v.oneCell'=true
theorem Y4{i:Nat}{o:AO}{aO:Array Value}{el:Nat}{fr:Nat×Nat}{off rw n:Nat}{rs:List (List AV)}(GF:o.wf)(b1:w.heap[φ.aL i]? =some (.cells aO el fr))(b3:φ.sh i+o.count<=aO.size)
 (b4:∀(j:Nat)(a:AV),o.cell j=some a->∃v,aO[φ.sh i+j]? =some v/\aj φ a v) (b5:∀(j:Nat)(v:Value),j<o.count->aO[φ.sh i+j]? =some v->v.oneCell'=true) (hc:kZ o off rw n=some rs):
 ∃vs:List Value,sS φ (n*rw) (λj=>o.cell (off+j)) vs/\nj rs rw n (λj=>o.cell (off+j))/\(0<n*rw->off+n*rw<=o.count)/\
  ∀(j:Nat)(v:Value),vs[j]? =some v->w.cell? ⟨φ.aL i,φ.sh i+off+j,none⟩=some v:=by
 obtain⟨h1,h2⟩:=X1 GF hc
 by_cases hn:n*rw=0
 exact⟨[],⟨hn.symm,λj x hj=>by omega,by simp⟩,h1,h2,by simp⟩;have ao:=h2 zo;have e:∀j,j<n*rw->((aO.toList.drop (φ.sh i+off)).take (n*rw))[j]? =aO[φ.sh i+off+j]? :=λj hj=>by rw[auE hj,auF,at5]
 have lt:∀(j:Nat)(v:Value),((aO.toList.drop (φ.sh i+off)).take (n*rw))[j]? =some v->j<n*rw:=λj v hv=>by have:=(at0.1 hv).1;simp at this;omega
 refine⟨(aO.toList.drop (φ.sh i+off)).take (n*rw),⟨by simp;omega,λj x hj hx=>?_,λv hv=>?_⟩,h1,h2,λj v hv=>?_⟩;obtain⟨v,hv,hd⟩:=b4 _ _ hx;exact⟨v,by rw[e j hj,avg];exact hv,hd⟩;obtain⟨j,hj⟩:=aum hv;have sR:=lt j v hj;rw[e j sR,avg] at hj;exact b5 _ _ zo hj;have sR:=lt j v hv;rw[e j sR] at hv;simp[World.cell?,b1,hv]
theorem Nk{i:Nat}{off rw n:Nat}{rs:List (List AV)}(r:R φ h w)(hc:kZ (h.get i) off rw n=some rs):
 ∃vs:List Value,sS φ (n*rw) (λj=>(h.get i).cell (off+j)) vs/\nj rs rw n (λj=>(h.get i).cell (off+j))/\(0<n*rw->off+n*rw<=(h.get i).count)/\
  ∀(j:Nat)(v:Value),vs[j]? =some v->w.cell? ⟨φ.aL i,φ.sh i+off+j,none⟩=some v:=by
 have ok:=tW r (agp hc);obtain⟨aO,fr,b1,b2,b3,b4,b5,b6⟩:=ok.aL;exact Y4 ok.wf b1 b3 b4 (λj v _ hv=>b5 _ v hv) hc
theorem agq{o:AO}{off rw n:Nat}{rs:List (List AV)}(h:kZ (wo o) off rw n=some rs):o.ig=true/\wo o=o\/∃rw cnt t,o=.cB rw cnt t:=by cases o<;>first|exact .inl ⟨rfl,rfl⟩|exact .inr ⟨_,_,_,rfl⟩|simp[wo,kZ] at h
theorem agr{i:Nat}{off rw n:Nat}{rs:List (List AV)}(r:R φ h w)(hc:kZ (wo (h.get i)) off rw n=some rs):
 ∃vs:List Value,sS φ (n*rw) (λj=>(wo (h.get i)).cell (off+j)) vs/\nj rs rw n (λj=>(wo (h.get i)).cell (off+j))/\(0<n*rw->off+n*rw<=(wo (h.get i)).count)/\
  ∀(j:Nat)(v:Value),vs[j]? =some v->w.cell? ⟨φ.aL i,φ.sh i+off+j,none⟩=some v:=by
 rcases agq hc with⟨_,e⟩|⟨nN,cnt,t,ho⟩;rw[e] at hc⊢;exact Nk r hc;have ob:=r.gq i;rw[ho] at ob hc⊢;obtain⟨h1,h2,aO,el,fr,h3,h4,h5,h6⟩:=ob;rw[h3] at h1;exact Y4 (o:=.rows 0 nN cnt 0 t) h2 h1 h4 h5 h6 hc
theorem SE:∀(l n:Nat),(mg l n).length=l
 |0,_=>rfl
 |l+1,n=>by simp[mg,SE l]
theorem SF:∀(l n k:Nat),k<l->(mg l n)[k]? =some [.u8 (lF n k)]
 |l+1,n,0,_=>by simp[mg,lF]
 |l+1,n,k+1,hk=>by simp only[mg,auV];rw[SF l _ k zo,X7]
theorem Nl{l n:Nat}:nj (mg l n) 1 l (λj=>if j<l then some (.u8 (lF n j)) else none):=by
 refine⟨SE l n,λr hr=>?_,λk j hk hj=>?_⟩;obtain⟨k,hk⟩:=aum hr;have uW:k<l:=by have:=(at0.1 hk).1;rwa[SE] at this
 rw[SF l n k uW] at hk;cases hk;rfl;have:j=0:=zo;subst this;rw[aub,SF l n k hk];simp[hk]
theorem Nm{rw n:Nat}{y:AV}{v:Value}{rs:List (List AV)}(r:R φ h w)(hy:aj φ y v)(gO:rL h rw y=some rs)(hn:lenOf y=some n):
 ∃(cs:Array Value) (c:Nat->Option AV),(Builtin.lenOf v).run P w=.ok n w/\(Builtin.firstCells rw n v).run P w=.ok cs w/\nj rs rw n c/\sS φ (n*rw) c cs.toList:=by
 cases y<;>simp only[rL,reduceCtorEq] at gO<;>simp only[lenOf,atU] at hn<;>simp only[aj] at hy
 case bx=>
  subst hy;subst hn;cases gO;exact⟨#[],λ_=>none,rfl,rfl,⟨rfl,by simp,λk j hk=>absurd hk (avm _)⟩,⟨by simp,λj x _ hx=>(by cases hx),by simp⟩⟩
 case slice i off nN len cap ex=>
  subst hn;obtain⟨d,ad,cc,rfl,g1,g2,g3,g4⟩:=hy;obtain⟨vs,hvs,ha,_,nU⟩:=agr r gO;refine⟨vs.toArray,_,rfl,?_,ha,by simpa using hvs⟩
  by_cases h0:len*rw=0
  have:vs=[]:=auv (by rw[hvs.1,h0]);subst this;simp[Builtin.firstCells,loadCells,h0,loadCellsFrom];have wE:cc≠0:=by intro h;subst h;have:len=0:=zo;subst this;simp at h0
  obtain⟨e1,_⟩:=g4 wE;subst e1;have hl:=run_loadCells_list (P:=P) w ⟨φ.aL i,φ.sh i+off,none⟩ vs (λj v hv=>by rw[xV];exact nU j v hv);rw[hvs.1] at hl;simpa[Builtin.firstCells] using hl
 case str l m=>
  subst hn;obtain⟨s,rfl,hs⟩:=hy;obtain⟨hb,gO⟩:=qt gO;rw[beq_iff] at hb;subst hb;cases gO;have cP:=hs.size;refine⟨(s.extract 0 l).data.map λb=>.int .u8 b.toNat,_,by simp[Builtin.lenOf,cP],rfl,Nl,?_⟩;have jz:s.extract 0 l=s:=by rw[<-cP];simp
  rw[jz];refine⟨by simp only[awC,avd,avc,axu];exact cP,λj x hj hx=>?_,λv hv=>?_⟩;rw[axu] at hj;simp only[atV hj] at hx;cases hx;obtain⟨b,qW,fX⟩:=hs.get hj;have rT:s.data[j]? =some b:=by have h2:=awd.1 qW;obtain⟨h3,h4⟩:=h2;exact auc.2 ⟨h3,h4⟩
  exact⟨.int .u8 b.toNat,by simp[rT],by simp only[aj];rw[fX]⟩;simp at hv;obtain⟨b,_,rfl⟩:=hv;rfl
theorem Nn{t u ty e:TypeId}{ud:TypeDesc}{i:TypeInfo}{base:Option Addr}{mq qX n:Nat}{v:Value}{cs:Array Value}{w w':World}(ht:P.underlying t=some (.slice e))(hu:P.underlying u=some ud)(lK:(∃e',ud=.slice e')\/ud=.string)
 (hi:P.info? e=some i) (bz:(Builtin.lenOf v).run P w=.ok n w) (xZ:(Builtin.firstCells i.size n v).run P w=.ok cs w) (wG:mq+n<=qX)
 (lJ:∀ad,base=some ad->(storeCells (ad.add (mq*i.size)) cs.toList).run P w=.ok () w') (jK:base=none->w'=w):
 (Builtin.append_ #[t,u] ty #[.slice base mq qX,v]).run P w=.ok (.slice base (mq+n) qX) w':=by
 have cP:(Go.sizeOf e).run P w=.ok i.size w:=by simp[Go.sizeOf,typeInfo,hi]
 cases base with
 |none=>
  cases jK rfl;rcases lK with⟨e',rfl⟩|rfl;simp[Builtin.append_,bZ ht,bZ hu,cP,bz,xZ,wG];simp[Builtin.append_,bZ ht,bZ hu,cP,bz,xZ,wG]
 |some ad=>
  have:=lJ ad rfl;rcases lK with⟨e',rfl⟩|rfl;simp[Builtin.append_,bZ ht,bZ hu,cP,bz,xZ,wG,this];simp[Builtin.append_,bZ ht,bZ hu,cP,bz,xZ,wG,this]
theorem Y5{t u ty e:TypeId}{ud:TypeDesc}{i:TypeInfo}{zv:Value}{base:Option Addr}{mq qX n:Nat}{v:Value}{cs iI:Array Value}{w:World}(ht:P.underlying t=some (.slice e))(hu:P.underlying u=some ud)(lK:(∃e',ud=.slice e')\/ud=.string)
 (hi:P.info? e=some i) (hz:i.zero=some zv) (bz:(Builtin.lenOf v).run P w=.ok n w) (xZ:(Builtin.firstCells i.size n v).run P w.drew=.ok cs w.drew) (A3:(Builtin.firstCells i.size mq (.slice base mq qX)).run P w.drew=.ok iI w.drew)
 (wG:¬mq+n<=qX) (SG:mq+n<2^62) (tX:¬Builtin.nextslicecap (mq+n) qX*i.bytes>2^48):
 ∃c,mq+n<=c/\(Builtin.append_ #[t,u] ty #[.slice base mq qX,v]).run P w=.ok (.slice (some ⟨w.heap.size,0,none⟩) (mq+n) c) (w.drew.alloc (.cells (iI++cs++Builtin.zeroCells zv.cells (c- (mq+n))) e)):=by
 have cP:(Go.sizeOf e).run P w=.ok i.size w:=by simp[Go.sizeOf,typeInfo,hi]
 have Y6:∀w,(typeInfo e).run P w=.ok i w:=λw=>by simp[typeInfo,hi]
 have h63':¬(9223372036854775807<((mq:Int)+(n:Int))):=zo;have h48':¬(281474976710656<Builtin.nextslicecap (mq+n) qX*i.bytes):=zo;have Y7:∀w,(zeroValue e).run P w=.ok zv w:=λw=>DY hi hz w;have Y8:∀b w,(askRoom b).run P w=.ok () w:=λb w=>by unfold askRoom;split<;>rfl
 refine⟨grownCap w (mq+n) qX e,grownCap_ge w (mq+n) qX e,?_⟩;rcases lK with⟨e',rfl⟩|rfl;simp[Builtin.append_,bZ ht,bZ hu,cP,bz,Y6,wG,h63',h48',Question.forced,Y8,A3,xZ,Y7,newRow,grownCap];simp[Builtin.append_,bZ ht,bZ hu,cP,bz,Y6,wG,h63',h48',Question.forced,Y8,A3,xZ,Y7,newRow,grownCap]
theorem Ck(w:World):sL w w.drew:=⟨rfl,rfl,rfl,rfl⟩
theorem Y9{s:Sem Value}{h0:Hp}{o':AO}{e sE c rw:Nat}{A:Array Value}{cc:Nat->Option AV}{qv:Option Nat}(r:R φ h w)
 (cS:s.run P w=.ok (.slice (some ⟨w.heap.size,0,none⟩) sE c) (w.drew.alloc (.cells A e))) (cP:A.size=c*rw) (hc:sE<=c)
 (hk:∀i,qv=some i->AY (h.get i)=true) (ij:∀j,h0.get j=if qv=some j then .eD else h.get j) (wI:h0.nx=h.nx)
 (hw:o'.wf) (fR:o'.ig=true) (vk:o'.DO=false) (qT:o'.count=sE*rw) (sU:o'.el=e) (nU:∀(j:Nat)(x:AV),o'.cell j=some x->j<sE*rw/\cc j=some x)
 (hA:∀(j:Nat)(x:AV),j<sE*rw->cc j=some x->∃v,A[j]? =some v/\aj φ x v) (h1:∀v∈A.toList,v.oneCell'=true):
 k6 P φ h w s (alloc h0 o' λj=>.slice j 0 rw sE sE false):=by
 unfold alloc;have hn:jN (h0.get h0.nx)=true:=h0.fresh;rw[wI,ij] at hn;split at hn;cases hn;rename_i X2;have r0:=r.same (Ck w);have dB:¬φ.dom h.nx:=λd=>by rw[(r.dom _).1 d] at hn;cases hn
 have le:φ.le (φ.put h.nx w.heap.size 0 (c*rw)):=aH.Ca dB;have zJ:kM (φ.put h.nx w.drew.heap.size 0 A.size) (w.drew.alloc (.cells A o'.el)) h.nx o':=by refine JR (w:=w.drew) hw fR ⟨by rw[qT,cP];exact at4 _ hc,λh=>by rw[vk] at h;cases h⟩ (λj x hx=>?_) (YM h1);obtain⟨hj,kN⟩:=nU j x hx;obtain⟨v,hv,hd⟩:=hA j x hj kN;exact⟨v,hv,nS (by rw[cP];exact le) _ _ hd⟩
 have fV:dH o'=true:=by cases o'<;>first|rfl|simp[AO.ig] at fR
 obtain⟨r',st⟩:=MT (h':=h0.push o') (w':=w.drew.alloc (.cells A e)) (n:=h.nx) (o':=o') (b:=w.heap.size) (s:=0) (z:=c*rw) (qv:=qv) r0 hn fV hk
  (λj=>by rw[Hp.B8,wI];split;rfl;exact ij j) (.inl rfl) zm zm (λc hc _=>by rw[(MapKept.heap_alloc w.drew _).2 c hc]) (λ_ _=>.inr rfl) (by rw[sU,cP] at zJ;exact zJ) rfl rfl rfl
 refine⟨_,_,_,cS,r',(eS.same (Ck w)).trans st,?_⟩;rw[wI];exact JU zl hc zm rfl
theorem No{rw:Nat}:∀{rs:List (List AV)}{n:Nat}{c:Nat->Option AV},nj rs rw n c->rs.flatten.length=n*rw/\∀j,j<n*rw->rs.flatten[j]? =c j
 |[],n,c,hr=>by have:=hr.len;simp at this;subst this;exact⟨by simp,λj hj=>by simp at hj⟩
 |r::rs,n,c,hr=>by
  have hn:=hr.len;simp only[atX] at hn;obtain⟨n',rfl⟩:∃n',n=n'+1:=⟨rs.length,hn.symm⟩;have Cl:r.length=rw:=hr.row r zm;have qY:nj rs rw n' (λj=>c (rw+j)):=⟨by omega,λx hx=>hr.row x qaA,λk j hk hj=>by have:=hr.cell (k+1) j zo hj;simp only[awi] at this;rw[this];congr 1;rw[auC,avz];omega⟩
  obtain⟨h1,h2⟩:=No qY;have e:(n'+1)*rw=n'*rw+rw:=by rw[auC,avz]
  refine⟨by simp only[awu,auk,h1,Cl,e];omega,λj hj=>?_⟩;simp only[awu]
  by_cases pO:j<rw
  rw[aun zo];have:=hr.cell 0 j zo pO;simpa using this;rw[auq zo,h2 _ zo,Cl];congr 1;omega
theorem Za{rw n:Nat}{rs:List (List AV)}{c:Nat->Option AV}{vs:List Value}(hr:nj rs rw n c)(hc:sS φ (n*rw) c vs):cz φ rs.flatten vs:=by
 obtain⟨h1,h2⟩:=No hr;refine Gn (by rw[hc.1,h1]) λj x hx=>?_;have hj:j<n*rw:=by rw[<-h1];exact(at0.1 hx).1
 rw[h2 j hj] at hx;exact hc.2.1 j x hj hx
theorem SH{rw:Nat}:∀{rs:List (List AV)}{o o':AO}{off:Nat},o.wf->rs≠[]->(∀r∈rs,r.length=rw)->yW o off rw rs=some o'->RC o off rs.flatten o'
 |[],_,_,_,_,bg,_,_=>absurd rfl bg
 |[r],o,o',off,hw,_,_,hp=>by simp only[yW] at hp;split at hp;rename_i o1 h1;cases hp;simpa using RD hw h1;cases hp
 |r::r2::rs,o,o',off,hw,_,hl,hp=>by
  rw[yW] at hp;split at hp;rename_i o1 h1;have s1:=RD hw h1;have s2:=SH (rs:=r2::rs) (o:=o1) (o':=o') (off:=off+rw) s1.wf zm (λx hx=>hl x qaA) hp;have Cl:r.length=rw:=hl r zm;have h2l:r2.length=rw:=hl r2 zm;rw[awu];generalize hm:(r2::rs).flatten=m at s2⊢;have RE:m.length>=rw:=by rw[<-hm,awu,auk];omega
  refine⟨s2.wf,s2.cells,s2.count.trans s1.count,s2.fz.trans s1.fz,s2.el.trans s1.el,λmO=>?_,s1.XZ,λj=>?_,s2.one.trans s1.one⟩;rw[auk] at mO⊢;have:=s2.room zo;rw[s1.count] at this;omega;rw[s2.cell,s1.cell,auk]
  by_cases c1:off+rw<=j/\j<off+rw+m.length
  rw[atV c1,atV zo,auq zo];congr 1;omega;rw[atS c1]
  by_cases c2:off<=j/\j<off+r.length
  rw[atV c2,atV zo,aun zo];rw[atS c2,atS zo];cases hp
def both(m:Nat)(c1 c2:Nat->Option AV)(j:Nat):Option AV:=if j<m then c1 j else c2 (j- m)
theorem Zb{iI rs:List (List AV)}{rw m n:Nat}{c1 c2:Nat->Option AV}(h1:nj iI rw m c1)(h2:nj rs rw n c2):nj (iI++rs) rw (m+n) (both (m*rw) c1 c2):=by
 refine⟨by rw[auk,h1.len,h2.len],λr hr=>?_,λk j hk hj=>?_⟩;rcases auj.1 hr with hr|hr;exact h1.row r hr;exact h2.row r hr;unfold both
 by_cases SI:k<m
 rw[atV (AW SI hj),<-h1.cell k j SI hj];simp only[aub];rw[aun (by rw[h1.len];exact SI)];have GV:m*rw<=k*rw:=at4 _ zo;rw[atS zo,show k*rw+j- m*rw=(k- m)*rw+j by rw[awT];omega,<-h2.cell (k- m) j zo hj];simp only[aub];rw[auq (by rw[h1.len];omega),h1.len]
theorem Np{el rw n:Nat}{rs:List (List AV)}{c:Nat->Option AV}(dX:0<rw)(hn:n<=1152921504606846976)(hr:nj rs rw n c)(j:Nat)(x:AV)(hx:(jJ el rw n rs).cell j=some x):j<n*rw/\c j=some x:=by
 obtain⟨m1,m2⟩:=Gs (el:=el) dX hn hr
 by_cases hj:j<n*rw
 exact⟨hj,by rw[<-m2 j hj];exact hx⟩;simp only[jJ,AO.cell,atS hj] at hx;cases hx
structure SJ(el:Nat)(o:AO)(off rw len n:Nat)(c:Nat->Option AV)(o':AO):Prop where
 wf:o'.wf
 sI:o'.ig=true
 cnt:o'.count=(len+n)*rw
 J3:o'.el=el
 el0:o.el=el
 fz1:o'.fz=0
 Zc:o.fz=0
 room:0<len*rw->off+len*rw<=o.count
 cell:∀(j:Nat)(x:AV),o'.cell j=some x->j<(len+n)*rw/\both (len*rw) (λj=>o.cell (off+j)) c j=some x
 one:o'.DO=false
theorem ags{el:Nat}{o o':AO}{off rw len n:Nat}{rs:List (List AV)}{c:Nat->Option AV}(hw:o.wf)(dX:0<rw)(hn:len+n<=1152921504606846976)(hr:nj rs rw n c)(hg:BW el o off rw len n rs=some o'):SJ el o off rw len n c o':=by
 have Nq:∀iI,o.el=el->o.fz=0->kZ o off rw len=some iI->o'=jJ el rw (len+n) (iI++rs)->SJ el o off rw len n c o':=by rintro iI he hf ho rfl;obtain⟨r1,r2⟩:=X1 hw ho;have ra:=Zb r1 hr;exact⟨(Gs (el:=el) dX hn ra).1,rfl,rfl,rfl,he,rfl,hf,r2,λj x hx=>Np dX hn ra j x hx,rfl⟩
 cases o with
 |one rM l=>
  simp only[BW] at hg;split at hg;rename_i iI ho;obtain⟨h1,h2⟩:=qt hg;rw[beq_iff] at h1;cases h2;exact Nq iI h1.symm rfl ho rfl;cases hg
 |rows rM nN cnt fz t=>
  simp only[BW] at hg;obtain⟨h1,hg⟩:=qt hg;simp only[atW,beq_iff] at h1;obtain⟨rfl,rfl⟩:=h1;cases hb:(Nat.beq rw nN&&Nat.beq off 0&&Nat.ble len cnt) with
  |false=>
   rw[hb] at hg;simp only[awX] at hg;split at hg;rename_i iI ho;cases hg;exact Nq iI rfl rfl ho rfl;cases hg
  |true=>
   rw[hb] at hg;simp only[axT,atU] at hg;subst hg;simp only[atW,beq_iff,je] at hb;obtain⟨⟨rfl,rfl⟩,SM⟩:=hb;obtain⟨_,qT,zw⟩:=hw;have Cl:=hr.len;have key:∀k,k<len+n->dY (jy t len rs) k=if k<len then dY t k else rs.getD (k- len) []:=λk hk=>by
    rw[Jz rs t len zo k zo]
    by_cases uW:k<len
    rw[atS zo,atV uW];rw[atV zo,atS uW]
   refine⟨⟨dX,hn,λk hk=>?_⟩,rfl,rfl,rfl,rfl,rfl,rfl,λ_=>?_,λj x hx=>?_,rfl⟩;have hk:k<len+n:=hk;show(dY (jy t len rs) k).length=rw;rw[key k hk];split;exact zw k zo;rw[aub,atT zo,avo];exact hr.row _ (auy _);simp only[AO.count,aue];exact at4 _ SM;simp only[AO.cell,uV] at hx;split at hx;rename_i hj;have hk:j/rw<len+n:=auw qap;have hm:j% rw<rw:=avn _ dX;refine⟨hj,?_⟩;rw[key _ hk] at hx;unfold both;split at hx;rename_i uW;have ao:j<len*rw:=by have:=AW uW hm;rwa[zx] at this
   rw[atV ao];simp only[AO.cell,aue];rw[atV (aur ao (at4 _ SM))];exact hx;rename_i uW;have GV:len*rw<=j:=by have h1:=at4 rw (show len<=j/rw by omega);have h2:=zx (rw:=rw) (j:=j);omega
   rw[atS zo];have:=hr.cell (j/rw- len) (j% rw) zo hm;rw[hx] at this;rw[this];congr 1;rw[awT];have h1:=at4 rw (show len<=j/rw by omega);have h2:=zx (rw:=rw) (j:=j);omega;cases hx
 |_=>simp[BW] at hg
theorem Zd{bytes sE iI:Nat}(hr:room bytes sE=true)(ho:iI<sE):sE<=1152921504606846975/\¬Builtin.nextslicecap sE iI*bytes>2^48:=by unfold room at hr;simp only[atW,je,B9,uV,AX] at hr;refine⟨by omega,axJ.2 ?_⟩;exact growslice_fits_wide ho (at1 (at4 _ zo) hr.1)
theorem Ze{z:Array Value}(h1:∀v∈z.toList,v.oneCell'=true) (hz:0<z.size) {n:Nat}:∀v∈(Builtin.zeroCells z n).toList,v.oneCell'=true:=by intro v hv;simp only[Builtin.zeroCells,awC,auR] at hv;obtain⟨i,_,rfl⟩:=hv;have hm:i% z.size<z.size:=avn _ hz;rw[axe z _ hm];exact h1 _ zm
theorem Zf{m n rw:Nat}{c1 c2:Nat->Option AV}{A B Z:Array Value}(h1:sS φ (m*rw) c1 A.toList)(h2:sS φ (n*rw) c2 B.toList)(hz:∀v∈Z.toList,v.oneCell'=true):
 (∀(j:Nat)(x:AV),j<(m+n)*rw->both (m*rw) c1 c2 j=some x->∃v,(A++B++Z)[j]? =some v/\aj φ x v)/\∀v∈(A++B++Z).toList,v.oneCell'=true:=by
 have ha:A.size=m*rw:=by simpa using h1.1
 have hb:B.size=n*rw:=by simpa using h2.1
 have e:(m+n)*rw=m*rw+n*rw:=auC _ _ _;refine⟨λj x hj hx=>?_,λv hv=>?_⟩;rw[e] at hj;rw[avI (by rw[awa];omega)];unfold both at hx;split at hx;rename_i ao;obtain⟨v,hv,hd⟩:=h1.2.1 j x ao hx;exact⟨v,by rw[avI zo,<-at5];exact hv,hd⟩;rename_i GV;obtain⟨v,hv,hd⟩:=h2.2.1 _ x zo hx;exact⟨v,by rw[Array.getElem?_append_right zo,ha,<-at5];exact hv,hd⟩;simp only[axv,auj] at hv;rcases hv with(hv|hv)|hv;exact h1.2.2 v hv;exact h2.2.2 v hv;exact hz v hv
theorem aoX{rs:List (List AV)}{rw n:Nat}{c d:Nat->Option AV}(hr:nj rs rw n c)(fK:∀j,j<n*rw->c j=d j):nj rs rw n d:=
 ⟨hr.len,hr.row,λk j hk hj=>(hr.cell k j hk hj).trans (fK _ (AW hk hj))⟩
theorem Zg{i:Nat}{off rw len cc:Nat}{ad:Addr}{vs:List Value}(hvs:vs.length=len*rw)(nU:∀(j:Nat)(v:Value),vs[j]? =some v->w.cell? ⟨φ.aL i,φ.sh i+off+j,none⟩=some v)
 (ha:len*rw≠0->ad=⟨φ.aL i,φ.sh i+off,none⟩):(Builtin.firstCells rw len (.slice (some ad) len cc)).run P w=.ok vs.toArray w:=by
 by_cases h0:len*rw=0
 have:vs=[]:=auv (by rw[hvs,h0]);subst this;simp[Builtin.firstCells,loadCells,h0,loadCellsFrom];rw[ha h0];have hl:=run_loadCells_list (P:=P) w ⟨φ.aL i,φ.sh i+off,none⟩ vs (λj v hv=>by rw[xV];exact nU j v hv);rw[hvs] at hl;simpa[Builtin.firstCells] using hl
theorem agt{t u ty e:TypeId}{ud:TypeDesc}{i:TypeInfo}{z:List AV}(r:R φ h w)(ht:P.underlying t=some (.slice e))(hu:P.underlying u=some ud)(lK:(∃e',ud=.slice e')\/ud=.string)
 (hi:P.info? e=some i) (hz:rO P e=some z) (mO:0<i.size) (A1:z.length=i.size) {y:AV} {v:Value} (hy:aj φ y v):k6 P φ h w (Builtin.append_ #[t,u] ty #[.slice none 0 0,v]) (kJ h e i.size i.bytes .bx y):=by
 unfold kJ;split;rename_i rs n gO hn;obtain⟨cs,c,l1,l2,ra,cf⟩:=Nm (P:=P) r hy gO hn;obtain⟨sV,c',l1',l2',Nr,qs⟩:=Nm (P:=P) (r.same (Ck w)) hy gO hn;cases n with
 |zero=>
  exact⟨.slice none 0 0,w,Nn (base:=none) (mq:=0) (qX:=0) (w':=w) ht hu lK hi l1 l2 zl (λad h=>by cases h) (λ_=>rfl),by simp only[aj],.refl w⟩
 |succ n=>
  simp only[AX];refine zH (λtX=>?_) λ_=>jY;obtain⟨i',zv,dD,zI,hd⟩:=JV hz;rw[hi] at dD;cases dD;obtain⟨qW,fX⟩:=Zd (iI:=0) tX zo;obtain⟨cp,J4,cS⟩:=Y5 (w:=w) (base:=none) (mq:=0) (qX:=0) (iI:=#[]) ht hu lK hi zI l1 l2' rfl zo zo (by rw[aue];exact fX);rw[aue] at cS J4;have SN:zv.cells.size=i.size:=by have:=tP (hd φ).1;simp at this;omega
  have oW:sV.size=(n+1)*i.size:=by simpa using qs.1
  obtain⟨k1,k2⟩:=Zf (φ:=φ) (m:=0) (n:=n+1) (rw:=i.size) (c1:=λ_=>none) (c2:=c') (A:=#[]) (B:=sV) (Z:=Builtin.zeroCells zv.cells (cp- (n+1))) ⟨by simp,λj x hj=>by omega,by simp⟩ qs (Ze (hd φ).2 zo);have hb:∀j,both (0*i.size) (λ_=>none) c' j=c' j:=λj=>by unfold both;rw[atS zo];congr 1;omega
  refine Y9 (o':=jJ e i.size (n+1) rs) (e:=e) (rw:=i.size) (cc:=c') (qv:=none) (h0:=h) r cS ?_ J4 zm (λj=>by simp) rfl (Gs (el:=e) mO zo Nr).1 rfl rfl rfl rfl (λj x hx=>Np mO zo Nr j x hx) (λj x hj hx=>k1 j x (by rw[aue];exact hj) (by rw[hb];exact hx)) k2;simp only[awa,oW,size_zeroCells,SN];rw[show(#[]:Array Value).size=0 from rfl,aue,<-auC];congr 1;omega
 exact jY
theorem Zh{o:AO}(h:o.ig=true):AY o=true:=by cases o<;>first|rfl|simp[AO.ig] at h
theorem Ns{o:AO}(h:o.ig=true):dH o=true:=by cases o<;>first|rfl|simp[AO.ig] at h
theorem Zi{rw:Nat}{rs:List (List AV)}{o o':AO}{off:Nat}(bg:rs≠[])(hp:yW o off rw rs=some o'):o.ig=true:=by
 cases rs with
 |nil=>exact absurd rfl bg
 |cons r rs=>
  simp only[yW] at hp;split at hp;rename_i o1 h1;cases o<;>first|rfl|simp[setCells] at h1
  cases hp
theorem agu{el:Nat}{o o':AO}{off rw len n:Nat}{rs:List (List AV)}(hg:BW el o off rw len n rs=some o'):o.ig=true:=by cases o<;>first|rfl|simp[BW] at hg
theorem agv{el rw off len n c:Nat}{i:Nat}{o':AO}{_rs:List (List AV)}{cc:Nat->Option AV}{vs:List Value}{s:Sem Value}(r:R φ h w)(fR:(h.get i).ig=true)(agw:0<rw)(g:SJ el (h.get i) off rw len n cc o')
 (_hd:φ.dom i) (rS:sS φ (n*rw) cc vs) (wG:len+n<=c) (cP:φ.sh i+off+c*rw<=φ.sz i)
 (cS:∀w',(storeCells ⟨φ.aL i,φ.sh i+off+len*rw,none⟩ vs).run P w=.ok () w'->s.run P w=.ok (.slice (some ⟨φ.aL i,φ.sh i+off,none⟩) (len+n) c) w'):
 k6 P φ h w s (alloc (h.set i .eD) o' λj=>.slice j 0 rw (len+n) (len+n) false):=by
 unfold alloc;have hn:jN ((h.set i .eD).get (h.set i .eD).nx)=true:=(h.set i .eD).fresh;have wI:(h.set i .eD).nx=h.nx:=Hp.tT (Hp.Ry (uY (Ns fR)));rw[wI,Hp.tS] at hn;split at hn;cases hn;rename_i lK;have dB:¬φ.dom h.nx:=λd=>by rw[(r.dom _).1 d] at hn;cases hn
 have le:φ.le (φ.put h.nx (φ.aL i) (φ.sh i+off) (φ.sz i)):=aH.Ca dB;have ok:=tW r fR;obtain⟨aO,fr,b1,b2,b3,b4,b5,b6⟩:=ok.aL;have hvl:=rS.1;have e1:(len+n)*rw=len*rw+n*rw:=auC _ _ _;have e2:(len+n)*rw<=c*rw:=at4 _ wG;obtain⟨mo,g1,g2,g3,g4,g5,g6,g7,g8⟩:=Sl vs (φ.sh i+off+len*rw) w aO b1 zo;have lJ:=run_storeCells_cells (P:=P) (φ.aL i) (φ.sh i+off+len*rw) vs 0 w (λj hj=>by
  have:φ.sh i+off+len*rw+0+j<aO.size:=zo;simp only[World.cell?,b1];simp only[Option.isSome_none,at3,auM];rw[au7 this];rfl) (λj hj=>by
  have hb:=b6 (φ.sh i+off+len*rw+0+j);rw[g.Zc] at hb;simp only[World.frozen?,b1]
  by_cases Zj:fr.1 <=φ.sh i+off+len*rw+0+j/\φ.sh i+off+len*rw+0+j<fr.2
  have:=hb Zj.1 Zj.2 zo;omega;simp only[axd,awn];omega) rS.2.2
 rw[aud] at lJ;have zJ:kM (φ.put h.nx (φ.aL i) (φ.sh i+off) (φ.sz i)) (w.setCells (φ.aL i) (φ.sh i+off+len*rw) vs) h.nx o':=by
  have q1:(φ.put h.nx (φ.aL i) (φ.sh i+off) (φ.sz i)).aL h.nx=φ.aL i:=atV rfl;have q2:(φ.put h.nx (φ.aL i) (φ.sh i+off) (φ.sz i)).sh h.nx=φ.sh i+off:=atV rfl;have q3:(φ.put h.nx (φ.aL i) (φ.sh i+off) (φ.sz i)).sz h.nx=φ.sz i:=atV rfl;have key:qu (φ.put h.nx (φ.aL i) (φ.sh i+off) (φ.sz i)) (w.setCells (φ.aL i) (φ.sh i+off+len*rw) vs) h.nx o':=by refine⟨g.wf,(λh=>by rw[g.one] at h;cases h),(λh=>by rw[AO.ro,g.fz1] at h;cases h),mo,fr,by rw[q1,g.J3,<-g.el0];exact g1,by rw[q3,g2];exact b2,by rw[q2,g.cnt,g2];omega,λj x hx=>?_,λj v hv=>?_,λj h1 h2 h3=>?_⟩;obtain⟨hj,kN⟩:=g.cell j x hx;rw[q2,g3];unfold both at kN;split at kN;rename_i ao;obtain⟨v,hv,qw⟩:=b4 _ _ kN;rw[atS zo];exact⟨v,by rw[<-hv];congr 1;omega,nS le _ _ qw⟩;rename_i GV;obtain⟨v,hv,qw⟩:=rS.2.1 _ x zo kN;rw[atV zo];exact⟨v,by rw[<-hv];congr 1;omega,nS le _ _ qw⟩;rw[g3] at hv;split at hv;exact rS.2.2 v (aua hv);exact b5 j v hv;have:=b6 j h1 h2 (by rw[<-g2];exact h3);rw[g.Zc] at this;rw[q2];omega
  have:=g.sI;cases o'<;>first|exact key|simp[AO.ig] at this
 obtain⟨r',st⟩:=MT (h':=(h.set i .eD).push o') (w':=w.setCells (φ.aL i) (φ.sh i+off+len*rw) vs) (n:=h.nx) (o':=o') (b:=φ.aL i) (s:=φ.sh i+off) (z:=φ.sz i) (qv:=some i) r hn (Ns g.sI)
  (λk hk=>by cases hk;exact Zh fR)
  (λj=>by
   rw[Hp.B8,wI];split;rfl;show(h.set i .eD).get j=_;rw[Hp.tS]
   by_cases hj:j=i
   rw[atV hj,atV (by rw[hj])];rw[atS hj,atS (by simpa using Ne.symm hj)]) (.inr ⟨i,rfl,rfl⟩) (by rw[g5];exact r.lt i (Ns fR)) (avp g5.symm) (λc hc bg=>g4 c bg) (λaW aD=>.inl (by rw[g1];simp)) zJ g6 g7 g8
 refine⟨_,_,_,cS _ lJ,r',st,?_⟩;rw[wI];have q:(φ.put h.nx (φ.aL i) (φ.sh i+off) (φ.sz i)).dom h.nx:=.inl rfl;simp only[aj];exact⟨q,_,c,rfl,at2 _,wG,by simp,λ_=>⟨by simp[aH.put],by simp only[aH.put,auo];omega⟩⟩
theorem agx{i:Nat}{off m:Nat}(r:R φ h w)(fR:(h.get i).ig=true)(tX:0<m->off+m<=(h.get i).count):
 ∃vs:List Value,sS φ m (λj=>(h.get i).cell (off+j)) vs/\∀(j:Nat)(v:Value),vs[j]? =some v->w.cell? ⟨φ.aL i,φ.sh i+off+j,none⟩=some v:=by
 have ok:=tW r fR;obtain⟨aO,fr,b1,b2,b3,b4,b5,b6⟩:=ok.aL
 by_cases hn:m=0
 exact⟨[],⟨hn.symm,λj x hj=>by omega,by simp⟩,by simp⟩;have ao:=tX zo;have e:∀j,j<m->((aO.toList.drop (φ.sh i+off)).take m)[j]? =aO[φ.sh i+off+j]? :=λj hj=>by rw[auE hj,auF,at5]
 have lt:∀(j:Nat)(v:Value),((aO.toList.drop (φ.sh i+off)).take m)[j]? =some v->j<m:=λj v hv=>by have:=(at0.1 hv).1;simp at this;omega
 refine⟨(aO.toList.drop (φ.sh i+off)).take m,⟨by simp;omega,λj x hj hx=>?_,λv hv=>?_⟩,λj v hv=>?_⟩;obtain⟨v,hv,hd⟩:=b4 _ _ hx;exact⟨v,by rw[e j hj,avg];exact hv,hd⟩;obtain⟨j,hj⟩:=aum hv;have sR:=lt j v hj;rw[e j sR] at hj;exact b5 _ _ hj;have sR:=lt j v hv;rw[e j sR] at hv;simp[World.cell?,b1,hv]
theorem Zk{t u ty e:TypeId}{ud:TypeDesc}{i:TypeInfo}{z:List AV}{h0:Hp}{o':AO}{qv:Option Nat}{b:Option Addr}{len cc n:Nat}{v:Value}{c1 c2:Nat->Option AV}(r:R φ h w)(ht:P.underlying t=some (.slice e))(hu:P.underlying u=some ud)(lK:(∃e',ud=.slice e')\/ud=.string)
 (hi:P.info? e=some i) (hz:rO P e=some z) (mO:0<i.size) (A1:z.length=i.size) (wG:¬len+n<=cc) (tX:room i.bytes (len+n)=true)
 (hk:∀k,qv=some k->AY (h.get k)=true) (ij:∀j,h0.get j=if qv=some j then .eD else h.get j) (wI:h0.nx=h.nx)
 (hw:o'.wf) (fR:o'.ig=true) (vk:o'.DO=false) (qT:o'.count=(len+n)*i.size) (sU:o'.el=e) (nU:∀(j:Nat)(x:AV),o'.cell j=some x->j<(len+n)*i.size/\both (len*i.size) c1 c2 j=some x)
 (bz:(Builtin.lenOf v).run P w=.ok n w) (nq:∃cs:Array Value,(Builtin.firstCells i.size n v).run P w.drew=.ok cs w.drew/\sS φ (n*i.size) c2 cs.toList)
 (A3:∃iI:Array Value,(Builtin.firstCells i.size len (.slice b len cc)).run P w.drew=.ok iI w.drew/\sS φ (len*i.size) c1 iI.toList):
 k6 P φ h w (Builtin.append_ #[t,u] ty #[.slice b len cc,v]) (alloc h0 o' λj=>.slice j 0 i.size (len+n) (len+n) false):=by
 obtain⟨cs,l2,cf⟩:=nq;obtain⟨iI,lo,co⟩:=A3;obtain⟨i',zv,dD,zI,hd⟩:=JV hz;rw[hi] at dD;cases dD;obtain⟨qW,fX⟩:=Zd (iI:=cc) tX zo;obtain⟨cp,J4,cS⟩:=Y5 (ty:=ty) (w:=w) (base:=b) (mq:=len) (qX:=cc) (iI:=iI) ht hu lK hi zI bz l2 lo wG zo fX;have SN:zv.cells.size=i.size:=by have:=tP (hd φ).1;simp at this;omega
 have oW:cs.size=n*i.size:=by simpa using cf.1
 have D8:iI.size=len*i.size:=by simpa using co.1
 obtain⟨k1,k2⟩:=Zf (φ:=φ) co cf (Ze (n:=cp- (len+n)) (hd φ).2 zo);refine Y9 r cS ?_ J4 hk ij wI hw fR vk qT sU nU (λj x hj hx=>k1 j x hj hx) k2;simp only[awa,oW,D8,size_zeroCells,SN];rw[<-auC,<-auC];congr 1;omega
theorem agy{t u ty e:TypeId}{ud:TypeDesc}{i:TypeInfo}{z:List AV}(r:R φ h w)(ht:P.underlying t=some (.slice e))(hu:P.underlying u=some ud)(lK:(∃e',ud=.slice e')\/ud=.string)
 (hi:P.info? e=some i) (hz:rO P e=some z) (mO:0<i.size) (A1:z.length=i.size) {q:Nat} {off nN len cap:Nat} {ex:Bool} {y:AV} {x v:Value} (hx:aj φ (.slice q off nN len cap ex) x) (hy:aj φ y v):
 k6 P φ h w (Builtin.append_ #[t,u] ty #[x,v]) (kJ h e i.size i.bytes (.slice q off nN len cap ex) y):=by
 have hx0:=hx;simp only[aj] at hx;obtain⟨hd,ad,c,rfl,x1,x2,x3,x4⟩:=hx;unfold kJ;split;rename_i rs n gO hn;obtain⟨cs,c2,l1,l2,ra,cf⟩:=Nm (P:=P) r hy gO hn;cases n with
 |zero=>
  have h0:cs.toList=[]:=auv (by rw[cf.1,awN]);exact⟨.slice (some ad) len c,w,Nn (base:=some ad) (mq:=len) (qX:=c) (w':=w) ht hu lK hi l1 l2 zo (λb hb=>by rw[h0];rfl) (λhb=>by cases hb),hx0,.refl w⟩
 |succ n=>
  simp only[AX,uV,B9];refine zH (λhc=>?_) λ_=>jY;simp only[atW,beq_iff] at hc;obtain⟨rfl,tX⟩:=hc;have bg:rs≠[]:=by intro e;have:=ra.len;rw[e] at this;simp at this
  have SG:len+(n+1)<=1152921504606846975:=by unfold room at tX;simp only[atW,je,AX] at tX;omega
  refine zH (λgD=>?_) λsM=>?_;rw[je] at gD;split;rename_i o' hp;have fR:=Zi bg hp;have sp:=SH (tW r fR).wf bg ra.row hp;obtain⟨r',st,cS⟩:=Sm (P:=P) r fR sp (Za ra cf) cf.2.2;obtain⟨e1,e2⟩:=x4 zo;have lJ:=(cS (φ.sh q+(off+len*i.size))).resolve_right zo;rw[awP] at lJ;refine⟨.slice (some ad) (len+(n+1)) c,_,φ,Nn (base:=some ad) (mq:=len) (qX:=c) ht hu lK hi l1 l2 zo (λb hb=>?_) (λhb=>by cases hb),r',st,?_⟩;cases hb;rw[e1,xV,avg];exact lJ;simp only[aj];exact⟨hd,ad,c,rfl,gD,x2,x3,x4⟩;exact jY;have aoY:¬len+(n+1)<=cap:=λdA=>by rw[je.2 dA] at sM;cases sM
  have agz:∃cs:Array Value,(Builtin.firstCells i.size (n+1) v).run P w.drew=.ok cs w.drew/\nj rs i.size (n+1) c2/\sS φ ((n+1)*i.size) c2 cs.toList:=by obtain⟨sV,c',_,l2',Nr,qs⟩:=Nm (P:=P) (r.same (Ck w)) hy gO hn;obtain⟨f1,f2⟩:=No ra;obtain⟨f1',f2'⟩:=No Nr;exact⟨sV,l2',ra,qs.1,λj x hj hx=>qs.2.1 j x hj (by rw[<-f2' j hj,f2 j hj];exact hx),qs.2.2⟩
  obtain⟨sV,s1,s2,s3⟩:=agz;cases ex with
  |true=>
   simp only[axT];split;rename_i o1 qy;split at qy;rename_i iI A3;cases qy;obtain⟨vs,v1,v2,v3,v4⟩:=Nk (r.same (Ck w)) A3;have Zl:=Zb v2 ra;have aoZ:c=cap:=x3 rfl;refine Zk (qv:=none) (h0:=h) (c1:=λj=>(h.get q).cell (off+j)) (c2:=c2) r ht hu lK hi hz mO A1 zo tX zm (λj=>by simp) rfl (Gs (el:=e) mO zo Zl).1 rfl rfl rfl rfl (λj x hx=>Np mO zo Zl j x hx) l1 ⟨sV,s1,s3⟩ ⟨vs.toArray,?_,by simpa using v1⟩;refine Zg (φ:=φ) (i:=q) (off:=off) v1.1 v4 λbg=>(x4 ?_).1;intro h0;have:len=0:=zo;subst this;simp at bg;cases qy;exact jY
  |false=>
   simp only[awX];split;rename_i o1 hg;have fR:=agu hg;have gs:=ags (tW r fR).wf mO zo ra hg
   by_cases hf:len+(n+1)<=c
   obtain⟨e1,e2⟩:=x4 zo;refine agv (vs:=cs.toList) (_rs:=rs) r fR mO gs hd cf hf e2 λw' lJ=>?_;rw[<-e1];refine Nn (base:=some ad) (mq:=len) (qX:=c) (w':=w') ht hu lK hi l1 l2 hf (λb hb=>?_) (λhb=>by cases hb);cases hb;rw[e1,xV];exact lJ;have kz:∃vs:List Value,sS φ (len*i.size) (λj=>(h.get q).cell (off+j)) vs/\∀(j:Nat)(v:Value),vs[j]? =some v->w.drew.cell? ⟨φ.aL q,φ.sh q+off+j,none⟩=some v:=agx (r.same (Ck w)) fR gs.room;obtain⟨vs,v1,v4⟩:=kz;refine Zk (qv:=some q) (h0:=h.set q .eD) (c1:=λj=>(h.get q).cell (off+j)) (c2:=c2) r ht hu lK hi hz mO A1 hf tX (λk hk=>by cases hk;exact Zh fR) (λj=>by
    rw[Hp.tS]
    by_cases hj:j=q
    rw[atV hj,atV (by rw[hj])];rw[atS hj,atS (by simpa using Ne.symm hj)]) (Hp.tT (Hp.Ry (uY (Ns fR)))) gs.wf gs.sI gs.one gs.cnt gs.J3 gs.cell l1 ⟨sV,s1,s3⟩ ⟨vs.toArray,?_,by simpa using v1⟩
   refine Zg (φ:=φ) (i:=q) (off:=off) v1.1 v4 λbg=>(x4 ?_).1;intro h0;have:len=0:=zo;subst this;simp at bg;exact jY
 exact jY
theorem ao0{d:TypeDesc}(h:DJ d=true):(∃e',d=.slice e')\/d=.string:=by cases d<;>first|exact .inl ⟨_,rfl⟩|exact .inr rfl|simp[DJ] at h
theorem Zm:∀{rs:List (List AV)}{l:List Nat},bytesRow rs=some l->rs=(l.map λb=>[.u8 b])/\∀b∈l,b<256
 |[],l,hh=>by simp only[bytesRow,atU] at hh;subst hh;exact⟨rfl,by simp⟩
 |r::rs,l,hh=>by
  unfold bytesRow at hh;split at hh;rename_i e;cases e;rename_i b r' e;cases e;obtain⟨hb,hh⟩:=qt hh;rw[je] at hb;split at hh;rename_i l' hl;cases hh;obtain⟨h1,h2⟩:=Zm hl;rw[h1];exact⟨rfl,λx hx=>by rcases atZ.1 hx with rfl|hx;omega;exact h2 x hx⟩
  cases hh;cases hh
theorem Zn{rw n k:Nat}{y:AV}{v:Value}{rs:List (List AV)}(r:R φ h w)(hy:aj φ y v)(gO:Mp h rw k y=some rs)(hn:lenOf y=some n)(hk:k<=n):
 ∃(cs:Array Value) (c:Nat->Option AV),(Builtin.lenOf v).run P w=.ok n w/\(Builtin.firstCells rw k v).run P w=.ok cs w/\nj rs rw k c/\sS φ (k*rw) c cs.toList:=by
 cases y<;>simp only[Mp,reduceCtorEq] at gO<;>simp only[lenOf,atU] at hn<;>simp only[aj] at hy
 case bx=>
  subst hy;subst hn;have:k=0:=zo;subst this;cases gO;exact⟨#[],λ_=>none,rfl,rfl,⟨rfl,by simp,λk j hk=>absurd hk (avm _)⟩,⟨by simp,λj x _ hx=>(by cases hx),by simp⟩⟩
 case slice i off nN len cap ex=>
  subst hn;obtain⟨d,ad,cc,rfl,g1,g2,g3,g4⟩:=hy;obtain⟨vs,hvs,ha,_,nU⟩:=Nk r gO;refine⟨vs.toArray,_,rfl,?_,ha,by simpa using hvs⟩
  by_cases h0:k*rw=0
  have:vs=[]:=auv (by rw[hvs.1,h0]);subst this;simp[Builtin.firstCells,loadCells,h0,loadCellsFrom];have wE:cc≠0:=by intro h;subst h;have:k=0:=zo;subst this;simp at h0
  obtain⟨e1,_⟩:=g4 wE;subst e1;have hl:=run_loadCells_list (P:=P) w ⟨φ.aL i,φ.sh i+off,none⟩ vs (λj v hv=>by rw[xV];exact nU j v hv);rw[hvs.1] at hl;simpa[Builtin.firstCells] using hl
 case str l m=>
  subst hn;obtain⟨s,rfl,hs⟩:=hy;obtain⟨hb,gO⟩:=qt gO;rw[beq_iff] at hb;subst hb;cases gO;have cP:=hs.size;have jz:(s.extract 0 k).data=s.data.extract 0 k:=by simp
  have hsd:s.data.size=l:=cP;refine⟨(s.extract 0 k).data.map λb=>.int .u8 b.toNat,_,by simp[Builtin.lenOf,cP],rfl,Nl,?_⟩;rw[jz];refine⟨by simp only[awC,avd,avc,axu,Array.size_extract];omega,λj x hj hx=>?_,λv hv=>?_⟩;rw[axu] at hj;simp only[atV hj] at hx;cases hx;obtain⟨b,qW,fX⟩:=hs.get (show j<l by omega);have rT:s.data[j]? =some b:=by obtain⟨h3,h4⟩:=awd.1 qW;exact auc.2 ⟨h3,h4⟩
  have Ea:(s.data.extract 0 k)[j]? =some b:=by rw[Array.getElem?_extract,atV zo,aue];exact rT
  exact⟨.int .u8 b.toNat,by rw[at5,axC,Ea];rfl,by simp only[aj];rw[fX]⟩;simp only[awC,auR] at hv;obtain⟨b,_,rfl⟩:=hv;rfl
theorem agA{t u ty e:TypeId}{rw:Nat}(r:R φ h w)(ht:P.underlying t=some (.slice e))(hz:fI P e=some rw)(agw:0<rw){x y:AV}{d v:Value}(hx:aj φ x d)(hy:aj φ y v):
 k6 P φ h w (Builtin.copy_ #[t,u] ty #[d,v]) (FV h rw x y):=by
 have cP:=vb hz;unfold FV;split
 ·rename_i n m hn hm;cases x<;>simp only[lenOf,atU,reduceCtorEq] at hn<;>simp only[aj] at hx
  case bx=>
   subst hn;subst hx;have bz:(Builtin.lenOf v).run P w=.ok m w:=by cases y<;>simp only[lenOf,atU,reduceCtorEq] at hm<;>simp only[aj] at hy;obtain⟨s,rfl,hs⟩:=hy;rw[<-hm,<-hs.size];rfl;obtain⟨_,_,_,rfl,_⟩:=hy;rw[<-hm];rfl;subst hy;rw[<-hm];rfl
   have xZ:∃cs,(Builtin.firstCells rw 0 v).run P w=.ok cs w:=by cases y<;>simp only[lenOf,atU,reduceCtorEq] at hm<;>simp only[aj] at hy;obtain⟨s,rfl,hs⟩:=hy;exact⟨_,rfl⟩;obtain⟨_,ad,_,rfl,_⟩:=hy;exact⟨#[],by simp[Builtin.firstCells,loadCells,loadCellsFrom]⟩;subst hy;exact⟨_,rfl⟩
   obtain⟨cs,xZ⟩:=xZ;have ao1:Nat.min m 0=0:=Nat.min_zero m;refine⟨.int .i64 0,w,?_,by simp only[aj],.refl w⟩;simp[Builtin.copy_,bZ ht,cP,bz,xZ,goInt]
  case str=>exact jY
  case slice i off nN len cap ex=>
   subst hn;obtain⟨hd,ad,c,rfl,x1,x2,x3,x4⟩:=hx;simp only[];split;rename_i gO;obtain⟨cs,cc,l1,l2,ra,cf⟩:=Zn (P:=P) r hy gO hm (Nat.min_le_left m len);have h0:Nat.min m len=0:=by have:=ra.len;simpa using this.symm
   have oW:cs.toList=[]:=auv (by rw[cf.1,h0,awN]);refine⟨.int .i64 (Nat.min m len),w,?_,by simp only[aj];rfl,.refl w⟩;simp[Builtin.copy_,bZ ht,cP,l1,l2,goInt,oW,storeCells];rename_i rs bg gO;obtain⟨cs,cc,l1,l2,ra,cf⟩:=Zn (P:=P) r hy gO hm (Nat.min_le_left m len);split;rename_i o' hp;have Nt:rs≠[]:=by rintro rfl;exact bg rfl
   have fR:=Zi Nt hp;have sp:=SH (tW r fR).wf Nt ra.row hp;obtain⟨r',st,cS⟩:=Sm (P:=P) r fR sp (Za ra cf) cf.2.2;have mO:0<Nat.min m len:=by have:=ra.len;have:=auA.2 Nt;omega
   have dA:Nat.min m len<=len:=Nat.min_le_right m len;obtain⟨e1,e2⟩:=x4 zo;have lJ:=(cS (φ.sh i+off)).resolve_right zo;rw[awP] at lJ;refine⟨.int .i64 (Nat.min m len),_,φ,?_,r',st,by simp only[aj];rfl⟩;rw[e1];simp[Builtin.copy_,bZ ht,cP,l1,l2,goInt,lJ];exact jY;exact jY
 exact jY
theorem agB{l:List Nat}{vs:List Value}{n:Nat}{c:Nat->Option AV}(ha:nj (l.map λb=>[.u8 b]) 1 n c) (hc:sS φ (n*1) c vs):l.length=n/\vs=l.map λb=>.int .u8 (Int.ofNat b):=by
 have hn:l.length=n:=by simpa using ha.len
 refine⟨hn,avs λj=>?_⟩
 by_cases hj:j<n
 have h1:=ha.cell j 0 hj zo;have kL:j<l.length:=zo;simp only[aub,auh,atT kL,au3,avo] at h1;obtain⟨v,hv,hd⟩:=hc.2.1 j (.u8 l[j]) zo (by rw[<-show c (j*1+0)=c j by simp,<-h1];rfl);simp only[aj] at hd;subst hd;rw[hv,auh,atT kL];rfl;rw[auI (by have:=hc.1;omega),auI zn]
theorem Zo:∀(l:List Nat)(s:ByteArray),((l.map Int.ofNat).foldl (λr n=>r.push (UInt8.ofNat n.toNat)) s).data.toList=s.data.toList++l.map UInt8.ofNat
 |[],s=>by simp
 |b::l,s=>by simp only[aul,List.foldl_cons];rw[Zo l];simp[ByteArray.push]
theorem agC{l:List Nat}(hl:∀b∈l,b<256):kR l.length (cO l) ((l.map Int.ofNat).foldl (λr n=>r.push (UInt8.ofNat n.toNat)) ByteArray.empty):=by
 refine MW _ l ?_;rw[Zo];simp only[ByteArray.empty,ByteArray.emptyWithCapacity,au4,av4];have:l.map (UInt8.toNat∘UInt8.ofNat)=l:=by
  conv=>rhs;rw[<-axU l]
  exact avB λb hb=>by simp[avy (hl b hb)]
 simp only[this];rfl
end
abbrev FW(ro:Option Nat):Fence:={fn:=λ_=>True,depth:=none,alive:=false,round:=ro}
section
variable{P:Program}{ro:Option Nat}{n:Nat}
theorem J5(m:Machine):m.fenced P (FW ro):=fenced_wide P m
theorem agD{k:Nat}:(FW ro).room k:=λ_ h=>by cases h
theorem Nu{m m':Machine}:StepsIn (Machine.fenced P (FW ro)) P m m' <-> Steps P m m':=stepsIn_wide
theorem SO{f:FuncId}{args:Array Value}{w:World}{R:Ending->World->Prop}:CallsIn (FW ro) n P f args w R <-> Calls P f args w R:=callsIn_wide (n:=n)
theorem agE{row:String}{args:Array Value}{w:World}{R:Value->World->Prop}(h:Rows P row args w R):RowsIn (FW ro) n P row args w R:=
 λc cs _=>let⟨v,w',r,s⟩:=h c cs;⟨v,w',r,Nu.2 s⟩
theorem agF{o:Oper}{a:Act}{w:World}{K:Act->World->Prop}{Q:Exit->Act->World->Prop}(dB:ro=none\/∀c,o.op≠.defer c) (h:o.wp P a w K Q):o.wpIn (FW ro) 0 P a w K Q:=by
 refine⟨λ_ _=>trivial,?_⟩;have hs:o.semAt ro a.eval=execOp a.eval o:=by rcases dB with rfl|dB;rfl;exact Oper.semAt_eq ro a.eval o dB
 show o.uponIn (FW ro) 0 P a K Q ((o.semAt ro a.eval).run P w);rw[hs];unfold Oper.wp at h;generalize(execOp a.eval o).run P w=r at*;cases r with
 |ok x w'=>
  cases x<;>simp only[Oper.upon] at h<;>first|exact h|exact h.elim|skip
  refine⟨λc=>(by cases c),SO.2 (h.mono λe SP he=>?_)⟩;cases e<;>exact he;exact⟨λc=>(by cases c),agE h⟩
 |halt x w'=>cases x<;>simp only[Oper.upon] at h<;>first|exact h|exact h.elim
theorem agG{aF:Array Oper}{Q:Exit->Act->World->Prop}{i:Nat}{K K':Act->World->Prop}{a:Act}{w:World}(dB:ro=none\/∀(i:Nat)(o:Oper),aF[i]? =some o->∀c,o.op≠.defer c) (sM:¬LetsOut Q)
 (hK:∀a w,K a w->K' a w) (h:wpOp P aF Q i K a w):wpOpIn (FW ro) 0 P aF Q i K' a w:=by
 unfold wpOp at h;unfold wpOpIn;cases ho:aF[i]? with
 |none=>rw[ho] at h;exact hK _ _ h
 |some o=>
  rw[ho] at h;simp only at h⊢;split at h;rename_i hw;rw[atV hw];rcases h with h|h;exact Oper.wpIn_mono hK (agF (dB.imp id λg=>g i o ho) h);exact absurd h.2 sM;rename_i hw;rw[atS hw];exact⟨λ_ _=>trivial,hK _ _ h⟩
theorem Zp{md:Region.Mode}{aF:Array Oper}{Q:Exit->Act->World->Prop}(dB:ro=none\/∀(i:Nat)(o:Oper),aF[i]? =some o->∀c,o.op≠.defer c) (sM:¬LetsOut Q):
 ∀(fy:Nat)(listed:Array Bool)(a:Act)(w:World),wpAny P md aF Q fy listed a w->wpAnyIn (FW ro) 0 P md aF Q fy listed a w
 |0,_,_,_,h=>h
 |fy+1,_,_,_,h=>⟨h.1,λi hi=>agG dB sM (λa' w' h'=>Zp dB sM fy _ a' w' h') (h.2 i hi)⟩
def JQ(P:Program)(ro:Option Nat)(c:Code)(Q:Exit->Act->World->Prop):Nat->Exit->Act->World->Prop
 |0,e,a,w=>(match e with|.goto _=>False|e=>Q e a w)
 |n+1,e,a,w=>(match e with
  |.goto l=>(match findLabel c l with|some r=>r.wpIn (FW ro) 0 P (JQ P ro c Q n) a w|none=>Q (.goto l) a w)
  |e=>Q e a w)
theorem agH{c:Code}{Q:Exit->Act->World->Prop}{n:Nat}{a:Act}{w:World}(h:c.wpIn (FW ro) 0 P (JQ P ro c Q n) a w):(Code.scope c).wpIn (FW ro) 0 P Q a w:=by
 intro b k cs vk hb hr;have s1:Go.step P (lone (b.atR a (.code (.scope c)::k)) cs w)=.next (lone (b.atR a (.code c::.inScope c::k)) cs w):=step_lone_go qbn;have s2:∀(a:Act)(w:World),Go.step P (lone (b.atR a (.inScope c::k)) cs w)=.next (lone (b.atR a k) cs w):=λa w=>step_lone_go qbn;have hJ:∀n e a w,(∀l,e≠.goto l)->JQ P ro c Q n e a w->Q e a w:=λn e a w he h=>by cases n<;>cases e<;>first|exact h|exact absurd rfl (he _)
 have key:∀(n:Nat)(c':Code)(a:Act)(w:World),c'.wpIn (FW ro) 0 P (JQ P ro c Q n) a w->
  ∃e a' w',Q e a' w'/\ArrivesIn (Machine.fenced P (FW ro)) P (lone (b.atR a (.code c'::.inScope c::k)) cs w) b k cs e a' w':=by
  intro n
  induction n with
  |zero=>
   intro c' a w h;obtain⟨e,nX,nY,hq,jA⟩:=h b (.inScope c::k) cs vk hb hr;cases e with
   |normal=>exact⟨.normal,nX,nY,hq,StepsIn.trans jA (.one (J5 _) (s2 _ _))⟩
   |exit id=>exact⟨.exit id,nX,nY,hq,λk' hk=>jA.1 k' qaU,λqY hk=>jA.2 qY qaU⟩
   |goto l=>exact hq.elim
   |ret=>exact⟨_,nX,nY,hq,jA⟩
   |panic ch=>exact⟨_,nX,nY,hq,jA⟩
   |outgrown=>exact⟨_,nX,nY,hq,jA⟩
  |succ n ih=>
   intro c' a w h;obtain⟨e,nX,nY,hq,jA⟩:=h b (.inScope c::k) cs vk hb hr;cases e with
   |normal=>exact⟨.normal,nX,nY,hq,StepsIn.trans jA (.one (J5 _) (s2 _ _))⟩
   |exit id=>exact⟨.exit id,nX,nY,hq,λk' hk=>jA.1 k' qaU,λqY hk=>jA.2 qY qaU⟩
   |goto l=>
    simp only[JQ] at hq;cases hf:findLabel c l with
    |some r=>
     rw[hf] at hq;obtain⟨SQ,SR,SS,SU,SV⟩:=ih r nX nY hq;exact⟨SQ,SR,SS,SU,.of_steps (jA.1 _ (by simp[gotoIn,hf])) SV⟩
    |none=>
     rw[hf] at hq;exact⟨.goto l,nX,nY,hq,λk' hk=>jA.1 k' (by simp[gotoIn,hf,hk]),λqY hk=>jA.2 qY (by simp[gotoIn,hf,hk])⟩
   |ret=>exact⟨_,nX,nY,hq,jA⟩
   |panic ch=>exact⟨_,nX,nY,hq,jA⟩
   |outgrown=>exact⟨_,nX,nY,hq,jA⟩
 obtain⟨e,nX,nY,hq,jA⟩:=key n c a w h;exact⟨e,nX,nY,hq,.of_steps (.one (J5 _) s1) jA⟩
theorem agI{f:FuncId}{fn:Func}{c:Code}{args:Array Value}{u:FrameMode}{w:World}{R:Ending->FrameMode->World->Prop}
 (hf:P.funcs[f]? =some fn) (hb:fn.body=some c)
 (h:∀(nZ:Frame)(cs:List Frame),nZ.mode=u->c.wpS P (bodyPostS P fn nZ cs R) {tmps:=args++Array.replicate (fn.ntmps- args.size) Go.undef,defers:=[]} (nZ::cs) w):
 CallsDIn (FW none) n P f args u w R:=by
 refine⟨auW,λnZ cs hu _=>?_⟩
 let b:Frame:={(default:Frame) with fn:=f,kind:=.deferred}
 have agJ:Frame.enter P f args .deferred=b.at {tmps:=args++Array.replicate (fn.ntmps- args.size) Go.undef,defers:=[]} [.code c]:=by simp[Frame.enter,Frame.at,hf,hb,b]
 obtain⟨e,a',sV,w',hq,jA⟩:=h nZ cs hu b [] rfl rfl;rw[<-agJ] at jA;cases e with
 |normal=>
  obtain⟨hd,u',rfl,v,hr,hR⟩:=hq;exact⟨.returned v,u',w',_,hR,Nu.2 (Steps.trans jA (.one step_end)),rfl,rfl,rfl,hd,fn,hf,hr⟩
 |ret=>
  obtain⟨hd,u',rfl,v,hr,hR⟩:=hq;obtain⟨todo,hs⟩:=jA;exact⟨.returned v,u',w',_,hR,Nu.2 hs,rfl,rfl,rfl,hd,fn,hf,hr⟩
 |panic chain=>
  obtain⟨hd,u',rfl,hR⟩:=hq;obtain⟨todo,hs⟩:=jA;exact⟨.panicked chain,u',w',_,hR,Nu.2 hs,rfl,rfl,rfl,hd,fn,hf⟩
 |exit id=>exact hq.elim
 |goto l=>exact hq.elim
 |outgrown=>
  obtain⟨u',hR⟩:=hq;exact⟨.outgrown,u',w',b,hR,jA.resolve_left (by simp[b]),rfl,rfl,auW⟩
def GW(ro:Option Nat)(P:Program)(c:Code)(Q:Exit->Act->World->Prop)(a:Act)(w:World):Prop:=
 ∀(b:Frame)(k:List Item)(cs:List Frame),b.roundOf=ro->∃e a' w',Q e a' w'/\ArrivesIn (Machine.fenced P (FW ro)) P (lone (b.atR a (.code c::.inLoop c::k)) cs w) b k cs e a' w'
variable{c:Code}{Q:Exit->Act->World->Prop}{a:Act}{w:World}
theorem agK(hl:GW ro P c Q a w):(Code.loop c).wpIn (FW ro) 0 P Q a w:=
 λb k cs vk _ _=>let⟨e,a',w',q,r⟩:=hl b k cs vk;⟨e,a',w',q,.of_steps (.one (J5 _) stepR_loop) r⟩
theorem agL(hc:c.wpIn (FW ro) 0 P (Exit.then (GW ro P c Q) Q) a w):GW ro P c Q a w:=by
 intro b k cs vk;obtain⟨e,nX,nY,hq,jA⟩:=hc b (.inLoop c::k) cs vk trivial agD;cases e with
 |normal=>
  obtain⟨SQ,SR,SS,SU,SV⟩:=hq b k cs vk;exact⟨SQ,SR,SS,SU,.of_steps (StepsIn.trans jA (.one (J5 _) stepR_inLoop)) SV⟩
 |exit id=>exact⟨_,nX,nY,hq,.pass (x:=.inLoop c) rfl (λ_ _=>.inl zm) jA⟩
 |goto l=>exact⟨_,nX,nY,hq,.pass (x:=.inLoop c) rfl (λ_ _=>.inl zm) jA⟩
 |ret=>exact⟨_,nX,nY,hq,.pass (x:=.inLoop c) rfl (λ_ _=>.inl zm) jA⟩
 |panic ch=>exact⟨_,nX,nY,hq,.pass (x:=.inLoop c) rfl (λ_ _=>.inl zm) jA⟩
 |outgrown=>exact⟨_,nX,nY,hq,.pass (x:=.inLoop c) rfl (λ_ _=>.inl zm) jA⟩
end
end Yv
