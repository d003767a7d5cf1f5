/- A part of the proof of 'ScopeOwnUptoCardSaid'. No condition. -/
import Derived.Test.YtpllhjebgjcigaaGreatDoorX03
import Derived.Laws.BitsLemmas
import Derived.Laws.BitsAllLaws
import Derived.Laws.Bits64
set_option maxHeartbeats 16000000
set_option maxRecDepth 100000
set_option linter.all false
namespace Yv
variable{T:aM->Option CF}
section
open Go
structure kB where
 φ:aH
 h:Hp
 w:World
theorem JG.mono{φ ψ:aH}(le:φ.le ψ){d:Df}{e:Deferred}(h:JG φ d e):JG ψ d e:=by
 cases d with
 |fn g rR=>
  obtain⟨cap,args,cs,h1,h2,h3,h4⟩:=h;exact⟨cap,args,cs,h1,h2,Gm le _ _ h3,h4⟩
def Cm(φ:aH):List Df->List Deferred->Prop
 |[],[]=>True
 |d::ds,e::es=>JG φ d e/\Cm φ ds es
 |_,_=>False
theorem Cm.mono{φ ψ:aH}(le:φ.le ψ):∀{ds:List Df}{es:List Deferred},Cm φ ds es->Cm ψ ds es
 |[],[],h=>h
 |_::_,_::_,h=>⟨h.1.mono le,h.2.mono le⟩
 |[],_::_,h=>h.elim
 |_::_,[],h=>h.elim
structure St(P:Program)(b:kB)(nt:Nat)(φ:aH)(f:Fr)(h:Hp)(ds:List Df)(a:Act)(w:World):Prop where
 r:R φ h w
 st:eS b.φ b.h b.w φ w h
 fr:iq φ f a.tmps
 df:Cm φ ds a.defers
 sz:nt<=a.tmps.size
 g:jq φ P
def Nv(P:Program)(b:kB)(nt:Nat):aT->Exit->Act->World->Prop
 |.jo f h ds,e,a,w=>e=.normal/\∃φ,St P b nt φ f h ds a w
 |.exit id f h ds,e,a,w=>e=.exit id/\∃φ,St P b nt φ f h ds a w
 |.jW id f h ds,e,a,w=>e=.goto id/\∃φ,St P b nt φ f h ds a w
 |.ret f h ds,e,a,w=>e=.ret/\∃φ,St P b nt φ f h ds a w
 |.bn v f h ds,e,a,w=>∃pv φ,e=.panic [{v:=pv,recovered:=false}]/\aj φ v pv/\St P b nt φ f h ds a w
def Nw(b:kB):aK->Ending->World->Prop
 |.ret v h,e,w=>∃φ u,e=.returned u/\aj φ v u/\R φ h w/\eS b.φ b.h b.w φ w h
 |.bn v h,e,w=>∃φ u,e=.panicked [{v:=u,recovered:=false}]/\aj φ v u/\R φ h w/\eS b.φ b.h b.w φ w h
def SW(P:Program)(g:Nat):Prop:=∀(vs:Array Value)(w:World),(callFunc g vs).run P w=.ok (.enter g vs) w
def zN(P:Program)(cf:mj):Prop:=
 ∀(fn:aM)(args:List AV)(h:Hp)(k:aK->Prop)(o:aK)(φ:aH)(w:World)(vs:Array Value),Dn (cf fn args h k) o->R φ h w->jq φ P->
  cz φ args vs.toList->SW P fn.n/\Calls P fn.n vs w λe w'=>∃co,Dn (k co) o/\Nw ⟨φ,h,w⟩ co e w'
def mS(P:Program):Prop:=
 ∀(φ:aH)(h:Hp)(w:World)(f:Fr)(a:Act)(o:Oper),R φ h w->jq φ P->iq φ f a.tmps->Good P φ h w f a o (eX P o.op)
section
variable{P:Program}{b:kB}{nt:Nat}{φ ψ:aH}{f:Fr}{h:Hp}{ds:List Df}{a:Act}{w:World}
theorem St.put(s:St P b nt φ f h ds a w){w':World}{h':Hp}(r':R ψ h' w')(eW:eS φ h w ψ w' h'){d:Option Nat}(hd:∀t,d=some t->t<nt/\t<512) {x:AV} {v:Value} (hx:aj ψ x v):
 St P b nt ψ (Yv.put (d.map gz) x f) h' ds (a.put d v) w' where
 r:=r'
 st:=s.st.trans eW
 fr:=(s.fr.mono eW.le).put (λt ht=>⟨aur (hd t ht).1 s.sz,(hd t ht).2⟩) hx
 df:=by rw[MZ];exact s.df.mono eW.le
 sz:=by rw[MY];exact s.sz
 g:=s.g.mono eW.le
theorem St.same(s:St P b nt φ f h ds a w){w':World}(sm:sL w w'):St P b nt φ f h ds a w':=
 ⟨s.r.same sm,s.st.trans (eS.same sm),s.fr,s.df,s.sz,s.g⟩
theorem St.Eb(s:St P b nt φ f h ds a w){w':World}(sm:sL w w'){d:Option Nat}(hd:∀t,d=some t->t<nt/\t<512) {x:AV} {v:Value} (hx:aj φ x v):
 St P b nt φ (Yv.put (d.map gz) x f) h ds (a.put d v) w':=s.put (s.r.same sm) (eS.same sm) hd hx
theorem wJ{aF:Array Oper}{o:Oper}{c:CI}(hc:kq P nt aF o=some c):
 (∀t,o.dst=some t->t<nt/\t<512)/\c.dst=o.dst.map gz/\c.op=eX P o.op/\
  ((o.guard=none/\c.guard=none)\/∃j bb d,o.guard=some (j,bb)/\(aF[j]?).bind (·.dst)=some d/\d<nt/\d<512/\c.guard=some (gz d,bb)):=by
 unfold kq at hc;split at hc;rename_i d g hd hg;cases hc;have h1:(∀t,o.dst=some t->t<nt/\t<512)/\d=o.dst.map gz:=by
  cases jZ:o.dst with
  |none=>rw[jZ] at hd;simp at hd;subst hd;simp
  |some t=>
   rw[jZ] at hd;simp only at hd;split at hd;rename_i ht;simp only[atU] at hd;subst hd;exact⟨λu hu=>by cases hu;exact ht,rfl⟩;cases hd
 refine⟨h1.1,h1.2,rfl,?_⟩;cases Co:o.guard with
 |none=>rw[Co] at hg;simp at hg;subst hg;exact .inl ⟨rfl,rfl⟩
 |some q=>
  obtain⟨j,bb⟩:=q;rw[Co] at hg;simp only at hg;split at hg;rename_i d' bC;split at hg;rename_i ht;simp only[atU] at hg;subst hg;exact .inr ⟨j,bb,d',rfl,bC,ht.1,ht.2,rfl⟩;cases hg;cases hg
 cases hc
theorem Zq(s:St P b nt φ f h ds a w){aF:Array Oper}{o:Oper}{c:CI}(hc:kq P nt aF o=some c){t:Bool}(ht:jO c.guard f=some t):
 Region.wanted o (yielded aF a.tmps)=t:=by
 obtain⟨_,_,_,⟨hg,nv⟩|⟨j,bb,d,hg,hj,iu,lN,nv⟩⟩:=wJ hc;rw[nv] at ht;simp only[jO,atU] at ht;subst ht;simp[Region.wanted,hg];rw[nv] at ht;simp only[jO] at ht;have k8:=s.fr.at_ d lN;have cP:d<a.tmps.size:=aur iu s.sz;have ij:a.tmps[d]? =some (a.tmps.getD d Go.undef):=by simp[cP]
 simp only[Region.wanted,hg,yielded,hj,awf,ij];split at ht;rename_i u hu;simp only[atU] at ht;subst ht;rw[hu] at k8;simp only[aj] at k8;rw[k8];cases u<;>cases bb<;>rfl;rename_i l hu;simp only[atU] at ht;subst ht;rw[hu] at k8;simp only[aj] at k8;obtain⟨cs,e,_⟩:=k8;rw[e];cases bb<;>rfl;cases ht
theorem agM{cf:mj}{ro:Option Nat}(C:zN P cf)(O:mS P){aF:Array Oper}{o:Oper}{c:CI}(hc:kq P nt aF o=some c){kp:aT->Prop}{k:AR}{oo:aK}
 (s:St P b nt φ f h ds a w) (dB:ro=none\/∀c,o.op≠.defer c) (hd:Dn (sG cf kp ds c.dst f h (aQ c.op f h) k) oo)
 {K:Act->World->Prop} (hK:∀ψ f' h' pS a' w',St P b nt ψ f' h' pS a' w'->Dn (k pS f' h') oo->K a' w'):
 o.wpIn (FW ro) 0 P a w K (λe a' w'=>∃out,Dn (kp out) oo/\Nv P b nt out e a' w'):=by
 obtain⟨jZ,fK,Nx,_⟩:=wJ hc;have eT:=O φ h w f a o s.r s.g s.fr;rw[<-Nx] at eT;unfold Good at eT;refine⟨λ_ _=>trivial,?_⟩;have agN:o.semAt ro a.eval=execOp a.eval o:=by rcases dB with rfl|dB;rfl;exact Oper.semAt_eq ro a.eval o dB
 show o.uponIn (FW ro) 0 P a K _ ((o.semAt ro a.eval).run P w);rw[agN];generalize vl:(execOp a.eval o).run P w=jk at eT⊢;cases dJ:aQ c.op f h with
 |v x=>
  rw[dJ] at hd eT;obtain⟨n,v,w',rfl,hn,hx,sm⟩:=eT;rw[fK] at hd;have hk:=hK _ _ _ _ _ _ (s.Eb sm jZ hx) hd;rcases hn with rfl|⟨rfl,rfl⟩;rw[Oper.uponIn_value];exact hk;rw[Oper.uponIn_skip];exact hk
 |vh x h'=>
  rw[dJ] at hd eT;obtain⟨n,v,w',ψ,rfl,hn,r',eW,hx⟩:=eT;rw[fK] at hd;have hk:=hK _ _ _ _ _ _ (s.put r' eW jZ hx) hd;rcases hn with rfl|⟨rfl,rfl⟩;rw[Oper.uponIn_value];exact hk;rw[Oper.uponIn_skip];exact hk
 |alts l=>
  rw[dJ] at hd eT;obtain⟨n,v,w',ψ,h',hm,rfl,hn,r',eW,hx⟩:=eT;rw[fK] at hd;have bC:=afj hd h' hm;have hk:=hK _ _ _ _ _ _ (s.put r' eW jZ hx) bC;rcases hn with rfl|⟨rfl,rfl⟩;rw[Oper.uponIn_value];exact hk;rw[Oper.uponIn_skip];exact hk
 |call g args=>
  rw[dJ] at hd eT;obtain⟨vs,w',rfl,sm,A4⟩:=eT;rw[fK] at hd;have s':=s.same sm;obtain⟨Ec,SX⟩:=C g args h _ oo φ w' vs hd s'.r s'.g A4;rw[Ec vs w',Oper.uponIn_enter];refine⟨λc=>(by cases c),SO.2 (SX.mono λe SP he=>?_)⟩;obtain⟨co,pT,J6⟩:=he;cases co with
  |ret v h'=>
   obtain⟨ψ,u,rfl,hx,r',eW⟩:=J6;exact hK _ _ _ _ _ _ (s'.put r' eW jZ hx) pT
  |bn v h'=>
   obtain⟨ψ,u,rfl,hx,r',eW⟩:=J6;exact⟨.bn v f h' ds,pT,u,ψ,rfl,hx,⟨r',s'.st.trans eW,s'.fr.mono eW.le,s'.df.mono eW.le,s'.sz,s'.g.mono eW.le⟩⟩
 |df d=>
  rw[dJ] at hd eT;obtain⟨dd,w',rfl,sm,SY⟩:=eT;rw[fK] at hd;rw[Oper.uponIn_defer];have s':=s.same sm;have s2:St P b nt φ f h (d::ds) {a with defers:=dd::a.defers} w':=⟨s'.r,s'.st,s'.fr,⟨SY,s'.df⟩,s'.sz,s'.g⟩;exact hK _ _ _ _ _ _ (s2.Eb (.refl w') jZ DX) hd
 |bn x=>
  rw[dJ] at hd eT;obtain⟨v,w',rfl,sm,hx⟩:=eT;rw[Oper.uponIn_panic];exact⟨.bn x f h ds,hd,v,φ,rfl,hx,s.same sm⟩
 |bad t=>
  rw[dJ] at hd;exact hd.bad.elim
theorem SZ{cf:mj}{ro:Option Nat}(C:zN P cf)(O:mS P){aF:Array Oper}(dB:ro=none\/∀(i:Nat)(o:Oper),aF[i]? =some o->∀c,o.op≠.defer c) {kp:aT->Prop} {oo:aK}:
 ∀(l:List CI)(k:Nat){φ:aH}{f:Fr}{h:Hp}{ds:List Df}{a:Act}{w:World},(∀(j:Nat)(c:CI),l[j]? =some c->∃o,aF[k+j]? =some o/\kq P nt aF o=some c)->
  St P b nt φ f h ds a w->Dn (qQ cf kp l ds f h) oo->
  wpOpsIn (FW ro) 0 P aF (λe a' w'=>∃out,Dn (kp out) oo/\Nv P b nt out e a' w') (List.range' k l.length) a w
 |[],k,_,f,h,ds,a,w,_,s,hd=>⟨.jo f h ds,hd,rfl,_,s⟩
 |c::l,k,φ,f,h,ds,a,w,hl,s,hd=>by
  obtain⟨o,ho,hc⟩:=hl 0 c rfl;have fS:aF[k]? =some o:=ho;rw[atX,awD];simp only[wpOpsIn,fS];simp only[qQ] at hd;have fV:∀(j:Nat)(c:CI),l[j]? =some c->∃o,aF[k+1+j]? =some o/\kq P nt aF o=some c:=λj c' hj=>by obtain⟨o',h1,h2⟩:=hl (j+1) c' qax;exact⟨o',by rw[show k+1+j=k+(j+1) by omega];exact h1,h2⟩
  cases hw:jO c.guard f with
  |none=>rw[hw] at hd;exact hd.bad.elim
  |some t=>
   rw[hw] at hd;have qz:=Zq s hc hw;cases t with
   |true=>
    rw[atV qz];exact agM C O hc s (dB.imp id λg=>g k o fS) hd λψ f' h' pS a' w' s' bC=>SZ C O dB l (k+1) fV s' bC
   |false=>
    rw[atS (by rw[qz];simp)];obtain⟨jZ,fK,_,_⟩:=wJ hc;simp only at hd;rw[fK] at hd;exact⟨λ_ _=>trivial,SZ C O dB l (k+1) fV (s.Eb (.refl w) jZ DX) hd⟩
theorem Ny{aF:Array Oper}{l:List CI}(hl:iJ (kq P nt aF) aF.toList=some l):l.length=aF.size/\∀(j:Nat)(c:CI),l[j]? =some c->∃o,aF[0+j]? =some o/\kq P nt aF o=some c:=by
 obtain⟨h1,h2⟩:=RN hl;refine⟨by simpa using h1,λj c hj=>?_⟩;have kL:j<aF.size:=by have:=(at0.1 hj).1;simpa[h1] using this
 obtain⟨y,hy,hc⟩:=h2 j aF[j] (by simp[kL]);rw[hj] at hy;cases hy;exact⟨aF[j],by simp[kL],hc⟩
end
def oa(P:Program)(b:kB)(nt:Nat)(k:aT->Prop)(oo:aK):Exit->Act->World->Prop:=
 λe a w=>∃out,Dn (k out) oo/\Nv P b nt out e a w
structure vo(P:Program)(rec:fJ):Prop where
 code:∀(ro:Option Nat)(nt:Nat)(c:Code)(b:kB)(φ:aH)(f:Fr)(h:Hp)(ds:List Df)(a:Act)(w:World)(k:aT->Prop)(oo:aK),(ro=none\/ni c=true)->
  St P b nt φ f h ds a w->Dn (rec (comp P nt c) f h ds k) oo->c.wpIn (FW ro) 0 P (oa P b nt k oo) a w
 loop:∀(ro:Option Nat)(nt:Nat)(c:Code)(b:kB)(φ:aH)(f:Fr)(h:Hp)(ds:List Df)(a:Act)(w:World)(k:aT->Prop)(oo:aK),(ro=none\/ni c=true)->
  St P b nt φ f h ds a w->Dn (rec (.loop (comp P nt c)) f h ds k) oo->GW ro P c (oa P b nt k oo) a w
theorem vo.wp{P:Program}{rec:fJ}(rs:vo P rec)(nt:Nat)(c:Code)(b:kB)(φ:aH)(f:Fr)(h:Hp)(ds:List Df)(a:Act)(w:World)(k:aT->Prop)(oo:aK)
 (s:St P b nt φ f h ds a w) (hd:Dn (rec (comp P nt c) f h ds k) oo):c.wp P (oa P b nt k oo) a w:=wpIn_wide.1 (rs.code none nt c b φ f h ds a w k oo (.inl rfl) s hd)
def Nz(P:Program):Prop:=
 ∀(cf:mj),zN P cf->mS P->∀(ro:Option Nat)(nt id:Nat)(aF:Array Oper)(b:kB)(φ:aH)(f:Fr)(h:Hp)(ds:List Df)(a:Act)(w:World)(k:aT->Prop)(oo:aK)(l:List DI),
  (ro=none\/ni (.region id aF true)=true)->comp P nt (.region id aF true)=.aR l->St P b nt φ f h ds a w->Dn (Mz cf k l ds f h) oo->(Code.region id aF true).wpIn (FW ro) 0 P (oa P b nt k oo) a w
theorem agO{P:Program}{b:kB}{nt:Nat}{k:aT->Prop}{oo:aK}:¬LetsOut (oa P b nt k oo):=by
 rintro⟨a,w,out,_,ho⟩;cases out with
 |jo=>cases ho.1
 |exit=>cases ho.1
 |jW=>cases ho.1
 |ret=>cases ho.1
 |bn=>obtain⟨_,_,e,_⟩:=ho;cases e
theorem Zr{id:Nat}{aF:Array Oper}{d:Bool}(h:ni (.region id aF d)=true):∀(i:Nat)(o:Oper),aF[i]? =some o->∀c,o.op≠.defer c:=by intro i o ho c e;simp only[ni,Array.all_eq_true] at h;obtain⟨hi,he⟩:=auc.1 ho;have:=h i hi;rw[he,e] at this;cases this
section
variable{P:Program}
theorem Zs{b:kB}{nt:Nat}{r:Fr->Hp->List Df->(aT->Prop)->Prop}{k:aT->Prop}{oo:aK}{next:Act->World->Prop}
 (hn:∀φ f h ds a w,St P b nt φ f h ds a w->Dn (r f h ds k) oo->next a w):∀e a w,oa P b nt (bF r k) oo e a w->Exit.then next (oa P b nt k oo) e a w:=by
 rintro e a w ⟨out,hd,ho⟩;cases out with
 |jo f h ds=>
  obtain⟨rfl,φ,s⟩:=ho;exact hn φ f h ds a w s hd
 |exit id f h ds=>have fS:=ho;obtain⟨rfl,_⟩:=ho;exact⟨_,hd,fS⟩
 |jW id f h ds=>have fS:=ho;obtain⟨rfl,_⟩:=ho;exact⟨_,hd,fS⟩
 |ret f h ds=>have fS:=ho;obtain⟨rfl,_⟩:=ho;exact⟨_,hd,fS⟩
 |bn v f h ds=>have fS:=ho;obtain⟨_,_,rfl,_⟩:=ho;exact⟨_,hd,fS⟩
theorem agP{b:kB}{nt id:Nat}{k:aT->Prop}{oo:aK}:∀e a w,oa P b nt (bY id k) oo e a w->Exit.inBlock id (oa P b nt k oo) e a w:=by
 rintro e a w ⟨out,hd,ho⟩;cases out with
 |jo f h ds=>have fS:=ho;obtain⟨rfl,_⟩:=ho;exact⟨_,hd,fS⟩
 |exit B5 f h ds=>
  have fS:=ho;obtain⟨rfl,φ,s⟩:=ho;simp only[bY] at hd;simp only[Exit.inBlock];cases he:Nat.beq B5 id with
  |true=>
   rw[he] at hd;rw[atV (at7 he)];exact⟨_,hd,rfl,φ,s⟩
  |false=>
   rw[he] at hd;rw[atS (Nat.ne_of_beq_eq_false he)];exact⟨_,hd,fS⟩
 |jW id f h ds=>have fS:=ho;obtain⟨rfl,_⟩:=ho;exact⟨_,hd,fS⟩
 |ret f h ds=>have fS:=ho;obtain⟨rfl,_⟩:=ho;exact⟨_,hd,fS⟩
 |bn v f h ds=>have fS:=ho;obtain⟨_,_,rfl,_⟩:=ho;exact⟨_,hd,fS⟩
theorem S0{nt l:Nat}:∀c:Code,xO l (comp P nt c)=(findLabel c l).map (comp P nt)
 |.seq a b=>by simp only[comp,xO,findLabel,S0 a,S0 b];cases findLabel a l<;>rfl
 |.label i=>by
  simp only[comp,xO,findLabel]
  by_cases h:i=l
  subst h;simp[comp];have h2:Nat.beq i l=false:=by cases hb:Nat.beq i l;rfl;exact absurd (at7 hb) h
  simp[h,h2]
 |.skip|.block ..|.loop ..|.exit ..|.scope ..|.ret|.goto ..|.refuse ..=>rfl
 |.region ..=>by simp only[comp,findLabel];(repeat' split)<;>rfl
 |.cond ..=>by simp only[comp,findLabel];(repeat' split)<;>rfl
 |.rangeFunc ..=>by simp only[comp,findLabel];(repeat' split)<;>rfl
theorem S2{l:Nat}:∀{c r:Code},findLabel c l=some r->ni c=true->ni r=true
 |.seq a b,r,h,q=>by simp only[findLabel] at h;simp only[ni,atW] at q;split at h;rename_i r' h';cases h;simp only[ni,atW];exact⟨S2 h' q.1,q.2⟩;exact S2 h q.2
 |.label i,r,h,q=>by simp only[findLabel] at h;split at h<;>cases h;rfl
 |.skip,_,h,_|.block ..,_,h,_|.loop ..,_,h,_|.exit ..,_,h,_|.scope ..,_,h,_|.ret,_,h,_|.goto ..,_,h,_|.refuse ..,_,h,_|.region ..,_,h,_|.cond ..,_,h,_|.rangeFunc ..,_,h,_=>by cases h
theorem Zt{rec:fJ}(ih:vo P rec){ro:Option Nat}{b:kB}{nt:Nat}{c:Code}{k:aT->Prop}{oo:aK}(hq:ro=none\/ni c=true):∀n e a w,oa P b nt (pH rec (comp P nt c) k n) oo e a w->JQ P ro c (oa P b nt k oo) n e a w
 |0,e,a,w,⟨out,hd,ho⟩=>by
  cases out with
  |jo f h ds=>have fS:=ho;obtain⟨rfl,_⟩:=ho;exact⟨_,hd,fS⟩
  |exit id f h ds=>have fS:=ho;obtain⟨rfl,_⟩:=ho;exact⟨_,hd,fS⟩
  |ret f h ds=>have fS:=ho;obtain⟨rfl,_⟩:=ho;exact⟨_,hd,fS⟩
  |bn v f h ds=>have fS:=ho;obtain⟨_,_,rfl,_⟩:=ho;exact⟨_,hd,fS⟩
  |jW=>exact hd.bad.elim
 |n+1,e,a,w,⟨out,hd,ho⟩=>by
  cases out with
  |jo f h ds=>have fS:=ho;obtain⟨rfl,_⟩:=ho;exact⟨_,hd,fS⟩
  |exit id f h ds=>have fS:=ho;obtain⟨rfl,_⟩:=ho;exact⟨_,hd,fS⟩
  |ret f h ds=>have fS:=ho;obtain⟨rfl,_⟩:=ho;exact⟨_,hd,fS⟩
  |bn v f h ds=>have fS:=ho;obtain⟨_,_,rfl,_⟩:=ho;exact⟨_,hd,fS⟩
  |jW l f h ds=>
   have fS:=ho;obtain⟨rfl,φ,s⟩:=ho;simp only[pH,S0] at hd;simp only[JQ];cases hf:findLabel c l with
   |none=>rw[hf] at hd;exact⟨_,hd,fS⟩
   |some r=>
    rw[hf] at hd;exact wpIn_mono (ih.code ro nt r b φ f h ds a w _ oo (hq.imp id (S2 hf)) s hd) (Zt ih hq n)
theorem agQ{cw:fJ->mj}(S3:∀rec,vo P rec->zN P (cw rec)) (O:mS P) (D:Nz P) {rec:fJ} (ih:vo P rec):vo P (step cw rec):=by
 have C:=S3 _ ih;have lp:∀(ro:Option Nat)(nt:Nat)(c:Code)(b:kB)(φ:aH)(f:Fr)(h:Hp)(ds:List Df)(a:Act)(w:World)(k:aT->Prop)(oo:aK),(ro=none\/ni c=true)->
  St P b nt φ f h ds a w->Dn (step cw rec (.loop (comp P nt c)) f h ds k) oo->GW ro P c (oa P b nt k oo) a w:=by
  intro ro nt c b φ f h ds a w k oo hq s hd;simp only[step] at hd;refine agL (wpIn_mono (ih.code ro nt c b φ f h ds a w _ oo hq s hd) ?_);exact Zs λzO f' h' pS a' w' s' bC=>ih.loop ro nt c b zO f' h' pS a' w' k oo hq s' bC
 refine⟨?_,lp⟩;intro ro nt c b φ f h ds a w k oo hq s hd;cases c with
 |skip=>simp only[comp,step] at hd;exact wpIn_skip ⟨_,hd,rfl,φ,s⟩
 |label l=>simp only[comp,step] at hd;exact wpIn_label ⟨_,hd,rfl,φ,s⟩
 |region id aF dr=>
  cases dr with
  |false=>
   simp only[comp] at hd;split at hd;rename_i l hl;simp only[at3,auM,step] at hd;obtain⟨h1,h2⟩:=Ny hl;have:=SZ C O (hq.imp (λh=>h) Zr) l 0 h2 s hd;rw[h1,<-avQ] at this;exact wpIn_region this;simp only[step] at hd;exact hd.bad.elim
  |true=>
   cases hl:comp P nt (.region id aF true) with
   |aR l=>
    rw[hl] at hd;simp only[step] at hd;exact D _ C O ro nt id aF b φ f h ds a w k oo l hq hl s hd
   |bad t=>rw[hl] at hd;simp only[step] at hd;exact hd.bad.elim
   |_=>simp only[comp] at hl;split at hl<;>simp only[auo,reduceCtorEq] at hl<;>split at hl<;>cases hl
 |seq x y=>
  simp only[comp,step] at hd;have A5:(ro=none\/ni x=true)/\(ro=none\/ni y=true):=by rcases hq with hq|hq;exact⟨.inl hq,.inl hq⟩;simp only[ni,atW] at hq;exact⟨.inr hq.1,.inr hq.2⟩
  refine wpIn_seq (wpIn_mono (ih.code ro nt x b φ f h ds a w _ oo A5.1 s hd) ?_);exact Zs λzO f' h' pS a' w' s' bC=>ih.code ro nt y b zO f' h' pS a' w' k oo A5.2 s' bC
 |cond c x y=>
  simp only[comp] at hd;split at hd;rename_i c' hc;have hv:=Gv s.g s.fr hc;simp only[step] at hd;split at hd;rename_i t ht;rw[ht] at hv;simp only[aj] at hv;have A5:(ro=none\/ni x=true)/\(ro=none\/ni y=true):=by rcases hq with hq|hq;exact⟨.inl hq,.inl hq⟩;simp only[ni,atW] at hq;exact⟨.inr hq.1,.inr hq.2⟩
  cases t with
  |true=>exact wpIn_cond (t:=true) hv (ih.code ro nt x b φ f h ds a w k oo A5.1 s hd)
  |false=>exact wpIn_cond (t:=false) hv (ih.code ro nt y b φ f h ds a w k oo A5.2 s hd)
  exact hd.bad.elim;simp only[step] at hd;exact hd.bad.elim
 |block id c=>
  simp only[comp,step] at hd;exact wpIn_block (wpIn_mono (ih.code ro nt c b φ f h ds a w _ oo hq s hd) agP)
 |loop c=>
  simp only[comp] at hd;exact agK (lp ro nt c b φ f h ds a w k oo hq s hd)
 |exit id=>simp only[comp,step] at hd;exact wpIn_exit ⟨_,hd,rfl,φ,s⟩
 |scope c=>
  simp only[comp,step] at hd;exact agH (wpIn_mono (ih.code ro nt c b φ f h ds a w _ oo hq s hd) (Zt (c:=c) ih hq 8))
 |ret=>simp only[comp,step] at hd;exact wpIn_ret ⟨_,hd,rfl,φ,s⟩
 |rangeFunc g ps rR c=>simp only[comp,step] at hd;exact hd.bad.elim
 |goto l=>simp only[comp,step] at hd;exact wpIn_goto ⟨_,hd,rfl,φ,s⟩
 |refuse t=>simp only[comp,step] at hd;exact hd.bad.elim
def S4(P:Program):fJ:=λcc f h ds k=>
 (∀(ro:Option Nat)(nt:Nat)(c:Code)(b:kB)(φ:aH)(a:Act)(w:World)(oo:aK),comp P nt c=cc->(ro=none\/ni c=true)->St P b nt φ f h ds a w->c.wpIn (FW ro) 0 P (oa P b nt k oo) a w)/\
 ∀(ro:Option Nat)(nt:Nat)(c:Code)(b:kB)(φ:aH)(a:Act)(w:World)(oo:aK),.loop (comp P nt c)=cc->(ro=none\/ni c=true)->St P b nt φ f h ds a w->GW ro P c (oa P b nt k oo) a w
theorem agR:vo P (S4 P):=
 ⟨λro nt c b φ f h ds a w k oo hq s hd=>hd.1 ro nt c b φ a w oo rfl hq s,λro nt c b φ f h ds a w k oo hq s hd=>hd.2 ro nt c b φ a w oo rfl hq s⟩
theorem agS{gN:aM->Option CF}(S3:∀rec,vo P rec->zN P (aE gN rec)) (O:mS P) (D:Nz P):vo P (W gN):=by
 have S:=agQ S3 O D (agR (P:=P));have key:∀c f h ds k,W gN c f h ds k->S4 P c f h ds k:=λc f h ds k hw=>
  hw (S4 P) λc f h ds k hs=>⟨λro nt c' b φ a w oo hc hq st=>S.code ro nt c' b φ f h ds a w k oo hq st (by rw[hc];exact hs),λro nt c' b φ a w oo hc hq st=>S.loop ro nt c' b φ f h ds a w k oo hq st (by rw[hc];exact hs)⟩
 exact⟨λro nt c b φ f h ds a w k oo hq s hd=>(key _ _ _ _ _ hd).1 ro nt c b φ a w oo rfl hq s,λro nt c b φ f h ds a w k oo hq s hd=>(key _ _ _ _ _ hd).2 ro nt c b φ a w oo rfl hq s⟩
end
def Ed(P:Program)(gN:aM->Option CF):Prop:=
 ∀(i:aM)(c:CF),gN i=some c->c.num=i.n->∃c',Ge P i.n=some c'/\c'.body=c.body/\c'.jk=c.jk
section
variable{P:Program}
theorem Zu{n:Nat}{c:CF}(h:Ge P n=some c):∃fn body,P.funcs[n]? =some fn/\fn.body=some body/\c.body=comp P fn.ntmps body/\iJ (B4 P fn.ntmps) fn.results.toList=some c.jk/\SW P n:=by
 unfold Ge at h;split at h;cases h;rename_i fn zL;split at h;rename_i body rs hb hr;split at h;rename_i hc;cases h;refine⟨fn,body,zL,hb,rfl,hr,λvs w=>?_⟩;have fX:fn.body.isNone=false:=by rw[hb];rfl
 simp only[callFunc,Go.program,Sem.run_bind,Sem.run,Result.andThen,zL];rw[hc.2,fX];rfl;cases h;cases h
theorem agT{φ:aH}{h:Hp}{w:World}{f:Fr}{tmps:Array Value}(r:R φ h w)(hf:iq φ f tmps){nt:Nat}{rv:ResultVar}{cr:CR}(hc:B4 P nt rv=some cr){x:AV}(hx:Jh h f cr=.v x):
 ∃u,(match rv with|.tmp t=>pure (tmps.getD t Go.undef)|.cell a t=>do loadVar t (<-asAddr (tmps.getD a Go.undef)):Sem Value).run P w=.ok u w/\aj φ x u:=by
 cases rv with
 |tmp t=>
  simp only[B4] at hc;split at hc;rename_i ht;cases hc;simp only[Jh,OR.v.injEq] at hx;subst hx;exact⟨_,rfl,hf.at_ t ht.2⟩;cases hc
 |cell a t=>
  simp only[B4] at hc;split at hc;rename_i d n hd hn;split at hc;rename_i ht;cases hc;have hp:=hf.at_ a ht;have key:∀y:AV,aj φ y (tmps.getD a Go.undef)->(∃i o,y=.ptr i o)->∀(u:Value),(Instr.loadAt t (tmps.getD a Go.undef)).run P w=.ok u w->(do loadVar t (<-asAddr (tmps.getD a Go.undef)):Sem Value).run P w=.ok u w:=by rintro y hy ⟨i,o,rfl⟩ u hu;simp only[aj] at hy;obtain⟨_,hy⟩:=hy;rw[hy] at hu⊢;simpa[Instr.loadAt,Instr.sureAddr,asAddr] using hu
  simp only[Jh] at hx;cases ha:oR d with
  |true=>
   rw[ha] at hx;simp only[cond] at hx;have hv:=YC r hd ha hn hp;have S5:∃i o,J (gz a) f=.ptr i o:=by unfold Dx at hx;split at hx;rename_i i o e;exact⟨i,o,e⟩;cases hx
   rw[hx] at hv;obtain⟨u,hu,pT⟩:=hv;exact⟨u,key _ hp S5 u hu,pT⟩
  |false=>
   rw[ha] at hx;simp only[cond] at hx;have hv:=YB r hd ha hp;have S5:∃i o,J (gz a) f=.ptr i o:=by unfold Dw at hx;split at hx;rename_i i o e;exact⟨i,o,e⟩;cases hx
   rw[hx] at hv;obtain⟨u,hu,pT⟩:=hv;exact⟨u,key _ hp S5 u hu,pT⟩
  cases hc;cases hc
theorem Zv{φ:aH}{h:Hp}{w:World}{f:Fr}{tmps:Array Value}(r:R φ h w)(hf:iq φ f tmps){nt:Nat}:∀{S6:List ResultVar}{rs:List CR}{l:List AV},iJ (B4 P nt) S6=some rs->DN h f rs=some l->
 ∃us:List Value,(S6.mapM (λrv=>(match rv with|.tmp t=>pure (tmps.getD t Go.undef)|.cell a t=>do loadVar t (<-asAddr (tmps.getD a Go.undef)):Sem Value))).run P w=.ok us w/\cz φ l us
 |[],rs,l,hm,hl=>by simp only[iJ,atU] at hm;subst hm;simp only[DN,atU] at hl;subst hl;exact⟨[],by simp,sJ⟩
 |rv::S6,rs,l,hm,hl=>by simp only[iJ] at hm;split at hm;rename_i y r' hy qY;cases hm;simp only[DN] at hl;split at hl;rename_i x hx;split at hl;rename_i l' fV;cases hl;obtain⟨u,hu,hd⟩:=agT r hf hy hx;obtain⟨us,S7,og⟩:=Zv r hf qY fV;refine⟨u::us,?_,qS.2 ⟨hd,og⟩⟩;rw[List.mapM_cons,Sem.run_bind,hu];simp only[Result.andThen];rw[Sem.run_bind,S7];rfl;cases hl;cases hl;cases hm
theorem Zw{φ:aH}{h:Hp}{w:World}{f:Fr}{tmps:Array Value}{fn:Func}(r:R φ h w)(hf:iq φ f tmps){rs:List CR}(hm:iJ (B4 P fn.ntmps) fn.results.toList=some rs){k:aK->Prop}{oo:aK}(hd:Dn (wz h f rs k) oo):
 ∃x u,(results fn tmps).run P w=.ok u w/\aj φ x u/\Dn (k (.ret x h)) oo:=by
 unfold wz at hd;cases hl:DN h f rs with
 |none=>rw[hl] at hd;exact hd.bad.elim
 |some l=>
  rw[hl] at hd;obtain⟨us,S7,og⟩:=Zv r hf hm hl;have bz:=tP og;have cS:(results fn tmps).run P w=.ok (if h:us.toArray.size=1 then us.toArray[0] else .tuple us.toArray) w:=by unfold results;rw[Array.mapM_eq_mapM_toList];simp only[Sem.run_bind,Sem.run_map,Result.andThen];generalize hg:Sem.run P (List.mapM _ fn.results.toList) w=q;obtain rfl:q=.ok us w:=hg.symm.trans S7;rfl
  rcases l with _|⟨v,_|⟨y,l⟩⟩<;>rcases us with _|⟨u,_|⟨v',us⟩⟩<;>simp only[atX,aup,aue,Nat.succ_ne_zero,reduceCtorEq] at bz<;>try omega
  exact⟨.bA [],.tuple #[],by rw[cS];rfl,by simp only[aj];exact⟨_,rfl,sJ⟩,hd⟩;exact⟨v,u,by rw[cS];rfl,(qS.1 og).1,hd⟩;exact⟨.bA (v::y::l),.tuple (u::v'::us).toArray,by rw[cS];simp,by simp only[aj];exact⟨_,rfl,og⟩,hd⟩
theorem agU(args:List AV)(t:Nat):J (gz t) (nQ args)=.any\/args[t]? =some (J (gz t) (nQ args)):=by
 unfold J nQ gz;cases h:args[t]? with
 |none=>left;simp only[h]
 |some x=>right;simp only[h]
theorem Zx{φ:aH}{args:List AV}{vs:Array Value}(hd:cz φ args vs.toList)(n:Nat):iq φ (nQ args) (vs++Array.replicate n Go.undef):=by
 refine⟨λt=>?_⟩;rcases agU args t with h|h;rw[h];trivial;obtain⟨v,hv,qw⟩:=tQ hd t _ h;rw[at5] at hv;have ao:t<vs.size:=(auc.1 hv).1;have:(vs++Array.replicate n Go.undef).getD t Go.undef=v:=by rw[av2,avI ao,hv];rfl
 rw[this];exact qw
end
end
section
open Go.Proofs
def jP(l:List (Nat×CF)):Prop:=l.map (λp=>(Ge Tryz.prog p.1).map λc=>(c.body,c.jk))=l.map λp=>some (p.2.body,p.2.jk)
theorem agV{l:List (Nat×CF)}(h:jP l):∀p∈l,∃c',Ge Tryz.prog p.1 =some c'/\c'.body=p.2.body/\c'.jk=p.2.jk:=by
 intro p hp;obtain⟨i,hi⟩:=aum hp;have h1:=aui (·[i]?) h;simp only[auh,hi,au3,atU] at h1;cases hc:Ge Tryz.prog p.1 with
 |none=>rw[hc] at h1;cases h1
 |some c=>
  rw[hc] at h1;simp only[au3,atU,avj] at h1;exact⟨c,rfl,h1.1,h1.2⟩
theorem wK{l m:List (Nat×CF)}(h:jP l)(g:jP m):jP (l++m):=by unfold jP at*;rw[au4,au4,h,g]
def Zy:List (Nat×CF):=[(3,cf3),(4,cf4),(5,cf5),(6,cf6),(7,cf7),(8,cf8),(9,cf9),(10,cf10),(11,cf11),(12,cf12),(13,cf13),(14,cf14),(15,cf15),(16,cf16),(17,cf17),(18,cf18)]
theorem gb0:jP Zy:=by unfold jP;kernel_rfl
def Zz:List (Nat×CF):=[(19,cf19),(20,cf20),(21,cf21),(22,cf22),(23,cf23),(24,cf24),(25,cf25),(26,cf26),(27,cf27),(28,cf28),(29,cf29),(30,cf30),(31,cf31),(32,cf32),(33,cf33),(34,cf34)]
theorem J7:jP Zz:=by unfold jP;kernel_rfl
def ZA:List (Nat×CF):=[(35,cf35),(36,cf36),(37,cf37),(38,cf38),(39,cf39),(40,cf40),(42,cf42),(43,cf43),(44,cf44),(45,cf45),(46,cf46),(47,cf47),(48,cf48),(49,cf49),(50,cf50),(51,cf51)]
theorem gb2:jP ZA:=by unfold jP;kernel_rfl
def ZB:List (Nat×CF):=[(52,cf52),(53,cf53),(54,cf54),(55,cf55),(56,cf56),(57,cf57),(58,cf58),(59,cf59),(60,cf60),(61,cf61),(62,cf62),(63,cf63),(64,cf64),(65,cf65),(66,cf66),(67,cf67)]
theorem S8:jP ZB:=by unfold jP;kernel_rfl
def ZC:List (Nat×CF):=[(68,cf68),(69,cf69),(70,cf70),(73,cf73),(74,cf74),(75,cf75),(76,cf76),(77,cf77),(78,cf78),(79,cf79),(80,cf80),(81,cf81),(82,cf82),(83,cf83),(84,cf84),(85,cf85)]
theorem gb4:jP ZC:=by unfold jP;kernel_rfl
def ZD:List (Nat×CF):=[(86,cf86),(87,cf87),(88,cf88),(89,cf89),(90,cf90),(91,cf91),(92,cf92),(93,cf93),(94,cf94),(95,cf95),(96,cf96),(97,cf97),(98,cf98),(99,cf99),(100,cf100),(101,cf101)]
theorem gb5:jP ZD:=by unfold jP;kernel_rfl
def ZE:List (Nat×CF):=[(106,cf106),(108,cf108),(109,cf109),(110,cf110),(111,cf111),(112,cf112),(113,cf113),(114,cf114),(115,cf115),(116,cf116),(117,cf117),(118,cf118),(119,cf119),(120,cf120),(121,cf121),(122,cf122)]
theorem gb6:jP ZE:=by unfold jP;kernel_rfl
def ZF:List (Nat×CF):=[(123,cf123),(124,cf124),(125,cf125),(126,cf126),(127,cf127),(128,cf128),(133,cf133),(134,cf134),(136,cf136),(137,cf137),(138,cf138),(139,cf139),(140,cf140),(141,cf141),(142,cf142),(143,cf143)]
theorem gb7:jP ZF:=by unfold jP;kernel_rfl
def ZG:List (Nat×CF):=[(144,cf144),(145,cf145),(146,cf146),(147,cf147),(148,cf148),(149,cf149),(150,cf150),(151,cf151),(152,cf152),(153,cf153),(154,cf154),(155,cf155),(156,cf156),(157,cf157),(158,cf158),(159,cf159)]
theorem gb8:jP ZG:=by unfold jP;kernel_rfl
def ZH:List (Nat×CF):=[(160,cf160),(162,cf162),(163,cf163),(164,cf164),(167,cf167),(169,cf169),(170,cf170),(171,cf171),(172,cf172),(173,cf173),(174,cf174),(175,cf175),(176,cf176),(177,cf177),(178,cf178),(179,cf179)]
theorem gb9:jP ZH:=by unfold jP;kernel_rfl
def ZI:List (Nat×CF):=[(180,cf180),(181,cf181),(182,cf182),(183,cf183),(185,cf185),(187,cf187),(191,cf191),(192,cf192),(193,cf193),(194,cf194),(195,cf195),(196,cf196),(197,cf197),(200,cf200),(201,cf201),(207,cf207)]
theorem agW:jP ZI:=by unfold jP;kernel_rfl
def ZJ:List (Nat×CF):=[(208,cf208),(209,cf209),(211,cf211),(212,cf212),(217,cf217),(218,cf218),(219,cf219),(220,cf220),(221,cf221),(223,cf223),(224,cf224),(225,cf225),(226,cf226),(231,cf231),(232,cf232),(233,cf233)]
theorem agX:jP ZJ:=by unfold jP;kernel_rfl
def ZK:List (Nat×CF):=[(234,cf234),(238,cf238),(239,cf239)]
theorem agY:jP ZK:=by unfold jP;kernel_rfl
def agZ:List (Nat×CF):=Zy++(Zz++(ZA++(ZB++(ZC++(ZD++(ZE++(ZF++(ZG++(ZH++(ZI++(ZJ++(ZK))))))))))))
def J8(i:aM):Option CF:=(agZ.find? λp=>p.1 ==i.n).map (·.2)
theorem ag0:aA J8:=⟨rfl,rfl,rfl,rfl,rfl,rfl,rfl,rfl,rfl,rfl,rfl,rfl,rfl,rfl,rfl,rfl,rfl,rfl,rfl,rfl,rfl,rfl,rfl,rfl,rfl,rfl,rfl,rfl,rfl,rfl,rfl,rfl,rfl,rfl,rfl,rfl,rfl,rfl,rfl,rfl,rfl,rfl,rfl,rfl,rfl,rfl,rfl,rfl,rfl,rfl,rfl,rfl,rfl,rfl,rfl,rfl,rfl,rfl,rfl,rfl,rfl,rfl,rfl,rfl,rfl,rfl,rfl,rfl,rfl,rfl,rfl,rfl,rfl,rfl,rfl,rfl,rfl,rfl,rfl,rfl,rfl,rfl,rfl,rfl,rfl,rfl,rfl,rfl,rfl,rfl,rfl,rfl,rfl,rfl,rfl,rfl,rfl,rfl,rfl,rfl,rfl,rfl,rfl,rfl,rfl,rfl,rfl,rfl,rfl,rfl,rfl,rfl,rfl,rfl,rfl,rfl,rfl,rfl,rfl,rfl,rfl,rfl,rfl,rfl,rfl,rfl,rfl,rfl,rfl,rfl,rfl,rfl,rfl,rfl,rfl,rfl,rfl,rfl,rfl,rfl,rfl,rfl,rfl,rfl,rfl,rfl,rfl,rfl,rfl,rfl,rfl,rfl,rfl,rfl,rfl,rfl,rfl,rfl,rfl,rfl,rfl,rfl,rfl,rfl,rfl,rfl,rfl,rfl,rfl,rfl,rfl,rfl,rfl,rfl,rfl,rfl,rfl,rfl,rfl,rfl,rfl,rfl,rfl,rfl,rfl,rfl,rfl,rfl,rfl,rfl,rfl,rfl,rfl⟩
theorem ZL:uU J8:=⟨ag0,rfl,rfl⟩
theorem ZM:Ed Tryz.prog J8:=by
 intro i c h _;obtain⟨p,hp,rfl⟩:=au'.1 h;have h1:=axf hp;have h2:p.1 =i.n:=by simpa using h1
 rw[<-h2];exact agV (wK gb0 (wK J7 (wK gb2 (wK S8 (wK gb4 (wK gb5 (wK gb6 (wK gb7 (wK gb8 (wK gb9 (wK agW (wK agX (agY))))))))))))) p (avP hp)
theorem ZN:Tryz.prog.follows .mixedOrders=true:=zk
end
@[simp] theorem tZ(a b:Nat):Nat.beq a b=decide (a=b):=by
 by_cases h:a=b
 subst h;simp;rw[Jy h];simp[h]
@[simp] theorem ny(a b:Nat):Nat.ble a b=decide (a<=b):=by
 by_cases h:a<=b
 rw[awz h];simp[h];have:Nat.ble a b=false:=by cases hb:Nat.ble a b with|false=>rfl|true=>exact absurd (au1 hb) h
 rw[this];simp[h]
@[simp] theorem vp(a b:Nat):Nat.add a b=a+b:=(rfl)
@[simp] theorem S9(a b:Nat):Nat.mul a b=a*b:=(rfl)
@[simp] theorem ao2(a b:Nat):Nat.sub a b=a- b:=(rfl)
theorem J9(a:Nat):Nat.succ a=a+1:=rfl
@[simp] theorem wL(a:Nat):Nat.succ a=a+1:=(rfl)
@[simp] theorem Ee(a b:Nat):Nat.div a b=a/b:=(rfl)
@[simp] theorem Ef(a b:Nat):Nat.mod a b=a% b:=(rfl)
theorem NA{α:Type _}(p:Prop)[Decidable p](x y:α):cond (decide p) x y=if p then x else y:=by by_cases h:p<;>simp[h]
attribute[simp] NA
@[simp ↓] theorem qA{p q:Nat}{v:AV}{f:Fr}:J p (fO q v f)=if p=q then v else J p f:=by
 unfold J fO
 by_cases h:p=q
 subst h;simp;simp[h]
def J':List AV->Nat->AV
 |[],_=>.any
 |x::_,0=>x
 |_::l,n+1=>J' l n
@[simp] theorem ao3{x l}:J' (x::l) 0=x:=(rfl)
@[simp] theorem ao4{x l n}:J' (x::l) (n+1)=J' l n:=(rfl)
@[simp ↓] theorem ao5{p:Nat}{l:List AV}:J p (nQ l)=J' l p:=by
 unfold J nQ
 induction l generalizing p with
 |nil=>rfl
 |cons x l ih=>cases p with|zero=>rfl|succ p=>simpa using ih
@[simp ↓] theorem ao6{p:Nat}{f:Fr}:CX.get (.t p) f=J p f:=(rfl)
@[simp ↓] theorem ao7{v:AV}{f:Fr}:CX.get (.k v) f=v:=(rfl)
@[simp ↓] theorem GX{p:Nat}{v:AV}{f:Fr}:put (some p) v f=fO p v f:=(rfl)
@[simp ↓] theorem GY{v:AV}{f:Fr}:put none v f=f:=(rfl)
section
variable{cf:mj}{kp:aT->Prop}{ds:List Df}{f:Fr}{h:Hp}{k:AR}{d:Option Nat}
@[simp ↓] theorem ao8:qQ cf kp [] ds f h=kp (.jo f h ds):=(rfl)
@[simp ↓] theorem ao9{o:CO}{r:List CI}:qQ cf kp (⟨d,o,none⟩::r) ds f h=sG cf kp ds d f h (aQ o f h) (qQ cf kp r):=(rfl)
def rU(v:AV)(b:Bool)(x y:Prop):Prop:=
 match v with
 |.bool t=>cond (cond t b (!b)) x y
 |.bA _=>y
 |_=>False
@[congr] theorem ao'{v w:AV}{b:Bool}{x y:Prop}(e:v=w):rU v b x y=rU w b x y:=by rw[e]
@[simp ↓] theorem apa{t:Bool}{x y:Prop}:rU (.bool t) true x y=if t=true then x else y:=by cases t<;>simp[rU]
@[simp ↓] theorem apb{t:Bool}{x y:Prop}:rU (.bool t) false x y=if t=true then y else x:=by cases t<;>simp[rU]
@[simp ↓] theorem apc{l}{b:Bool}{x y:Prop}:rU (.bA l) b x y=y:=(rfl)
@[simp ↓] theorem apd{o:CO}{r:List CI}{p:Nat}{b:Bool}:qQ cf kp (⟨d,o,some (p,b)⟩::r) ds f h=
 rU (J p f) b (sG cf kp ds d f h (aQ o f h) (qQ cf kp r)) (qQ cf kp r ds (put d undef f) h):=by
 simp only[qQ,jO,rU];cases J p f<;>first|rfl|skip
 rename_i t;cases t<;>cases b<;>rfl
@[congr] theorem ape{r r':OR}(e:r=r'):sG cf kp ds d f h r k=sG cf kp ds d f h r' k:=by rw[e]
@[simp ↓] theorem apf{x:AV}:sG cf kp ds d f h (.v x) k=k ds (put d x f) h:=(rfl)
@[simp ↓] theorem apg{x:AV}{h':Hp}:sG cf kp ds d f h (.vh x h') k=k ds (put d x f) h':=(rfl)
def NB(kp:aT->Prop)(ds:List Df)(d:Option Nat)(f:Fr)(k:AR)(o:aK):Prop:=
 match o with|.ret v h'=>k ds (put d v f) h'|.bn v h'=>kp (.bn v f h' ds)
@[simp ↓] theorem aph{v h'}:NB kp ds d f k (.ret v h')=k ds (put d v f) h':=(rfl)
@[simp ↓] theorem api{v h'}:NB kp ds d f k (.bn v h')=kp (.bn v f h' ds):=(rfl)
@[simp ↓] theorem apj{g:aM}{a:List AV}:sG cf kp ds d f h (.call g a) k=cf g a h (NB kp ds d f k):=(rfl)
@[simp ↓] theorem apk{x:AV}:sG cf kp ds d f h (.bn x) k=kp (.bn x f h ds):=(rfl)
@[simp ↓] theorem apl{x:Df}:sG cf kp ds d f h (.df x) k=k (x::ds) (put d undef f) h:=(rfl)
@[simp ↓] theorem apm{x:String}:sG cf kp ds d f h (.bad x) k=False:=(rfl)
@[simp ↓] theorem apn{r:Fr->Hp->List Df->(aT->Prop)->Prop}{k:aT->Prop}:bF r k (.jo f h ds)=r f h ds k:=(rfl)
@[simp ↓] theorem apo{r:Fr->Hp->List Df->(aT->Prop)->Prop}{k:aT->Prop}:bF r k (.ret f h ds)=k (.ret f h ds):=(rfl)
@[simp ↓] theorem apq{r:Fr->Hp->List Df->(aT->Prop)->Prop}{k:aT->Prop}{i}:bF r k (.exit i f h ds)=k (.exit i f h ds):=(rfl)
@[simp ↓] theorem apr{r:Fr->Hp->List Df->(aT->Prop)->Prop}{k:aT->Prop}{v}:bF r k (.bn v f h ds)=k (.bn v f h ds):=(rfl)
@[simp ↓] theorem aps{i}{k:aT->Prop}:bY i k (.jo f h ds)=k (.jo f h ds):=(rfl)
@[simp ↓] theorem apt{i}{k:aT->Prop}:bY i k (.ret f h ds)=k (.ret f h ds):=(rfl)
@[simp ↓] theorem apu{i v}{k:aT->Prop}:bY i k (.bn v f h ds)=k (.bn v f h ds):=(rfl)
@[simp ↓] theorem apv{r:Fr->Hp->List Df->(aT->Prop)->Prop}{k:aT->Prop}{i}:bF r k (.jW i f h ds)=k (.jW i f h ds):=(rfl)
@[simp ↓] theorem apw{i j}{k:aT->Prop}:bY i k (.jW j f h ds)=k (.jW j f h ds):=(rfl)
@[simp ↓] theorem apx{r:fJ}{c n}{k:aT->Prop}:pH r c k n (.jo f h ds)=k (.jo f h ds):=by cases n<;>rfl
@[simp ↓] theorem Ta{r:fJ}{c n}{k:aT->Prop}:pH r c k n (.ret f h ds)=k (.ret f h ds):=by cases n<;>rfl
@[simp ↓] theorem apy{r:fJ}{c n i}{k:aT->Prop}:pH r c k n (.exit i f h ds)=k (.exit i f h ds):=by cases n<;>rfl
@[simp ↓] theorem apz{r:fJ}{c n v}{k:aT->Prop}:pH r c k n (.bn v f h ds)=k (.bn v f h ds):=by cases n<;>rfl
def Eg(r:fJ)(c:CC)(k:aT->Prop)(n l:Nat)(f:Fr)(h:Hp)(ds:List Df)(o:Option CC):Prop:=match o with|some c'=>r c' f h ds (pH r c k n)|none=>k (.jW l f h ds)
@[simp ↓] theorem apA{r:fJ}{c n i}{k:aT->Prop}:pH r c k (n+1) (.jW i f h ds)=Eg r c k n i f h ds (xO i c):=(rfl)
@[simp ↓] theorem ZO{r:fJ}{c i}{k:aT->Prop}:pH r c k 8 (.jW i f h ds)=Eg r c k 7 i f h ds (xO i c):=(rfl)
@[simp ↓] theorem apB{r:fJ}{c i}{k:aT->Prop}:pH r c k 7 (.jW i f h ds)=Eg r c k 6 i f h ds (xO i c):=(rfl)
@[congr] theorem apC{r:fJ}{c k n i f h ds}{o o':Option CC}(e:o=o'):Eg r c k n i f h ds o=Eg r c k n i f h ds o':=by rw[e]
@[simp ↓] theorem ZP{r:fJ}{c c' k n i f h ds}:Eg r c k n i f h ds (some c')=r c' f h ds (pH r c k n):=(rfl)
@[simp ↓] theorem apD{r:fJ}{c k n i f h ds}:Eg r c k n i f h ds none=k (.jW i f h ds):=(rfl)
@[simp ↓] theorem apE{i j}{k:aT->Prop}:bY i k (.exit j f h ds)=if j=i then k (.jo f h ds) else k (.exit j f h ds):=by simp[bY]
@[simp ↓] theorem mu{l:List DI}:Mz cf kp l ds f h=cE cf kp (ku l f) ds l 0 [] f h:=(rfl)
variable{fm:Fr}{i hi n:Nat}{pd:List Pd}{r:List DI}{o:CO}
@[simp ↓] theorem apF:cE cf kp fm ds [] n pd f h=kp (.jo f h ds):=(rfl)
def dV(x:OR)(k:AV->Prop):Prop:=match x with|.v x=>k x|_=>False
@[congr] theorem apG{r r':OR}{k}(e:r=r'):dV r k=dV r' k:=by rw[e]
@[simp ↓] theorem apH{x k}:dV (.v x) k=k x:=(rfl)
@[simp ↓] theorem apI:cE cf kp fm ds (⟨i,⟨d,o,none⟩,.v7,hi⟩::r) n pd f h=dV (aQ o f h) λx=>cE cf kp fm ds r n pd (put d x f) h:=by simp only[cE,jO,dV];cases aQ o f h<;>rfl
@[simp ↓] theorem apJ:cE cf kp fm ds (⟨i,⟨d,o,none⟩,.rd,hi⟩::r) n pd f h=dV (aQ o f h) λx=>cE cf kp fm ds r n (⟨⟨d,o,none⟩,f,x,hi⟩::pd) (put d x f) h:=by simp only[cE,jO,dV];cases aQ o f h<;>rfl
@[simp ↓] theorem Cp:cE cf kp fm ds (⟨i,⟨d,o,none⟩,.ev,hi⟩::r) n pd f h=tO cf kp fm ds d f h (aQ o f h) λf' h'=>qR pd (n+1) h' λgC=>cE cf kp fm ds r (n+1) gC f' h':=(rfl)
@[simp ↓] theorem apK{p b}:cE cf kp fm ds (⟨i,⟨d,o,some (p,b)⟩,.v7,hi⟩::r) n pd f h=rU (J p f) b (dV (aQ o f h) λx=>cE cf kp fm ds r n pd (put d x f) h) (cE cf kp fm ds r n pd (put d undef f) h):=by
 simp only[cE,jO,rU,dV];cases J p f<;>first|rfl|skip
 rename_i t;cases t<;>cases b<;>first|rfl|(cases aQ o f h<;>rfl)
@[simp ↓] theorem ya{p b}:cE cf kp fm ds (⟨i,⟨d,o,some (p,b)⟩,.rd,hi⟩::r) n pd f h=rU (J p f) b (dV (aQ o f h) λx=>cE cf kp fm ds r n (⟨⟨d,o,some (p,b)⟩,f,x,hi⟩::pd) (put d x f) h) (cE cf kp fm ds r n pd (put d undef f) h):=by
 simp only[cE,jO,rU,dV];cases J p f<;>first|rfl|skip
 rename_i t;cases t<;>cases b<;>first|rfl|(cases aQ o f h<;>rfl)
@[simp ↓] theorem Ka{p b}:cE cf kp fm ds (⟨i,⟨d,o,some (p,b)⟩,.ev,hi⟩::r) n pd f h=rU (J p f) b (tO cf kp fm ds d f h (aQ o f h) λf' h'=>qR pd (n+1) h' λgC=>cE cf kp fm ds r (n+1) gC f' h') (cE cf kp fm ds r (n+1) (mN (n+1) pd) (put d undef f) h):=by
 simp only[cE,jO,rU];cases J p f<;>first|rfl|skip
 rename_i t;cases t<;>cases b<;>rfl
def zP(x:OR)(k:AV->Hp->Prop):Prop:=match x with|.vh x h=>k x h|_=>False
@[congr] theorem apM{r r':OR}{k}(e:r=r'):zP r k=zP r' k:=by rw[e]
@[simp ↓] theorem apN{x h k}:zP (.vh x h) k=k x h:=(rfl)
@[simp ↓] theorem apP{g}:cE cf kp fm ds (⟨i,⟨d,o,g⟩,.late,hi⟩::r) n pd f h=zP (aQ o f h) λx h'=>qR pd (n+1) h' λgC=>cE cf kp fm ds r (n+1) gC (put d x f) h':=by simp only[cE,zP];cases aQ o f h<;>rfl
@[simp ↓] theorem apQ{g}:cE cf kp fm ds (⟨i,⟨d,o,g⟩,.snd,hi⟩::r) n pd f h=zP (aQ o f h) λ_ h'=>qR pd (n+1) h' λgC=>cE cf kp fm ds r (n+1) gC f h':=by simp only[cE,zP];cases aQ o f h<;>rfl
def dF(a b:Option Nat)(x:OR)(k:Hp->Prop):Prop:=match a,b with|some i,some j=>if i=j then False else zP x λ_=>k|_,_=>False
@[congr] theorem apR{a a' b b':Option Nat}{x x':OR}{k:Hp->Prop}(e:a=a')(e2:b=b')(e3:x=x'):dF a b x k=dF a' b' x' k:=by rw[e,e2,e3]
@[simp ↓] theorem apS{i j x k}:dF (some i) (some j) x k=if i=j then False else zP x λ_=>k:=(rfl)
@[simp ↓] theorem apT{g e}:cE cf kp fm ds (⟨i,⟨d,o,g⟩,.fst,hi⟩::e::r) n pd f h=dF (sF o f) (sF e.c.op f) (aQ o f h) λh'=>cE cf kp fm ds (e::r) n pd f h':=by
 simp only[cE,dF];cases sF o f<;>first|rfl|skip
 cases sF e.c.op f<;>first|rfl|skip
 simp only[tZ,NA,zP];split;rfl;cases aQ o f h<;>rfl
@[simp] theorem apU{m:Nat}{a v:CX}:sF (.st m a v) f=match a.get f with|.ptr i _=>some i|_=>none:=(rfl)
variable{kd:Fr->Hp->Prop}
@[congr] theorem apV{r r':OR}(e:r=r'):tO cf kp fm ds d f h r kd=tO cf kp fm ds d f h r' kd:=by rw[e]
@[simp ↓] theorem apW{x:AV}:tO cf kp fm ds d f h (.v x) kd=kd (put d x f) h:=(rfl)
@[simp ↓] theorem apX{x:AV}{h'}:tO cf kp fm ds d f h (.vh x h') kd=kd (put d x f) h':=(rfl)
def NC(kp:aT->Prop)(fm:Fr)(ds:List Df)(d:Option Nat)(f:Fr)(k:Fr->Hp->Prop)(o:aK):Prop:=
 match o with|.ret v h'=>k (put d v f) h'|.bn v h'=>kp (.bn v fm h' ds)
@[simp ↓] theorem apY{v h'}:NC kp fm ds d f kd (.ret v h')=kd (put d v f) h':=(rfl)
@[simp ↓] theorem apZ{v h'}:NC kp fm ds d f kd (.bn v h')=kp (.bn v fm h' ds):=(rfl)
@[simp ↓] theorem ZQ{g:aM}{a:List AV}:tO cf kp fm ds d f h (.call g a) kd=cf g a h (NC kp fm ds d f kd):=(rfl)
@[simp ↓] theorem ap0{m:Nat}{k:List Pd->Prop}:qR [] m h k=k []:=(rfl)
@[simp ↓] theorem ap1{m:Nat}{p:Pd}{k:List Pd->Prop}:qR (p::pd) m h k=if m<=p.hi then(Gf h p=true/\qR pd m h λl=>k (p::l)) else qR pd m h k:=by
 simp only[qR,mN,ny,NA]
 by_cases c:m<=p.hi
 simp only[c,auo,AS];cases Gf h p<;>simp[jX.bad];simp only[c,auM]
end
@[simp] theorem ap3{m}:mN m []=[]:=(rfl)
@[simp] theorem ap4{m:Nat}{p:Pd}{l:List Pd}:mN m (p::l)=if m<=p.hi then p::mN m l else mN m l:=by simp[mN]
theorem ZR:∀b,Jf b b=true:=by intro b;cases b<;>rfl
theorem ND(a:Int):mJ a a=true:=by cases a<;>simp[mJ]
theorem ag1(k):qh k k=true:=by cases k<;>rfl
mutual
theorem Eh:∀x:AV,fP x x=true
 |.any=>rfl|.bool b=>ZR b|.i n=>ND n|.u8 n=>by simp[fP]|.int k n=>by simp[fP,ag1,ND]|.bN k b=>by cases k<;>simp[fP,uP]
 |.str a b=>by simp[fP]|.ptr i o=>by simp[fP]|.gJ=>rfl|.slice i o r l c e=>by simp[fP,ZR]|.bx=>rfl|.map i=>by simp[fP]|.kQ=>rfl
 |.func f a b=>by simp[fP,Kb a,Kb b]|.qg=>rfl|.iface t v=>by simp[fP,Eh v]|.ji=>rfl|.agg l=>by simp[fP,Kb l]|.bA l=>by simp[fP,Kb l]
 |.Dl=>rfl|.ge a=>ND a|.le a=>ND a
theorem Kb:∀l:List AV,zj l l=true
 |[]=>rfl
 |x::l=>by simp[zj,Eh x,Kb l]
end
attribute[simp] Eh
@[simp] theorem ap5{h:Hp}{c:CI}{f:Fr}{x:AV}{m:Nat}:(Gf h ⟨c,f,x,m⟩=true)=(match aQ c.op f h with|.v y=>fP y x=true|_=>False):=by simp only[Gf];cases aQ c.op f h<;>simp
@[simp] theorem ap6{b}:bQ (.bool b)=some [.bool b]:=(rfl)
@[simp] theorem ap7{n}:bQ (.i n)=some [.i n]:=(rfl)
@[simp] theorem ap8{n}:bQ (.u8 n)=some [.u8 n]:=(rfl)
@[simp] theorem ap9{k n}:bQ (.int k n)=some [.int k n]:=(rfl)
@[simp] theorem ap'{k b}:bQ (.bN k b)=some [.bN k b]:=(rfl)
@[simp] theorem aqa{i o}:bQ (.ptr i o)=some [.ptr i o]:=(rfl)
@[simp] theorem aqb:bQ .gJ=some [.gJ]:=(rfl)
@[simp] theorem aqc{i o r l c e}:bQ (.slice i o r l c e)=some [.slice i o r l c e]:=(rfl)
@[simp] theorem aqd:bQ .bx=some [.bx]:=(rfl)
@[simp] theorem aqe{i}:bQ (.map i)=some [.map i]:=(rfl)
@[simp] theorem aqf:bQ .kQ=some [.kQ]:=(rfl)
@[simp] theorem aqg{f a b}:bQ (.func f a b)=some [.func f a b]:=(rfl)
@[simp] theorem aqh:bQ .qg=some [.qg]:=(rfl)
@[simp] theorem aqi{t v}:bQ (.iface t v)=some [.iface t v]:=(rfl)
@[simp] theorem aqj:bQ .ji=some [.ji]:=(rfl)
@[simp] theorem aqk{l}:bQ (.agg l)=some l:=(rfl)
@[simp] theorem Hp.qZ{h:Hp}{j:Nat}{o:AO}(hj:j<h.nx):(h.push o).get j=h.get j:=by rw[Hp.B8,atS (Nat.ne_of_lt hj)]
@[simp] theorem Hp.br{h:Hp}{j:Nat}{o:AO}(hj:j=h.nx):(h.push o).get j=o:=by rw[Hp.B8,atV hj]
@[simp] theorem Hp.de{h:Hp}{i j:Nat}{o:AO}(hj:j≠i):(h.set i o).get j=h.get j:=by rw[Hp.tS,atS hj]
@[simp] theorem Hp.bR{h:Hp}{i j:Nat}{o:AO}(hj:j=i):(h.set i o).get j=o:=by rw[Hp.tS,atV hj]
theorem Hp.iy{h:Hp}{i:Nat}{o:AO}:(h.set i o).nx=max h.nx (i+1):=rfl
@[simp] theorem Hp.eE{h:Hp}{o:AO}:(h.push o).nx=h.nx+1:=(rfl)
theorem Hp.lt{h:Hp}{i:Nat}{o:AO}(e:h.get i=o)(n:jN o=false):i<h.nx:=Hp.Ry (by rw[e];exact n)
structure ah(M:Nat->Prop)(h h':Hp):Prop where
 nx:h.nx<=h'.nx
 get:∀i,i<h.nx->¬M i->h'.get i=h.get i
abbrev ax:=ah λ_=>False
theorem ah.refl{M:Nat->Prop}(h:Hp):ah M h h:=⟨at2 _,λ_ _ _=>rfl⟩
theorem ah.trans{M:Nat->Prop}{a b c:Hp}(x:ah M a b)(y:ah M b c):ah M a c:=⟨at1 x.nx y.nx,λi hi hm=>(y.get i (aur hi x.nx) hm).trans (x.get i hi hm)⟩
theorem ah.mono{M N:Nat->Prop}{a b:Hp}(x:ah M a b)(le:∀i,i<a.nx->M i->N i):ah N a b:=⟨x.nx,λi hi hn=>x.get i hi λhm=>hn (le i hi hm)⟩
theorem ah.cn{N:Nat->Prop}{a b:Hp}(x:ax a b):ah N a b:=x.mono λ_ _=>False.elim
theorem ah.push{M:Nat->Prop}{a b:Hp}(x:ah M a b)(o:AO):ah M a (b.push o):=⟨awv x.nx,λi hi hm=>(Hp.qZ (aur hi x.nx)).trans (x.get i hi hm)⟩
theorem ah.set{M:Nat->Prop}{a b:Hp}(x:ah M a b){i:Nat}(o:AO)(hi:a.nx<=i\/M i):ah M a (b.set i o):=by refine⟨at1 x.nx (by unfold Hp.set;simp only;omega),λj hj hm=>(Hp.de ?_).trans (x.get j hj hm)⟩;rintro rfl;rcases hi with hi|hi;omega;exact hm hi
section
variable{T:aM->Option CF}
def Kc(v:AV)(x y:Prop):Prop:=match v with|.bool t=>cond t x y|_=>False
theorem ag2{x a b f h ds k}:W T (.cond x a b) f h ds k=Kc (x.get f) (W T a f h ds k) (W T b f h ds k):=ae6
@[congr] theorem aql{v w:AV}{x y:Prop}(e:v=w):Kc v x y=Kc w x y:=by rw[e]
@[simp ↓] theorem aqm{t:Bool}{x y:Prop}:Kc (.bool t) x y=if t=true then x else y:=by cases t<;>simp[Kc]
@[congr] theorem aqn{c f h ds k}:W T c f h ds k=W T c f h ds k:=(rfl)
@[congr] theorem aqo{X:fJ}{g a a' h k}(e:a=a'):aE T X g a h k=aE T X g a' h k:=by rw[e]
attribute[simp ↓] Qq ae1 lI Gi ae2 ae3 ae4 Xg Qr ae5 ag2
theorem aJ{n:Nat}{b:Bool}{c:CC}{rs:List CR}{args h k}(ht:T ⟨n⟩=some ⟨n,b,c,rs⟩):aE T (W T) ⟨n⟩ args h k=W T c (nQ args) h [] (finish T (W T) rs k):=by unfold aE;simp[ht]
variable{X:fJ}{rs:List CR}{kc:aK->Prop}{f:Fr}{h:Hp}
@[simp ↓] theorem aqp:finish T X rs kc (.jo f h [])=wz h f rs kc:=(rfl)
@[simp ↓] theorem aqq:finish T X rs kc (.ret f h [])=wz h f rs kc:=(rfl)
@[simp ↓] theorem aqr{v}:finish T X rs kc (.bn v f h [])=kc (.bn v h):=(rfl)
end
attribute[simp] wz DN Jh
@[simp] theorem dZ{t:N3 (List AV)}{k j:Nat}{r:List AV}:cx t k r j=if j=k then r else t j:=by unfold cx;simp
attribute[simp] FZ wg qm
def ua(x y:AV):OR:=mc (λo=>Nat.beq o 0) x y
def vq(x y:AV):OR:=mc (λo=>Nat.ble o 1) x y
def uc(x y:AV):OR:=mc (λo=>Nat.beq o 2) x y
def vt(x y:AV):OR:=mc (λo=>Nat.ble 1 o) x y
@[simp ↓] theorem aqs{f:Fr}{h:Hp}{x}:aQ (.mv x) f h=.v (x.get f):=(rfl)
@[simp ↓] theorem aqt{f:Fr}{h:Hp}{c a b}:aQ (.pick c a b) f h=IW (c.get f) (a.get f) (b.get f):=(rfl)
@[simp ↓] theorem aqu{f:Fr}{h:Hp}{el l}:aQ (.alloc el l) f h=alloc h (.one el l) λi=>.ptr i 0:=(rfl)
@[simp ↓] theorem aqv{f:Fr}{h:Hp}{el rw cnt rs}:aQ (.FD el rw cnt rs) f h=alloc h (jJ el rw cnt rs) λi=>.ptr i 0:=(rfl)
@[simp ↓] theorem aqw{f:Fr}{h:Hp}{el n x}:aQ (.box el n x) f h=IX h el n (x.get f):=(rfl)
@[simp ↓] theorem aqx{f:Fr}{h:Hp}{z ps}:aQ (.build z ps) f h=FY (λq=>q.get f) z ps:=(rfl)
@[simp ↓] theorem aqy{f:Fr}{h:Hp}{el rw len z ps}:aQ (.Dq el rw len z ps) f h=FZ (λq=>q.get f) h el rw len z ps:=(rfl)
@[simp ↓] theorem aqz{f:Fr}{h:Hp}{x}:aQ (.yV x) f h=Dw h (x.get f):=(rfl)
@[simp ↓] theorem aqA{f:Fr}{h:Hp}{n x}:aQ (.FE n x) f h=Dx h n (x.get f):=(rfl)
@[simp ↓] theorem aqB{f:Fr}{h:Hp}{n a v}:aQ (.st n a v) f h=FP h n (a.get f) (v.get f):=(rfl)
@[simp ↓] theorem aqC{f:Fr}{h:Hp}{x}:aQ (.Ds x) f h=Mq (x.get f):=(rfl)
@[simp ↓] theorem aqD{f:Fr}{h:Hp}{x y}:aQ (.add x y) f h=lG (x.get f) (y.get f):=(rfl)
@[simp ↓] theorem aqE{f:Fr}{h:Hp}{x y}:aQ (.sub x y) f h=jb (x.get f) (y.get f):=(rfl)
@[simp ↓] theorem aqF{f:Fr}{h:Hp}{x y}:aQ (.mul x y) f h=qj (x.get f) (y.get f):=(rfl)
@[simp ↓] theorem aqG{f:Fr}{h:Hp}{x y}:aQ (.quo x y) f h=we (x.get f) (y.get f):=(rfl)
@[simp ↓] theorem aqH{f:Fr}{h:Hp}{x y}:aQ (.rem x y) f h=AH (x.get f) (y.get f):=(rfl)
@[simp ↓] theorem aqI{f:Fr}{h:Hp}{x y}:aQ (.and x y) f h=jI (λ_ a b=>a&&&b) (x.get f) (y.get f):=(rfl)
@[simp ↓] theorem aqJ{f:Fr}{h:Hp}{x y}:aQ (.or x y) f h=jI (λ_ a b=>a|||b) (x.get f) (y.get f):=(rfl)
@[simp ↓] theorem aqK{f:Fr}{h:Hp}{x y}:aQ (.xor x y) f h=jI (λ_ a b=>a^^^b) (x.get f) (y.get f):=(rfl)
@[simp ↓] theorem aqL{f:Fr}{h:Hp}{x y}:aQ (.andNot x y) f h=jI (λ_ a b=>a&&&~~~b) (x.get f) (y.get f):=(rfl)
@[simp ↓] theorem aqM{f:Fr}{h:Hp}{x y}:aQ (.shl x y) f h=oQ pF (x.get f) (y.get f):=(rfl)
@[simp ↓] theorem aqN{f:Fr}{h:Hp}{x y}:aQ (.shr x y) f h=sC (x.get f) (y.get f):=(rfl)
@[simp ↓] theorem aqO{f:Fr}{h:Hp}{k x y}:aQ (.eql k x y) f h=Dv k (x.get f) (y.get f):=(rfl)
@[simp ↓] theorem aqP{f:Fr}{h:Hp}{k x y}:aQ (.neq k x y) f h=Mo k (x.get f) (y.get f):=(rfl)
@[simp ↓] theorem aqQ{f:Fr}{h:Hp}{x y}:aQ (.lss x y) f h=ua (x.get f) (y.get f):=(rfl)
@[simp ↓] theorem aqR{f:Fr}{h:Hp}{x y}:aQ (.leq x y) f h=vq (x.get f) (y.get f):=(rfl)
@[simp ↓] theorem aqS{f:Fr}{h:Hp}{x y}:aQ (.gtr x y) f h=uc (x.get f) (y.get f):=(rfl)
@[simp ↓] theorem aqT{f:Fr}{h:Hp}{x y}:aQ (.geq x y) f h=vt (x.get f) (y.get f):=(rfl)
@[simp ↓] theorem aqU{f:Fr}{h:Hp}{x}:aQ (.neg x) f h=uR (x.get f):=(rfl)
@[simp ↓] theorem aqV{f:Fr}{h:Hp}{x}:aQ (.not x) f h=IY (x.get f):=(rfl)
@[simp ↓] theorem aqW{f:Fr}{h:Hp}{x}:aQ (.Iy x) f h=BY (x.get f):=(rfl)
@[simp ↓] theorem aqX{f:Fr}{h:Hp}{k x}:aQ (.FF k x) f h=ko k (x.get f):=(rfl)
@[simp ↓] theorem aqY{f:Fr}{h:Hp}{k x}:aQ (.Iz k x) f h=IZ k (x.get f):=(rfl)
@[simp ↓] theorem aqZ{f:Fr}{h:Hp}{k x}:aQ (.IA k x) f h=Mr k (x.get f):=(rfl)
@[simp ↓] theorem aq0{f:Fr}{h:Hp}{el x}:aQ (.Mg el x) f h=BX h el (x.get f):=(rfl)
@[simp ↓] theorem aq1{f:Fr}{h:Hp}{t x}:aQ (.IB t x) f h=.v (.iface t (x.get f)):=(rfl)
@[simp ↓] theorem aq2{f:Fr}{h:Hp}{fn a b}:aQ (.FG fn a b) f h=.v (.func fn (jc (λq=>q.get f) a) (jc (λq=>q.get f) b)):=(rfl)
@[simp ↓] theorem aq3{f:Fr}{h:Hp}:aQ (.Mh) f h=alloc h (.map [] 0) λi=>.map i:=(rfl)
@[simp ↓] theorem aq4{f:Fr}{h:Hp}{el rw AM z l c}:aQ (.Mi el rw AM z l c) f h=DB h el rw AM z (l.get f) (c.get f):=(rfl)
@[simp ↓] theorem aq5{f:Fr}{h:Hp}{x lo hi}:aQ (.FH x lo hi) f h=wh (x.get f) (uS (λq=>q.get f) lo) (uS (λq=>q.get f) hi):=(rfl)
@[simp ↓] theorem aq6{f:Fr}{h:Hp}{rw n x lo hi}:aQ (.FI rw n x lo hi) f h=FQ h rw n (x.get f) (uS (λq=>q.get f) lo) (uS (λq=>q.get f) hi):=(rfl)
@[simp ↓] theorem aq7{f:Fr}{h:Hp}{x off}:aQ (.fa x off) f h=I0 (x.get f) off:=(rfl)
@[simp ↓] theorem aq8{f:Fr}{h:Hp}{x off n agg}:aQ (.ID x off n agg) f h=IQ (x.get f) off n agg:=(rfl)
@[simp ↓] theorem aq9{f:Fr}{h:Hp}{rw x i}:aQ (.ia rw x i) f h=Dy rw (x.get f) (i.get f):=(rfl)
@[simp ↓] theorem aq'{f:Fr}{h:Hp}{rw n x i}:aQ (.IE rw n x i) f h=yY rw n (x.get f) (i.get f):=(rfl)
@[simp ↓] theorem ara{f:Fr}{h:Hp}{x i}:aQ (.AG x i) f h=nh (x.get f) (i.get f):=(rfl)
@[simp ↓] theorem arb{f:Fr}{h:Hp}{ek z x k ok}:aQ (.jV ek z x k ok) f h=me ek h z (x.get f) (k.get f) ok:=(rfl)
@[simp ↓] theorem arc{f:Fr}{h:Hp}{ek m k v}:aQ (.pE ek m k v) f h=wk ek h (m.get f) (k.get f) (v.get f):=(rfl)
@[simp ↓] theorem ard{f:Fr}{h:Hp}{ek x}:aQ (.Mj ek x) f h=FT ek h (x.get f):=(rfl)
@[simp ↓] theorem are{f:Fr}{h:Hp}{x s}:aQ (.IF x s) f h=BV h (x.get f) s:=(rfl)
@[simp ↓] theorem arf{f:Fr}{h:Hp}{x}:aQ (.entry x) f h=FU h (x.get f):=(rfl)
@[simp ↓] theorem arh{f:Fr}{h:Hp}{t z x ok}:aQ (.IG t z x ok) f h=IU t z (x.get f) ok:=(rfl)
@[simp ↓] theorem ari{f:Fr}{h:Hp}{x i}:aQ (.ext x i) f h=IV (x.get f) i:=(rfl)
@[simp ↓] theorem ZS{f:Fr}{h:Hp}{fn args}:aQ (.call fn args) f h=.call fn (jc (λq=>q.get f) args):=(rfl)
@[simp ↓] theorem arj{f:Fr}{h:Hp}{fn args}:aQ (.FJ fn args) f h=Ms (fn.get f) (jc (λq=>q.get f) args):=(rfl)
@[simp ↓] theorem ark{f:Fr}{h:Hp}{el rw AM x y}:aQ (.append el rw AM x y) f h=kJ h el rw AM (x.get f) (y.get f):=(rfl)
@[simp ↓] theorem arl{f:Fr}{h:Hp}{k x}:aQ (.len k x) f h=tL k h (x.get f):=(rfl)
@[simp ↓] theorem arn{f:Fr}{h:Hp}{rw x y}:aQ (.copy rw x y) f h=FV h rw (x.get f) (y.get f):=(rfl)
@[simp ↓] theorem aro{f:Fr}{h:Hp}{l}:aQ (.min l) f h=(match jc (λq=>q.get f) l with|[]=>.bad "min"|x::r=>wq true x r):=(rfl)
@[simp ↓] theorem arp{f:Fr}{h:Hp}{l}:aQ (.max l) f h=(match jc (λq=>q.get f) l with|[]=>.bad "max"|x::r=>wq false x r):=(rfl)
@[simp ↓] theorem arq{f:Fr}{h:Hp}{x}:aQ (.II x) f h=FX (x.get f):=(rfl)
@[simp ↓] theorem ars{f:Fr}{h:Hp}{u n x}:aQ (.FL u n x) f h=Dz h u n (x.get f):=(rfl)
@[simp ↓] theorem art{f:Fr}{h:Hp}{e l}:aQ (.BO e l) f h=qo e (jc (λq=>q.get f) l):=(rfl)
@[simp ↓] theorem aru{f:Fr}{h:Hp}{u p n}:aQ (.Mk u p n) f h=AL h u (p.get f) (n.get f):=(rfl)
@[simp ↓] theorem arv{f:Fr}{h:Hp}:aQ (.recover) f h=.bad "recover":=(rfl)
@[simp ↓] theorem arw{f:Fr}{h:Hp}{fn args}:aQ (.IJ fn args) f h=Mt (fn.get f) (jc (λq=>q.get f) args):=(rfl)
@[simp ↓] theorem arx{f:Fr}{h:Hp}{x}:aQ (.panic x) f h=Qd (x.get f):=(rfl)
@[simp ↓] theorem ary{f:Fr}{h:Hp}{Dt}:aQ (.bad Dt) f h=.bad Dt:=(rfl)
attribute[simp] alloc Hp.tT gK kH FN uS jc gk fF BQ mK
section
variable{h:Hp}{i o n:Nat}{x y v w:AV}
def ZT(o:Option (List AV)):OR:=match o with|some (v::_)=>.v v|_=>.bad "load"
def ZU(o:Option (List AV)):OR:=match o with|some l=>.v (.agg l)|none=>.bad "load n"
@[simp] theorem arz{v:AV}{l:List AV}:ZT (some (v::l))=.v v:=(rfl)
@[simp] theorem arA{l:List AV}:ZU (some l)=.v (.agg l):=(rfl)
@[simp] theorem arB:Dw h (.ptr i o)=ZT (cellsOf (h.get i) o 1):=(rfl)
@[simp] theorem arC:Dx h n (.ptr i o)=ZU (cellsOf (h.get i) o n):=(rfl)
@[simp] theorem arD:FP h n (.ptr i o) v=(match bQ v with
 |some l=>cond (Nat.beq (gk l) n) (match setCells (h.get i) o l with|some ob=>.vh undef (h.set i ob)|none=>.bad "store") (.bad "store: size")
 |none=>.bad "store: cells"):=(rfl)
@[simp] theorem arE{el l}:cellsOf (.one el l) o n=gK n (kH o l):=(rfl)
@[simp] theorem arF{el r l}:setCells (.one el r) o l=match mK o l r with|some r'=>some (.one el r')|none=>none:=(rfl)
@[simp] theorem arG{fn first captured args}:Ms (.func fn first captured) args=.call fn (fF first (fF args captured)):=(rfl)
attribute[simp] Mq I0 IQ IP IV y7 IY IW IX AI FY mM BP
end
section
variable{rw cnt fz el k j n off r len cap:Nat}{t:N3 (List AV)}{b:Nat}{ex:Bool}
@[simp] theorem Kd(hk:k<cnt)(hj:j+n<=rw)(hn:0<n):cellsOf (.rows el rw cnt fz t) (k*rw+j) n=gK n (kH j (t k)):=by
 have h1:(k*rw+j)/rw=k:=by rw[auB,axa qaN,avY qaN,aud]
 have h2:(k*rw+j)% rw=j:=by rw[auB,awG,avy qaN]
 simp only[cellsOf,Ee,Ef,vp,wL,ny,h1,h2];have:(decide (j+n<=rw)&&decide (k+1<=cnt))=true:=by simp;omega
 rw[this];rfl
@[simp] theorem ZV(hk:k<cnt)(hj:n<=rw)(hn:0<n):cellsOf (.rows el rw cnt fz t) (k*rw) n=gK n (t k):=by have:=Kd (el:=el) (fz:=fz) (t:=t) (j:=0) hk (by rw[aue];exact hj) hn;simpa using this
@[simp] theorem arH(hk:k<cnt):cellsOf (.rows el 1 cnt fz t) k 1=gK 1 (t k):=by have:=ZV (rw:=1) (el:=el) (fz:=fz) (t:=t) hk (at2 1) qaN;simpa using this
@[simp] theorem ZW{l:List AV}(hk:k<cnt)(hj:j+gk l<=rw)(hn:0<gk l)(hf:fz<=k*rw+j):setCells (.rows el rw cnt fz t) (k*rw+j) l=
 match mK j l (t k) with|some r'=>some (.rows el rw cnt fz (cx t k r'))|none=>none:=by
 have h1:(k*rw+j)/rw=k:=by rw[auB,axa qaN,avY qaN,aud]
 have h2:(k*rw+j)% rw=j:=by rw[auB,awG,avy qaN]
 simp only[setCells,Ee,Ef,vp,wL,ny,h1,h2,dY];have:(decide (j+gk l<=rw)&&decide (k+1<=cnt)&&decide (fz<=k*rw+j))=true:=by simp;omega
 rw[this];rfl
@[simp] theorem ag3{l:List AV}(hk:k<cnt)(hj:gk l<=rw)(hn:0<gk l)(hf:fz<=k*rw):setCells (.rows el rw cnt fz t) (k*rw) l=
 match mK 0 l (t k) with|some r'=>some (.rows el rw cnt fz (cx t k r'))|none=>none:=by
 have:=ZW (rw:=rw) (el:=el) (fz:=fz) (t:=t) (j:=0) (l:=l) hk qaN hn qaN;simpa using this
@[simp] theorem arI{l:List AV}(hk:0<cnt)(hj:gk l<=rw)(hn:0<gk l)(hf:fz=0):setCells (.rows el rw cnt fz t) 0 l=
 match mK 0 l (t 0) with|some r'=>some (.rows el rw cnt fz (cx t 0 r'))|none=>none:=by
 have:=ag3 (rw:=rw) (el:=el) (fz:=fz) (t:=t) (k:=0) (l:=l) hk hj hn qaN;simpa using this
@[simp] theorem arJ(hk:0<cnt)(hj:n<=rw)(hn:0<n):cellsOf (.rows el rw cnt fz t) 0 n=gK n (t 0):=by have:=ZV (el:=el) (fz:=fz) (t:=t) (k:=0) hk hj hn;simpa using this
@[simp] theorem arK(hk:0<cnt)(hj:j+n<=rw)(hn:0<n):cellsOf (.rows el rw cnt fz t) j n=gK n (kH j (t 0)):=by have:=Kd (el:=el) (fz:=fz) (t:=t) (k:=0) hk hj hn;simpa using this
@[simp] theorem ag4{v:AV}(hk:k<cnt)(hf:fz<=k):setCells (.rows el 1 cnt fz t) k [v]=
 match mK 0 [v] (t k) with|some r'=>some (.rows el 1 cnt fz (cx t k r'))|none=>none:=by
 have:=ZW (rw:=1) (el:=el) (fz:=fz) (t:=t) (j:=0) (l:=[v]) hk (by simp) (by simp) (by simpa using hf);simpa using this
@[simp] theorem arL{ix:Int}(h0:0<=ix)(h1:ix.toNat<len):Dy rw (.slice b off r len cap ex) (.i ix)=.v (.ptr b (off+ix.toNat*rw)):=by obtain⟨n,rfl⟩:=at6 h0;have h1:n+1<=len:=h1;simp only[Dy,mM,BP,wL,ny,S9,vp];simp[h1]
end
theorem zq{p:Prop}(h:p:=by simp only[Hp.eE,Hp.iy];omega):p:=h
theorem bh{p:Prop}(h:p:=by first|omega|(simp only[Hp.eE,Hp.iy];done)|(simp only[Hp.eE,Hp.iy,gk,J9];omega)):p:=h
theorem zA{p:Prop}(h:p:=by first|assumption|(simp(maxSteps:=400000) (disch:=first|exact bh|fail)<;>assumption)):p:=h
theorem aa{p:Prop}(e:p:=by simp(maxSteps:=400000) (disch:=first|exact bh|fail)):p:=e
theorem ag{p q:Prop}(y:q)(e:q->p:=by intro y;simp(maxSteps:=400000) (disch:=first|exact bh|fail);exact y):p:=e y
theorem zp0{p:Prop}(e:p:=by exact⟨by(try simp only[Hp.eE,Hp.iy]);omega,λi hi hm=>by simp(maxSteps:=400000) (disch:=first|exact bh|fail) [hi,hm]⟩):p:=e
theorem au{a0 p:Prop}(x0:a0)(e:a0->p:=by intro x0;simp(maxSteps:=400000) (disch:=first|exact bh|fail) [x0]):p:=e x0
theorem aB{a0 p q:Prop}(x0:a0)(y:q)(e:a0->q->p:=by intro x0 y;simp(maxSteps:=400000) (disch:=first|exact bh|fail) [x0];exact y):p:=e x0 y
theorem iQ{a0 p:Prop}(x0:a0)(e:a0->p:=by intro x0;exact⟨by(try simp only[Hp.eE,Hp.iy]);omega,λi hi hm=>by simp(maxSteps:=400000) (disch:=first|exact bh|fail) [x0,hi,hm]⟩):p:=e x0
theorem bV{a0 a1 p:Prop}(x0:a0)(x1:a1)(e:a0->a1->p:=by intro x0 x1;simp(maxSteps:=400000) (disch:=first|exact bh|fail) [x0,x1]):p:=e x0 x1
theorem aS{a0 a1 p q:Prop}(x0:a0)(x1:a1)(y:q)(e:a0->a1->q->p:=by intro x0 x1 y;simp(maxSteps:=400000) (disch:=first|exact bh|fail) [x0,x1];exact y):p:=e x0 x1 y
theorem eF{a0 a1 p:Prop}(x0:a0)(x1:a1)(e:a0->a1->p:=by intro x0 x1;exact⟨by(try simp only[Hp.eE,Hp.iy]);omega,λi hi hm=>by simp(maxSteps:=400000) (disch:=first|exact bh|fail) [x0,x1,hi,hm]⟩):p:=e x0 x1
theorem cX{a0 a1 a2 p:Prop}(x0:a0)(x1:a1)(x2:a2)(e:a0->a1->a2->p:=by intro x0 x1 x2;simp(maxSteps:=400000) (disch:=first|exact bh|fail) [x0,x1,x2]):p:=e x0 x1 x2
theorem aU{a0 a1 a2 p q:Prop}(x0:a0)(x1:a1)(x2:a2)(y:q)(e:a0->a1->a2->q->p:=by intro x0 x1 x2 y;simp(maxSteps:=400000) (disch:=first|exact bh|fail) [x0,x1,x2];exact y):p:=e x0 x1 x2 y
theorem fH{a0 a1 a2 p:Prop}(x0:a0)(x1:a1)(x2:a2)(e:a0->a1->a2->p:=by intro x0 x1 x2;exact⟨by(try simp only[Hp.eE,Hp.iy]);omega,λi hi hm=>by simp(maxSteps:=400000) (disch:=first|exact bh|fail) [x0,x1,x2,hi,hm]⟩):p:=e x0 x1 x2
theorem mw{a0 a1 a2 a3 p:Prop}(x0:a0)(x1:a1)(x2:a2)(x3:a3)(e:a0->a1->a2->a3->p:=by intro x0 x1 x2 x3;simp(maxSteps:=400000) (disch:=first|exact bh|fail) [x0,x1,x2,x3]):p:=e x0 x1 x2 x3
theorem bK{a0 a1 a2 a3 p q:Prop}(x0:a0)(x1:a1)(x2:a2)(x3:a3)(y:q)(e:a0->a1->a2->a3->q->p:=by intro x0 x1 x2 x3 y;simp(maxSteps:=400000) (disch:=first|exact bh|fail) [x0,x1,x2,x3];exact y):p:=e x0 x1 x2 x3 y
theorem qB{a0 a1 a2 a3 p:Prop}(x0:a0)(x1:a1)(x2:a2)(x3:a3)(e:a0->a1->a2->a3->p:=by intro x0 x1 x2 x3;exact⟨by(try simp only[Hp.eE,Hp.iy]);omega,λi hi hm=>by simp(maxSteps:=400000) (disch:=first|exact bh|fail) [x0,x1,x2,x3,hi,hm]⟩):p:=e x0 x1 x2 x3
theorem zg5{a0 a1 a2 a3 a4 p:Prop}(x0:a0)(x1:a1)(x2:a2)(x3:a3)(x4:a4)(e:a0->a1->a2->a3->a4->p:=by intro x0 x1 x2 x3 x4;simp(maxSteps:=400000) (disch:=first|exact bh|fail) [x0,x1,x2,x3,x4]):p:=e x0 x1 x2 x3 x4
theorem cC{a0 a1 a2 a3 a4 p q:Prop}(x0:a0)(x1:a1)(x2:a2)(x3:a3)(x4:a4)(y:q)(e:a0->a1->a2->a3->a4->q->p:=by intro x0 x1 x2 x3 x4 y;simp(maxSteps:=400000) (disch:=first|exact bh|fail) [x0,x1,x2,x3,x4];exact y):p:=e x0 x1 x2 x3 x4 y
theorem Ei{a0 a1 a2 a3 a4 p:Prop}(x0:a0)(x1:a1)(x2:a2)(x3:a3)(x4:a4)(e:a0->a1->a2->a3->a4->p:=by intro x0 x1 x2 x3 x4;exact⟨by(try simp only[Hp.eE,Hp.iy]);omega,λi hi hm=>by simp(maxSteps:=400000) (disch:=first|exact bh|fail) [x0,x1,x2,x3,x4,hi,hm]⟩):p:=e x0 x1 x2 x3 x4
theorem zg6{a0 a1 a2 a3 a4 a5 p:Prop}(x0:a0)(x1:a1)(x2:a2)(x3:a3)(x4:a4)(x5:a5)(e:a0->a1->a2->a3->a4->a5->p:=by intro x0 x1 x2 x3 x4 x5;simp(maxSteps:=400000) (disch:=first|exact bh|fail) [x0,x1,x2,x3,x4,x5]):p:=e x0 x1 x2 x3 x4 x5
theorem cq{a0 a1 a2 a3 a4 a5 p q:Prop}(x0:a0)(x1:a1)(x2:a2)(x3:a3)(x4:a4)(x5:a5)(y:q)(e:a0->a1->a2->a3->a4->a5->q->p:=by intro x0 x1 x2 x3 x4 x5 y;simp(maxSteps:=400000) (disch:=first|exact bh|fail) [x0,x1,x2,x3,x4,x5];exact y):p:=e x0 x1 x2 x3 x4 x5 y
theorem zp6{a0 a1 a2 a3 a4 a5 p:Prop}(x0:a0)(x1:a1)(x2:a2)(x3:a3)(x4:a4)(x5:a5)(e:a0->a1->a2->a3->a4->a5->p:=by intro x0 x1 x2 x3 x4 x5;exact⟨by(try simp only[Hp.eE,Hp.iy]);omega,λi hi hm=>by simp(maxSteps:=400000) (disch:=first|exact bh|fail) [x0,x1,x2,x3,x4,x5,hi,hm]⟩):p:=e x0 x1 x2 x3 x4 x5
theorem zg7{a0 a1 a2 a3 a4 a5 a6 p:Prop}(x0:a0)(x1:a1)(x2:a2)(x3:a3)(x4:a4)(x5:a5)(x6:a6)(e:a0->a1->a2->a3->a4->a5->a6->p:=by intro x0 x1 x2 x3 x4 x5 x6;simp(maxSteps:=400000) (disch:=first|exact bh|fail) [x0,x1,x2,x3,x4,x5,x6]):p:=e x0 x1 x2 x3 x4 x5 x6
theorem iR{a0 a1 a2 a3 a4 a5 a6 p q:Prop}(x0:a0)(x1:a1)(x2:a2)(x3:a3)(x4:a4)(x5:a5)(x6:a6)(y:q)(e:a0->a1->a2->a3->a4->a5->a6->q->p:=by intro x0 x1 x2 x3 x4 x5 x6 y;simp(maxSteps:=400000) (disch:=first|exact bh|fail) [x0,x1,x2,x3,x4,x5,x6];exact y):p:=e x0 x1 x2 x3 x4 x5 x6 y
theorem ZX{a0 a1 a2 a3 a4 a5 a6 p:Prop}(x0:a0)(x1:a1)(x2:a2)(x3:a3)(x4:a4)(x5:a5)(x6:a6)(e:a0->a1->a2->a3->a4->a5->a6->p:=by intro x0 x1 x2 x3 x4 x5 x6;exact⟨by(try simp only[Hp.eE,Hp.iy]);omega,λi hi hm=>by simp(maxSteps:=400000) (disch:=first|exact bh|fail) [x0,x1,x2,x3,x4,x5,x6,hi,hm]⟩):p:=e x0 x1 x2 x3 x4 x5 x6
theorem zg8{a0 a1 a2 a3 a4 a5 a6 a7 p:Prop}(x0:a0)(x1:a1)(x2:a2)(x3:a3)(x4:a4)(x5:a5)(x6:a6)(x7:a7)(e:a0->a1->a2->a3->a4->a5->a6->a7->p:=by intro x0 x1 x2 x3 x4 x5 x6 x7;simp(maxSteps:=400000) (disch:=first|exact bh|fail) [x0,x1,x2,x3,x4,x5,x6,x7]):p:=e x0 x1 x2 x3 x4 x5 x6 x7
theorem fY{a0 a1 a2 a3 a4 a5 a6 a7 p q:Prop}(x0:a0)(x1:a1)(x2:a2)(x3:a3)(x4:a4)(x5:a5)(x6:a6)(x7:a7)(y:q)(e:a0->a1->a2->a3->a4->a5->a6->a7->q->p:=by intro x0 x1 x2 x3 x4 x5 x6 x7 y;simp(maxSteps:=400000) (disch:=first|exact bh|fail) [x0,x1,x2,x3,x4,x5,x6,x7];exact y):p:=e x0 x1 x2 x3 x4 x5 x6 x7 y
theorem zp8{a0 a1 a2 a3 a4 a5 a6 a7 p:Prop}(x0:a0)(x1:a1)(x2:a2)(x3:a3)(x4:a4)(x5:a5)(x6:a6)(x7:a7)(e:a0->a1->a2->a3->a4->a5->a6->a7->p:=by intro x0 x1 x2 x3 x4 x5 x6 x7;exact⟨by(try simp only[Hp.eE,Hp.iy]);omega,λi hi hm=>by simp(maxSteps:=400000) (disch:=first|exact bh|fail) [x0,x1,x2,x3,x4,x5,x6,x7,hi,hm]⟩):p:=e x0 x1 x2 x3 x4 x5 x6 x7
theorem zg9{a0 a1 a2 a3 a4 a5 a6 a7 a8 p:Prop}(x0:a0)(x1:a1)(x2:a2)(x3:a3)(x4:a4)(x5:a5)(x6:a6)(x7:a7)(x8:a8)(e:a0->a1->a2->a3->a4->a5->a6->a7->a8->p:=by intro x0 x1 x2 x3 x4 x5 x6 x7 x8;simp(maxSteps:=400000) (disch:=first|exact bh|fail) [x0,x1,x2,x3,x4,x5,x6,x7,x8]):p:=e x0 x1 x2 x3 x4 x5 x6 x7 x8
theorem mz{a0 a1 a2 a3 a4 a5 a6 a7 a8 p q:Prop}(x0:a0)(x1:a1)(x2:a2)(x3:a3)(x4:a4)(x5:a5)(x6:a6)(x7:a7)(x8:a8)(y:q)(e:a0->a1->a2->a3->a4->a5->a6->a7->a8->q->p:=by intro x0 x1 x2 x3 x4 x5 x6 x7 x8 y;simp(maxSteps:=400000) (disch:=first|exact bh|fail) [x0,x1,x2,x3,x4,x5,x6,x7,x8];exact y):p:=e x0 x1 x2 x3 x4 x5 x6 x7 x8 y
theorem zp9{a0 a1 a2 a3 a4 a5 a6 a7 a8 p:Prop}(x0:a0)(x1:a1)(x2:a2)(x3:a3)(x4:a4)(x5:a5)(x6:a6)(x7:a7)(x8:a8)(e:a0->a1->a2->a3->a4->a5->a6->a7->a8->p:=by intro x0 x1 x2 x3 x4 x5 x6 x7 x8;exact⟨by(try simp only[Hp.eE,Hp.iy]);omega,λi hi hm=>by simp(maxSteps:=400000) (disch:=first|exact bh|fail) [x0,x1,x2,x3,x4,x5,x6,x7,x8,hi,hm]⟩):p:=e x0 x1 x2 x3 x4 x5 x6 x7 x8
theorem arM{a0 a1 a2 a3 a4 a5 a6 a7 a8 a9 p:Prop}(x0:a0)(x1:a1)(x2:a2)(x3:a3)(x4:a4)(x5:a5)(x6:a6)(x7:a7)(x8:a8)(x9:a9)(e:a0->a1->a2->a3->a4->a5->a6->a7->a8->a9->p:=by intro x0 x1 x2 x3 x4 x5 x6 x7 x8 x9;simp(maxSteps:=400000) (disch:=first|exact bh|fail) [x0,x1,x2,x3,x4,x5,x6,x7,x8,x9]):p:=e x0 x1 x2 x3 x4 x5 x6 x7 x8 x9
theorem nA{a0 a1 a2 a3 a4 a5 a6 a7 a8 a9 p q:Prop}(x0:a0)(x1:a1)(x2:a2)(x3:a3)(x4:a4)(x5:a5)(x6:a6)(x7:a7)(x8:a8)(x9:a9)(y:q)(e:a0->a1->a2->a3->a4->a5->a6->a7->a8->a9->q->p:=by intro x0 x1 x2 x3 x4 x5 x6 x7 x8 x9 y;simp(maxSteps:=400000) (disch:=first|exact bh|fail) [x0,x1,x2,x3,x4,x5,x6,x7,x8,x9];exact y):p:=e x0 x1 x2 x3 x4 x5 x6 x7 x8 x9 y
theorem arN{a0 a1 a2 a3 a4 a5 a6 a7 a8 a9 a10 p:Prop}(x0:a0)(x1:a1)(x2:a2)(x3:a3)(x4:a4)(x5:a5)(x6:a6)(x7:a7)(x8:a8)(x9:a9)(x10:a10)(e:a0->a1->a2->a3->a4->a5->a6->a7->a8->a9->a10->p:=by intro x0 x1 x2 x3 x4 x5 x6 x7 x8 x9 x10;simp(maxSteps:=400000) (disch:=first|exact bh|fail) [x0,x1,x2,x3,x4,x5,x6,x7,x8,x9,x10]):p:=e x0 x1 x2 x3 x4 x5 x6 x7 x8 x9 x10
theorem wM{a0 a1 a2 a3 a4 a5 a6 a7 a8 a9 a10 p q:Prop}(x0:a0)(x1:a1)(x2:a2)(x3:a3)(x4:a4)(x5:a5)(x6:a6)(x7:a7)(x8:a8)(x9:a9)(x10:a10)(y:q)(e:a0->a1->a2->a3->a4->a5->a6->a7->a8->a9->a10->q->p:=by intro x0 x1 x2 x3 x4 x5 x6 x7 x8 x9 x10 y;simp(maxSteps:=400000) (disch:=first|exact bh|fail) [x0,x1,x2,x3,x4,x5,x6,x7,x8,x9,x10];exact y):p:=e x0 x1 x2 x3 x4 x5 x6 x7 x8 x9 x10 y
theorem arO{a0 a1 a2 a3 a4 a5 a6 a7 a8 a9 a10 a11 p:Prop}(x0:a0)(x1:a1)(x2:a2)(x3:a3)(x4:a4)(x5:a5)(x6:a6)(x7:a7)(x8:a8)(x9:a9)(x10:a10)(x11:a11)(e:a0->a1->a2->a3->a4->a5->a6->a7->a8->a9->a10->a11->p:=by intro x0 x1 x2 x3 x4 x5 x6 x7 x8 x9 x10 x11;simp(maxSteps:=400000) (disch:=first|exact bh|fail) [x0,x1,x2,x3,x4,x5,x6,x7,x8,x9,x10,x11]):p:=e x0 x1 x2 x3 x4 x5 x6 x7 x8 x9 x10 x11
theorem pU{a0 a1 a2 a3 a4 a5 a6 a7 a8 a9 a10 a11 p q:Prop}(x0:a0)(x1:a1)(x2:a2)(x3:a3)(x4:a4)(x5:a5)(x6:a6)(x7:a7)(x8:a8)(x9:a9)(x10:a10)(x11:a11)(y:q)(e:a0->a1->a2->a3->a4->a5->a6->a7->a8->a9->a10->a11->q->p:=by intro x0 x1 x2 x3 x4 x5 x6 x7 x8 x9 x10 x11 y;simp(maxSteps:=400000) (disch:=first|exact bh|fail) [x0,x1,x2,x3,x4,x5,x6,x7,x8,x9,x10,x11];exact y):p:=e x0 x1 x2 x3 x4 x5 x6 x7 x8 x9 x10 x11 y
theorem zQ{a0 a1 a2 a3 a4 a5 a6 a7 a8 a9 a10 a11 a12 p:Prop}(x0:a0)(x1:a1)(x2:a2)(x3:a3)(x4:a4)(x5:a5)(x6:a6)(x7:a7)(x8:a8)(x9:a9)(x10:a10)(x11:a11)(x12:a12)(e:a0->a1->a2->a3->a4->a5->a6->a7->a8->a9->a10->a11->a12->p:=by intro x0 x1 x2 x3 x4 x5 x6 x7 x8 x9 x10 x11 x12;simp(maxSteps:=400000) (disch:=first|exact bh|fail) [x0,x1,x2,x3,x4,x5,x6,x7,x8,x9,x10,x11,x12]):p:=e x0 x1 x2 x3 x4 x5 x6 x7 x8 x9 x10 x11 x12
theorem kC{a0 a1 a2 a3 a4 a5 a6 a7 a8 a9 a10 a11 a12 p q:Prop}(x0:a0)(x1:a1)(x2:a2)(x3:a3)(x4:a4)(x5:a5)(x6:a6)(x7:a7)(x8:a8)(x9:a9)(x10:a10)(x11:a11)(x12:a12)(y:q)(e:a0->a1->a2->a3->a4->a5->a6->a7->a8->a9->a10->a11->a12->q->p:=by intro x0 x1 x2 x3 x4 x5 x6 x7 x8 x9 x10 x11 x12 y;simp(maxSteps:=400000) (disch:=first|exact bh|fail) [x0,x1,x2,x3,x4,x5,x6,x7,x8,x9,x10,x11,x12];exact y):p:=e x0 x1 x2 x3 x4 x5 x6 x7 x8 x9 x10 x11 x12 y
theorem bH{h h':Hp}{q:Prop}(g:ax h h')(e:h.nx<=h'.nx->q:=by intro n;(try simp only[Hp.eE,Hp.iy] at n);exact n):q/\∀i,i<h.nx->h'.get i=h.get i:=⟨e g.nx,λi hi=>g.get i hi id⟩
theorem bw{c:Nat}{h h':Hp}{q:Prop}(g:ah (·=c) h h')(e:h.nx<=h'.nx->q:=by intro n;(try simp only[Hp.eE,Hp.iy] at n);exact n):q/\∀i,i<h.nx->i≠c->h'.get i=h.get i:=⟨e g.nx,g.get⟩
theorem fZ{p:Prop}(h:p:=by repeat(first|exact ah.refl _|assumption|refine ah.push ?_ _|refine ah.set ?_ _ (by first|(left;(try simp only[Hp.eE,Hp.iy]);omega)|(right;left;omega)|(right;right;(try simp only[Hp.eE,Hp.iy]);omega)|(right;(try simp only[Hp.eE,Hp.iy]);omega)))):p:=h
theorem aZ{p:Prop}(h:p:=by repeat(first|exact ah.refl _|assumption|refine ah.push ?_ _|refine ah.set ?_ _ (by first|exact .inr rfl|exact .inl (at2 _)|(left;simp only[Hp.eE,Hp.iy];omega)))):p:=h
section
open Go (IntKind)
@[simp] theorem gf{n:Int}(h1:-9223372036854775808<=n)(h2:n<=9223372036854775807):w64 n=n:=by unfold w64;rw[IntKind.wrap_i64];omega
section
variable{a b:Int}{m n:Nat}
theorem arP:Ml a b=decide (a<=b):=by cases a<;>cases b<;>simp[Ml]<;>omega
theorem ag5:xK a b=decide (a<b):=by cases a<;>cases b<;>simp[xK]<;>omega
theorem A6:mJ a b=decide (a=b):=by cases a<;>cases b<;>simp[mJ]<;>omega
theorem Ej:uQ a b=if a<b then 0 else if a=b then 1 else 2:=by simp[uQ,ag5,A6]
@[simp] theorem zR:lG (.i a) (.i b)=.v (.i (w64 (a+b))):=(rfl)
@[simp] theorem kD:jb (.i a) (.i b)=.v (.i (w64 (a- b))):=(rfl)
@[simp] theorem NG:qj (.i a) (.i b)=.v (.i (w64 (a*b))):=(rfl)
@[simp] theorem arQ(h:b≠0):we (.i a) (.i b)=.v (.i (w64 (a.tdiv b))):=by simp[we,IL,A6,h]
@[simp] theorem arR(h:b≠0):AH (.i a) (.i b)=.v (.i (a.tmod b)):=by simp[AH,A6,h]
@[simp] theorem arS:ua (.i a) (.i b)=.v (.bool (decide (a<b))):=by simp only[ua,vq,uc,vt,mc,tK,qk,Ej];by_cases h:a<b<;>by_cases e:a=b<;>simp[h,e]
@[simp] theorem arT:vq (.i a) (.i b)=.v (.bool (decide (a<=b))):=by simp only[ua,vq,uc,vt,mc,tK,qk,Ej];by_cases h:a<b<;>by_cases e:a=b<;>simp[h,e]<;>omega
@[simp] theorem arU:uc (.i a) (.i b)=.v (.bool (decide (b<a))):=by simp only[ua,vq,uc,vt,mc,tK,qk,Ej];by_cases h:a<b<;>by_cases e:a=b<;>simp[h,e]<;>omega
@[simp] theorem arV:vt (.i a) (.i b)=.v (.bool (decide (b<=a))):=by simp only[ua,vq,uc,vt,mc,tK,qk,Ej];by_cases h:a<b<;>by_cases e:a=b<;>simp[h,e]<;>omega
theorem NH:(cond (Nat.beq m n) 1 (cond (Nat.ble m n) 0 2):Nat)=if m<n then 0 else if m=n then 1 else 2:=by simp only[tZ,ny,NA];by_cases h:m<n<;>by_cases e:m=n<;>simp[h,e]<;>omega
@[simp] theorem arW:ua (.u8 m) (.u8 n)=.v (.bool (decide (m<n))):=by simp only[ua,vq,uc,vt,mc,tK,qk,NH];by_cases h:m<n<;>by_cases e:m=n<;>simp[h,e]
@[simp] theorem arX:vq (.u8 m) (.u8 n)=.v (.bool (decide (m<=n))):=by simp only[ua,vq,uc,vt,mc,tK,qk,NH];by_cases h:m<n<;>by_cases e:m=n<;>simp[h,e]<;>omega
@[simp] theorem arY:uc (.u8 m) (.u8 n)=.v (.bool (decide (n<m))):=by simp only[ua,vq,uc,vt,mc,tK,qk,NH];by_cases h:m<n<;>by_cases e:m=n<;>simp[h,e]<;>omega
@[simp] theorem arZ:vt (.u8 m) (.u8 n)=.v (.bool (decide (n<=m))):=by simp only[ua,vq,uc,vt,mc,tK,qk,NH];by_cases h:m<n<;>by_cases e:m=n<;>simp[h,e]<;>omega
attribute[simp] Dv Mo
@[simp] theorem ar0:cJ (.cell (.int .i64)) (.i a) (.i b)=some (decide (a=b)):=by simp[cJ,sD,A6]
@[simp] theorem ar1:cJ (.cell (.int .u8)) (.u8 m) (.u8 n)=some (decide (m=n)):=by simp[cJ,sD]
@[simp] theorem ar2{x y:Bool}:cJ (.cell .bool) (.bool x) (.bool y)=some (x==y):=by cases x<;>cases y<;>rfl
@[simp] theorem ar3:cJ .ptr .gJ .gJ=some true:=(rfl)
@[simp] theorem ar4{i o}:cJ .ptr .gJ (.ptr i o)=some false:=(rfl)
@[simp] theorem ar5{i o}:cJ .ptr (.ptr i o) .gJ=some false:=(rfl)
end
@[simp] theorem ar6{h:Hp}{i o r l c e}:tL 1 h (.slice i o r l c e)=.v (.i l):=(rfl)
@[simp] theorem ar7{h:Hp}:tL 1 h .bx=.v (.i 0):=(rfl)
theorem ag6{b:Nat}{l:List Nat}(hb:b<256):lF (cO (b::l)) 0=b:=by unfold lF cO;show(b+(cO l)<<<8)>>>(8*0)% 256=b;simp[auL];omega
theorem ZY{b:Nat}{l:List Nat}(hb:b<256)(n:Nat):(cO (b::l))>>>(8*(n+1))=(cO l)>>>(8*n):=by show(b+(cO l)<<<8)>>>(8*(n+1))=_;rw[show 8*(n+1)=8+8*n from by omega,awl,auL];congr 1;rw[auH];omega
theorem ag7:∀(l:List Nat),(∀b∈l,b<256)->cO l<256^l.length
 |[],_=>by simp[cO]
 |b::l,h=>by have h1:=ag7 l λx hx=>h x qaA;have h2:=h b zm;show b+(cO l)<<<8<_;rw[auL,atX,auX];omega
theorem Tb(l:List Nat)(h:∀b∈l,b<256):∀(k:Nat),lF (cO l) k=l.getD k 0:=by
 induction l with
 |nil=>intro k;simp[lF,cO]
 |cons b l ih=>
  intro k;have hb:=h b zm;cases k with
  |zero=>rw[ag6 hb];rfl
  |succ k=>
   rw[awi,<-ih (λx hx=>h x qaA) k];show((cO (b::l))>>>(8*(k+1)))% 256=_;rw[ZY hb];rfl
theorem ag8(l:List Nat)(h:∀b∈l,b<256):∀k,(cO l)>>>(8*k)=cO (l.drop k):=by
 induction l with
 |nil=>intro k;simp[cO]
 |cons b l ih=>
  intro k;cases k with
  |zero=>simp
  |succ k=>rw[ZY (h b zm),ih (λx hx=>h x qaA),awK]
theorem ag9(l:List Nat)(h:∀b∈l,b<256):∀k,(cO l)% 2^(8*k)=cO (l.take k):=by
 induction l with
 |nil=>intro k;simp[cO]
 |cons b l ih=>
  intro k;cases k with
  |zero=>simp[cO,axV]
  |succ k=>
   have hb:=h b zm;rw[awj];show(b+(cO l)<<<8)% 2^(8*(k+1))=b+(cO (l.take k))<<<8;rw[<-ih (λx hx=>h x qaA) k,auL,auL,show 8*(k+1)=8*k+8 from by omega,auT,show(2:Nat)^8=256 from rfl];rw[auB (2^(8*k)) 256,Nat.mod_mul];have h1:(b+cO l*256)% 256=b:=zo;have h2:(b+cO l*256)/256=cO l:=zo;rw[h1,h2,auB]
theorem ag'(l m:List Nat):cO (l++m)=cO l+(cO m)<<<(8*l.length):=by
 induction l with
 |nil=>simp[cO]
 |cons b l ih=>
  show b+(cO (l++m))<<<8=b+(cO l)<<<8+_;rw[ih,atX,show 8*(l.length+1)=8*l.length+8 from by omega,Nat.shiftLeft_add];simp only[auL,auC];omega
theorem ZZ:∀(l m:List Nat),(∀b∈l,b<256)->(∀b∈m,b<256)->l.length=m.length->cO l=cO m->l=m
 |[],[],_,_,_,_=>rfl
 |[],_::_,_,_,h,_=>by simp at h
 |_::_,[],_,_,h,_=>by simp at h
 |a::l,b::m,h1,h2,hl,he=>by have ha:=h1 a zm;have hb:=h2 b zm;have e:a+(cO l)<<<8=b+(cO m)<<<8:=he;rw[auL,auL] at e;have e1:a=b:=zo;have e2:cO l=cO m:=zo;rw[e1,ZZ l m (λx hx=>h1 x qaA) (λx hx=>h2 x qaA) (by simpa using hl) e2]
theorem GZ(l:List UInt8):∀b∈l.map (·.toNat),b<256:=by intro b hb;obtain⟨x,_,rfl⟩:=auR.1 hb;exact x.toNat_lt
section
variable{l m:List UInt8}{a b:Int}{k:Nat}{h:Hp}
@[simp] theorem ar8:tL 0 h (S l)=.v (.i l.length):=(rfl)
@[simp] theorem dQ(h0:0<=a)(h1:a.toNat<l.length):nh (S l) (.i a)=.v (.u8 (l.getD a.toNat 0).toNat):=by obtain⟨n,rfl⟩:=at6 h0;have h1:n+1<=l.length:=h1;simp only[S,nh,mM,BP,wL,ny,h1,auS,cond];rw[Tb _ (GZ l)];simp only[aub,auh,awr];have:n<l.length:=h1;simp[this]
@[simp] theorem Tc(hl:l.length+m.length<=9223372036854775807):lG (S l) (S m)=.v (S (l++m)):=by simp only[S,lG,Mn,vp,ny,Du,hl,auS,cond,auk,au4,ag',avd];rfl
@[simp] theorem ar9:bQ (S l)=some [S l]:=(rfl)
@[simp] theorem ar':qM (S l)=true:=(rfl)
theorem aha:S l=S m->l=m:=by intro h;simp only[S,AV.str.injEq] at h;have:=ZZ _ _ (GZ l) (GZ m) (by simpa using h.1) h.2;exact(axz (λx y e=>avi.1 e)).1 this
theorem Z1:sD .str (S l) (S m)=some (decide (l=m)):=by
 simp only[S,sD,tZ];congr 1
 by_cases e:l=m
 subst e;simp;rw[auK e]
 by_cases e1:l.length=m.length
 have:¬cO (l.map (·.toNat))=cO (m.map (·.toNat)):=λh2=>e (aha (by simp only[S,e1,h2]));simp[this];simp[e1]
@[simp] theorem Td:cJ (.cell .str) (S l) (S m)=some (decide (l=m)):=Z1
theorem Te(lo hi:Nat):sub (cO (l.map (·.toNat))) lo hi=cO (((l.drop lo).take (hi- lo)).map (·.toNat)):=by show((cO (l.map (·.toNat)))>>>(8*lo))% 2^(8*(hi- lo))=_;rw[ag8 _ (GZ l),ag9 _ (λb hb=>GZ l b (axj hb)),List.map_take,List.map_drop]
theorem NI(h0:0<=a):mM (.i a)=some a.toNat:=by obtain⟨n,rfl⟩:=at6 h0;rfl
@[simp] theorem asa(h0:0<=a)(h1:a<=b)(h2:b<=l.length):wh (S l) (some (.i a)) (some (.i b))=.v (S ((l.drop a.toNat).take (b.toNat- a.toNat))):=by simp only[S,wh,bounds,NI h0,NI (avU h0 h1),ny,Te];have e1:b.toNat<=l.length:=zo;have e2:a.toNat<=b.toNat:=zo;simp[e1,e2];omega
@[simp] theorem ahb(h0:0<=a)(h1:a<=l.length):wh (S l) (some (.i a)) none=.v (S (l.drop a.toNat)):=by simp only[S,wh,bounds,NI h0,ny,Te];have e2:a.toNat<=l.length:=zo;simp[e2];rw[avG zm]
@[simp] theorem Z2(h0:0<=b)(h1:b<=l.length):wh (S l) none (some (.i b))=.v (S (l.take b.toNat)):=by simp only[S,wh,bounds,NI h0,ny,Te];have e2:b.toNat<=l.length:=zo;simp[e2]
end
end
section
variable{h:Hp}{k:aK->Prop}
def cY(h:Hp)(v:AV)(ws:List (List UInt8)):Prop:=
 ∃b cap ex r t,v=.slice b 0 1 ws.length cap ex/\h.get b=.rows 9 1 r 0 t/\ws.length<=r/\∀j,(hj:j<ws.length)->t j=[S ws[j]]
theorem ahc(HT:aA T){v:AV}{ws:List (List UInt8)}{x:List UInt8}(hw:cY h v ws)(hl:ws.length<4294967296)
 (hk:∀r:Int,(0<=r <-> x∈ws)->k (.ret (.i r) h)):aE T (W T) ⟨58⟩ [v,S x] h k:=by
 obtain⟨b,cap,ex,r,t,rfl,hb,hr,ht⟩:=hw;rw[aJ HT.t58];refine ag ?_;have key:∀(m i:Nat)(f:Fr),m=ws.length- i->i<=ws.length->(∀j,j<i->ws[j]? ≠some x)->J 7 f=.i ws.length->J 8 f=.i i->
  J 0 f=.slice b 0 1 ws.length cap ex->J 1 f=S x->W T (.loop l58_0) f h [] (bY 0 (bF (W T (.seq (.af r58_7) .ret)) (finish T (W T) [.tmp 4] k))):=by
  intro m
  induction m with
  |zero=>
   intro i f hm hi hn h7 h8 h0 h1;have ao:¬i<ws.length:=zo;rw[aP];refine cC h7 h8 h0 h1 ao ?_;refine hk _ ⟨λh=>by omega,λh=>?_⟩;obtain⟨j,hj,e⟩:=avC h;exact absurd (by rw[atT hj,e]) (hn j zo)
  |succ m ih=>
   intro i f hm hi hn h7 h8 h0 h1;have ao:i<ws.length:=zo;rw[aP];have:=ht i ao;refine iR h7 h8 h0 h1 hb this ao ?_
   by_cases e:x=ws[i]
   refine aB e ?_;refine hk _ ⟨λ_=>e▸auy ao,λ_=>by omega⟩;refine aB e ?_;refine ih (i+1) _ zo zo (λj hj=>?_) (au h7) aa (au h0) (au h1)
   by_cases Gu:j=i
   subst Gu;rw[atT ao];exact λq=>e (auQ q).symm;exact hn j zo
 refine key _ 0 _ rfl zo (λj hj=>by omega) ?_ ?_ ?_ ?_<;>simp(disch:=omega)
theorem Ek(HT:aA T){v:AV}{ws:List (List UInt8)}{x:List UInt8}(hw:cY h v ws)(hl:ws.length<4294967296)
 (hk:k (.ret (.bool (decide (x∈ws))) h)):aE T (W T) ⟨31⟩ [v,S x] h k:=by
 rw[aJ HT.t31];refine ag ?_;refine ahc HT hw hl λr hr=>?_;refine aB hr ?_;exact hk
theorem cY.mono{M:Nat->Prop}{h h':Hp}{v ws}(hw:cY h v ws)(g:ah M h h')(hm:∀i r t,h.get i=.rows 9 1 r 0 t->¬M i):cY h' v ws:=by obtain⟨b,cap,ex,r,t,rfl,hb,h1⟩:=hw;exact⟨b,cap,ex,r,t,rfl,by rw[g.get _ (Hp.lt hb rfl) (hm _ _ _ hb)];exact hb,h1⟩
def yb(h:Hp)(v:AV)(ws:List (List UInt8)):Prop:=ws≠[]->cY h v ws
theorem Cq{α:Type}{l:List α}{j:Nat}(h:j<l.length):l≠[]:=by rintro rfl;simp at h
theorem cY.one{b r cap ex t}{x:List UInt8}(hb:h.get b=.rows 9 1 r 0 t)(hr:1<=r)(ht:t 0=[S x]):cY h (.slice b 0 1 1 cap ex) [x]:=
 ⟨b,cap,ex,r,t,rfl,hb,hr,λj hj=>by obtain rfl:j=0:=by simp at hj;omega
                                   exact ht⟩
end
theorem eG{i m p:Nat}{v:AV}{f:Fr}(hi:i<m)(hp:m<=p):J i (fO p v f)=J i f:=by simp[show¬i=p by omega]
section
variable{h:Hp}{k:aK->Prop}{s p:List UInt8}{c:UInt8}
def rf(s:List UInt8)(c:UInt8):Int:=if c∈s then(s.idxOf c:Int) else-1
def eP(s p:List UInt8):Bool:=decide (s.take p.length=p)
def vu(s p:List UInt8):Bool:=decide (p.length<=s.length)&&decide (s.drop (s.length- p.length)=p)
theorem Z3(s:List UInt8)(c:UInt8):∀l j,s.length=l+j->DC (cO (s.map (·.toNat))) c.toNat l j=if c∈s.drop j then((j+(s.drop j).idxOf c:Nat):Int) else-1
 |0,j,e=>by rw[auJ zo];rfl
 |l+1,j,e=>by
  have hj:j<s.length:=zo;unfold DC;rw[Tb _ (GZ s),aut hj,tZ,Z3 s c l (Nat.succ j) zo];have hg:(s.map (·.toNat)).getD j 0=s[j].toNat:=by simp[hj]
  rw[hg]
  by_cases e1:s[j]=c
  subst e1;simp only[auS,cond,atZ,true_or,auo,List.idxOf_cons_self,aud];rfl;have e2:¬s[j].toNat=c.toNat:=λh=>e1 (avi.1 h);have e3:¬c=s[j]:=λh=>e1 h.symm;have e4:(s[j]==c)=false:=by simp[e1]
  simp only[auK e2,cond,atZ,e3,axR,axg,e4,J9];split;congr 1;omega;rfl
@[simp] theorem asb:qo .Me [S s,.u8 c.toNat]=.v (.i (rf s c)):=by
 have h:=Z3 s c s.length 0 zm;have hc:Nat.ble c.toNat 255=true:=by have:=c.toNat_lt;rw[ny];simp;omega
 simp only[S,qo,hc,cond,h,axq,aue,rf]
theorem G0:0<=rf s c <-> c∈s:=by unfold rf;split<;>simp_all
theorem ahd(h:c∈s):rf s c<s.length:=by unfold rf;rw[atV h];have:=avD h;omega
@[simp] theorem asd{l:List UInt8}:nh (S (c::l)) (.i 0)=.v (.u8 c.toNat):=by rw[dQ (atY 0) zm];rfl
theorem Z4(HT:aA T)(hk:k (.ret (.i (rf s c)) h)):aE T (W T) ⟨74⟩ [S s,.u8 c.toNat] h k:=by rw[aJ HT.t74];refine ag ?_;exact hk
theorem Tf(HT:aA T)(hk:k (.ret (.i (rf s c)) h)):aE T (W T) ⟨45⟩ [S s,.u8 c.toNat] h k:=by rw[aJ HT.t45];refine ag ?_;refine Z4 HT ?_;refine ag ?_;exact hk
theorem Z5(HT:aA T)(hl:s.length<4611686018427387904)(hk:k (.ret (.bool (eP s p)) h)):aE T (W T) ⟨68⟩ [S s,S p] h k:=by
 rw[aJ HT.t68]
 by_cases e:p.length<=s.length
 have e':(p.length:Int)<=s.length:=zo;refine aS e' e ?_;simpa only[eP] using hk;have e':¬(p.length:Int)<=s.length:=zo;have e2:eP s p=false:=by unfold eP;rw[auK];intro h;have:=aui List.length h;rw[auN] at this;omega
 refine aS e' e ?_;rw[e2] at hk;exact hk
theorem NJ(HT:aA T)(hl:s.length<4611686018427387904)(hk:k (.ret (.bool (eP s p)) h)):aE T (W T) ⟨46⟩ [S s,S p] h k:=by rw[aJ HT.t46];refine ag ?_;refine Z5 HT hl ?_;refine ag ?_;exact hk
theorem ahe(HT:aA T)(hl:s.length<4611686018427387904)(hk:k (.ret (.bool (vu s p)) h)):aE T (W T) ⟨70⟩ [S s,S p] h k:=by
 rw[aJ HT.t70];unfold vu at hk
 by_cases e:p.length<=s.length
 have e':(p.length:Int)<=s.length:=zo;have e3:((s.length:Int)- p.length).toNat=s.length- p.length:=zo;refine aU e' e e3 ?_;simpa[e] using hk;have e':¬(p.length:Int)<=s.length:=zo;refine aS e' e ?_;simpa[e] using hk
theorem ahf(HT:aA T)(hl:s.length<4611686018427387904)(hk:k (.ret (.bA [S (if eP s p=true then s.drop p.length else s),.bool (eP s p)]) h)):aE T (W T) ⟨36⟩ [S s,S p] h k:=by
 rw[aJ HT.t36];refine ag ?_;refine Z5 HT hl ?_;cases e:eP s p with
 |true=>
  have e2:p.length<=s.length:=by simp only[eP,auU] at e;have:=aui List.length e;rw[auN] at this;omega
  have e3:(p.length:Int)<=s.length:=zo;refine aB e3 ?_;simpa[e] using hk
 |false=>
  refine ag ?_;simpa[e] using hk
theorem Tg(HT:aA T)(hl:s.length<4611686018427387904)(hk:k (.ret (.bA [S (if eP s p=true then s.drop p.length else s),.bool (eP s p)]) h)):aE T (W T) ⟨20⟩ [S s,S p] h k:=by rw[aJ HT.t20];refine ag ?_;refine ahf HT hl ?_;refine ag ?_;exact hk
theorem ahg(HT:aA T)(hl:s.length<4611686018427387904)(hk:k (.ret (.bA [S (if vu s p=true then s.take (s.length- p.length) else s),.bool (vu s p)]) h)):aE T (W T) ⟨38⟩ [S s,S p] h k:=by
 rw[aJ HT.t38];refine ag ?_;refine ahe HT hl ?_;cases e:vu s p with
 |true=>
  have e2:p.length<=s.length:=by simp only[vu,atW,auU] at e;exact e.1
  have e3:(p.length:Int)<=s.length:=zo;have e4:((s.length:Int)- p.length).toNat=s.length- p.length:=zo;refine aS e3 e4 ?_;simpa[e] using hk
 |false=>
  refine ag ?_;simpa[e] using hk
theorem ahh(HT:aA T)(hl:s.length<4611686018427387904)(hk:k (.ret (.bA [S (if vu s p=true then s.take (s.length- p.length) else s),.bool (vu s p)]) h)):aE T (W T) ⟨22⟩ [S s,S p] h k:=by rw[aJ HT.t22];refine ag ?_;refine ahg HT hl ?_;refine ag ?_;exact hk
theorem ahi(HT:aA T)(hk:k (.ret (.i (rf s c)) h)):aE T (W T) ⟨69⟩ [S s,S [c]] h k:=by
 rw[aJ HT.t69];generalize hR:CC.af r69_9=R9
 by_cases e:[c]=s
 subst e;refine ag ?_;simpa[rf] using hk;refine aB e ?_;refine Z4 HT ?_;refine ag ?_;exact hk
def iz(s:List UInt8)(c:UInt8):List UInt8×List UInt8×Bool:=if c∈s then(s.take (s.idxOf c),s.drop (s.idxOf c+1),true) else(s,[],false)
theorem ahj(HT:aA T)(hl:s.length<4611686018427387904)(hk:k (.ret (.bA [S (iz s c).1,S (iz s c).2.1,.bool (iz s c).2.2]) h)):aE T (W T) ⟨37⟩ [S s,S [c]] h k:=by
 rw[aJ HT.t37];refine ag ?_;refine ahi HT ?_;unfold iz at hk
 by_cases e:c∈s
 have h1:=ahd e;have h0:=G0.2 e;have h2:(rf s c).toNat=s.idxOf c:=by unfold rf;rw[atV e];simp
 have h3:(rf s c+1).toNat=s.idxOf c+1:=zo;refine aB h0 ?_;simpa[e,h2,h3] using hk;have h0:¬0<=rf s c:=λh=>e (G0.1 h);refine aB h0 ?_;simpa[e] using hk
theorem Th(HT:aA T)(hl:s.length<4611686018427387904)(hk:k (.ret (.bA [S (iz s c).1,S (iz s c).2.1,.bool (iz s c).2.2]) h)):aE T (W T) ⟨21⟩ [S s,S [c]] h k:=by rw[aJ HT.t21];refine ag ?_;refine ahj HT hl ?_;refine ag ?_;exact hk
end
section
variable{h:Hp}{el rw bytes n len cnt i:Nat}{t:N3 (List AV)}{y:AV}{rs:List (List AV)}
theorem rV(h1:(2*n+1024)*bytes<=281474976710656)(h2:n<1152921504606846976):room bytes n=true:=by unfold room;simp only[S9,vp,wL,ny,atW,auU];omega
theorem A7(hs:rL h rw y=some rs)(hl:lenOf y=some (n+1))(hr:room bytes (n+1)=true):
 kJ h el rw bytes .bx y=.vh (.slice h.nx 0 rw (n+1) (n+1) false) (h.push (jJ el rw (n+1) rs)):=by
 unfold kJ;rw[hs,hl];simp only[wL,hr,cond,alloc]
theorem A8(hi:h.get i=.rows el rw cnt 0 t)(hc:len<=cnt)(hs:rL h rw y=some rs)(hl:lenOf y=some (n+1))(hr:room bytes (len+(n+1))=true):
 kJ h el rw bytes (.slice i 0 rw len len false) y=.vh (.slice h.nx 0 rw (len+(n+1)) (len+(n+1)) false) ((h.set i .eD).push (.rows el rw (len+(n+1)) 0 (jy t len rs))):=by
 have hx:=Hp.lt hi rfl;unfold kJ;rw[hs,hl];simp only[wL,vp,tZ,auS,hr,avl,cond,ny,alloc,hi,BW];rw[auK zo];simp only[cond,avl,hc,auS,vp,Hp.tT hx]
theorem wN{b cap ex r f}(hb:h.get b=.rows el rw r 0 f)(hr:1<=r):rL h rw (.slice b 0 rw 1 cap ex)=some [f 0]:=by simp only[rL,hb,wo,kZ,tZ,Ef,Ee,vp,axN,axO,aue,ny,hr,auS,avl,cond,dw,dY]
@[simp] theorem Ti{k:Nat}{r:List AV}:jy t k [r]=cx t k r:=rfl
@[simp] theorem ase{r:List AV}:jJ el rw n [r]=.rows el rw n 0 (cx fG 0 r):=rfl
theorem NK{b:Nat}{cap ex}(hs:rL h rw y=some rs)(hl:lenOf y=some 0):kJ h el rw bytes (.slice b 0 rw len cap ex) y=.v (.slice b 0 rw len cap ex):=by unfold kJ;rw[hs,hl]
theorem oZ(t:N3 (List AV)):∀n k,(dw t n k).length=n
 |0,_=>rfl
 |n+1,k=>by simp only[dw,atX,oZ t n]
theorem vw(t:N3 (List AV)):∀n k j,j<n->(dw t n k)[j]? =some (t (k+j))
 |0,_,_,h=>absurd h (avm _)
 |n+1,k,0,_=>by simp[dw,dY]
 |n+1,k,j+1,h=>by simp only[dw,auV];rw[vw t n _ j zo];congr 2;simp;omega
theorem NL{r n:Nat}{f:N3 (List AV)}(dX:0<rw)(hr:n<=r):kZ (.rows el rw r 0 f) 0 rw n=some (dw f n 0):=by simp only[kZ,tZ,Ef,Ee,vp,axN,axO,aue,ny,hr,auS,avl,cond]
theorem Ke{b cap ex r f}(dX:0<rw)(hb:h.get b=.rows el rw r 0 f)(hr:n<=r):rL h rw (.slice b 0 rw n cap ex)=some (dw f n 0):=by simp only[rL,hb,wo];exact NL dX hr
theorem G2(dX:0<rw)(hi:h.get i=.rows el rw cnt 0 t)(hc:len<=cnt)(hs:rL h rw y=some rs)(hl:lenOf y=some (n+1))(hr:room bytes (len+(n+1))=true):
 kJ h el rw bytes (.slice i 0 rw len len true) y=.vh (.slice h.nx 0 rw (len+(n+1)) (len+(n+1)) false) (h.push (jJ el rw (len+(n+1)) (dw t len 0++rs))):=by
 unfold kJ;rw[hs,hl];simp only[wL,vp,tZ,auS,hr,avl,cond,ny,alloc,hi];rw[auK zo];simp only[cond,NL dX hc]
theorem G3(rs:List (List AV)):∀(t:N3 (List AV))(k j:Nat),jy t k rs j=if k<=j/\j<k+rs.length then rs.getD (j- k) [] else t j:=by
 induction rs with
 |nil=>intro t k j;simp[jy];intro h1 h2;omega
 |cons r rs ih=>
  intro t k j;simp only[jy,wL,ih,dZ,atX]
  by_cases h1:j=k
  subst h1;rw[atS zo,atV rfl,atV zo];simp
  by_cases h2:k+1<=j/\j<k+1+rs.length
  rw[atV h2,atV zo,show j- k=(j- (k+1))+1 from by omega];simp;rw[atS h2,atS h1,atS zo]
theorem wO{L:List (List AV)}{j:Nat}(hj:j<L.length):jy fG 0 L j=L[j]:=by rw[G3,atV ⟨auz _,by omega⟩];simp[hj]
end
section
variable{h:Hp}{k:aK->Prop}{s p:List UInt8}{c:UInt8}
theorem NM{α:Type}:∀l:List α,gk l=l.length
 |[]=>rfl
 |_::l=>by simp[gk,NM l]
theorem Z6{α:Type}:∀l:List α,gK l.length l=some l
 |[]=>rfl
 |x::l=>by simp only[atX,gK,Z6 l]
def bm(t:Nat->List AV)(n:Nat):List AV:=(List.range n).map λi=>(t i).headD .any
theorem Z7{t:Nat->List AV}:∀n k,(∀i,k<=i->i<k+n->∃v,t i=[v])->xL t n k=(List.range' k n).map λi=>(t i).headD .any
 |0,k,_=>rfl
 |n+1,k,h=>by obtain⟨v,e⟩:=h k zl zo;simp only[xL,dY,e,fF,awD,aul,axh];rw[Z7 n (Nat.succ k) λi h1 h2=>h i zo zo]
theorem Kg{t:Nat->List AV}{n:Nat}:(bm t n).length=n:=by simp[bm]
theorem ahk{el:Nat}{t:Nat->List AV}(h:∀i,i<256->∃v,t i=[v]):cellsOf (.rows el 1 256 0 t) 0 256=some (bm t 256):=by
 have e:=Z7 (t:=t) 256 0 λi _ hi=>h i zo;rw[<-avQ] at e;have:gK 256 (xL t 256 0)=some (bm t 256):=by rw[e];have:=Z6 (bm t 256);rwa[Kg] at this
 exact this
theorem Z8:∀l:List AV,uO 1 l.length l=some (l.map λv=>[v])
 |[]=>rfl
 |x::l=>by simp[uO,gK,kH,Z8 l]
theorem Z9{el:Nat}{t:Nat->List AV}{l:List AV}(hl:l.length=256):setCells (.rows el 1 256 0 t) 0 l=some (.rows el 1 256 0 (jy t 0 (l.map λv=>[v]))):=by
 have e:=Z8 l;rw[hl] at e;have h1:gk l=256:=by rw[NM,hl]
 unfold setCells;rw[h1];show(match uO 1 256 l with|some rs=>_|none=>_)=_;rw[e]
def yc(s:List UInt8)(i:Nat):Bool:=decide (∃c∈s,c.toNat=i)
def G4(s:List UInt8)(t:Nat->List AV):Prop:=∀i,i<256->t i=[.bool (yc s i)]
theorem G4.bm{t:Nat->List AV}(x:G4 s t):∀j,jy t 0 ((bm t 256).map λv=>[v]) j=t j:=by
 intro j;rw[G3];split;rename_i hj;have eY:j<256:=by simpa[Kg] using hj
 simp[Yv.bm,eY,x j eY];rfl
theorem ri{rw n i b:Nat}(h:i<n)(hn:n<=256):yY rw n (.ptr b 0) (.u8 i)=.v (.ptr b (i*rw)):=by unfold yY;simp[mM,show i+1<=n by omega]
theorem ahl{j:Nat}(hj:j<s.length)(i:Nat):yc (s.take (j+1)) i=(decide (i=s[j].toNat)||yc (s.take j) i):=by unfold yc;rw[avb hj,<-Bool.decide_or];apply decide_eq_decide.2;constructor;rintro⟨c,hc,e⟩;rw[auj] at hc;rcases hc with hc|hc;exact .inr ⟨c,hc,e⟩;exact .inl (by rw[awQ] at hc;rw[<-hc,e]);rintro(e|⟨c,hc,e⟩);exact⟨s[j],auj.2 (.inr (awQ.2 rfl)),e.symm⟩;exact⟨c,auj.2 (.inl hc),e⟩
theorem ahm{t:Nat->List AV}(x:G4 s t):∀i,i<256->(bm t 256)[i]? =some (.bool (yc s i)):=by intro i hi;simp[bm,hi,x i hi]
theorem ahn(HT:aA T)(hh:Hp)(ha:∀c∈s,c.toNat<128) (hl:s.length<1073741824) (hk:∀h' l,ax hh h'->l.length=256->(∀i,i<256->l[i]? =some (.bool (yc s i)))->k (.ret (.bA [.agg l,.bool true]) h')):∀(m j:Nat)(h:Hp)(t:Nat->List AV)(f:Fr),m=s.length- j->j<=s.length->ax hh h->h.get hh.nx=.rows 192 1 256 0 t->G4 (s.take j) t->
 J 0 f=S s->J 2 f=.ptr hh.nx 0->J 4 f=.i j->
 W T (.loop l133_0) f h [] (bY 0 (bF (W T ((CC.af r133_8).seq CC.ret)) (finish T (W T) [CR.cell 256 true 2,CR.tmp 3] k))):=by
 intro m
 induction m with
 |zero=>
  intro j h t f hm hj gg hb st f0 f2 f4;have ao:¬(j:Int)<s.length:=zo;rw[aP];rw[avG zo] at st;have hc:=ahk (el:=192) λi hi=>⟨_,st i hi⟩;have eZ:cellsOf (.rows 192 1 256 0 (jy t 0 ((bm t 256).map λv=>[v]))) 0 256=some (bm t 256):=by have e:jy t 0 ((bm t 256).map λv=>[v])=t:=funext st.bm;rw[e];exact hc
  have fX:=Hp.lt hb rfl;have h256:gk (bm t 256)=256:=by rw[NM,Kg]
  simp(disch:=omega) [f0,f2,f4,ao,hb,hc,Z9 Kg,h256,bQ,eZ];refine hk _ _ (gg.set _ (.inl zl)) Kg (ahm st)
 |succ m ih=>
  intro j h t f hm hj gg hb st f0 f2 f4;have ao:j<s.length:=zo;have aY:(j:Int)<s.length:=zo;have hc:=ha s[j] (auy ao);have hg:s.getD j 0=s[j]:=by simp[ao]
  have fX:=Hp.lt hb rfl;rw[aP];have jQ:¬128<=s[j].toNat:=zo;have eZ:s[j].toNat<256:=zo;simp(disch:=omega) [f0,f2,f4,aY,hb,hg,jQ,ri eZ zl,st _ eZ];refine ih (j+1) _ _ _ zo zo (gg.set _ (.inl zl)) (Hp.bR rfl) (λi hi=>?_) zA zA aa;have e1:=ahl ao i;have e2:=st i hi;simp only[dZ];rw[e1]
  by_cases e:i=s[j].toNat
  simp[e];simp[e,e2]
theorem aho(HT:aA T)(ha:∀c∈s,c.toNat<128) (hl:s.length<1073741824) (hk:∀h' l,ax h h'->l.length=256->(∀i,i<256->l[i]? =some (.bool (yc s i)))->k (.ret (.bA [.agg l,.bool true]) h')):aE T (W T) ⟨133⟩ [S s] h k:=by rw[aJ HT.t133];simp(disch:=omega) [-List.reduceReplicate];refine ahn HT h ha hl hk s.length 0 _ (jy fG 0 (List.replicate 256 [.bool false])) _ zm (auz _) aZ (Hp.br rfl) (λi hi=>?_) aa aa aa;rw[wO (by rw[List.length_replicate];exact hi),List.getElem_replicate];simp[yc]
theorem ahp(HT:aA T){b:Nat}{t:Nat->List AV}(hb:h.get b=.rows 192 1 256 0 t)(st:G4 p t)(hk:k (.ret (.bool (yc p c.toNat)) h)):aE T (W T) ⟨160⟩ [.ptr b 0,.u8 c.toNat] h k:=by rw[aJ HT.t160];have hc:=c.toNat_lt;simp(disch:=omega) [ri hc zl,hb,st _ hc];exact hk
theorem ahq:yc p c.toNat=decide (c∈p):=by unfold yc;apply decide_eq_decide.2;exact⟨λ⟨x,hx,e⟩=>avi.1 e▸hx,λh=>⟨c,h,rfl⟩⟩
def sW(s p:List UInt8):List UInt8:=s.dropWhile λc=>decide (c∈p)
theorem aaa(HT:aA T){b:Nat}{t:Nat->List AV}(hb:h.get b=.rows 192 1 256 0 t)(st:G4 p t):∀(s:List UInt8)(f:Fr),k (.ret (S (sW s p)) h)->J 0 f=S s->J 1 f=.ptr b 0->
 W T (.loop l134_0) f h [] (bY 0 (bF (W T (.seq (.af r134_4) .ret)) (finish T (W T) [.tmp 4] k)))
 |[],f,hk,f0,f1=>by rw[aP];refine aS f0 f1 ?_;simpa[sW] using hk
 |c::s,f,hk,f0,f1=>by
  rw[aP];have e0:(0:Int)<((c::s).length:Nat):=by simp only[atX];omega
  refine aU f0 f1 e0 ?_;refine ahp HT hb st ?_;rw[ahq]
  by_cases e:c∈p
  have e1:(1:Int)<=((c::s).length:Nat):=by simp only[atX];omega
  rw[sW,avJ qbb] at hk;refine aU e f0 e1 ?_;exact aaa HT hb st s _ hk aa zA;rw[sW,avK qbb] at hk;refine aS e f0 ?_;exact hk
theorem aab(HT:aA T)(ha:∀c∈p,c.toNat<128) (hl:p.length<1073741824) (h2:2<=p.length) (hk:∀h',ax h h'->k (.ret (S (sW s p)) h')):aE T (W T) ⟨108⟩ [S s,S p] h k:=by
 rw[aJ HT.t108];generalize hL:CC.af r108_8=R8;have e1:¬p=[]:=by rintro rfl;simp at h2
 have e2:¬(p.length:Int)=1:=zo
 by_cases e0:s=[]
 subst e0;refine ag ?_;simpa[sW] using hk _ (ah.refl _);simp(disch:=omega) [e0,e1,e2,-List.reduceReplicate];refine aho HT ha hl λh1 l g1 Ch hg=>?_;have Tj:gk l=256:=by rw[NM,Ch]
 simp(disch:=omega) [-List.reduceReplicate,Z9 Ch,bQ,Tj,jJ];rw[aJ HT.t134];simp(disch:=omega) [-List.reduceReplicate];refine aaa HT (b:=h1.nx) (t:=jy (jy fG 0 (List.replicate 256 [AV.bool false])) 0 (List.map (λv=>[v]) l)) (p:=p) (Hp.bR rfl) (λi hi=>?_) s _ ?_ aa aa;rw[G3,atV (by rw[avd,Ch];omega)];have:=hg i hi;simp only[axL,aub,auh,this,au3,avo];simp(disch:=omega) [-List.reduceReplicate];exact hk _ (g1.trans aZ)
def wP:List UInt8:=[65,66,67,68,69,70,71,72,73,74,75,76,77,78,79,80,81,82,83,84,85,86,87,88,89,90,97,98,99,100,101,102,103,104,105,106,107,108,109,110,111,112,113,114,115,116,117,118,119,120,121,122,95]
def rj:List UInt8:=[48,49,50,51,52,53,54,55,56,57]
theorem aac(s p:List UInt8):(sW s p).length<=s.length:=(List.dropWhile_sublist _).length_le
def dU(s:List UInt8):Nat:=s.length- (sW s rj).length
def gu(s:List UInt8):Nat:=match s with|[]=>0|c::_=>if c∈wP then s.length- (sW s (wP++rj)).length else 0
theorem aad{c:UInt8}{s:List UInt8}:gu (c::s)=if c∈wP then(c::s).length- (sW (c::s) (wP++rj)).length else 0:=rfl
theorem NN(HT:aA T)(hl:s.length<4611686018427387904)(hk:∀h',ax h h'->k (.ret (.i (dU s)) h')):aE T (W T) ⟨110⟩ [S s] h k:=by
 rw[aJ HT.t110];refine ag ?_;refine aab HT (p:=rj) zd zd zd λh1 g1=>?_;have:=aac s rj;refine ag ?_;have e:(s.length:Int)- (sW s rj).length=((dU s:Nat):Int):=by unfold dU;omega
 rw[e];exact hk _ g1
theorem aae(HT:aA T)(hl:s.length<4611686018427387904)(hk:∀h',ax h h'->k (.ret (.i (gu s)) h')):aE T (W T) ⟨75⟩ [S s] h k:=by
 rw[aJ HT.t75];cases s with
 |nil=>
  refine ag ?_;exact hk _ (ah.refl _)
 |cons c s=>
  refine ag ?_;refine Tf (s:=wP) HT ?_;rw[aad] at hk
  by_cases e:c∈wP
  rw[atV e] at hk;have h0:¬rf wP c<0:=by have:=G0.2 e;omega
  refine aB h0 ?_;refine aab HT (p:=wP++rj) zd zd zd λh1 g1=>?_;have:=aac (c::s) (wP++rj);simp only[atX] at this hl;refine ag ?_;have e:((s.length:Int)+1)- (sW (c::s) (wP++rj)).length=(((c::s).length- (sW (c::s) (wP++rj)).length:Nat):Int):=by simp only[atX];omega
  rw[e];exact hk _ g1;rw[atS e] at hk;have h0:rf wP c<0:=by have:=mt G0.1 e;omega
  refine aB h0 ?_;exact hk _ (ah.refl _)
def Cr:List (List UInt8):=[[98,114,101,97,107],[99,111,110,116,105,110,117,101],[101,108,115,101],[102,97,108,115,101],[102,108,111,97,116,54,52],[102,111,114],[102,117,110,99],[105,102],[105,109,112,111,114,116],[105,110,116],[98,111,111,108],[115,116,114,105,110,103],[108,101,110],[112,97,99,107,97,103,101],[112,97,110,105,99],[112,114,105,110,116],[114,101,116,117,114,110],[115,116,114,117,99,116],[116,114,117,101],[116,121,112,101],[118,97,114]]
theorem aaf(HT:aA T)(hk:∀h',ax h h'->k (.ret (.bool (decide (s∈Cr))) h')):aE T (W T) ⟨76⟩ [S s] h k:=by
 rw[aJ HT.t76];refine ag ?_;rw[aJ HT.t109];refine ag ?_;refine Ek HT (ws:=Cr) ⟨h.nx,21,true,21,_,rfl,Hp.br rfl,by decide,λj hj=>?_⟩ zd ?_;exact match j,hj with
 |0,_=>rfl
 |1,_=>rfl
 |2,_=>rfl
 |3,_=>rfl
 |4,_=>rfl
 |5,_=>rfl
 |6,_=>rfl
 |7,_=>rfl
 |8,_=>rfl
 |9,_=>rfl
 |10,_=>rfl
 |11,_=>rfl
 |12,_=>rfl
 |13,_=>rfl
 |14,_=>rfl
 |15,_=>rfl
 |16,_=>rfl
 |17,_=>rfl
 |18,_=>rfl
 |19,_=>rfl
 |20,_=>rfl
 |n+21,hj=>absurd hj (by simp[Cr])
 refine ag ?_;exact hk _ aZ
def El(s:List UInt8):Bool:=decide (s≠[])&&decide (gu s=s.length)&&decide (s.length<=40)&&decide (s≠[95])&&decide (s∉Cr)
theorem aag(HT:aA T)(hl:s.length<4611686018427387904)(hk:∀h',ax h h'->k (.ret (.bool (El s)) h')):aE T (W T) ⟨77⟩ [S s] h k:=by
 rw[aJ HT.t77];unfold El at hk
 by_cases e0:s=[]
 refine aB e0 ?_;simpa[e0] using hk _ (ah.refl _);refine aB e0 ?_;refine aae HT hl λh1 g1=>?_
 by_cases e1:gu s=s.length
 by_cases e2:s.length<=40
 have e2':(s.length:Int)<=40:=zo
 by_cases e3:s=[95]
 have q:=hk h1 g1;subst e3;refine aB e1 ?_;simpa[e1] using q;refine aU e1 e2' e3 ?_;refine aaf HT λh2 g2=>?_;refine ag ?_;have q:=hk h2 (g1.trans g2);simpa[e0,e1,e2,e3] using q;have e2':¬(s.length:Int)<=40:=zo;have q:=hk h1 g1;refine aS e1 e2' ?_;simpa[e0,e1,e2] using q;have q:=hk h1 g1;have e1':¬((gu s:Nat):Int)=s.length:=zo;refine aB e1' ?_;simpa[e0,e1] using q
def zS(s:List UInt8):Bool:=decide (dU s≠0)&&eP (s.drop (dU s)) [46]&&decide (dU (s.drop (dU s+1))≠0)
theorem Kh(s:List UInt8):dU s<=s.length:=by unfold dU;omega
theorem aah{n:Nat}(h:eP (s.drop n) [c]=true):n+1<=s.length:=by unfold eP at h;simp only[auU] at h;have:=aui List.length h;simp at this;omega
theorem ahr(HT:aA T){hh:Hp}{f:Fr}{N D:Nat}(hl:s.length<1073741824)(gh:ax hh h)(hD:dU (s.drop (N+1))=D)(hN:0<N)(hi:N+1+D<=s.length)(f0:J 0 f=S s)(f4:J 4 f=.i N)
 (oh:∀h' n,ax hh h'->0<n->n<=s.length->k (.ret (.bA [.i 4,.i (n:Nat)]) h')):
 W T (.seq (.af r78_4) (.seq (.seq (.af r78_5) (.seq (.af r78_6) (.cond (.t 44) (.seq (.af r78_7) (.seq (.seq (.af r78_8) (.cond (.t 57) (.af r78_9) .skip)) (.seq (.af r78_10) (.seq (.af r78_11) (.cond (.t 63) (.af r78_12) .skip))))) .skip))) (.seq (.af r78_13) .ret))) f h [] (finish T (W T) [.tmp 2,.tmp 3] k):=by
 generalize pV:CC.seq (.af r78_10) (.seq (.af r78_11) (.cond (.t 63) (.af r78_12) .skip))=T1;have Ki:(N:Int)+1<=s.length:=zo;have tn:((N:Int)+1).toNat=N+1:=zo;refine bK f0 f4 Ki tn ?_;refine NN HT qav λh3 g3=>?_;rw[hD];have NO:(N:Int)+(1+(D:Int))<=s.length:=zo;have tn2:((N:Int)+(1+(D:Int))).toNat=N+(1+D):=zo;have g123:=gh.trans g3;refine bK f0 f4 NO tn2 ?_;refine Tg HT qav ?_;cases e3:eP (s.drop (N+(1+D))) [101] with
 |false=>
  refine ag ?_;have q:=oh _ (N+(1+D)) g123 zo zo;simpa using q
 |true=>
  have hi3:=aah e3;simp only[auo,ave];generalize hP:(s.drop (N+(1+D))).drop 1=P;have lP:P.length=s.length- (N+(1+D))- 1:=by rw[<-hP,auf,auf]
  have b8:∀(H:Hp)(f:Fr)(R:List UInt8),ax hh H->R.length<=P.length->J 4 f=.i (N+(1+(D:Int)))->J 5 f=S P->J 7 f=S R->
   W T T1 f H [] (bF (W T (.seq (.af r78_13) .ret)) (finish T (W T) [.tmp 2,.tmp 3] k)):=by
   intro H f R gH hR f4 f5 f7;subst pV;have dR:=Kh R;refine aU f4 f5 f7 ?_;refine NN HT zo λh4 g4=>?_
   by_cases e4:0<dU R
   have e4':(0:Int)<(dU R:Nat):=zo;refine bK e4 f4 f5 f7 ?_;have q:=oh h4 (N+(1+D)+(1+P.length- R.length+dU R)) (gH.trans g4) zo zo;have eq:((N+(1+D)+(1+P.length- R.length+dU R):Nat):Int)=N+(1+(D:Int))+(1+P.length- R.length+dU R):=zo;rw[eq] at q;exact q;have e4':¬(0:Int)<(dU R:Nat):=zo;refine bK e4 f4 f5 f7 ?_;have q:=oh h4 (N+(1+D)) (gH.trans g4) zo zo;simpa using q
  cases P with
  |nil=>
   refine aS f0 f4 ?_;exact b8 _ _ [] g123 zl aa aa aa
  |cons c P=>
   have e1:(1:Int)<=((c::P).length:Nat):=by simp only[atX];omega
   by_cases e5:c.toNat=43
   refine bK f0 f4 e5 e1 ?_;exact b8 _ _ P g123 zm aa aa aa
   by_cases e6:c.toNat=45
   refine cC f0 f4 e5 e6 e1 ?_;exact b8 _ _ P g123 zm aa aa aa;refine cC f0 f4 e5 e6 e1 ?_;exact b8 _ _ (c::P) g123 zl aa aa aa
theorem ahs(HT:aA T)(hl:s.length<1073741824)(js:zS s=false->∀h',ax h h'->k (.ret (.bA [.i 3,.i (dU s)]) h'))
 (oh:zS s=true->∀h' n,ax h h'->0<n->n<=s.length->k (.ret (.bA [.i 4,.i (n:Nat)]) h')):aE T (W T) ⟨78⟩ [S s] h k:=by
 rw[aJ HT.t78];generalize pV:CC.seq (.af r78_4) (.seq (.seq (.af r78_5) (.seq (.af r78_6) (.cond (.t 44) (.seq (.af r78_7) (.seq (.seq (.af r78_8) (.cond (.t 57) (.af r78_9) .skip)) (.seq (.af r78_10) (.seq (.af r78_11) (.cond (.t 63) (.af r78_12) .skip))))) .skip))) (.seq (.af r78_13) .ret))=T1;have d0:=Kh s;refine ag ?_;refine NN HT zo λh1 g1=>?_
 by_cases e0:dU s=0
 have q:=js (by simp[zS,e0]);refine aB e0 ?_;simpa[e0] using q _ g1;have e0':¬((dU s:Nat):Int)=0:=zo;have d1:((dU s:Nat):Int)<=s.length:=zo;refine aS e0 d1 ?_;refine NJ HT qav ?_;cases e1:eP (s.drop (dU s)) [46] with
 |false=>
  have q:=js (by simp[zS,e1]);refine ag ?_;exact q _ g1
 |true=>
  have hi:=aah e1;have dD:((dU s:Nat):Int)+1<=s.length:=zo;have tn:(((dU s:Nat):Int)+1).toNat=dU s+1:=zo;have d2:=Kh (s.drop (dU s+1));rw[auf] at d2;refine aS dD tn ?_;refine NN HT qav λh2 g2=>?_
  by_cases e2:dU (s.drop (dU s+1))=0
  have q:=js (by simp[zS,e2]);refine aB e2 ?_;exact q _ (g1.trans g2);have e2':¬((dU (s.drop (dU s+1)):Nat):Int)=0:=zo;have oh:=oh (by simp[zS,e0,e1,e2]);refine aB e2 ?_;subst pV;exact ahr (N:=dU s) HT hl (g1.trans g2) rfl zo zo aa aa oh
end
end Yv
