/- A part of the proof of 'ScopeOwnUptoCardSaid'. No condition. -/
import Derived.Test.YtpllhjebgjcigaaGreatDoorX08
set_option maxHeartbeats 16000000
set_option maxRecDepth 100000
set_option linter.all false
namespace Yv
variable{T:aM->Option CF}
section
variable{h:Hp}{k:aK->Prop}{s nm:List UInt8}{m:KM}{ms:List KM}{d:aC}{i lo hi:Nat}{v:AV}
theorem CV(HT:aA T){p aG j:Nat}{c0 c1 c2 c7 c8 c9:AV}{f:cN}{N:List aC}{ds:List (List UInt8)}{kind at_:Int}{x0 x1 x2 kv:AV}(hp:h.get p=.one 52 (bS c0 c1 c2 f (.map aG) c7 c8 c9))(hn:lX h aG N)(hd:cY h c2 ds)(hj:j<ds.length)
 (hk:∀h',ah (·=aG) h h'->lX h' aG (⟨kind,nm,j,at_,if kind=1 then nm else ds[j]⟩::N)->k (.ret (.agg (aC.row ⟨kind,nm,j,at_,if kind=1 then nm else ds[j]⟩)) h')):
 aE T (W T) ⟨59⟩ [.ptr p 0,.i kind,.i j,.agg [x0,x1,x2,.i at_,S nm,kv]] h k:=by
 rw[aJ HT.t59];obtain⟨b,cap,ex,r,t,rfl,hb,hr,ht⟩:=hd;have n1:=Hp.lt hp rfl;have n2:=hn.lt;have n3:=Hp.lt hb rfl;have jL:=ht j hj;simp only[bS] at hp;have eY:(j:Int)<ds.length:=zo
 by_cases c:kind=1
 subst c;simp only[auo] at hk;refine cC hp hb jL hj eY ?_;generalize hH:(((((h.push _).push _).push _).set _ _).set _ _:Hp)=H;have gH:ax h H:=by rw[<-hH];exact fZ
 obtain⟨o,eo,fo⟩:=(hn.mono (h':=H) (gH.get _ n2 id)).pE (d:=⟨1,nm,j,at_,nm⟩) (a:=x0) (b:=x1) (c:=x2) (f:=.i at_) (kv:=kv);simp only[aC.row] at eo;have u1:H.get (h.nx+1+1)=.one 34 [.i 1,S nm,.i j,.i at_,S nm]:=by rw[<-hH];simp(disch:=omega)
 have u2:H.get (h.nx+1)=.one 34 [.i 0,S [],.i 0,.i 0,S []]:=by rw[<-hH];simp(disch:=first|exact bh|fail)
 have u3:H.nx=h.nx+1+1+1:=by rw[<-hH];simp(disch:=first|exact bh|fail)
 refine bK eo u1 u2 u3 ?_;refine hk _ ?_ (fo _ ?_);refine ah.set ?_ _ (.inl ?_);exact ah.set (ah.cn gH) _ (.inr rfl);omega;exact aa;simp only[c,auM] at hk;refine cq hp hb jL hj eY c ?_;generalize hH:((((h.push _).push _).push _).set _ _:Hp)=H;have gH:ax h H:=by rw[<-hH];exact fZ
 obtain⟨o,eo,fo⟩:=(hn.mono (h':=H) (gH.get _ n2 id)).pE (d:=⟨kind,nm,j,at_,ds[j]⟩) (a:=x0) (b:=x1) (c:=x2) (f:=.i at_) (kv:=kv);simp only[aC.row] at eo;have u1:H.get (h.nx+1+1)=.one 34 [.i kind,S nm,.i j,.i at_,S ds[j]]:=by rw[<-hH];simp(disch:=omega)
 have u2:H.get (h.nx+1)=.one 34 [.i 0,S [],.i 0,.i 0,S []]:=by rw[<-hH];simp(disch:=first|exact bh|fail)
 have u3:H.nx=h.nx+1+1+1:=by rw[<-hH];simp(disch:=first|exact bh|fail)
 refine bK eo u1 u2 u3 ?_;refine hk _ ?_ (fo _ ?_);refine ah.set ?_ _ (.inl ?_);exact ah.set (ah.cn gH) _ (.inr rfl);omega;exact aa
theorem UH(HT:aA T){p doc:Nat}{c0 c1 c2 c6 c7 c8 v:AV}{f:cN}{us:List dx}{at_:Int}{is:Bool}{x0 x1 x2 kv:AV}(hp:h.get p=.one 52 (bS c0 c1 c2 f c6 c7 c8 v))(hn:pA h v us)(hl:us.length<1073741824)
 (hk:∀h' v',Wf (·=p) h h'->pA h' v' (us++[⟨doc,at_,nm,is,d⟩])->h'.get p=.one 52 (bS c0 c1 c2 f c6 c7 c8 v')->k (.ret (.bA []) h')):
 aE T (W T) ⟨66⟩ [.ptr p 0,.i doc,.agg [x0,x1,x2,.i at_,S nm,kv],.agg d.row,.bool is] h k:=by
 rw[aJ HT.t66];have n1:=Hp.lt hp rfl;simp only[bS] at hp;simp only[aC.row];rcases hn with⟨rfl,rfl⟩|⟨bg,q,t,rfl,hq,ht⟩;refine aB hp ?_;generalize hH:(((h.push _).push _).push _:Hp)=H;have u1:∃t,H.get (h.nx+1+1)=.rows 36 9 1 0 t/\t 0=[.i doc,.i at_,S nm,.bool is,.i d.kind,S d.name,.i d.doc,.i d.at_,S d.dir]:=⟨_,by rw[<-hH];exact Hp.br rfl,by simp⟩;have u3:H.nx=h.nx+1+1+1:=by rw[<-hH];rfl
 have gH:ax h H:=by rw[<-hH];exact aZ
 clear hH;obtain⟨t,u1,u2⟩:=u1;have ea:=A7 (h:=H) (el:=36) (rw:=9) (bytes:=96) (n:=0) (wN u1 zl) (y:=.slice (h.nx+1+1) 0 9 1 1 true) rfl zd;rw[ea];have lB:H.get p=_:=(gH.get _ n1 id).trans hp;refine aB lB ?_;refine hk _ (.slice H.nx 0 9 1 1 false) (Wf.of (ah.set ((ah.cn gH).push _) _ (.inr rfl))) (.inr ⟨by simp,H.nx,cx fG 0 (t 0),rfl,?_,λj hj=>?_⟩) ?_;exact aa;obtain rfl:j=0:=by simp at hj;omega
 simp[dx.row,u2];simp(maxSteps:=400000) (disch:=first|exact bh|fail) [bS];have n2:=Hp.lt hq rfl;have h0:0<us.length:=auA.2 bg;have hqp:q≠p:=by rintro rfl;rw[hp] at hq;cases hq
 refine aB hp ?_;generalize hH:(((h.push _).push _).push _:Hp)=H;have u1:∃t,H.get (h.nx+1+1)=.rows 36 9 1 0 t/\t 0=[.i doc,.i at_,S nm,.bool is,.i d.kind,S d.name,.i d.doc,.i d.at_,S d.dir]:=⟨_,by rw[<-hH];exact Hp.br rfl,by simp⟩;have u3:H.nx=h.nx+1+1+1:=by rw[<-hH];rfl
 have gH:ax h H:=by rw[<-hH];exact aZ
 clear hH;obtain⟨t1,u1,u2⟩:=u1;have lB:H.get p=_:=(gH.get _ n1 id).trans hp;have Bt:H.get q=_:=(gH.get _ n2 id).trans hq;have ea:=A8 (h:=H) (el:=36) (rw:=9) (bytes:=96) (n:=0) (i:=q) (len:=us.length) (cnt:=us.length) (t:=t) Bt zl (wN u1 zl) (y:=.slice (h.nx+1+1) 0 9 1 1 true) rfl (rV zo zo);rw[ea];refine aB lB ?_;refine hk _ (.slice H.nx 0 9 (us.length+1) (us.length+1) false) ⟨?_,λi hi hm h36=>?_⟩ (.inr ⟨by simp,H.nx,cx t us.length (t1 0),by simp only[auk,ave],?_,λj hj=>?_⟩) ?_;refine ag ?_;omega;have:i≠q:=by rintro rfl;exact h36 ⟨_,_,hq⟩
 simp(maxSteps:=400000) (disch:=first|exact bh|fail) [gH.get _ hi id];exact aa;simp only[auk,ave] at hj
 by_cases e:j=us.length
 subst e;simp[dx.row,u2];rw[ava zo];simp[e,ht j zo];simp(disch:=omega) [bS]
end
def yG(h:Hp)(v:AV)(ds:List aC):Prop:=
 ds=[]/\v=.bx\/ds≠[]/\∃q t cap ex r,v=.slice q 0 5 ds.length cap ex/\h.get q=.rows 34 5 r 0 t/\ds.length<=r/\∀j,(hj:j<ds.length)->t j=ds[j].row
def Bu(h:Hp)(i:Nat)(bu:List UInt8->List aC):Prop:=∃L,iV h i L/\∀s,yG h ((eV L s).getD .bx) (bu s)
section
variable{h:Hp}{k:aK->Prop}{s nm:List UInt8}{m:KM}{ds:List aC}{d:aC}{i lo hi:Nat}{v:AV}
theorem yG.mono{h':Hp}(x:yG h v ds)(e:∀q,q<h.nx->(∃r f,h.get q=.rows 34 5 r 0 f)->h'.get q=h.get q):yG h' v ds:=by rcases x with x|⟨x,q,t,cap,ex,r,e1,e2,e3⟩;exact .inl x;exact .inr ⟨x,q,t,cap,ex,r,e1,by rw[e q (Hp.lt e2 rfl) ⟨_,_,e2⟩];exact e2,e3⟩
theorem ajU(HT:aA T){c:Nat}(hc:h.get c=.one 9 [S nm])(hk:∀h',ax h h'->k (.ret (.bool (decide (d.name=nm))) h')):aE T (W T) ⟨128⟩ [.agg d.row,.ptr c 0] h k:=by rw[aJ HT.t128];have n1:=Hp.lt hc rfl;refine aS aC.row.eq_1 hc ?_;exact hk _ aZ
theorem ajV(HT:aA T){c:Nat}(hc:h.get c=.one 9 [S nm])(hd:yG h v ds)(hl:ds.length<1073741824)(hk:∀h',ax h h'->k (.ret (.i (if ds.findIdx (λd=>decide (d.name=nm))<ds.length then(ds.findIdx λd=>decide (d.name=nm):Nat) else-1)) h')):
 aE T (W T) ⟨127⟩ [v,.func ⟨128⟩ [] [.ptr c 0]] h k:=by
 rw[aJ HT.t127];rcases hd with⟨rfl,rfl⟩|⟨bg,q,t,cap,ex,r,rfl,hq,hr,ht⟩;refine ag ?_;rw[aP];refine ag ?_;exact hk _ aZ;have n1:=Hp.lt hc rfl;have n2:=Hp.lt hq rfl;refine ag ?_;generalize hI:ds.findIdx (λd=>decide (d.name=nm))=I at hk;have key:∀(m i:Nat)(f:Fr)(h1:Hp)(K:aT->Prop),m=ds.length- i->i<=ds.length->ax h h1->i<=I->J 0 f=.slice q 0 5 ds.length cap ex->J 1 f=.func ⟨128⟩ [] [.ptr c 0]->J 7 f=.i ds.length->J 8 f=.i i->
  (¬I<ds.length->∀f' h',ax h h'->K (.exit 0 f' h' []))->(I<ds.length->∀f' h',ax h h'->J 4 f'=.i I->K (.ret f' h' []))->W T (.loop l127_0) f h1 [] K:=by
  intro m
  induction m with
  |zero=>
   intro i f h1 K hm hi g hI f0 f1 f7 f8 k1 k2;have e:¬i<ds.length:=zo;rw[aP];refine aU f7 f8 e ?_;exact k1 zo _ _ g
  |succ m ih=>
   intro i f h1 K hm hi g OB f0 f1 f7 f8 k1 k2;have ao:i<ds.length:=zo;have jL:=ht i ao;have e1:=g0 g;rw[aP];refine mz f0 f1 f7 f8 ao e1 hq jL aC.row.eq_1 ?_;refine ajU (d:=ds[i]) HT (by rw[e1 c n1];exact hc) λh2 g2=>?_
   by_cases e:ds[i].name=nm
   have:I=i:=by
    subst hI;have h2:=List.findIdx_le_length (xs:=ds) (p:=λd=>decide (d.name=nm))
    by_cases h3:i<ds.findIdx λd=>decide (d.name=nm)
    have:=List.not_of_lt_findIdx h3;simp[e] at this;exact Nat.le_antisymm (axJ.1 h3) OB
   refine aU e f7 f8 ?_;exact k2 zo _ _ (g.trans g2) (by rw[this];exact aa);have:I≠i:=by rintro rfl;subst hI;have:=List.findIdx_getElem (w:=ao);simp[e] at this
   refine aU e f7 f8 ?_;exact ih (i+1) _ _ K zo zo (g.trans g2) zo zA zA zA aa k1 k2
 refine key _ 0 _ _ _ rfl zo aZ zo aa aa aa aa (λe f' h' g=>?_) (λe f' h' g f4=>?_);rw[atS e] at hk;refine ag ?_;exact hk _ g;rw[atV e] at hk;refine aB f4 ?_;exact hk _ g
theorem abE(HT:aA T)(hd:yG h v ds)(hl:ds.length<1073741824)(hk:∀h' v',ax h h'->yG h' v' ds->(∀q a b c e x,v'=.slice q a b c e x->h.nx<=q)->k (.ret v' h')):aE T (W T) ⟨96⟩ [v] h k:=by
 rw[aJ HT.t96];rcases hd with⟨rfl,rfl⟩|⟨bg,q,t,cap,ex,r,rfl,hq,hr,ht⟩;simp(disch:=omega) [cJ];exact hk _ _ aZ (.inl ⟨rfl,rfl⟩) (λ_ _ _ _ _ _ e=>by cases e);have n2:=Hp.lt hq rfl;have h0:0<ds.length:=auA.2 bg;obtain⟨n,hn⟩:∃n,ds.length=n+1:=⟨ds.length- 1,by omega⟩;simp(disch:=omega) [cJ];generalize hH:(h.push _:Hp)=H;have u1:∃t,H.get h.nx=.rows 34 5 0 0 t:=⟨_,by rw[<-hH];exact Hp.br rfl⟩;have u3:H.nx=h.nx+1:=by rw[<-hH];rfl
 have gH:ax h H:=by rw[<-hH];exact aZ
 clear hH;obtain⟨t1,u1⟩:=u1;have Bt:H.get q=_:=(gH.get _ n2 id).trans hq;have ea:=G2 (h:=H) (el:=34) (rw:=5) (bytes:=56) (n:=n) (i:=h.nx) (len:=0) (cnt:=0) (t:=t1) zd u1 zl (Ke (n:=ds.length) (b:=q) (cap:=cap) (ex:=ex) zd Bt hr) qaM (rV zo zo);rw[ea];refine ag ?_;refine hk _ _ (gH.push _) (.inr ⟨bg,H.nx,jy fG 0 ([]++dw t ds.length 0),n+1,false,n+1,by rw[hn],?_,by omega,λj hj=>?_⟩) (λq' _ _ _ _ _ e=>by cases e;omega);rw[Hp.br rfl,jJ];rfl;have eY:j<(dw t ds.length 0).length:=by rw[oZ];exact hj
 rw[au5,wO eY];have:=vw t ds.length 0 j hj;rw[atT eY] at this;rw[auQ this,aue,ht j hj]
def uy(ds:List aC)(nm:List UInt8):Option aC:=ds.find? λd=>decide (d.name=nm)
theorem abF{p:aC->Bool}:∀(l:List aC),l.find? p=l[l.findIdx p]?
 |[]=>rfl
 |a::l=>by
  rw[awM,List.findIdx_cons];cases p a with
  |true=>rfl
  |false=>rw[abF l];rfl
theorem ajW(HT:aA T)(hd:yG h v ds)(hl:ds.length<1073741824)(hk:∀h',ax h h'->k (.ret (lA (uy ds nm)) h')):aE T (W T) ⟨99⟩ [v,S nm] h k:=by
 rw[aJ HT.t99];refine ag ?_;refine ajV HT (nm:=nm) (ds:=ds) aa (hd.mono λq hq _=>aa) hl λh1 g1=>?_;have e1:=g0 g1;have n1:=g1.nx
 try simp only[Hp.eE,Hp.iy] at n1
 have hf:uy ds nm=_:=abF ds;generalize ds.findIdx (λd=>decide (d.name=nm))=I at hf⊢;have u1:h1.get (h.nx+1)=.one 34 [.i 0,S [],.i 0,.i 0,S []]:=by rw[e1 _ qaj];simp(disch:=first|exact bh|fail)
 by_cases e:I<ds.length
 rw[hf,atT e] at hk;simp only[lA,Option.getD,Option.isSome,aC.row] at hk;rcases hd with⟨rfl,rfl⟩|⟨bg,q,t,cap,ex,r,rfl,hq,hr,ht⟩;simp at e;have n2:=Hp.lt hq rfl;have ki:h1.get q=.rows 34 5 r 0 t:=(e1 q qan).trans (au hq);have jL:=ht I e;have e0:¬((I:Int)<0):=zo;refine cq e e0 ki jL aC.row.eq_1 u1 ?_;refine hk _ ?_;exact ah.set (ah.trans aZ g1) _ (.inl zo);rw[hf,auI zo] at hk;simp only[lA,Option.getD,Option.isSome,aC.row,qG] at hk;refine aS e u1 ?_;refine hk _ ?_;exact ah.set (ah.trans aZ g1) _ (.inl zo)
theorem Bu.mono{h':Hp}{bu}(x:Bu h i bu)(e:∀q,q<h.nx->q=i\/(∃r f,h.get q=.rows 34 5 r 0 f)->h'.get q=h.get q):Bu h' i bu:=by obtain⟨L,x,y⟩:=x;exact⟨L,x.mono (e i x.lt (.inl rfl)),λs=>(y s).mono λq hq h=>e q hq (.inr h)⟩
theorem UI(HT:aA T){p tb:Nat}{c0 c1 c2 c6 c8 c9:AV}{f:cN}{bu:List UInt8->List aC}(hp:h.get p=.one 52 (bS c0 c1 c2 f c6 (.map tb) c8 c9))(ht:Bu h tb bu)(hl:(bu s).length<1073741824)
 (hk:∀h',ax h h'->k (.ret (lA (uy (bu s) nm)) h')):aE T (W T) ⟨62⟩ [.ptr p 0,S s,S nm] h k:=by
 rw[aJ HT.t62];have n1:=Hp.lt hp rfl;simp only[bS] at hp;refine ag ?_;rw[aJ HT.t100];obtain⟨L,hm,hd⟩:=ht;have n2:=hm.lt;generalize hH:(h.push _:Hp)=H;have gH:ax h H:=by rw[<-hH];exact aZ
 have u1:H.get h.nx=.one 34 [.i 0,S [],.i 0,.i 0,S []]:=by rw[<-hH];exact Hp.br rfl
 have u3:H.nx=h.nx+1:=by rw[<-hH];rfl
 have lB:H.get p=_:=(gH.get _ n1 id).trans hp;have fC:=(hm.mono (h':=H) (gH.get _ n2 id)).jV (s:=s) (z:=.bx) (ok:=false);simp(disch:=omega) [lB,fC,y7];refine abE HT ((hd s).mono λq hq _=>gH.get q hq id) hl λh1 v1 g1 Ba _=>?_;refine ag ?_;refine ajW HT Ba hl λh2 g2=>?_;have u2:h2.get h.nx=.one 34 [.i 0,S [],.i 0,.i 0,S []]:=by rw[g2.get _ qaF id,g1.get _ zo id];exact u1
 generalize hf:uy (bu s) nm=o at hk⊢;simp only[lA,aC.row] at hk⊢;refine aB u2 ?_;exact hk _ (ah.set ((gH.trans g1).trans g2) _ (.inl zo))
end
def lY(l:List Tk):Nat:=l.length+2
def sj(l:List Tk)(size:Nat)(oi:Nat->List UInt8×Bool):PR Tree:=
 Ad l (lY l) (Hw l (lY l) (zU l (lY l) (lY l)) (lY l)) size oi 0
def fD(s:List UInt8):Tk:=⟨0,[],s.length,s.length⟩
def Al(b:Int)(o:Nat->Nat×Int)(oi:Nat->List UInt8×Bool)(s:List UInt8):PR Tree:=
 (tf b o s).bind λl _=>(sj (l++[fD s]) s.length oi).bind λt n=>if yu t 64 (s.length+1)<=s.length then .er (yu t 64 (s.length+1)) 3 else .ok t n
@[simp] theorem as8{g:aM}{cs:List AV}:Mt (.func g [] cs) []=.df (.fn g cs):=rfl
section
variable{h hh:Hp}{k:aK->Prop}{s p:List UInt8}{c:UInt8}
def UJ(hh:Hp)(k:aK->Prop)(r:PR Tree):Prop:=
 match r with
 |.ok t _=>∀h' row,ax hh h'->ay hh.nx h' t row->k (.ret (.bA [.agg row,.i 0,.i 0]) h')
 |.er p e=>∀h',ax hh h'->k (.ret (.bA [.agg cA,.i p,.i e]) h')
 |.dN=>False
def lv(T:aM->Option CF)(X:fJ)(rs:List CR)(f:Fr)(k:aK->Prop)(ds:List Df)(o:aT)(m:Md):Prop:=
 match o with
 |.jo _ h' []=>pJ T X rs f k ds (B7 m) h'
 |.ret _ h' []=>pJ T X rs f k ds (B7 m) h'
 |_=>False
theorem abG{X:fJ}{rs:List CR}{f:Fr}{n:Nat}{b:Bool}{c:CC}{args:List AV}{ds:List Df}{m:Md}(ht:T ⟨n⟩=some ⟨n,b,c,[]⟩):pJ T X rs f k (.fn ⟨n⟩ args::ds) m h=B6 X c m (nQ args) h (lv T X rs f k ds):=by show(match T ⟨n⟩ with|some c=>_|none=>_)=_;rw[ht];simp only[Ql,av1,axw,cond];rfl
theorem abH{X:fJ}{l:List CI}{b:CC}{m:Md}{f:Fr}{k:aT->Md->Prop}:B6 X (.seq (.af l) b) m f h k=uT (λm f h=>X b f h [] λo=>k o m) l m f h:=rfl
theorem ajX(HT:aA T){rs:List CR}{f:Fr}{b2 b3 b4:Nat}{p e:Int}{r2:List AV}{x y:AV}(w2:h.get b2=.one 39 r2)(lU:r2.length=6)(w3:h.get b3=.one 3 [x])(w4:h.get b4=.one 26 [y])(n1:b2≠b3)(n2:b2≠b4)(n3:b3≠b4)
 (hk:wz (((((h.push (.one 71 [.i 0,.i 0])).set h.nx (.one 71 [.i p,.i e])).set b2 (.one 39 cA)).set b3 (.one 3 [.i p])).set b4 (.one 26 [.i e])) f rs k):pJ T (W T) rs f k [.fn ⟨27⟩ [.ptr b2 0,.ptr b3 0,.ptr b4 0]] (.bn (qD p e)) h:=by
 rw[abG HT.t27,abH];have u2:=Hp.lt w2 rfl;have u3:=Hp.lt w3 rfl;have u4:=Hp.lt w4 rfl;obtain⟨z1,z2,z3,z4,z5,z6,rfl⟩:∃a b c d e f,r2=[a,b,c,d,e,f]:=by
  match r2,lU with
  |[a,b,c,d,e,f],_=>exact⟨a,b,c,d,e,f,rfl⟩
 simp only[uT,jO,Md.recover];simp(disch:=omega) [qD,cJ,IU,w2,w3,w4,lv,B7,pJ];exact hk
theorem abI(HT:aA T){rs:List CR}{f:Fr}{b2 b3 b4:Nat}(hk:wz h f rs k):pJ T (W T) rs f k [.fn ⟨27⟩ [.ptr b2 0,.ptr b3 0,.ptr b4 0]] .ret h:=by rw[abG HT.t27,abH];simp only[uT,jO,Md.recover];simp(disch:=omega) [cJ,lv,B7,pJ];exact hk
theorem ajY(HT:aA T)(IC:∀h',ax h h'->Cz T h') (FC:∀h',ax h h'->CA T h') (BC:∀h',ax h h'->KG T h') (VC:∀h',ax h h'->KP T h') (hl:s.length<16777216) (hg:lO (h.get 1))
 (UK:∀b o l n,tf b o s=.ok l n->fc (l++[fD s])/\(∀n,n<(l++[fD s]).length->(tk (l++[fD s]) n).text.length<1073741824)/\l.length<1073741824)
 (UL:∀b o p e,tf b o s=.er p e->e≠0)
 (Am:∀b o l n oi t m,tf b o s=.ok l n->sj (l++[fD s]) s.length oi=.ok t m->rY t)
 (hk:∀b o oi,((∀c∈s,c.toNat<128)->b<0)->UJ h k (Al b o oi s)):aE T (W T) ⟨14⟩ [S s] h k:=by
 rw[aJ HT.t14];have yd:1<h.nx:=by obtain⟨t,e,_⟩:=hg;exact Hp.lt e rfl
 generalize qE:QG=T4;refine ag ?_;refine aiw HT (λh' g=>IC h' (ah.trans aZ g)) (λh' g=>FC h' (ah.trans aZ g)) (λh' g=>BC h' (ah.trans aZ g)) zo (au hg) λb o hb=>?_;have hk:=λoi=>hk b o oi hb;have UK:=UK b o;have UL:=UL b o;have Am:=Am b o;unfold Al at hk;generalize tf b o s=R at*;cases R with
 |dN=>exact(hk λ_=>([],false)).elim
 |er p e=>
  intro h1 g1;have e1:=g0 g1;have n1:=g1.nx;simp only[Hp.eE] at n1;have hk:=hk λ_=>([],false);have he:=UL p e rfl;have q2:h1.get h.nx=.one 39 cA:=au e1;have q3:h1.get (h.nx+1)=.one 3 [.i 0]:=au e1;have q4:h1.get (h.nx+1+1)=.one 26 [.i 0]:=au e1;refine bK he q2 q3 q4 ?_;have g01:ax h h1:=ah.trans aZ g1;refine hk _ ?_
  repeat(refine ah.set ?_ _ (.inl zo))
  exact g01
 |ok l n=>
  intro h1 v g1 hv;have e1:=g0 g1;have n1:=g1.nx;simp only[Hp.eE] at n1;have hk:∀oi,UJ h k ((sj (l++[fD s]) s.length oi).bind λt n=>if yu t 64 (s.length+1)<=s.length then .er (yu t 64 (s.length+1)) 3 else .ok t n):=hk;obtain⟨hs,CM,Tj⟩:=UK l n rfl;have Am:=λoi t m=>Am l n oi t m rfl;have q2:h1.get h.nx=.one 39 cA:=au e1;have q3:h1.get (h.nx+1)=.one 3 [.i 0]:=au e1;have q4:h1.get (h.nx+1+1)=.one 26 [.i 0]:=au e1;refine bK q2 q3 q4 hv.cell ?_;subst qE;unfold QG;refine ag ?_;obtain⟨H1,hH⟩:∃H1,H1=(h1.set (h.nx+1) (.one 3 [.i 0])).set (h.nx+1+1) (.one 26 [.i 0]):=⟨_,rfl⟩;have TW:H1.nx=h1.nx:=by rw[hH];simp only[Hp.iy];omega
  have r2:H1.get h.nx=.one 39 cA:=by rw[hH];simp(disch:=omega) [q2]
  have r3:H1.get (h.nx+1)=.one 3 [.i 0]:=by rw[hH];simp(disch:=omega)
  have r4:H1.get (h.nx+1+1)=.one 26 [.i 0]:=by rw[hH];simp(disch:=omega)
  have gH:ah (λi=>i=h.nx+1\/i=h.nx+1+1) h1 H1:=by rw[hH];exact ah.set (ah.set (ah.refl _) _ (.inr (.inl rfl))) _ (.inr (.inr rfl))
  have gg:ax h H1:=(ah.trans aZ g1:ax h h1).sX gH λi hi=>zo;rw[<-hH];clear hH;obtain⟨w,H2,ha,hw,u1,u2⟩:=TV (h:=H1) (lo:=h.nx+1+1+1) (t:=fD s) (fB:=cx (cx fG 0 ta) 0 [.i 0,S [],.i s.length,.i s.length]) ((hv.lo (at2 (h.nx+1+1+1))).nC gH λi hi=>by omega) Tj zo (by simp[Tk.row,fD]);rw[TW] at ha;rw[ha];have u1n:=u1.nx;have w2:=u2 _ _ _ r2;have w3:=u2 _ _ _ r3;have w4:=u2 _ _ _ r4;rcases hw with⟨e,_⟩|⟨tb,r,t,K3,rfl,_,ht,hr,kz⟩;simp at e;have htl:=Hp.lt ht rfl;have ggu:ax h H2:=gg.sX u1 λi hi=>zo;have SC:bp (H2.push (.one 76 [.slice tb 0 4 (l.length+1) (l.length+1) false,.i 0,.i 0,.bool false])) H2.nx tb (l++[fD s]) 0 0 false:=by
   have vz:(l++[fD s]).length=l.length+1:=by simp
   refine⟨⟨l.length+1,false,?_⟩,⟨r,t,?_,?_,λq hq=>?_⟩,by omega⟩;rw[vz];exact Hp.br rfl;rw[Hp.qZ htl];exact ht;simpa using hr;rw[kz q hq];unfold tk;rw[aub,atT hq];rfl
  have N6:lY (l++[fD s])<4294967296:=by unfold lY;rw[auk,ave];omega
  generalize HA:Xo=T7;refine ag ?_;have E:=aaG (c:=H2.nx) (tb:=tb) HT hs (F:=lY (l++[fD s])) zo (lY (l++[fD s]));have S1:=aaN HT hs E (F:=lY (l++[fD s])) zo (lY (l++[fD s]));have gP:ax h (H2.push (.one 76 [.slice tb 0 4 (l.length+1) (l.length+1) false,.i 0,.i 0,.bool false])):=ggu.push _;refine aiE HT hs (λh' g=>aiF HT λET g'=>VC ET (gP.sX (g.trans g'.cn) λi hi=>by omega)) CM S1 N6 SC zm λoi=>?_;have hk:=hk oi;have Am:=Am oi;unfold sj at hk Am;revert hk Am;generalize Ad (l++[fD s]) (lY (l++[fD s])) (Hw (l++[fD s]) (lY (l++[fD s])) (zU (l++[fD s]) (lY (l++[fD s])) (lY (l++[fD s]))) (lY (l++[fD s]))) s.length oi 0=R;intro hk Am;cases R with
  |dN=>exact hk.elim
  |er p e=>
   intro h3 g3;have e3:=gp g3;have n3:=g3.nx;simp only[Hp.eE] at n3;have x2:h3.get h.nx=.one 39 cA:=bV e3 w2;have x3:h3.get (h.nx+1)=.one 3 [.i 0]:=bV e3 w3;have x4:h3.get (h.nx+1+1)=.one 26 [.i 0]:=bV e3 w4;have dL:ax h h3:=gP.sX g3 λi hi=>zo;refine ag ?_;refine ajX HT (r2:=cA) x2 rfl x3 x4 zo zo zo ?_;refine ag ?_;refine hk _ ?_;exact(((((dL.push _).set _ (.inl zo)).set _ (.inl zo)).set _ (.inl zo)).set _ (.inl zo))
  |ok t m=>
   intro h3 row g3 nd;have rB:=Am t m rfl;have hk:UJ h k (if yu t 64 (s.length+1)<=s.length then .er (yu t 64 (s.length+1)) 3 else .ok t m):=hk;have e3:=gp g3;have n3:=g3.nx;simp only[Hp.eE] at n3;have x2:h3.get h.nx=.one 39 cA:=bV e3 w2;have x3:h3.get (h.nx+1)=.one 3 [.i 0]:=bV e3 w3;have x4:h3.get (h.nx+1+1)=.one 26 [.i 0]:=bV e3 w4;have dL:ax h h3:=gP.sX g3 λi hi=>zo;obtain⟨kv,rfl,hkv,nk⟩:=nd.shape;subst HA;have cG:ay (H2.nx+1) (h3.set h.nx (.one 39 [.i t.kind,.i t.ak,.i t.to,.i t.at,S t.name,kv])) t _:=ay.nf ((NF.refl h3).set _ x2) zl _ _ nd;refine aB x2 ?_;refine aaW HT t _ _ _ _ _ _ cG rB zd zd λh4 g4=>?_;have e4:=g0 g4;have n4:=g4.nx;simp only[Hp.iy] at n4;have y2:h4.get h.nx=.one 39 [.i t.kind,.i t.ak,.i t.to,.i t.at,S t.name,kv]:=au e4;have y3:h4.get (h.nx+1)=.one 3 [.i 0]:=bV e4 x3;have y4:h4.get (h.nx+1+1)=.one 26 [.i 0]:=bV e4 x4;have uh:ax h h4:=(dL.set _ (.inl zl)).trans g4
   by_cases ed:yu t 64 (s.length+1)<=s.length
   rw[atV ed] at hk;refine bK ed y2 y3 y4 ?_;refine abI HT ?_;refine ag ?_;refine hk _ ?_;exact((uh.set _ (.inl zo)).set _ (.inl zo)).set _ (.inl zo);rw[atS ed] at hk;refine cC ed y2 y3 y4 hkv ?_;refine abI HT ?_;refine ag ?_;refine hk _ _ (((uh.set _ (.inl zo)).set _ (.inl zo)).set _ (.inl zo)) ?_;exact ay.nf (((((NF.refl _).g0 g4).set _ y2).set _ (el:=3) (l:=[.i 0]) (au y3)).set _ (el:=26) (l:=[.i 0]) (au y4)) zo _ _ cG
end
def lC(lo:Nat)(h:Hp)(v:AV)(ts:List Tree):Prop:=
 ts=[]/\v=.bx\/ts≠[]/\∃b cap ex r f,v=.slice b 0 6 ts.length cap ex/\h.get b=.rows 39 6 r 0 f/\ts.length<=r/\∀j,(hj:j<ts.length)->ay lo h ts[j] (f j)
def EU(ms:List KM)(fs:List Tree)(aq:List (List UInt8))(bu:List UInt8->List aC)(j:Nat)(nm:List UInt8):Option aC:=
 match xk ms nm with
 |some d=>some d
 |none=>
  match((fs.getD j zT).kids.find? λx=>decide (x.kind=2)&&decide (x.name=nm)) with
  |some x=>some ⟨1,nm,j,x.at,nm⟩
  |none=>uy (bu (aq.getD j [])) nm
section
variable{h:Hp}{k:aK->Prop}{s nm:List UInt8}{m:KM}{ms:List KM}{ds:List aC}{d:aC}{i lo hi:Nat}{v:AV}
theorem dO.kv:∀{ts:List Tree}{v:AV},dO lo h ts v->lC lo h v ts
 |[],v,x=>.inl ⟨rfl,by simpa only[dO] using x⟩
 |t::ts,v,x=>by simp only[dO] at x;obtain⟨b,cap,ex,r,f,e,hb,hr,hl,h1,h2⟩:=x;refine .inr ⟨by simp,b,cap,ex,r,f,e,hb,hr,λj hj=>?_⟩;exact aaB (ts:=t::ts) (f:=f) (by simp only[eR];exact⟨h1,h2⟩) j hj
theorem lC.nf{h':Hp}{ts}(x:lC lo h v ts)(g:NF 0 h h'):lC lo h' v ts:=by rcases x with x|⟨x,b,cap,ex,r,f,e,hb,hr,hn⟩;exact .inl x;exact .inr ⟨x,b,cap,ex,r,f,e,g _ _ _ (auz _) hb,hr,λj hj=>(hn j hj).nf (g.mono (auz _)) zl⟩
theorem ay.cells{t:Tree}{row:List AV}(x:ay lo h t row):∃kv,row=[.i t.kind,.i t.ak,.i t.to,.i t.at,S t.name,kv]/\lC lo h kv t.kids:=by cases t;simp only[ay] at x;obtain⟨kv,e,hk⟩:=x;exact⟨kv,e,hk.kv⟩
theorem lC.bQ{ts}(x:lC lo h v ts):bQ v=some [v]:=by rcases x with⟨_,rfl⟩|⟨_,b,cap,ex,r,f,rfl,_⟩<;>rfl
theorem lC.len{ts}(x:lC lo h v ts){H:Hp}:tL 1 H v=.v (.i ts.length):=by rcases x with⟨rfl,rfl⟩|⟨_,b,cap,ex,r,f,rfl,_⟩<;>rfl
theorem mY{h':Hp}(g:ax h h'):NF 0 h h':=NF.nC g λ_ _ _ h=>h.elim
theorem abJ(HT:aA T){p tb j:Nat}{c0 c1 c2 c6 c8 c9:AV}{f:cN}{fs:List Tree}{aq:List (List UInt8)}{bu:List UInt8->List aC}(hp:h.get p=.one 52 (bS c0 c1 c2 f c6 (.map tb) c8 c9))(ht:Bu h tb bu)(hl:∀s,(bu s).length<1073741824)
 (hf:lC 0 h c1 fs) (hd:cY h c2 aq) (hj:j<fs.length) (pO:j<aq.length) (hs:((fs.getD j zT).kids).length<4294967296) (hc:si lo hi h ms v)
 (hk:∀h',ax h h'->k (.ret (lA (EU ms fs aq bu j nm)) h')):aE T (W T) ⟨67⟩ [.ptr p 0,.i j,S nm,v] h k:=by
 rw[aJ HT.t67];have n1:=Hp.lt hp rfl;have dj:=hp;simp only[bS] at hp;refine ag ?_;refine ajT HT (si.mono (h:=h) (λq _ _ h112=>?_) hc) λh1 g1=>?_;rcases h112 with⟨l,e⟩|⟨es,aD,e⟩<;>exact Hp.qZ (Hp.lt e rfl);have n2:=g1.nx;simp only[Hp.eE] at n2;have g01:ax h h1:=ah.trans aZ g1;have u1:h1.get h.nx=.one 34 [.i 0,S [],.i 0,.i 0,S []]:=by rw[g1.get _ aa id];simp(disch:=omega)
 cases e:xk ms nm with
 |some d=>
  simp only[EU,e,lA,Option.getD,Option.isSome,aC.row] at hk;simp only[lA,Option.getD,Option.isSome,aC.row];refine aB u1 ?_;refine hk _ ?_;exact ah.set (ah.set (ah.push g01 _) _ (.inl zo)) _ (.inl zo)
 |none=>
  simp only[EU,e] at hk;rcases hf with⟨rfl,rfl⟩|⟨bg,b,cap,ex,r,ff,rfl,hb,hr,hn⟩;simp at hj;obtain⟨kv,jE,hkv⟩:=(hn j hj).cells;have egd:fs.getD j zT=fs[j]:=by simp[List.getD,hj]
  rw[egd] at hk hs;have fu:h1.get p=_:=(g01.get _ n1 id).trans hp;have n3:=Hp.lt hb rfl;have qW:h1.get b=_:=(g01.get _ n3 id).trans hb;have eY:(j:Int)<fs.length:=zo;simp only[lA,Option.getD,Option.isSome,aC.row,qG];have CY:=hkv.nf (mY g01);generalize hKD:fs[j].kids=kd at*;simp(disch:=omega) [u1,fu,qW,eY,jE,hj,hkv.len];clear hb qW hn jE;have key:∀(m i:Nat)(f':Fr)(h2:Hp)(K:aT->Prop),m=kd.length- i->i<=kd.length->ax h1 h2->J 29 f'=kv->J 30 f'=.i kd.length->J 31 f'=.i i->J 2 f'=S nm->J 1 f'=.i j->J 0 f'=.ptr p 0->J 8 f'=.ptr h.nx 0->
   ((kd.drop i).find? (λx=>decide (x.kind=2)&&decide (x.name=nm))=none->∀f' h2,ax h1 h2->J 2 f'=S nm->J 1 f'=.i j->J 0 f'=.ptr p 0->J 8 f'=.ptr h.nx 0->K (.exit 0 f' h2 []))->
   (∀x,(kd.drop i).find? (λx=>decide (x.kind=2)&&decide (x.name=nm))=some x->∀f' h2,ah (·=h.nx) h1 h2->h2.get h.nx=.one 34 [.i 1,S nm,.i j,.i x.at,S nm]->J 8 f'=.ptr h.nx 0->J 9 f'=.bool true->K (.ret f' h2 []))->W T (.loop l67_0) f' h2 [] K:=by
   intro m
   induction m with
   |zero=>
    intro i f' h2 K hm hi g f29 f30 f31 f2 f1 f0 f8 k1 k2;have e:¬i<kd.length:=zo;rw[aP];refine aU f30 f31 e ?_;exact k1 (by rw[auJ zo];rfl) _ _ g zA zA zA zA
   |succ m ih=>
    intro i f' h2 K hm hi g f29 f30 f31 f2 f1 f0 f8 k1 k2;have ao:i<kd.length:=zo;rcases CY with⟨rfl,_⟩|⟨Nt,b2,aaw,Hf,r2,ff2,rfl,fX,lU,jB⟩;simp at ao;have n4:=Hp.lt fX rfl;have rT:h2.get b2=_:=(g.get _ n4 id).trans fX;obtain⟨zX,EV,wW⟩:=(jB i ao).cells;have ux:h2.get h.nx=.one 34 [.i 0,S [],.i 0,.i 0,S []]:=by rw[g.get _ zo id];exact u1
    have gn:=g.nx;rw[aut ao,awM] at k1 k2;rw[aP]
    by_cases q1:kd[i].kind=2
    by_cases q2:kd[i].name=nm
    refine kC f29 f30 f31 f2 f1 f0 f8 ao rT EV wW.bQ q1 (atQ q2 ux) ?_;refine k2 kd[i] (by simp[q1,q2]) _ _ ?_ ?_ ?_ ?_;refine ah.set (ah.set (ah.push (ah.cn g) _) _ (.inl zo)) _ (.inr rfl);exact aa;exact zA;exact aa;refine kC f29 f30 f31 f2 f1 f0 f8 ao rT EV wW.bQ q1 (atQ q2 ux) ?_;refine ih (i+1) _ _ K zo zo (ah.set (ah.push g _) _ (.inl zo)) zA zA aa zA zA zA zA (λq=>k1 (by simp[q2];simpa using q)) (λx q=>k2 x (by simp[q2];simpa using q));refine kC f29 f30 f31 f2 f1 f0 f8 ao rT EV wW.bQ q1 ux ?_;refine ih (i+1) _ _ K zo zo (ah.set (ah.push g _) _ (.inl zo)) zA zA aa zA zA zA zA (λq=>k1 (by simp[q1];simpa using q)) (λx q=>k2 x (by simp[q1];simpa using q))
  refine key _ 0 _ _ _ rfl zo (ah.set (ah.push (ah.refl _) _) _ (.inl zo)) aa aa aa aa aa aa aa (λq f' h2 g2 f2 f1 f0 f8=>?_) (λx q f' h2 g2 u2 f8 f9=>?_);rw[axq] at q;rw[q] at hk;have eK:h2.get p=_:=(g2.get _ zo id).trans fu;obtain⟨b3,as9,ex3,r3,t3,rfl,rT,Tr,KH⟩:=hd;have n5:=Hp.lt rT rfl;have Ea:h2.get b3=_:=((g01.trans g2).get _ n5 id).trans rT;have KI:=KH j pO;have hj3:(j:Int)<aq.length:=zo;have ajZ:aq.getD j []=aq[j]:=by simp[List.getD,pO]
  rw[ajZ] at hk;refine mz f2 f1 f0 f8 eK Ea KI pO hj3 ?_;refine UI HT (f:=f) (tb:=tb) (by rw[eK];rfl) (ht.mono λq hq _=>(g01.trans g2).get q hq id) (hl _) λh3 g3=>?_;have u3:h3.get h.nx=.one 34 [.i 0,S [],.i 0,.i 0,S []]:=by rw[g3.get _ (by have:=g2.nx;omega) id,g2.get _ zo id];exact u1
  generalize uy (bu aq[j]) nm=o at hk⊢;simp only[lA,aC.row] at hk⊢;refine cC u3 f8 f2 f1 f0 ?_;exact hk _ (ah.set ((g01.trans g2).trans g3) _ (.inl zo));rw[axq] at q;rw[q] at hk;simp only[lA,Option.getD,Option.isSome,aC.row] at hk;refine aU f8 f9 u2 ?_;refine hk _ ⟨at1 g01.nx g2.nx,λq hq _=>?_⟩;rw[g2.get q zo zo,g01.get q hq id]
end
structure Sc where
 bN:cN
 nd:List aC
 us:List dx
structure WS where
 m:KM
 cW:KM
 sc:Sc
structure fM where
 p:Nat
 aG:Nat
 tb:Nat
 wc:Nat
 pc:Nat
 ic:Nat
 j:Nat
 c0:AV
 c1:AV
 c2:AV
 c8:AV
 fs:List Tree
 aq:List (List UInt8)
 bu:List UInt8->List aC
def kj(E:fM)(kind:Int)(nm:List UInt8)(a:Int):aC:=⟨kind,nm,E.j,a,if kind=1 then nm else E.aq.getD E.j []⟩
def UM(f:cN)(m:KM)(d:aC):cN:=if(m d.name).isSome=true then Bp f ⟨d.doc,d.at_,13⟩ else f
def K4(d:aC)(s:Sc):Sc:={s with nd:=d::s.nd}
def HJ(m:KM)(d:aC)(s:Sc):Sc:={s with bN:=UM s.bN m d}
def lD(E:fM)(a:Int)(nm:List UInt8)(o:Option aC)(s:Sc):Sc:={s with us:=s.us++[⟨E.j,a,nm,o.isSome,o.getD qG⟩]}
def HK(d:aC)(s:WS):WS:=⟨rA s.m d.name d,s.cW,HJ s.m d (K4 d s.sc)⟩
def EW(d:aC)(s:WS):WS:=⟨s.m,rA s.cW d.name d,HJ s.cW d (K4 d s.sc)⟩
def K5:List (List UInt8):=[[105,110,116],[98,111,111,108],[115,116,114,105,110,103],[102,108,111,97,116,54,52]]
def qH(E:fM)(ms:List KM)(nm:List UInt8):Option aC:=EU ms E.fs E.aq E.bu E.j nm
def rC(aN:Bool)(ms:List KM)(m:KM):List KM:=if aN=true then m::ms else[]
def tj(E:fM)(t:Tree)(s:WS):WS:=if t.kind=0 then s else HK (kj E 6 t.name t.at) s
mutual
def fU(E:fM)(ms:List KM)(aN:Bool)(ar:KM):Tree->WS->WS
 |.mk kind _ _ a nm kids,s=>
  if kind=5 then
   match kids with
   |[k0,.mk _ _ _ _ _ ps,k2,.mk _ _ _ _ _ bs]=>
    let s2:=oD E ps (tj E k0 ⟨aX,aX,(fU E [] false aX k0 ⟨aX,aX,s.sc⟩).sc⟩)
    let s4:WS:=⟨s2.m,s2.cW,(fU E [] false aX k2 ⟨aX,aX,s2.sc⟩).sc⟩
    ⟨s.m,s.cW,(jF E [aX] true aX bs s4).sc⟩
   |_=>s
  else if kind=10\/kind=15 then
   let s1:=jF E (s.m::ms) true ar kids ⟨aX,s.cW,s.sc⟩
   ⟨s.m,s1.cW,s1.sc⟩
  else if kind=16 then
   jF E ms aN (rA ar nm (kj E 8 nm a)) kids (EW (kj E 8 nm a) s)
  else
   let s1:WS:=if(kind=17\/kind=18)/\nm≠[] then⟨s.m,s.cW,lD E a nm (ar nm) s.sc⟩
    else if(kind=25\/kind=8)/\nm∉K5 then⟨s.m,s.cW,lD E a nm (qH E (rC aN ms s.m) nm) s.sc⟩ else s
   let s2:=jF E ms aN ar kids s1
   if kind=11\/kind=12 then HK (kj E 7 nm a) s2
   else if kind=26\/kind=9 then
    match kids with
    |.mk k' _ _ _ An _::_=>
     if k'=25 then
      match qH E (rC aN ms s2.m) An with
      |some d=>if d.kind=1 then⟨s2.m,s2.cW,lD E a nm (uy (E.bu d.dir) nm) s2.sc⟩ else s2
      |none=>s2
     else s2
    |[]=>s2
   else s2
def jF(E:fM)(ms:List KM)(aN:Bool)(ar:KM):List Tree->WS->WS
 |[],s=>s
 |t::ts,s=>jF E ms aN ar ts (fU E ms aN ar t s)
def oD(E:fM):List Tree->WS->WS
 |[],s=>s
 |t::ts,s=>oD E ts (tj E t ⟨s.m,s.cW,(fU E [] false aX t ⟨aX,aX,s.sc⟩).sc⟩)
end
mutual
def fh(aN:Bool):Tree->Prop
 |.mk kind _ _ _ _ kids=>
  if kind=5 then
   match kids with
   |[k0,.mk _ _ _ _ _ ps,k2,.mk _ _ _ _ _ bs]=>fh false k0/\gi false ps/\fh false k2/\gi true bs
   |_=>False
  else if kind=10\/kind=15 then aN=true/\gi true kids
  else((kind=16\/kind=11\/kind=12)->aN=true)/\((kind=26\/kind=9)->kids≠[])/\gi aN kids
def gi(aN:Bool):List Tree->Prop
 |[]=>True
 |t::ts=>fh aN t/\gi aN ts
end
structure CZ(E:fM)(h:Hp):Prop where
 wc:h.get E.wc=.one 107 [.func ⟨63⟩ [] [.ptr E.wc 0,.ptr E.pc 0,.ptr E.ic 0]]
 pc:h.get E.pc=.one 25 [.ptr E.p 0]
 ic:h.get E.ic=.one 3 [.i E.j]
 nO:Bu h E.tb E.bu
 tl:∀s,(E.bu s).length<1073741824
 fs:lC 0 h E.c1 E.fs
 ds:cY h E.c2 E.aq
 jf:E.j<E.fs.length
 jd:E.j<E.aq.length
 sm:(E.fs.getD E.j zT).kids.length<4294967296
structure EX(E:fM)(h:Hp)(s:Sc):Prop where
 hp:∃v,h.get E.p=.one 52 (bS E.c0 E.c1 E.c2 s.bN (.map E.aG) (.map E.tb) E.c8 v)/\pA h v s.us
 nd:lX h E.aG s.nd
 ne:E.aG≠E.tb
structure BkA(lo:Nat)(h:Hp)(bb kb lb:Nat)(ms:List KM)(s:WS):Prop where
 get:∃par,h.get bb=.one 112 [par,.map kb,.map lb]/\si lb kb h ms par
 mm:MK h kb s.m
 ml:MK h lb s.cW
 l1:lo<=lb
 l2:lb<kb
 l3:kb<bb
section
variable{E:fM}{h h':Hp}{s:WS}{lo bb kb lb:Nat}{ms:List KM}
theorem CZ.mono{M:Nat->Prop}(x:CZ E h)(g:Wf M h h')(hM:∀i,M i->i≠E.tb/\(∀el l,h.get i=.one el l->el=52)
 /\∀el rw r f,h.get i≠.rows el rw r 0 f):CZ E h':=by
 have key:∀i o,h.get i=o->jN o=false->¬M i->¬uw o->h'.get i=o:=λi o e hn hm h3=>by rw[g.get i (Hp.lt e hn) hm (by rw[e];exact h3)];exact e
 have n36:∀el l,¬uw (.one el l):=λel l ⟨_,_,e⟩=>by cases e
 have nf:NF 0 h h':=λi r f _ e=>key i _ e rfl (λm=>(hM i m).2.2 _ _ _ _ e) (λ⟨_,_,e⟩=>by cases e);have m1:∀i el l,h.get i=.one el l->el≠52->¬M i:=λi el l e bg m=>bg ((hM i m).2.1 _ _ e);obtain⟨L,tm,td⟩:=x.nO;refine⟨key _ _ x.wc rfl (m1 _ _ _ x.wc zd) (n36 _ _),key _ _ x.pc rfl (m1 _ _ _ x.pc zd) (n36 _ _),key _ _ x.ic rfl (m1 _ _ _ x.ic zd) (n36 _ _),x.nO.mono λq hq hh=>?_,x.tl,x.fs.nf nf,?_,x.jf,x.jd,x.sm⟩;rcases hh with rfl|⟨r,f,e⟩;obtain⟨⟨aD,e⟩,_⟩:=tm;exact(key _ _ e rfl (λm=>(hM _ m).1 rfl) (λ⟨_,_,e⟩=>by cases e)).trans e.symm;exact(key _ _ e rfl (λm=>(hM _ m).2.2 _ _ _ _ e) (λ⟨_,_,e⟩=>by cases e)).trans e.symm;obtain⟨b,cap,ex,r,t,e1,hb,h1⟩:=x.ds;exact⟨b,cap,ex,r,t,e1,key _ _ hb rfl (λm=>(hM _ m).2.2 _ _ _ _ hb) (λ⟨_,_,e⟩=>by cases e),h1⟩
theorem CZ.g0(x:CZ E h)(g:ax h h'):CZ E h':=x.mono (Wf.of g) λ_ m=>m.elim
end
def WM(E:fM)(aN:Bool)(kb lb:Nat)(i:Nat):Prop:=i=E.p\/i=E.aG\/aN=true/\(i=kb\/i=lb)
def aj0(h:Hp)(lo:Nat)(aN:Bool)(kb lb:Nat)(av:AV)(ar:KM):Prop:=(av=.kQ/\aN=false/\ar=aX)\/∃ai,av=.map ai/\MK h ai ar/\lo<=ai/\(aN=true->ai≠kb/\ai≠lb)
def BkO(lo:Nat)(h:Hp)(aN:Bool)(bb kb lb:Nat)(ms:List KM)(s:WS)(v:AV):Prop:=(aN=false->v=.gJ)/\(aN=true->v=.ptr bb 0/\BkA lo h bb kb lb ms s)
structure gG(E:fM)(lo:Nat)(h:Hp)(aN:Bool)(bb kb lb:Nat)(ms:List KM)(ar:KM)(s:WS)(v av:AV):Prop where
 env:CZ E h
 sc:EX E h s.sc
 bk:BkO lo h aN bb kb lb ms s v
 ar:aj0 h lo aN kb lb av ar
 lo:E.p<lo/\E.aG<lo/\E.tb<lo
def nE(E:fM)(h:Hp)(aN:Bool)(kb lb:Nat)(s:WS)(h':Hp):Prop:=Wf (WM E aN kb lb) h h'/\EX E h' s.sc/\(aN=true->MK h' kb s.m/\MK h' lb s.cW)
def tq(T:aM->Option CF)(E:fM)(t:Tree):Prop:=
 ∀(aN:Bool)(ms:List KM)(ar:KM)(s:WS)(h:Hp)(row:List AV)(v av:AV)(bb kb lb lo:Nat)(k:aK->Prop),
  gG E lo h aN bb kb lb ms ar s v av->ay 0 h t row->rY t->fh aN t->(fU E ms aN ar t s).sc.us.length<1073741824->
  (∀h',nE E h aN kb lb (fU E ms aN ar t s) h'->k (.ret (.bA []) h'))->aE T (W T) ⟨63⟩ [.agg row,v,av,.ptr E.wc 0,.ptr E.pc 0,.ptr E.ic 0] h k
section
variable{E:fM}{h h':Hp}{s s':WS}{lo bb kb lb:Nat}{ms:List KM}{aN:Bool}{ar:KM}{v av:AV}
theorem MK.abK{i:Nat}{m:KM}(x:MK h i m){el l}:h.get i≠.one el l:=by obtain⟨L,⟨⟨aD,q⟩,_⟩,_⟩:=x;rw[q];exact λe=>by cases e
theorem MK.Bv{i:Nat}{m:KM}(x:MK h i m){el rw r z f}:h.get i≠.rows el rw r z f:=by obtain⟨L,⟨⟨aD,q⟩,_⟩,_⟩:=x;rw[q];exact λe=>by cases e
theorem gG.kinds(x:gG E lo h aN bb kb lb ms ar s v av):∀i,WM E aN kb lb i->i≠E.tb/\(∀el l,h.get i=.one el l->el=52)/\∀el rw r f,h.get i≠.rows el rw r 0 f:=by
 obtain⟨vv,hp,_⟩:=x.sc.hp;obtain⟨L,tm,td⟩:=x.env.nO;obtain⟨⟨aD,e⟩,_⟩:=tm;rintro i (rfl|rfl|⟨hB,rfl|rfl⟩);refine⟨λq=>?_,λel l q=>?_,λ_ _ _ _ q=>?_⟩;rw[q] at hp;rw[hp] at e;cases e;rw[hp] at q;cases q;rfl;rw[hp] at q;cases q;obtain⟨L,aD,q,_⟩:=x.sc.nd;exact⟨x.sc.ne,λel l e=>qbe,λ_ _ _ _ e=>qbe⟩;obtain⟨_,y⟩:=x.bk.2 hB;have:=y.l1;have:=y.l2;have:=x.lo
 exact⟨by omega,λel l e=>(y.mm.abK e).elim,λ_ _ _ _ e=>y.mm.Bv e⟩;obtain⟨_,y⟩:=x.bk.2 hB;have:=y.l1;have:=y.l2;have:=x.lo
 exact⟨by omega,λel l e=>(y.ml.abK e).elim,λ_ _ _ _ e=>y.ml.Bv e⟩
theorem gG.nf(x:gG E lo h aN bb kb lb ms ar s v av)(g:Wf (WM E aN kb lb) h h'):NF 0 h h':=λi r f _ e=>by rw[g.get i (Hp.lt e rfl) (λm=>(x.kinds i m).2.2 _ _ _ _ e) qaK];exact e
theorem gG.one(x:gG E lo h aN bb kb lb ms ar s v av)(g:Wf (WM E aN kb lb) h h'){i el l}(e:h.get i=.one el l)(he:el≠52):h'.get i=.one el l:=by rw[g.get i (Hp.lt e rfl) (λm=>he ((x.kinds i m).2.1 _ _ e)) qaK];exact e
theorem gG.next(x:gG E lo h aN bb kb lb ms ar s v av)(p:nE E h aN kb lb s' h'):gG E lo h' aN bb kb lb ms ar s' v av:=by
 obtain⟨g,sc,mm⟩:=p;refine⟨x.env.mono g x.kinds,sc,⟨x.bk.1,λhB=>?_⟩,?_,x.lo⟩;obtain⟨e,y⟩:=x.bk.2 hB;obtain⟨m1,m2⟩:=mm hB;obtain⟨par,e1,e2⟩:=y.get;refine⟨e,⟨par,x.one g e1 zd,si.mono (λq l1 l2 hh=>?_) e2⟩,m1,m2,y.l1,y.l2,y.l3⟩;have:=y.l1;have:=x.lo
 rcases hh with⟨l,e⟩|⟨es,aD,e⟩;exact(x.one g e zd).trans e.symm;refine g.get q (Hp.lt e rfl) ?_ qaK;rintro(rfl|rfl|⟨_,rfl|rfl⟩)<;>omega;rcases x.ar with y|⟨ai,e,m,l,n⟩;exact .inl y;refine .inr ⟨ai,e,m.mono (g.get ai m.lt ?_ ?_),l,n⟩;have:=x.lo;rintro(rfl|rfl|⟨hB,hh⟩);omega;omega;have:=n hB;omega;rintro⟨_,_,q⟩;exact m.Bv q
theorem nE.trans{h2:Hp}{s2:WS}(a:nE E h aN kb lb s' h')(b:nE E h' aN kb lb s2 h2):nE E h aN kb lb s2 h2:=⟨a.1.trans b.1,b.2⟩
theorem gG.self(x:gG E lo h aN bb kb lb ms ar s v av):nE E h aN kb lb s h:=⟨Wf.refl _,x.sc,λhB=>⟨(x.bk.2 hB).2.mm,(x.bk.2 hB).2.ml⟩⟩
theorem EX.g0{s:Sc}(x:EX E h s)(g:ax h h'):EX E h' s:=by obtain⟨v,hp,hn⟩:=x.hp;exact⟨⟨v,(g.get _ (Hp.lt hp rfl) id).trans hp,hn.mono λq hq _=>g.get q hq id⟩,x.nd.mono (g.get _ x.nd.lt id),x.ne⟩
theorem gG.g0(x:gG E lo h aN bb kb lb ms ar s v av)(g:ax h h'):nE E h aN kb lb s h':=
 ⟨Wf.of (ah.cn g),x.sc.g0 g,λhB=>⟨(x.bk.2 hB).2.mm.mono (g.get _ (x.bk.2 hB).2.mm.lt id),(x.bk.2 hB).2.ml.mono (g.get _ (x.bk.2 hB).2.ml.lt id)⟩⟩
theorem UN(t:Tree)(s:WS):(tj E t s).sc.us=s.sc.us:=by unfold tj;split<;>rfl
mutual
theorem HL(E:fM):∀(t:Tree)(ms:List KM)(aN:Bool)(ar:KM)(s:WS),s.sc.us.length<=(fU E ms aN ar t s).sc.us.length
 |.mk kind _ _ a nm kids,ms,aN,ar,s=>by
  unfold fU;split;split;rename_i k0 _ _ _ _ _ ps k2 _ _ _ _ _ bs;have h1:=HL E k0 [] false aX ⟨aX,aX,s.sc⟩;have h2:=UO E ps (tj E k0 ⟨aX,aX,(fU E [] false aX k0 ⟨aX,aX,s.sc⟩).sc⟩);rw[UN] at h2;have h3:=HL E k2 [] false aX ⟨aX,aX,(oD E ps (tj E k0 ⟨aX,aX,(fU E [] false aX k0 ⟨aX,aX,s.sc⟩).sc⟩)).sc⟩;refine at1 h1 (at1 h2 (at1 h3 ?_));simp only;generalize(fU E [] false aX k2 _).sc=q;exact Ao E bs [aX] true aX ⟨_,_,q⟩;exact at2 _;split;simp only;exact Ao E kids (s.m::ms) true ar ⟨aX,s.cW,s.sc⟩;split;exact Ao E kids ms aN (rA ar nm (kj E 8 nm a)) (EW (kj E 8 nm a) s);have e1:∀s1:WS,s.sc.us.length<=s1.sc.us.length->s.sc.us.length<=(jF E ms aN ar kids s1).sc.us.length:=λs1 h=>at1 h (Ao E kids _ _ _ _);have e2:s.sc.us.length<=(jF E ms aN ar kids (if(kind=17\/kind=18)/\nm≠[] then⟨s.m,s.cW,lD E a nm (ar nm) s.sc⟩
   else if(kind=25\/kind=8)/\nm∉K5 then⟨s.m,s.cW,lD E a nm (qH E (rC aN ms s.m) nm) s.sc⟩ else s)).sc.us.length:=by
   refine e1 _ ?_;split;simp[lD];split;simp[lD];exact at2 _
  simp only;split;exact e2;split;split;split;split;split;exact at1 e2 (by simp[lD]);exact e2;exact e2;exact e2;exact e2;exact e2
theorem Ao(E:fM):∀(t:List Tree)(ms:List KM)(aN:Bool)(ar:KM)(s:WS),s.sc.us.length<=(jF E ms aN ar t s).sc.us.length
 |[],_,_,_,_=>at2 _
 |t::ts,ms,aN,ar,s=>by unfold jF;exact at1 (HL E t _ _ _ _) (Ao E ts _ _ _ _)
theorem UO(E:fM):∀(t:List Tree)(s:WS),s.sc.us.length<=(oD E t s).sc.us.length
 |[],_=>at2 _
 |t::ts,s=>by unfold oD;refine at1 ?_ (UO E ts _);rw[UN];exact HL E t _ _ _ ⟨aX,aX,s.sc⟩
end
end
section
variable{E:fM}{lo bb kb lb:Nat}{ms:List KM}{aN:Bool}{ar:KM}{v av:AV}
theorem abL(HT:aA T){n:Nat}{kv:AV}:∀(ts:List Tree)(i:Nat)(s:WS)(h:Hp)(f:Fr)(K:aT->Prop),(∀t∈ts,tq T E t)->i+ts.length=n->n<4294967296->gG E lo h aN bb kb lb ms ar s v av->
 (ts≠[]->∃b cap ex r ff,kv=.slice b 0 6 n cap ex/\h.get b=.rows 39 6 r 0 ff/\n<=r/\∀j,(hj:j<ts.length)->ay 0 h ts[j] (ff (i+j)))->pq ts->gi aN ts->(jF E ms aN ar ts s).sc.us.length<1073741824->
 J 171 f=kv->J 172 f=.i n->J 173 f=.i i->J 1 f=v->J 2 f=av->J 3 f=.ptr E.wc 0->
 (∀f' h',(∀q,q<=6->J q f'=J q f)->nE E h aN kb lb (jF E ms aN ar ts s) h'->K (.exit 7 f' h' []))->W T (.loop l63_0) f h [] K
 |[],i,s,h,f,K,ih,hi,hn,x,hb,sm,ok,us,f1,f2,f3,g1,g2,g3,hk=>by simp only[aup,aud] at hi;subst hi;rw[aP];refine aU f1 f2 f3 ?_;exact hk _ _ (λq hq=>by repeat rw[eG (m:=7) zo zd]) x.self
 |t::ts,i,s,h,f,K,ih,hi,hn,x,hb,sm,ok,us,f1,f2,f3,g1,g2,g3,hk=>by
  obtain⟨b,cap,ex,r,ff,rfl,hb,hr,iW⟩:=hb zm;simp only[atX] at hi;have ao:i<n:=zo;have aY:(i:Int)<n:=zo;have eJ:=iW 0 zm;simp only[aus,aud] at eJ;obtain⟨kv,jE,hkv⟩:=eJ.cells;unfold pq at sm;unfold gi at ok;unfold jF at us hk;have lt:=Hp.lt hb rfl;have C0:=x.env.wc;have lw:=Hp.lt C0 rfl;rw[aP];refine pU f1 f2 f3 g1 g2 g3 ao aY hb jE hkv.bQ C0 ?_;rw[<-jE];generalize hH:((h.push _).set _ _:Hp)=H;have gH:ax h H:=by rw[<-hH];exact fZ
  have x1:=x.next (x.g0 gH);refine ih t zm aN ms ar s H _ v av bb kb lb lo _ x1 (eJ.nf (mY gH) zl) sm.1 ok.1 (auD (Ao E ts _ _ _ _) us) λh1 p1=>?_;have x2:=x1.next p1;have nf:=x1.nf p1.1;refine aS f3 ao ?_;refine abL HT ts (i+1) _ h1 _ K (λt ht=>ih t qat) zo hn x2 (λ_=>⟨b,cap,ex,r,ff,rfl,nf _ _ _ (auz _) ((gH.get _ lt id).trans hb),hr,λj hj=>?_⟩) sm.2 ok.2 us zA zA aa (au g1) (au g2) (au g3) λf' h2 hf p2=>hk f' h2 (λq hq=>?_) (((x.g0 gH).trans p1).trans p2);have:=iW (j+1) zn;simp only[auu,show i+(j+1)=i+1+j by omega] at this;exact(this.nf (mY gH) zl).nf nf zl
  ·rw[hf q hq]
   repeat rw[eG (m:=7) zo zd]
theorem abM(HT:aA T){n:Nat}{kv:AV}:∀(ts:List Tree)(i:Nat)(s:WS)(h:Hp)(f:Fr)(K:aT->Prop),(∀t∈ts,tq T E t)->i+ts.length=n->n<4294967296->gG E lo h aN bb kb lb ms ar s v av->
 (ts≠[]->∃b cap ex r ff,kv=.slice b 0 6 n cap ex/\h.get b=.rows 39 6 r 0 ff/\n<=r/\∀j,(hj:j<ts.length)->ay 0 h ts[j] (ff (i+j)))->pq ts->gi aN ts->(jF E ms aN ar ts s).sc.us.length<1073741824->
 J 82 f=kv->J 83 f=.i n->J 84 f=.i i->J 1 f=v->J 2 f=av->J 3 f=.ptr E.wc 0->
 (∀f' h',(∀q,q<=6->J q f'=J q f)->nE E h aN kb lb (jF E ms aN ar ts s) h'->K (.exit 3 f' h' []))->W T (.loop l63_2) f h [] K
 |[],i,s,h,f,K,ih,hi,hn,x,hb,sm,ok,us,f1,f2,f3,g1,g2,g3,hk=>by simp only[aup,aud] at hi;subst hi;rw[aP];refine aU f1 f2 f3 ?_;exact hk _ _ (λq hq=>by repeat rw[eG (m:=7) zo zd]) x.self
 |t::ts,i,s,h,f,K,ih,hi,hn,x,hb,sm,ok,us,f1,f2,f3,g1,g2,g3,hk=>by
  obtain⟨b,cap,ex,r,ff,rfl,hb,hr,iW⟩:=hb zm;simp only[atX] at hi;have ao:i<n:=zo;have aY:(i:Int)<n:=zo;have eJ:=iW 0 zm;simp only[aus,aud] at eJ;obtain⟨kv,jE,hkv⟩:=eJ.cells;unfold pq at sm;unfold gi at ok;unfold jF at us hk;have lt:=Hp.lt hb rfl;have C0:=x.env.wc;have lw:=Hp.lt C0 rfl;rw[aP];refine pU f1 f2 f3 g1 g2 g3 ao aY hb jE hkv.bQ C0 ?_;rw[<-jE];generalize hH:((h.push _).set _ _:Hp)=H;have gH:ax h H:=by rw[<-hH];exact fZ
  have x1:=x.next (x.g0 gH);refine ih t zm aN ms ar s H _ v av bb kb lb lo _ x1 (eJ.nf (mY gH) zl) sm.1 ok.1 (auD (Ao E ts _ _ _ _) us) λh1 p1=>?_;have x2:=x1.next p1;have nf:=x1.nf p1.1;refine aS f3 ao ?_;refine abM HT ts (i+1) _ h1 _ K (λt ht=>ih t qat) zo hn x2 (λ_=>⟨b,cap,ex,r,ff,rfl,nf _ _ _ (auz _) ((gH.get _ lt id).trans hb),hr,λj hj=>?_⟩) sm.2 ok.2 us zA zA aa (au g1) (au g2) (au g3) λf' h2 hf p2=>hk f' h2 (λq hq=>?_) (((x.g0 gH).trans p1).trans p2);have:=iW (j+1) zn;simp only[auu,show i+(j+1)=i+1+j by omega] at this;exact(this.nf (mY gH) zl).nf nf zl
  ·rw[hf q hq]
   repeat rw[eG (m:=7) zo zd]
end
section
variable{E:fM}{h h':Hp}{s s':WS}{lo bb kb lb:Nat}{ms:List KM}{aN:Bool}{ar:KM}{v av:AV}
theorem gG.fls(x:gG E lo h aN bb kb lb ms ar s v av):gG E lo h false 0 0 0 [] ar ⟨aX,aX,s.sc⟩ .gJ av:=by refine⟨x.env,x.sc,⟨λ_=>rfl,λe=>by cases e⟩,?_,x.lo⟩;rcases x.ar with⟨h1,h2,h3⟩|⟨ai,h1,h2,h3,h4⟩;exact .inl ⟨h1,rfl,h3⟩;exact .inr ⟨ai,h1,h2,h3,λe=>by cases e⟩
theorem gG.mem(x:gG E lo h aN bb kb lb ms ar s v av){i:Nat}(hi:lo<=i){m:KM}(hm:MK h i m){M:Nat->Prop}(hM:∀j,M j->j=E.p\/j=E.aG) (g:Wf M h h'):MK h' i m:=
 hm.mono (g.get i hm.lt (λq=>by have:=x.lo;rcases hM _ q with rfl|rfl<;>omega) (by rintro⟨_,_,q⟩;exact hm.Bv q))
theorem gG.abN(x:gG E lo h aN bb kb lb ms ar s v av)(p:nE E h false 0 0 s' h'):nE E h aN kb lb ⟨s.m,s.cW,s'.sc⟩ h':=by
 obtain⟨g,sc,_⟩:=p;have hM:∀j,WM E false 0 0 j->j=E.p\/j=E.aG:=by rintro j (q|q|⟨q,_⟩);exact .inl q;exact .inr q;cases q
 refine⟨g.mono λj _ q=>?_,sc,λhB=>?_⟩;rcases hM j q with q|q;exact .inl q;exact .inr (.inl q);obtain⟨e,y⟩:=x.bk.2 hB;have:=y.l1;have:=y.l2
 exact⟨x.mem zo y.mm hM g,x.mem zo y.ml hM g⟩
theorem gG.UP(x:gG E lo h aN bb kb lb ms ar s v av){d:aC}(g:ah (·=E.aG) h h')(hn:lX h' E.aG (d::s.sc.nd)):nE E h aN kb lb ⟨s.m,s.cW,K4 d s.sc⟩ h':=by
 obtain⟨vv,hp,sk⟩:=x.sc.hp;have bg:E.p≠E.aG:=by obtain⟨L,aD,q,_⟩:=x.sc.nd;intro e;rw[e,q] at hp;cases hp
 refine⟨Wf.of (g.mono λ_ _ q=>.inr (.inl q)),⟨⟨vv,(g.get _ (Hp.lt hp rfl) bg).trans hp,sk.nC g ?_⟩,hn,x.sc.ne⟩,λhB=>?_⟩;rintro q rfl ⟨_,_,e⟩;obtain⟨L,aD,q,_⟩:=x.sc.nd;rw[q] at e;cases e;obtain⟨e,y⟩:=x.bk.2 hB;have:=y.l1;have:=y.l2
 exact⟨x.mem zo y.mm (λ_ q=>.inr q) (Wf.of g),x.mem zo y.ml (λ_ q=>.inr q) (Wf.of g)⟩
theorem gG.abO(x:gG E lo h aN bb kb lb ms ar s v av)(hB:aN=true){d:aC}{vv:AV}(A0:h.get E.p=.one 52 (bS E.c0 E.c1 E.c2 s.sc.bN (.map E.aG) (.map E.tb) E.c8 vv))(sk:pA h vv s.sc.us)(g:ah (λj=>j=E.p\/j=kb) h h')
 (hp:h'.get E.p=.one 52 (bS E.c0 E.c1 E.c2 (UM s.sc.bN s.m d) (.map E.aG) (.map E.tb) E.c8 vv)) (hm:MK h' kb (rA s.m d.name d)):nE E h aN kb lb ⟨rA s.m d.name d,s.cW,HJ s.m d s.sc⟩ h':=by
 obtain⟨e,y⟩:=x.bk.2 hB;have:=y.l1;have:=y.l2;have cK:=x.lo
 refine⟨Wf.of (g.mono λ_ _ q=>?_),⟨⟨vv,hp,sk.nC g ?_⟩,x.sc.nd.mono (g.get _ x.sc.nd.lt ?_),x.sc.ne⟩,λ_=>⟨hm,y.ml.mono (g.get _ y.ml.lt ?_)⟩⟩;rcases q with q|q;exact .inl q;exact .inr (.inr ⟨hB,.inl q⟩);rintro q (rfl|rfl) ⟨_,_,e⟩;rw[A0] at e;cases e;exact y.mm.Bv e;rintro(q|q);obtain⟨L,aD,w,_⟩:=x.sc.nd;rw[q] at w;rw[A0] at w;cases w;omega;rintro(q|q)<;>omega
theorem gG.aj1(x:gG E lo h aN bb kb lb ms ar s v av)(hB:aN=true){d:aC}{vv:AV}(A0:h.get E.p=.one 52 (bS E.c0 E.c1 E.c2 s.sc.bN (.map E.aG) (.map E.tb) E.c8 vv))(sk:pA h vv s.sc.us)(g:ah (λj=>j=E.p\/j=lb) h h')
 (hp:h'.get E.p=.one 52 (bS E.c0 E.c1 E.c2 (UM s.sc.bN s.cW d) (.map E.aG) (.map E.tb) E.c8 vv)) (hm:MK h' lb (rA s.cW d.name d)):nE E h aN kb lb ⟨s.m,rA s.cW d.name d,HJ s.cW d s.sc⟩ h':=by
 obtain⟨e,y⟩:=x.bk.2 hB;have:=y.l1;have:=y.l2;have cK:=x.lo
 refine⟨Wf.of (g.mono λ_ _ q=>?_),⟨⟨vv,hp,sk.nC g ?_⟩,x.sc.nd.mono (g.get _ x.sc.nd.lt ?_),x.sc.ne⟩,λ_=>⟨y.mm.mono (g.get _ y.mm.lt ?_),hm⟩⟩;rcases q with q|q;exact .inl q;exact .inr (.inr ⟨hB,.inr q⟩);rintro q (rfl|rfl) ⟨_,_,e⟩;rw[A0] at e;cases e;exact y.ml.Bv e;rintro(q|q);obtain⟨L,aD,w,_⟩:=x.sc.nd;rw[q] at w;rw[A0] at w;cases w;omega;rintro(q|q)<;>omega
theorem gG.UQ(x:gG E lo h aN bb kb lb ms ar s v av){sc:Sc}{v':AV}(g:Wf (·=E.p) h h')(hn:pA h' v' sc.us)(e1:sc.bN=s.sc.bN)(e2:sc.nd=s.sc.nd)
 (hp:h'.get E.p=.one 52 (bS E.c0 E.c1 E.c2 s.sc.bN (.map E.aG) (.map E.tb) E.c8 v')):nE E h aN kb lb ⟨s.m,s.cW,sc⟩ h':=by
 have bg:E.aG≠E.p:=by obtain⟨L,aD,q,_⟩:=x.sc.nd;obtain⟨vv,hp,sk⟩:=x.sc.hp;intro e;rw[<-e,q] at hp;cases hp
 have h36:¬uw (h.get E.aG):=by rintro⟨_,_,e⟩;obtain⟨L,aD,q,_⟩:=x.sc.nd;rw[q] at e;cases e
 refine⟨g.mono λ_ _ q=>.inl q,⟨⟨v',by rw[e1];exact hp,hn⟩,by rw[e2];exact x.sc.nd.mono (g.get _ x.sc.nd.lt bg h36),x.sc.ne⟩,λhB=>?_⟩;obtain⟨e,y⟩:=x.bk.2 hB;have:=y.l1;have:=y.l2
 exact⟨x.mem zo y.mm (λ_ q=>.inl q) g,x.mem zo y.ml (λ_ q=>.inl q) g⟩
end
section
variable{E:fM}{lo bb kb lb:Nat}{ms:List KM}{aN:Bool}{v av:AV}
theorem abP(HT:aA T){n:Nat}{kv:AV}:∀(ts:List Tree)(i:Nat)(s:WS)(h:Hp)(f:Fr)(K:aT->Prop),(∀t∈ts,tq T E t)->i+ts.length=n->n<8589934592->gG E lo h true bb kb lb ms aX s v av->
 (ts≠[]->∃b cap ex r ff,kv=.slice b 0 6 n cap ex/\h.get b=.rows 39 6 r 0 ff/\n<=r/\∀j,(hj:j<ts.length)->ay 0 h ts[j] (ff (i+j)))->pq ts->gi false ts->(oD E ts s).sc.us.length<1073741824->
 J 47 f=kv->J 48 f=.i n->J 49 f=.i i->J 1 f=v->J 2 f=av->J 3 f=.ptr E.wc 0->J 4 f=.ptr E.pc 0->J 5 f=.ptr E.ic 0->
 (∀f' h',(∀q,q<=6->J q f'=J q f)->nE E h true kb lb (oD E ts s) h'->K (.exit 1 f' h' []))->W T (.loop l63_3) f h [] K
 |[],i,s,h,f,K,ih,hi,hn,x,hb,sm,ok,us,f1,f2,f3,g1,g2,g3,g4,g5,hk=>by simp only[aup,aud] at hi;subst hi;rw[aP];refine aU f1 f2 f3 ?_;exact hk _ _ (λq hq=>by repeat rw[eG (m:=7) zo zd]) x.self
 |t::ts,i,s,h,f,K,ih,hi,hn,x,hb,sm,ok,us,f1,f2,f3,g1,g2,g3,g4,g5,hk=>by
  obtain⟨b,cap,ex,r,ff,rfl,hb,hr,iW⟩:=hb zm;simp only[atX] at hi;have ao:i<n:=zo;have aY:(i:Int)<n:=zo;have eJ:=iW 0 zm;simp only[aus,aud] at eJ;obtain⟨kv,jE,hkv⟩:=eJ.cells;unfold pq at sm;unfold gi at ok;unfold oD at us hk;have lt:=Hp.lt hb rfl;have C0:=x.env.wc;have lw:=Hp.lt C0 rfl;rw[aP];refine pU f1 f2 f3 g1 g2 g3 ao aY hb jE hkv.bQ C0 ?_;rw[<-jE];generalize hH:((h.push _).set _ _:Hp)=H;have gH:ax h H:=by rw[<-hH];exact fZ
  have eN:H.get h.nx=.one 39 (ff i):=by rw[<-hH,Hp.bR rfl]
  have x1:=x.next (x.g0 gH);have UR:(fU E [] false aX t ⟨aX,aX,s.sc⟩).sc.us.length<1073741824:=by refine auD ?_ us;refine at1 ?_ (UO E ts _);rw[UN];exact at2 _
  refine ih t zm false [] aX ⟨aX,aX,s.sc⟩ H _ .gJ av 0 0 0 lo _ x1.fls (eJ.nf (mY gH) zl) sm.1 ok.1 UR λh1 p1=>?_;have p1':=x1.abN p1;have x2:=x1.next p1';have nf:=x1.nf p1'.1;have eN1:=x1.one p1'.1 eN zd;have qW:=nf _ _ _ (auz _) ((gH.get _ lt id).trans hb);have CG:∀(f2':Fr)(h2:Hp)(s2:WS),(∀q,q<=6->J q f2'=J q f)->nE E h1 true kb lb s2 h2->s2=tj E t ⟨s.m,s.cW,(fU E [] false aX t ⟨aX,aX,s.sc⟩).sc⟩->J 47 f2'=.slice b 0 6 n cap ex->J 48 f2'=.i n->J 49 f2'=.i (i+1)->W T (.loop l63_3) f2' h2 [] K:=by rintro f2' h2 s2 hq p2 rfl f1' aj2 f3';have Ex:=x2.nf p2.1;refine abP HT ts (i+1) _ h2 _ K (λt ht=>ih t qat) zo hn (x2.next p2) (λ_=>⟨b,cap,ex,r,ff,rfl,Ex _ _ _ (auz _) qW,hr,λj hj=>?_⟩) sm.2 ok.2 us f1' aj2 (by rw[f3'];rfl) ((hq 1 zd).trans g1) ((hq 2 zd).trans g2) ((hq 3 zd).trans g3) ((hq 4 zd).trans g4) ((hq 5 zd).trans g5) λf' h3 hf p3=>hk f' h3 (λq Ci=>?_) ((((x.g0 gH).trans p1').trans p2).trans p3);have:=iW (j+1) zn;simp only[auu,show i+(j+1)=i+1+j by omega] at this;exact((this.nf (mY gH) zl).nf nf zl).nf Ex zl;rw[hf q Ci,hq q Ci]
  by_cases ek:t.kind=0
  ·refine cC f3 ao eN1 jE ek ?_;refine CG _ h1 _ (λq hq=>?_) x2.self (by unfold tj;rw[atV ek]) zA zA aa
   repeat rw[eG (m:=7) zo zd]
  ·obtain⟨ev,y⟩:=x2.bk.2 rfl;obtain⟨par,eb,ch⟩:=y.get;obtain⟨vv,hp,sk⟩:=x2.sc.hp;have dj:=hp;simp only[bS] at dj;have sn:=x2.env.pc;have fR:=x2.env.ic;subst ev;refine pU f3 ao eN1 jE ek g1 g2 g4 g5 eb sn fR ?_;refine CV HT (p:=E.p) (aG:=E.aG) (j:=E.j) (c0:=E.c0) (c1:=E.c1) (c2:=E.c2) (c7:=.map E.tb) (c8:=E.c8) (c9:=vv) (N:=(fU E [] false aX t ⟨aX,aX,s.sc⟩).sc.nd) hp x2.sc.nd x2.env.ds x2.env.jd λh2 gn cZ=>?_;have en:kj E 6 t.name t.at=⟨6,t.name,E.j,t.at,if(6:Int)=1 then t.name else E.aq[E.j]'x2.env.jd⟩:=by simp[kj,List.getD,x2.env.jd]
   rw[<-en] at cZ⊢;have p2:=x2.UP gn cZ;have x3:=x2.next p2;obtain⟨US,eK,UT⟩:=x3.sc.hp;have HM:=x2.one p2.1 eb zd;have uz:=x3.env.pc;have y3:=(x3.bk.2 rfl).2;have ek2:tj E t ⟨s.m,s.cW,(fU E [] false aX t ⟨aX,aX,s.sc⟩).sc⟩=HK (kj E 6 t.name t.at) ⟨s.m,s.cW,(fU E [] false aX t ⟨aX,aX,s.sc⟩).sc⟩:=by unfold tj;rw[atS ek]
   generalize kj E 6 t.name t.at=d at*;simp only[aC.row];refine aS HM uz ?_;refine UF (d:=d) HT (p:=E.p) (i:=kb) (m:=s.m) (c0:=E.c0) (c1:=E.c1) (c2:=E.c2) (c6:=.map E.aG) (c7:=.map E.tb) (c8:=E.c8) (c9:=US) (f:=(fU E [] false aX t ⟨aX,aX,s.sc⟩).sc.bN) eK y3.mm λh3 g3 kF yl=>?_;have p3:=x3.abO rfl (d:=d) eK UT g3 kF yl;refine aS f3 ao ?_;refine CG _ h3 _ (λq hq=>?_) (p2.trans p3) (by rw[ek2];rfl) zA zA zA
   repeat rw[eG (m:=7) zo zd]
end
theorem abQ:∀(n:Nat)(l:List (List UInt8)){x:AV}{r':List AV},BU n (l.map S)=some (x,r')->∃e r,x=S e/\r'=r.map S/\(e::r).Perm l
 |_,[],_,_,h=>by simp[BU] at h
 |0,a::l,x,r',h=>by simp only[aul,BU,atU,avj] at h;exact⟨a,l,h.1.symm,h.2.symm,awU _⟩
 |n+1,a::l,x,r',h=>by simp only[aul,BU] at h;split at h;rename_i y q hq;obtain⟨e,r,rfl,rfl,hp⟩:=abQ n l hq;simp only[atU,avj] at h;refine⟨e,a::r,h.1.symm,h.2.symm.trans zm,?_⟩;exact(List.Perm.swap a e r).trans (hp.cons a);cases h
theorem UU{ek:EK}{h:Hp}{i m aD:Nat}{l:List (List UInt8)}:∀(n c:Nat){h':Hp},h'∈AK ek h i m aD (l.map S) n c->∃e r,(e::r).Perm l/\h'=h.set i (.jx ek m aD (r.map S) (some (S e)))
 |0,_,_,hx=>by simp[AK] at hx
 |n+1,c,h',hx=>by simp only[AK] at hx;split at hx;rename_i e r hq;rcases atZ.1 hx with rfl|hx;obtain⟨e,r,rfl,rfl,hp⟩:=abQ c l hq;exact⟨e,r,hp,rfl⟩;exact UU n _ hx;exact UU n _ hx
section
variable{cf:mj}{kp:aT->Prop}{ds:List Df}{dst:Option Nat}{f:Fr}{h:Hp}{k:AR}
theorem C1{ek:EK}{it m aD:Nat}{todo:List (List UInt8)}{eC:Option AV}{es:List (AV×AV)}(gV:h.get it=.jx ek m aD (todo.map S) eC)(hm:h.get m=.map es aD)
 (k0:todo=[]->k ds (put dst (.bA [.bool false]) f) h)
 (k1:∀e r,(e::r).Perm todo->k ds (put dst wm f) (h.set it (.jx ek m aD (r.map S) (some (S e))))):sG cf kp ds dst f h (BV h (.ptr it 0) false) k:=by
 unfold BV;simp only[gV,hm,tZ,auS,cond]
 match todo,k0,k1 with
 |[],k0,_=>exact k0 rfl
 |[a],_,k1=>exact k1 a [] (awU _)
 |a::b::l,_,k1=>
  show Jg _ _;intro h' hx;obtain⟨e,r,hp,rfl⟩:=UU _ _ hx;exact k1 e r hp
theorem OC{it m aD:Nat}{todo:List AV}{e:List UInt8}{v:AV}{L:SL}(gV:h.get it=.jx (.cell .str) m aD todo (some (S e)))(hm:h.get m=.map (di L) aD)(hn:(cD L).Nodup)(hv:eV L e=some v):FU h (.ptr it 0)=.v (.bA [S e,v]):=by unfold FU;simp only[gV,hm,tZ,auS,Qa,Bool.not_false,avl,cond,UB L hn,hv]
theorem abR:∀L:SL,FR (di L)=(cD L).map S
 |[]=>rfl
 |(a,v)::L=>by have:=abR L;simp only[di,cD] at this;simp only[di,aul,FR,cD,this]
theorem OD{m aD:Nat}{L:SL}(hm:h.get m=.map (di L) aD):FT (.cell .str) h (.map m)=.vh (.ptr h.nx 0) (h.push (.jx (.cell .str) m aD ((cD L).map S) none)):=by unfold FT;simp only[Qb,cond,hm,abR,alloc]
end
section
variable{ar:KM}{ai:Nat}
theorem aj3(HT:aA T){L:SL}{it aD wi:Nat}(hL:∀s,eV L s=(ar s).map λd=>.agg d.row) (hn:(cD L).Nodup) (Tu:ai≠wi):∀(n:Nat)(todo:List (List UInt8))(Q:SL)(h:Hp)(eC:Option AV)(f:Fr)(K:aT->Prop),todo.length=n->
 h.get ai=.map (di L) aD->h.get it=.jx (.cell .str) ai aD (todo.map S) eC->iV h wi Q->todo.Nodup->(∀s∈todo,(eV L s).isSome=true)->(∀s,eV Q s=if s∈todo then none else eV L s)->
 J 114 f=.ptr it 0->J 14 f=.map wi->
 (∀f' h' Q',(∀q,q<=14->J q f'=J q f)->ah (λj=>j=it\/j=wi) h h'->iV h' wi Q'->(∀s,eV Q' s=eV L s)->K (.exit 5 f' h' []))->W T (.loop l63_1) f h [] K:=by
 intro n
 induction n with
 |zero=>
  intro todo Q h eC f K bz ha hi hw dB gD hW f1 f2 hk;obtain rfl:=avW.1 bz;rw[aP];refine aB f1 ?_;refine C1 hi ha (λ_=>?_) (λe r hp=>absurd hp.length_eq zm);refine ag ?_;refine hk _ h Q (λq hq=>by repeat rw[eG (m:=15) zo zd]) (ah.refl _) hw λs=>by rw[hW];simp
 |succ n ih=>
  intro todo Q h eC f K bz ha hi hw dB gD hW f1 f2 hk;rw[aP];refine aB f1 ?_;refine C1 hi ha (λe=>by subst e;simp at bz) (λe r hp=>?_);have he:e∈todo:=hp.mem_iff.1 zm;have Bw:(e::r).Nodup:=hp.nodup_iff.2 dB;obtain⟨d,hd⟩:∃d,ar e=some d:=by
   have:=gD e he;rw[hL] at this;cases q:ar e with
   |none=>rw[q] at this;cases this
   |some d=>exact⟨d,rfl⟩
  have hv:eV L e=some (.agg d.row):=by rw[hL,hd];rfl
  have l1:=Hp.lt ha rfl;have l2:=Hp.lt hi rfl;have l3:=hw.lt;have zV:ai≠it:=by rintro rfl;rw[ha] at hi;cases hi
  have N5:it≠wi:=by rintro rfl;obtain⟨⟨_,q⟩,_⟩:=hw;rw[hi] at q;cases q
  have en:=OC (h:=h.set it (.jx (.cell .str) ai aD (r.map S) (some (S e)))) (it:=it) (e:=e) (v:=.agg d.row) (Hp.bR rfl) (by rw[Hp.de zV];exact ha) hn hv;have ed:e.length=e.length:=rfl;simp only[wm];refine bK f1 f2 en aC.row.eq_1 ?_;generalize hH:(((h.set _ _).push _).set _ _:Hp)=H;have gH:ah (·=it) h H:=by rw[<-hH];exact aZ
  have u1:H.get it=.jx (.cell .str) ai aD (r.map S) (some (S e)):=by rw[<-hH];simp(disch:=first|exact bh|fail)
  have u2:H.get h.nx=.one 34 [.i d.kind,S d.name,.i d.doc,.i d.at_,S d.dir]:=by rw[<-hH];simp(disch:=omega)
  have hwH:iV H wi Q:=hw.mono (gH.get _ l3 (Ne.symm N5));have haH:H.get ai=.map (di L) aD:=(gH.get _ l1 zV).trans ha;obtain⟨o,eo,fo⟩:=hwH.pE (s:=e) (v:=.agg d.row);simp only[aC.row] at eo;refine aS u2 eo ?_;refine ih r (mA Q e (.agg d.row)) _ (some (S e)) _ K ?_ (by rw[Hp.de Tu];exact haH) (by rw[Hp.de N5];exact u1) (fo _ (Hp.bR rfl)) (au6.1 Bw).2 (λs hs=>gD s (hp.mem_iff.1 (by simp[hs]))) (λs=>?_) zA zA λf' h' Q' hf g' mZ hQ'=>hk f' h' Q' (λq hq=>?_) ?_ mZ hQ';have:=hp.length_eq;simp at this;omega;rw[Bq,hW]
  by_cases q:s=e
  subst q;have:=(au6.1 Bw).1;rw[atV rfl,atS this,hv];rw[atS q];have:s∈todo <-> s∈r:=by rw[<-hp.mem_iff];simp[q]
  simp only[this]
  ·rw[hf q hq]
   repeat rw[eG (m:=15) zo zd]
  exact((gH.mono λ_ _ q=>.inl q).set _ (.inr (.inr rfl))).trans g'
end
def qI(E:fM)(ms:List KM)(aN:Bool)(kind a:Int)(nm:List UInt8)(kids:List Tree)(s2:WS):WS:=
 if kind=11\/kind=12 then HK (kj E 7 nm a) s2
 else if kind=26\/kind=9 then
  match kids with
  |.mk k' _ _ _ An _::_=>
   if k'=25 then
    match qH E (rC aN ms s2.m) An with
    |some d=>if d.kind=1 then⟨s2.m,s2.cW,lD E a nm (uy (E.bu d.dir) nm) s2.sc⟩ else s2
    |none=>s2
   else s2
  |[]=>s2
 else s2
section
variable{E:fM}{lo bb kb lb:Nat}{ms:List KM}{aN:Bool}{ar:KM}{v av:AV}
theorem gG.chn{s:WS}{h:Hp}(x:gG E lo h aN bb kb lb ms ar s v av):∃hi,si (if aN=true then lb else 0) hi h (rC aN ms s.m) v:=by
 cases aN with
 |false=>
  obtain rfl:=x.bk.1 rfl;exact⟨0,rfl⟩
 |true=>
  obtain⟨rfl,y⟩:=x.bk.2 rfl;obtain⟨par,e,c⟩:=y.get;have:=y.l2;have:=y.l3
  refine⟨bb+1,bb,par,.map kb,.map lb,rfl,e,by simp;omega,by omega,.inr ⟨kb,rfl,by simp;omega,by omega,y.mm⟩,by simpa using c.up zo⟩
theorem aj4(HT:aA T){k:aK->Prop}{t:Tree}{nc:Nat}{s:WS}{h:Hp}{f:Fr}{row:List AV}(x:gG E lo h aN bb kb lb ms ar s v av)(hr:h.get nc=.one 39 row)(hn:ay 0 h t row)(rB:rY t)
 (hB:(t.kind=11\/t.kind=12)->aN=true) (bg:(t.kind=26\/t.kind=9)->t.kids≠[]) (us:(qI E ms aN t.kind t.at t.name t.kids s).sc.us.length<1073741824)
 (f1:J 1 f=v) (f4:J 4 f=.ptr E.pc 0) (f5:J 5 f=.ptr E.ic 0) (f6:J 6 f=.ptr nc 0)
 (hk:∀h',nE E h aN kb lb (qI E ms aN t.kind t.at t.name t.kids s) h'->k (.ret (.bA []) h')):W T (CC.seq (.af r63_46) (.block 9 (.seq (.seq (.af r63_47) (.cond (.t 185) .skip (.af r63_48))) (.cond (.t 185) (.aR r63_49) (.seq (.seq (.af r63_50) (.cond (.t 198) .skip (.af r63_51))) (.cond (.t 198) QL .skip)))))) f h [] (finish T (W T) [] k):=by
 obtain⟨kv,rfl,hkv⟩:=hn.cells;have sn:=x.env.pc;have fR:=x.env.ic
 by_cases c1:t.kind=11\/t.kind=12
 have hB:=hB c1;subst hB;unfold qI at hk;rw[atV c1] at hk;obtain⟨rfl,y⟩:=x.bk.2 rfl;obtain⟨par,eb,ch⟩:=y.get;obtain⟨vv,hp,sk⟩:=x.sc.hp;have hd:t.kind=11\/¬t.kind=11/\t.kind=12:=zo;have go:∀f',J 1 f'=.ptr bb 0->J 4 f'=.ptr E.pc 0->J 5 f'=.ptr E.ic 0->J 6 f'=.ptr nc 0->W T (.aR r63_49) f' h [] (bY 9 (finish T (W T) [] k)):=λf' f1 f4 f5 f6=>by
  refine fY f1 f4 f5 f6 hr eb sn fR ?_;refine CV HT (p:=E.p) (aG:=E.aG) (j:=E.j) (c0:=E.c0) (c1:=E.c1) (c2:=E.c2) (c7:=.map E.tb) (c8:=E.c8) (c9:=vv) (N:=s.sc.nd) hp x.sc.nd x.env.ds x.env.jd λh2 gn cZ=>?_;have en:kj E 7 t.name t.at=⟨7,t.name,E.j,t.at,if(7:Int)=1 then t.name else E.aq[E.j]'x.env.jd⟩:=by simp[kj,List.getD,x.env.jd]
  rw[<-en] at cZ⊢;have p2:=x.UP gn cZ;have x3:=x.next p2;obtain⟨US,eK,UT⟩:=x3.sc.hp;have HM:=x.one p2.1 eb zd;have uz:=x3.env.pc;have y3:=(x3.bk.2 rfl).2;generalize kj E 7 t.name t.at=d at*;simp only[aC.row];refine aS HM uz ?_;refine UF (d:=d) HT (p:=E.p) (i:=kb) (m:=s.m) (c0:=E.c0) (c1:=E.c1) (c2:=E.c2) (c6:=.map E.aG) (c7:=.map E.tb) (c8:=E.c8) (c9:=US) (f:=s.sc.bN) eK y3.mm λh3 g3 kF yl=>?_;have p3:=x3.abO rfl (d:=d) eK UT g3 kF yl;refine ag ?_;exact hk _ (p2.trans p3)
 generalize hD:CC.aR r63_49=D at go⊢;rcases hd with c|⟨c,c'⟩;refine aU f6 hr c ?_;exact go _ zA zA zA zA;refine bK f6 hr c c' ?_;exact go _ zA zA zA zA
 by_cases c2:t.kind=26\/t.kind=9
 have bg:=bg c2;unfold qI at hk us;rw[atS c1,atV c2] at hk us;have hd:t.kind=26\/¬t.kind=26/\t.kind=9:=zo;have n1:¬t.kind=11:=zo;have n2:¬t.kind=12:=zo;generalize hD:QL=D;have go:∀f',J 1 f'=v->J 4 f'=.ptr E.pc 0->J 5 f'=.ptr E.ic 0->J 6 f'=.ptr nc 0->W T D f' h [] (bY 9 (finish T (W T) [] k)):=λf' f1 f4 f5 f6=>by
  subst hD;obtain⟨k0,ks,ek⟩:∃k0 ks,t.kids=k0::ks:=by cases q:t.kids with|nil=>exact absurd q bg|cons a b=>exact⟨a,b,rfl⟩
  rcases hkv with⟨q,_⟩|⟨_,b,cap,ex,r,ff,rfl,hb,Bg,iW⟩;exact absurd q bg;rw[ek] at hk us Bg iW;have eJ:=iW 0 zm;simp only[aus] at eJ;obtain⟨OE,e0,C2⟩:=eJ.cells;have lb0:=Hp.lt hb rfl;have lr:=Hp.lt hr rfl;have OF:=Hp.lt sn rfl;have lic:=Hp.lt fR rfl;have e0':ff 0=[.i k0.kind,.i k0.ak,.i k0.to,.i k0.at,S k0.name,OE]:=e0;have bz:t.kids.length=ks.length+1:=by rw[ek];simp
  simp only[atX] at Bg;have mO:(0:Int)<t.kids.length:=zo;have ata:0<t.kids.length:=zo;have oh:(match(k0::ks:List Tree) with
   |.mk k' _ _ _ An _::_=>if k'=25 then(match qH E (rC aN ms s.m) An with|some d=>if d.kind=1 then⟨s.m,s.cW,lD E t.at t.name (uy (E.bu d.dir) t.name) s.sc⟩ else s|none=>s) else s
   |[]=>s:WS)=if k0.kind=25 then(match qH E (rC aN ms s.m) k0.name with|some d=>if d.kind=1 then⟨s.m,s.cW,lD E t.at t.name (uy (E.bu d.dir) t.name) s.sc⟩ else s|none=>s) else s:=by
   cases k0;rfl
  rw[oh] at hk us
  by_cases c3:k0.kind=25
  rw[atV c3] at hk us;refine pU f1 f4 f5 f6 hr bz hb e0' C2.bQ sn fR c3 ?_;generalize hH:((h.push _).set _ _:Hp)=H;have gH:ax h H:=by rw[<-hH];exact fZ
  have p1:=x.g0 gH;have x1:=x.next p1;obtain⟨Ki,UW⟩:=x1.chn;obtain⟨vv,fu,K6⟩:=x1.sc.hp;have UX:qH E (rC aN ms s.m) k0.name=EU (rC aN ms s.m) E.fs E.aq E.bu E.j k0.name:=rfl;refine abJ HT (p:=E.p) (tb:=E.tb) (j:=E.j) (fs:=E.fs) (aq:=E.aq) (bu:=E.bu) fu x1.env.nO x1.env.tl x1.env.fs x1.env.ds x1.env.jf x1.env.jd x1.env.sm UW λh2 g2=>?_;rw[<-UX];have p2:=x1.g0 g2;have x2:=x1.next p2;have lU:=x1.one p2.1 (x.one p1.1 hr zd) zd;have uz:=x2.env.pc;have K7:=x2.env.ic;cases GJ:qH E (rC aN ms s.m) k0.name with
  |none=>
   rw[GJ] at hk;simp only[lA,Option.getD,Option.isSome,aC.row];refine ag ?_;exact hk _ ((p1.trans p2).trans (x2.g0 fZ))
  |some d=>
   rw[GJ] at hk us;simp only[lA,Option.getD,Option.isSome,aC.row]
   by_cases c4:d.kind=1
   simp only[c4,auo] at hk us;have lr2:=Hp.lt lU rfl;have abS:=Hp.lt uz rfl;have aj5:=Hp.lt K7 rfl;refine fY c4 f1 f4 f5 f6 lU uz K7 ?_;generalize oF:((h2.push _).set _ _:Hp)=H3;have uA:ax h2 H3:=by rw[<-oF];exact fZ
   have p3:=x2.g0 uA;have x3:=x2.next p3;obtain⟨UY,kF,OG⟩:=x3.sc.hp;refine UI HT (p:=E.p) (tb:=E.tb) (bu:=E.bu) kF x3.env.nO (x3.env.tl _) λh4 g4=>?_;have p4:=x3.g0 g4;have x4:=x3.next p4;have CE:=x3.one p4.1 (x2.one p3.1 lU zd) zd;have abT:=x4.env.pc;have abU:=x4.env.ic;have lr4:=Hp.lt CE rfl;have atb:=Hp.lt abT rfl;have atc:=Hp.lt abU rfl;generalize ho:uy (E.bu d.dir) t.name=o at hk us⊢;simp only[lA,aC.row];refine iR f1 f4 f5 f6 CE abT abU ?_;generalize Ap:((h4.push _).set _ _:Hp)=H5;have gH5:ax h4 H5:=by rw[<-Ap];exact fZ
   have p5:=x4.g0 gH5;have x5:=x4.next p5;obtain⟨vv5,OH,aj6⟩:=x5.sc.hp;refine UH HT (d:=o.getD qG) (p:=E.p) (doc:=E.j) OH aj6 (by simp[lD] at us;omega) λh6 v6 g6 K8 yH=>?_;have p6:=x5.UQ (sc:=lD E t.at t.name o s.sc) g6 K8 rfl rfl yH;refine ag ?_;exact hk _ (((((p1.trans p2).trans p3).trans p4).trans p5).trans p6);simp only[c4,auM] at hk;refine aB c4 ?_;exact hk _ ((p1.trans p2).trans (x2.g0 fZ))
  rw[atS c3] at hk us;refine pU f1 f4 f5 f6 hr bz hb e0' C2.bQ sn fR c3 ?_;exact hk _ (x.g0 fZ)
 rcases hd with c|⟨c,c'⟩;refine aU f6 hr c ?_;exact go _ zA zA zA zA;refine bK f6 hr c c' ?_;exact go _ zA zA zA zA;unfold qI at hk;rw[atS c1,atS c2] at hk;have n1:¬t.kind=11:=zo;have n2:¬t.kind=12:=zo;have n3:¬t.kind=26:=zo;have n4:¬t.kind=9:=zo;refine cq f6 hr n1 n2 n3 n4 ?_;exact hk _ x.self
end
theorem lC.rows{lo:Nat}{h:Hp}{v:AV}{ts:List Tree}(x:lC lo h v ts)(bg:ts≠[]):∃b cap ex r ff,v=.slice b 0 6 ts.length cap ex/\h.get b=.rows 39 6 r 0 ff/\ts.length<=r/\∀j,(hj:j<ts.length)->ay lo h ts[j] (ff (0+j)):=by rcases x with⟨q,_⟩|⟨_,b,cap,ex,r,ff,e,hb,hr,hn⟩;exact absurd q bg;exact⟨b,cap,ex,r,ff,e,hb,hr,λj hj=>by rw[aue];exact hn j hj⟩
theorem Aq{t:Tree}(h:rY t):t.kids.length<4294967296/\pq t.kids:=by cases t;unfold rY at h;exact h
theorem UZ{E:fM}{ms:List KM}{aN:Bool}{kind a:Int}{nm:List UInt8}{kids:List Tree}{s:WS}:s.sc.us.length<=(qI E ms aN kind a nm kids s).sc.us.length:=by unfold qI;split;exact at2 _;split;split;split;split;split;simp[lD];exact at2 _;exact at2 _;exact at2 _;exact at2 _;exact at2 _
section
variable{E:fM}{lo bb kb lb:Nat}{ms:List KM}{aN:Bool}{ar:KM}{v av:AV}
theorem U0(HT:aA T){k:aK->Prop}{t:Tree}{nc:Nat}{s:WS}{h:Hp}{f:Fr}{row:List AV}(ih:∀t'∈t.kids,tq T E t') (x:gG E lo h aN bb kb lb ms ar s v av) (hr:h.get nc=.one 39 row) (hn:ay 0 h t row) (rB:rY t)
 (hB:(t.kind=11\/t.kind=12)->aN=true) (bg:(t.kind=26\/t.kind=9)->t.kids≠[]) (ok:gi aN t.kids) (us:(qI E ms aN t.kind t.at t.name t.kids (jF E ms aN ar t.kids s)).sc.us.length<1073741824)
 (f1:J 1 f=v) (f2:J 2 f=av) (f3:J 3 f=.ptr E.wc 0) (f4:J 4 f=.ptr E.pc 0) (f5:J 5 f=.ptr E.ic 0) (f6:J 6 f=.ptr nc 0)
 (hk:∀h',nE E h aN kb lb (qI E ms aN t.kind t.at t.name t.kids (jF E ms aN ar t.kids s)) h'->k (.ret (.bA []) h')):W T (CC.seq (.seq (.af r63_41) (.block 7 (.loop l63_0))) QM) f h [] (finish T (W T) [] k):=by
 obtain⟨kv,rfl,hkv⟩:=hn.cells;have lr:=Hp.lt hr rfl;generalize hT:QM=Tl;generalize hL:CC.loop l63_0=L;simp(disch:=omega) [f6,hr,hkv.len];subst hL;refine abL HT (n:=t.kids.length) (kv:=kv) t.kids 0 s h _ _ ih zo (Aq rB).1 x hkv.rows (Aq rB).2 ok (auD UZ us) aa aa aa zA zA zA λf' h' hf p1=>?_;refine ag ?_;subst hT;have x1:=x.next p1;have nf:=x.nf p1.1;have e1:=hf 1 zd;have e4:=hf 4 zd;have e5:=hf 5 zd;have e6:=hf 6 zd
 simp(disch:=omega) [f1,f4,f5,f6] at e1 e4 e5 e6;exact aj4 HT x1 (x.one p1.1 hr zd) (hn.nf nf zl) rB hB bg us e1 e4 e5 e6 λh2 p2=>hk h2 (p1.trans p2)
end
def oH(E:fM)(ms:List KM)(aN:Bool)(ar:KM)(kind a:Int)(nm:List UInt8)(s:WS):WS:=
 if(kind=17\/kind=18)/\nm≠[] then⟨s.m,s.cW,lD E a nm (ar nm) s.sc⟩
 else if(kind=25\/kind=8)/\nm∉K5 then⟨s.m,s.cW,lD E a nm (qH E (rC aN ms s.m) nm) s.sc⟩ else s
section
variable{E:fM}{h:Hp}{s:WS}{lo bb kb lb:Nat}{ms:List KM}{aN:Bool}{ar:KM}{v av:AV}{t:Tree}{row:List AV}{k:aK->Prop}
theorem abV(n5:t.kind≠5)(n1:¬(t.kind=10\/t.kind=15))(n2:t.kind≠16):fU E ms aN ar t s=qI E ms aN t.kind t.at t.name t.kids (jF E ms aN ar t.kids (oH E ms aN ar t.kind t.at t.name s)):=by cases t;simp only[Tree.kind] at n5 n1 n2;unfold fU;rw[atS n5,atS n1,atS n2];rfl
theorem abW(n5:t.kind≠5)(n1:¬(t.kind=10\/t.kind=15))(ok:fh aN t):((t.kind=16\/t.kind=11\/t.kind=12)->aN=true)/\((t.kind=26\/t.kind=9)->t.kids≠[])/\gi aN t.kids:=by cases t;simp only[Tree.kind] at n5 n1;unfold fh at ok;rw[atS n5,atS n1] at ok;exact ok
theorem HN{t t':Tree}(h:t'∈t.kids):sizeOf t'<sizeOf t:=by
 cases t with
 |mk a b c d e ks=>
  have:=List.sizeOf_lt_of_mem (show t'∈ks from h);simp only[Tree.mk.sizeOf_spec];omega
theorem aj7(HT:aA T)(ih:∀t'∈t.kids,tq T E t') (n5:t.kind≠5) (n1:¬(t.kind=10\/t.kind=15)) (n2:t.kind≠16):tq T E t:=by
 intro aN ms ar s h row v av bb kb lb lo k x hn rB ok us hk;obtain⟨U1,ok2,K9⟩:=abW n5 n1 ok;rw[abV n5 n1 n2] at us hk;obtain⟨kv,rfl,hkv⟩:=hn.cells;have n10:¬t.kind=10:=λe=>n1 (.inl e);have n15:¬t.kind=15:=λe=>n1 (.inr e);rw[aJ HT.t63];generalize hT:Jp=Tl;have sn:=x.env.pc;have fR:=x.env.ic;have OF:=Hp.lt sn rfl;have lic:=Hp.lt fR rfl;have go:∀(s1:WS)(h1:Hp)(f':Fr),s1=oH E ms aN ar t.kind t.at t.name s->nE E h aN kb lb s1 h1->h1.get h.nx=.one 39 [.i t.kind,.i t.ak,.i t.to,.i t.at,S t.name,kv]->J 1 f'=v->J 2 f'=av->J 3 f'=.ptr E.wc 0->J 4 f'=.ptr E.pc 0->J 5 f'=.ptr E.ic 0->J 6 f'=.ptr h.nx 0->
  W T Tl f' h1 [] (finish T (W T) [] k):=by
  rintro s1 h1 f' rfl p1 hr f1 f2 f3 f4 f5 f6;subst hT;exact U0 HT ih (x.next p1) hr (hn.nf (x.nf p1.1) zl) rB (λq=>U1 (.inr q)) ok2 K9 us f1 f2 f3 f4 f5 f6 λh2 p2=>hk h2 (p1.trans p2)
 have p0:=x.g0 (ah.push (ah.refl h) (.one 39 [.i t.kind,.i t.ak,.i t.to,.i t.at,S t.name,kv]));have e0:(h.push (.one 39 [.i t.kind,.i t.ak,.i t.to,.i t.at,S t.name,kv])).get h.nx=.one 39 [.i t.kind,.i t.ak,.i t.to,.i t.at,S t.name,kv]:=Hp.br rfl;have x0:=x.next p0
 by_cases c1:t.kind=17\/t.kind=18
 have n25:¬t.kind=25:=zo;have n8:¬t.kind=8:=zo;generalize hD:Xt=D;have k9:∀f',J 1 f'=v->J 2 f'=av->J 3 f'=.ptr E.wc 0->J 4 f'=.ptr E.pc 0->J 5 f'=.ptr E.ic 0->J 6 f'=.ptr h.nx 0->
  W T D f' (h.push (.one 39 [.i t.kind,.i t.ak,.i t.to,.i t.at,S t.name,kv])) [] (bY 0 (bF (W T Tl) (finish T (W T) [] k))):=λf' f1 f2 f3 f4 f5 f6=>by
  subst hD
  by_cases c2:t.name=[]
  have hh:oH E ms aN ar t.kind t.at t.name s=s:=by unfold oH;rw[atS (λq=>q.2 c2),atS (λq=>by rcases q.1 with q|q<;>omega)]
  refine aS f6 c2 ?_;rw[c2] at e0 p0;refine go s _ _ hh.symm p0 (by rw[c2];exact e0) ?_ ?_ ?_ ?_ ?_ ?_<;>simp(disch:=omega) [f1,f2,f3,f4,f5,f6];have hh:oH E ms aN ar t.kind t.at t.name s=⟨s.m,s.cW,lD E t.at t.name (ar t.name) s.sc⟩:=by unfold oH;rw[atV ⟨c1,c2⟩]
  have fC:me (.cell .str) (h.push (.one 39 [.i t.kind,.i t.ak,.i t.to,.i t.at,S t.name,kv])) (.agg [.i 0,S [],.i 0,.i 0,S []]) av (S t.name) true=.v (lA (ar t.name)):=by rcases x0.ar with⟨rfl,_,rfl⟩|⟨ai,rfl,m,_⟩;rfl;rw[m.jV];cases ar t.name<;>rfl
  generalize ho:ar t.name=o at fC hh;simp only[lA,aC.row] at fC;refine mz f1 f2 f4 f5 f6 c2 fC sn fR ?_;generalize hH:(((h.push _).push _).set _ _:Hp)=H;have gH:ax (h.push (.one 39 [.i t.kind,.i t.ak,.i t.to,.i t.at,S t.name,kv])) H:=by rw[<-hH];exact ah.set (ah.push (ah.refl _) _) _ (.inl zm)
  have p1:=x0.g0 gH;have x1:=x0.next p1;obtain⟨vv,fu,K6⟩:=x1.sc.hp;have U2:s.sc.us.length<1073741824:=auD (at1 (by rw[hh];simp[lD]) (at1 (Ao E t.kids ms aN ar (oH E ms aN ar t.kind t.at t.name s)) UZ)) us;refine UH HT (d:=o.getD qG) (p:=E.p) (doc:=E.j) fu K6 U2 λh6 v6 g6 K8 yH=>?_;have p6:=x1.UQ (sc:=lD E t.at t.name o s.sc) g6 K8 rfl rfl yH;refine ag ?_;refine go _ h6 _ hh.symm ((p0.trans p1).trans p6) (x0.one (p1.trans p6).1 e0 zd) ?_ ?_ ?_ ?_ ?_ ?_<;>simp(disch:=omega) [f1,f2,f3,f4,f5,f6]
 rcases(show t.kind=17\/¬t.kind=17/\t.kind=18 by omega) with c|⟨c,c'⟩;refine cC n5 n10 n15 n2 c ?_;rw[c] at k9;refine k9 _ ?_ ?_ ?_ ?_ ?_ ?_<;>simp(disch:=omega);refine cq n5 n10 n15 n2 c c' ?_;rw[c'] at k9;refine k9 _ ?_ ?_ ?_ ?_ ?_ ?_<;>simp(disch:=omega);have n17:¬t.kind=17:=λe=>c1 (.inl e);have n18:¬t.kind=18:=λe=>c1 (.inr e)
 by_cases c3:t.kind=25\/t.kind=8
 generalize hD:Xu=D;have k9:∀f',J 1 f'=v->J 2 f'=av->J 3 f'=.ptr E.wc 0->J 4 f'=.ptr E.pc 0->J 5 f'=.ptr E.ic 0->J 6 f'=.ptr h.nx 0->
  W T D f' (h.push (.one 39 [.i t.kind,.i t.ak,.i t.to,.i t.at,S t.name,kv])) [] (bY 0 (bF (W T Tl) (finish T (W T) [] k))):=λf' f1 f2 f3 f4 f5 f6=>by
  subst hD;refine aB f6 ?_;generalize hH:((h.push _).push _:Hp)=H;have gH:ax (h.push (.one 39 [.i t.kind,.i t.ak,.i t.to,.i t.at,S t.name,kv])) H:=by rw[<-hH];exact ah.push (ah.refl _) _
  have hS:cY H (.slice (h.nx+1) 0 1 4 4 true) K5:=by
   refine⟨h.nx+1,4,true,4,_,rfl,by rw[<-hH];exact Hp.br rfl,by decide,λj hj=>?_⟩;exact match j,hj with
   |0,_=>rfl
   |1,_=>rfl
   |2,_=>rfl
   |3,_=>rfl
  have p1:=x0.g0 gH;have x1:=x0.next p1;have e1:=x0.one p1.1 e0 zd;have l1:=Hp.lt e1 rfl;refine Ek HT hS zd ?_
  by_cases c4:t.name∈K5
  have hh:oH E ms aN ar t.kind t.at t.name s=s:=by unfold oH;rw[atS (λq=>c1 q.1),atS (λq=>q.2 c4)]
  refine aB c4 ?_;refine go s _ _ hh.symm (p0.trans p1) e1 ?_ ?_ ?_ ?_ ?_ ?_<;>simp(disch:=omega) [f1,f2,f3,f4,f5,f6];have hh:oH E ms aN ar t.kind t.at t.name s=⟨s.m,s.cW,lD E t.at t.name (qH E (rC aN ms s.m) t.name) s.sc⟩:=by unfold oH;rw[atS (λq=>c1 q.1),atV ⟨c3,c4⟩]
  have abX:=x1.env.pc;have abY:=x1.env.ic;have atd:=Hp.lt abX rfl;have ate:=Hp.lt abY rfl;refine fY c4 f1 f4 f5 f6 abX abY e1 ?_;obtain⟨Ki,UW⟩:=x1.chn;obtain⟨vv,fu,K6⟩:=x1.sc.hp;have UX:qH E (rC aN ms s.m) t.name=EU (rC aN ms s.m) E.fs E.aq E.bu E.j t.name:=rfl;refine abJ HT (p:=E.p) (tb:=E.tb) (j:=E.j) (fs:=E.fs) (aq:=E.aq) (bu:=E.bu) fu x1.env.nO x1.env.tl x1.env.fs x1.env.ds x1.env.jf x1.env.jd x1.env.sm UW λh2 g2=>?_;rw[<-UX];have p2:=x1.g0 g2;have x2:=x1.next p2;have e2:=x1.one p2.1 e1 zd;have uz:=x2.env.pc;have K7:=x2.env.ic;have l2:=Hp.lt e2 rfl;have abS:=Hp.lt uz rfl;have aj5:=Hp.lt K7 rfl;generalize ho:qH E (rC aN ms s.m) t.name=o at hh⊢;simp only[lA,aC.row];refine iR f1 f4 f5 f6 e2 uz K7 ?_;generalize oF:((h2.push _).set _ _:Hp)=H3;have uA:ax h2 H3:=by rw[<-oF];exact fZ
  have p3:=x2.g0 uA;have x3:=x2.next p3;obtain⟨UY,kF,OG⟩:=x3.sc.hp;have U2:s.sc.us.length<1073741824:=auD (at1 (by rw[hh];simp[lD]) (at1 (Ao E t.kids ms aN ar (oH E ms aN ar t.kind t.at t.name s)) UZ)) us;refine UH HT (d:=o.getD qG) (p:=E.p) (doc:=E.j) kF OG U2 λh6 v6 g6 K8 yH=>?_;have p6:=x3.UQ (sc:=lD E t.at t.name o s.sc) g6 K8 rfl rfl yH;refine ag ?_;refine go _ h6 _ hh.symm ((((p0.trans p1).trans p2).trans p3).trans p6) (x2.one (p3.trans p6).1 e2 zd) ?_ ?_ ?_ ?_ ?_ ?_<;>simp(disch:=omega) [f1,f2,f3,f4,f5,f6]
 rcases(show t.kind=25\/¬t.kind=25/\t.kind=8 by omega) with c|⟨c,c'⟩;refine iR n5 n10 n15 n2 n17 n18 c ?_;rw[c] at k9;refine k9 _ ?_ ?_ ?_ ?_ ?_ ?_<;>simp(disch:=omega);refine fY n5 n10 n15 n2 n17 n18 c c' ?_;rw[c'] at k9;refine k9 _ ?_ ?_ ?_ ?_ ?_ ?_<;>simp(disch:=omega);have n25:¬t.kind=25:=λe=>c3 (.inl e);have n8:¬t.kind=8:=λe=>c3 (.inr e);have hh:oH E ms aN ar t.kind t.at t.name s=s:=by unfold oH;rw[atS (λq=>c1 q.1),atS (λq=>c3 q.1)]
 refine fY n5 n10 n15 n2 n17 n18 n25 n8 ?_;refine go s _ _ hh.symm p0 e0 ?_ ?_ ?_ ?_ ?_ ?_<;>simp(disch:=omega)
end
section
variable{E:fM}{h:Hp}{s:WS}{lo bb kb lb:Nat}{ms:List KM}{aN:Bool}{ar:KM}{v av:AV}{t:Tree}{row:List AV}{k:aK->Prop}
theorem abZ(n1:t.kind=10\/t.kind=15):fU E ms aN ar t s=(let s1:=jF E (s.m::ms) true ar t.kids ⟨aX,s.cW,s.sc⟩;⟨s.m,s1.cW,s1.sc⟩):=by cases t;simp only[Tree.kind] at n1;unfold fU;rw[atS zo,atV n1];rfl
theorem aj8(n1:t.kind=10\/t.kind=15)(ok:fh aN t):aN=true/\gi true t.kids:=by cases t;simp only[Tree.kind] at n1;unfold fh at ok;rw[atS zo,atV n1] at ok;exact ok
theorem aj9(HT:aA T)(ih:∀t'∈t.kids,tq T E t') (n1:t.kind=10\/t.kind=15):tq T E t:=by
 intro aN ms ar s h row v av bb kb lb lo k x hn rB ok us hk;obtain⟨rfl,K9⟩:=aj8 n1 ok;rw[abZ n1] at us hk;simp only at us hk;obtain⟨kv,rfl,hkv⟩:=hn.cells;rw[aJ HT.t63];generalize hT:Jp=Tl;obtain⟨rfl,y⟩:=x.bk.2 rfl;obtain⟨par,eb,ch⟩:=y.get;have lbb:=Hp.lt eb rfl;have l1:=y.l1;have l2:=y.l2;have l3:=y.l3
 have n5:¬t.kind=5:=zo;have go:∀(h1:Hp)(f':Fr),h1=((h.push (.one 39 [.i t.kind,.i t.ak,.i t.to,.i t.at,S t.name,kv])).push (.map [] 0)).push (.one 112 [.ptr bb 0,.map (h.nx+1),.map lb])->J 1 f'=.ptr (h.nx+1+1) 0->J 2 f'=av->J 3 f'=.ptr E.wc 0->J 4 f'=.ptr E.pc 0->J 5 f'=.ptr E.ic 0->J 6 f'=.ptr h.nx 0->
  W T Tl f' h1 [] (finish T (W T) [] k):=by
  intro h1 f' e1 f1 f2 f3 f4 f5 f6;have gH:ax h h1:=by rw[e1];exact aZ
  have wI:h1.nx=h.nx+1+1+1:=by rw[e1];rfl
  have u1:h1.get h.nx=.one 39 [.i t.kind,.i t.ak,.i t.to,.i t.at,S t.name,kv]:=by rw[e1];simp(disch:=first|exact bh|fail)
  have u2:h1.get (h.nx+1)=.map [] 0:=by rw[e1];simp(disch:=first|exact bh|fail)
  have u3:h1.get (h.nx+1+1)=.one 112 [.ptr bb 0,.map (h.nx+1),.map lb]:=by rw[e1];simp(disch:=first|exact bh|fail)
  clear e1;have p0:=x.g0 gH;have x0:=x.next p0;obtain⟨_,y0⟩:=x0.bk.2 rfl;have x1:gG E lo h1 true (h.nx+1+1) (h.nx+1) lb (s.m::ms) ar ⟨aX,s.cW,s.sc⟩ (.ptr (h.nx+1+1) 0) av:=by refine⟨x0.env,x0.sc,⟨λe=>qbj,λ_=>⟨rfl,⟨_,u3,?_⟩,MK.new u2,y0.ml,l1,by omega,by omega⟩⟩,?_,x.lo⟩;obtain⟨aj',eb0,ch0⟩:=y0.get;exact⟨bb,aj',.map kb,.map lb,rfl,eb0,by omega,by omega,.inr ⟨kb,rfl,by omega,by omega,y0.mm⟩,ch0.up zo⟩;rcases x.ar with⟨_,q,_⟩|⟨ai,e,m,l,n⟩;cases q;have:=n rfl;have:=m.lt;exact .inr ⟨ai,e,m.mono (gH.get _ m.lt id),l,λ_=>by omega⟩
  have La:qI E (s.m::ms) true t.kind t.at t.name t.kids (jF E (s.m::ms) true ar t.kids ⟨aX,s.cW,s.sc⟩)=jF E (s.m::ms) true ar t.kids ⟨aX,s.cW,s.sc⟩:=by unfold qI;rw[atS zo,atS zo]
  subst hT;refine U0 HT ih x1 u1 (hn.nf (mY gH) zl) rB (λ_=>rfl) (λq=>by omega) K9 (by rw[La];exact us) f1 f2 f3 f4 f5 f6 λh2 p2=>hk h2 ?_;rw[La] at p2;obtain⟨g2,OI,mm2⟩:=p2;obtain⟨m1,m2⟩:=mm2 rfl;refine⟨⟨at1 gH.nx g2.nx,λi hi hm h36=>?_⟩,OI,λ_=>⟨?_,m2⟩⟩;rw[g2.get i zo ?_ (by rw[gH.get i hi id];exact h36),gH.get i hi id];rintro(q|q|⟨_,q|q⟩);exact hm (.inl q);exact hm (.inr (.inl q));omega;exact hm (.inr (.inr ⟨rfl,.inr q⟩));refine y0.mm.mono (g2.get _ y0.mm.lt ?_ ?_);have:=y.mm.lt;have:=x.lo
  rintro(q|q|⟨_,q|q⟩)<;>omega;rintro⟨_,_,q⟩;exact y0.mm.Bv q
 have e1:=hT;rcases(show t.kind=10\/¬t.kind=10/\t.kind=15 by omega) with c|⟨c,c'⟩;refine aS n5 c ?_;rw[aJ HT.t64];refine aB eb ?_;rw[c] at go;refine go _ _ rfl ?_ ?_ ?_ ?_ ?_ ?_<;>simp(disch:=omega);refine aU n5 c c' ?_;rw[aJ HT.t64];refine aB eb ?_;rw[c'] at go;refine go _ _ rfl ?_ ?_ ?_ ?_ ?_ ?_<;>simp(disch:=omega)
theorem ab0(n1:t.kind=16):fU E ms aN ar t s=jF E ms aN (rA ar t.name (kj E 8 t.name t.at)) t.kids (EW (kj E 8 t.name t.at) s):=by cases t;simp only[Tree.kind] at n1;unfold fU;rw[atS zo,atS zo,atV n1];rfl
theorem aka(HT:aA T)(ih:∀t'∈t.kids,tq T E t') (n1:t.kind=16):tq T E t:=by
 intro aN ms ar s h row v av bb kb lb lo k x hn rB ok us hk;obtain⟨U1,ok2,K9⟩:=abW zo zo ok;obtain rfl:=U1 (.inl n1);rw[ab0 n1] at us hk;obtain⟨kv,rfl,hkv⟩:=hn.cells;rw[aJ HT.t63];generalize hT:Jp=Tl;obtain⟨rfl,y⟩:=x.bk.2 rfl;obtain⟨par,eb,ch⟩:=y.get;have lbb:=Hp.lt eb rfl;have l1:=y.l1;have l2:=y.l2;have l3:=y.l3;have cK:=x.lo
 have n5:¬t.kind=5:=zo;have n10:¬t.kind=10:=zo;have n15:¬t.kind=15:=zo;have sn:=x.env.pc;have fR:=x.env.ic;have OF:=Hp.lt sn rfl;have lic:=Hp.lt fR rfl;have p0:=x.g0 (ah.push (ah.refl h) (.one 39 [.i t.kind,.i t.ak,.i t.to,.i t.at,S t.name,kv]));have e0:(h.push (.one 39 [.i t.kind,.i t.ak,.i t.to,.i t.at,S t.name,kv])).get h.nx=.one 39 [.i t.kind,.i t.ak,.i t.to,.i t.at,S t.name,kv]:=Hp.br rfl;have x0:=x.next p0;obtain⟨vv,hp,sk⟩:=x0.sc.hp;obtain⟨ai,rfl,mar,lai,nai⟩:∃ai,av=.map ai/\MK h ai ar/\lo<=ai/\(true=true->ai≠kb/\ai≠lb):=by rcases x.ar with⟨_,q,_⟩|q;cases q;exact q
 have nai:=nai rfl;refine aU n1 sn fR ?_;rw[<-n1];refine CV HT (p:=E.p) (aG:=E.aG) (j:=E.j) (c0:=E.c0) (c1:=E.c1) (c2:=E.c2) (c7:=.map E.tb) (c8:=E.c8) (c9:=vv) (N:=s.sc.nd) hp x0.sc.nd x0.env.ds x0.env.jd λh2 gn cZ=>?_;have en:kj E 8 t.name t.at=⟨8,t.name,E.j,t.at,if(8:Int)=1 then t.name else E.aq[E.j]'x.env.jd⟩:=by simp[kj,List.getD,x.env.jd]
 rw[<-en] at cZ⊢;have dn:(kj E 8 t.name t.at).name=t.name:=rfl;have p2:=x0.UP gn cZ;have x2:=x0.next p2;have uz:=x2.env.pc;have HM:=x0.one p2.1 (x.one p0.1 eb zd) zd;have e2:=x0.one p2.1 e0 zd;have abS:=Hp.lt uz rfl;have lb2:=Hp.lt HM rfl;have le2:=Hp.lt e2 rfl;generalize kj E 8 t.name t.at=d at*;simp only[aC.row];refine aS HM uz ?_;generalize hH:((h2.push _).set _ _:Hp)=H;have gH:ax h2 H:=by rw[<-hH];exact fZ
 have u1:H.get h2.nx=.one 34 [.i d.kind,S d.name,.i d.doc,.i d.at_,S d.dir]:=by rw[<-hH];simp(disch:=omega)
 clear hH;have p3:=x2.g0 gH;have x3:=x2.next p3;have y3:=(x3.bk.2 rfl).2;obtain⟨UY,kF,OG⟩:=x3.sc.hp;refine UF (d:=d) HT (p:=E.p) (i:=lb) (m:=s.cW) (c0:=E.c0) (c1:=E.c1) (c2:=E.c2) (c6:=.map E.aG) (c7:=.map E.tb) (c8:=E.c8) (c9:=UY) (f:=s.sc.bN) kF y3.ml λh4 g4 m7 tc=>?_;have p4:=x3.aj1 rfl (d:=d) kF OG g4 m7 tc;have x4:=x3.next p4;have u4:=x3.one p4.1 u1 zd;have e4:=x3.one p4.1 (x2.one p3.1 e2 zd) zd;have lu4:=Hp.lt u4 rfl;have Oq:=Hp.lt e4 rfl;obtain⟨_,_⟩|⟨ai',eai,akb,_⟩:=x4.ar;rename_i q _;cases q;cases eai;obtain⟨L,⟨⟨aD,ea⟩,dB⟩,hL⟩:=akb;have la:=Hp.lt ea rfl;generalize jg:CC.loop l63_1=L1;simp(disch:=omega) [OD (h:=h4.push (.map [] 0)) (m:=ai) (aD:=aD) (L:=L) (by rw[Hp.qZ la];exact ea)];subst jg;refine aj3 HT (ai:=ai) (ar:=ar) (it:=h4.nx+1) (wi:=h4.nx) (aD:=aD) hL dB zo _ (cD L) [] _ none _ _ rfl (au ea) (Hp.br rfl) ?_ dB (λq hq=>?_) (λq=>?_) aa aa λf' h5 Q hf g5 hQ hQL=>?_;exact(iV.new (h:=h4.push (.map [] 0)) (Hp.br rfl)).mono (Hp.qZ zm);cases hv:eV L q with
 |none=>exact absurd hq (Br.1 hv)
 |some v=>rfl
 by_cases hq:q∈cD L
 rw[atV hq];rfl;rw[atS hq,Br.2 hq];rfl;have g45:ax h4 h5:=by refine ah.sX (M:=λj=>j=h4.nx+1\/j=h4.nx) (ah.push (ah.push (ah.refl h4) (.map [] 0)) _) g5 λi hi=>zo
 have mQ:MK h5 h4.nx ar:=⟨Q,hQ,λq=>by rw[hQL,hL]⟩;obtain⟨o,eo,fo⟩:=mQ.pE (s:=t.name) (d:=d);have lQ:=mQ.lt;simp only[aC.row] at eo;have e5:=(g45.get _ Oq id).trans e4;have u5:=(g45.get _ lu4 id).trans u4;have f6:=hf 6 zd;have f13:=hf 13 zd;have f14:=hf 14 zd;have q1:=hf 1 zd;have q3:=hf 3 zd;have q4:=hf 4 zd;have q5:=hf 5 zd;simp only[wm] at*;simp(disch:=omega) at f6 f13 f14 q1 q3 q4 q5;refine cq f6 f13 f14 e5 u5 eo ?_;have g46:ax h4 (h5.set h4.nx o):=g45.set _ (.inl zl);have p6:=x4.g0 g46;have x6:=x4.next p6;have e6:=(g46.get _ Oq id).trans e4;have m6:MK (h5.set h4.nx o) h4.nx (rA ar t.name d):=fo _ (Hp.bR rfl);have x7:gG E lo (h5.set h4.nx o) true bb kb lb ms (rA ar t.name d) (EW d s) (.ptr bb 0) (.map h4.nx):=by
  refine⟨x6.env,x6.sc,x6.bk,.inr ⟨h4.nx,rfl,m6,?_,λ_=>?_⟩,x.lo⟩;have:=y.ml.lt;have:=p0.1.nx;have:=p2.1.nx;have:=p3.1.nx;have:=p4.1.nx;simp only[Hp.eE] at*;omega
  have:=y.ml.lt;have:=y.mm.lt;have:=p0.1.nx;have:=p2.1.nx;have:=p3.1.nx;have:=p4.1.nx;simp only[Hp.eE] at*;omega
 have La:∀s',qI E ms true t.kind t.at t.name t.kids s'=s':=λs'=>by unfold qI;rw[atS zo,atS zo]
 have nf:NF 0 h (h5.set h4.nx o):=x.nf ((((p0.trans p2).trans p3).trans p4).trans p6).1;subst hT;refine U0 HT ih x7 e6 (hn.nf nf zl) rB (λ_=>rfl) (λq=>by omega) K9 (by rw[La];exact us) (au q1) aa (au q3) (au q4) (au q5) zA λh8 p8=>hk h8 ?_;rw[La] at p8;exact((((p0.trans p2).trans p3).trans p4).trans p6).trans p8
theorem akc(n1:t.kind=5)(ok:fh aN t):∃k0 k1 k2 k3,t.kids=[k0,k1,k2,k3]/\fh false k0/\gi false k1.kids/\fh false k2/\gi true k3.kids:=by cases t;simp only[Tree.kind] at n1;unfold fh at ok;rw[atV n1] at ok;split at ok;exact⟨_,_,_,_,rfl,ok⟩;exact ok.elim
theorem ab3{k0 k1 k2 k3:Tree}(n1:t.kind=5)(hk:t.kids=[k0,k1,k2,k3]):fU E ms aN ar t s=
 ⟨s.m,s.cW,(jF E [aX] true aX k3.kids ⟨(oD E (k0::k1.kids) ⟨aX,aX,s.sc⟩).m,(oD E (k0::k1.kids) ⟨aX,aX,s.sc⟩).cW,(fU E [] false aX k2 ⟨aX,aX,(oD E (k0::k1.kids) ⟨aX,aX,s.sc⟩).sc⟩).sc⟩).sc⟩:=by
 cases t;cases k1;cases k3;simp only[Tree.kind,Tree.kids] at n1 hk;subst hk
 conv=>lhs;unfold fU
 rw[atV n1];simp only[Tree.kids,oD]
theorem OJ{t t1 t2:Tree}(h:t1∈t.kids)(h2:t2∈t1.kids):sizeOf t2<sizeOf t:=axP (HN h2) (HN h)
theorem akd{H:Hp}{q0:Nat}{t1:Nat->List AV}{kv:AV}{ps:List Tree}(hb:H.get q0=.rows 39 6 1 0 t1)(hv:lC 0 H kv ps)(hl:ps.length<4294967296):∃b' cap ex r' Lb H',(kJ H 39 6 72 (.slice q0 0 6 1 1 true) kv=.v (.slice b' 0 6 (1+ps.length) cap ex)/\H'=H\/kJ H 39 6 72 (.slice q0 0 6 1 1 true) kv=.vh (.slice b' 0 6 (1+ps.length) cap ex) H')/\
 ax H H'/\H'.get b'=.rows 39 6 r' 0 Lb/\1+ps.length<=r'/\Lb 0=t1 0/\∀j,(hj:j<ps.length)->ay 0 H ps[j] (Lb (j+1)):=by
 rcases hv with⟨rfl,rfl⟩|⟨bg,b,cap,ex,r,f,rfl,fX,hr,hn⟩;exact⟨q0,1,true,1,t1,H,.inl ⟨NK (rs:=[]) rfl rfl,rfl⟩,ah.refl _,hb,by decide,rfl,λj hj=>absurd hj zm⟩;have h0:0<ps.length:=auA.2 bg;obtain⟨n,gE⟩:∃n,ps.length=n+1:=⟨ps.length- 1,by omega⟩;have ea:=G2 (h:=H) (el:=39) (rw:=6) (bytes:=72) (n:=n) (i:=q0) (len:=1) (cnt:=1) (t:=t1) zd hb zl (Ke (n:=ps.length) (b:=b) (cap:=cap) (ex:=ex) zd fX hr) (by simp[lenOf,gE]) (rV zo zo);refine⟨H.nx,1+ps.length,false,1+ps.length,jy fG 0 (dw t1 1 0++dw f ps.length 0),_,.inr (by rw[ea,gE]),ah.push (ah.refl _) _,?_,at2 _,?_,λj hj=>?_⟩;rw[Hp.br rfl,jJ,gE];rw[wO (by simp[dw])];rfl;have eY:j+1<(dw t1 1 0++dw f ps.length 0).length:=by simp[oZ];omega
 rw[wO eY];have e1:(dw t1 1 0++dw f ps.length 0)[j+1]=(dw f ps.length 0)[j]'(by rw[oZ];exact hj):=by rw[awV (by simp[oZ])];simp[oZ]
 have:=vw f ps.length 0 j hj;rw[atT (by rw[oZ];exact hj)] at this;rw[e1,auQ this,aue];exact hn j hj
theorem ake(HT:aA T)(ih:∀t',sizeOf t'<sizeOf t->tq T E t') (n1:t.kind=5):tq T E t:=by
 intro aN ms ar s h row v av bb0 kb0 lb0 lo k x hn rB ok us hk;obtain⟨k0,k1,k2,k3,ek,o0,o1,o2,o3⟩:=akc n1 ok;rw[ab3 n1 ek] at us hk;obtain⟨kv,rfl,hkv⟩:=hn.cells;obtain⟨hl,yh⟩:=Aq rB;rw[ek] at yh;simp only[pq] at yh;obtain⟨b,cap,ex,r,ff,rfl,hb,hr,iW⟩:=hkv.rows (by rw[ek];simp);have bz:t.kids.length=4:=by rw[ek];rfl
 have hr:4<=r:=bz▸hr;have hN:∀j(hj:j<4),ay 0 h ([k0,k1,k2,k3][j]) (ff j):=λj hj=>by have:=iW j (by rw[bz];exact hj);simp only[ek,aue] at this;exact this
 have hN0:ay 0 h k0 (ff 0):=hN 0 zd;have hN1:ay 0 h k1 (ff 1):=hN 1 zd;have hN2:ay 0 h k2 (ff 2):=hN 2 zd;have hN3:ay 0 h k3 (ff 3):=hN 3 zd;clear hN iW;obtain⟨OE,r0,C2⟩:=hN0.cells;obtain⟨kv1,r1,U3⟩:=hN1.cells;obtain⟨zX,r2,wW⟩:=hN2.cells;obtain⟨zW,r3,Hj⟩:=hN3.cells;have lb:=Hp.lt hb rfl;rw[aJ HT.t63];generalize hT:Jp=Tl;have e11:cellsOf (.rows 39 6 r 0 ff) 11 1=some [kv1]:=by have:=Kd (el:=39) (rw:=6) (cnt:=r) (fz:=0) (t:=ff) (k:=1) (j:=5) (n:=1) zo zd zd;rw[this,r1];rfl
 generalize hD:QK=D;generalize hP:CC.loop l63_3=LP;refine aB n1 ?_;rw[aJ HT.t64];refine cq bz hb r0 e11 C2.bQ U3.bQ ?_;rw[<-r0];generalize hH:(((((((h.push _).push _).push _).push _).push _).push _).push _:Hp)=H;have gH:ax h H:=by rw[<-hH];exact aZ
 have nH:H.nx=h.nx+1+1+1+1+1+1+1:=by rw[<-hH];rfl
 have u0:H.get h.nx=.one 39 [.i t.kind,.i t.ak,.i t.to,.i t.at,S t.name,.slice b 0 6 4 cap ex]:=by rw[<-hH];simp(disch:=first|exact bh|fail) [n1]
 have u1:H.get (h.nx+1)=.map [] 0:=by rw[<-hH];simp(disch:=first|exact bh|fail)
 have u2:H.get (h.nx+1+1)=.one 112 [.gJ,.kQ,.map (h.nx+1)]:=by rw[<-hH];simp(disch:=first|exact bh|fail)
 have u3:H.get (h.nx+1+1+1)=.map [] 0:=by rw[<-hH];simp(disch:=first|exact bh|fail)
 have u4:H.get (h.nx+1+1+1+1)=.one 112 [.ptr (h.nx+1+1) 0,.map (h.nx+1+1+1),.map (h.nx+1)]:=by rw[<-hH];simp(disch:=first|exact bh|fail)
 have u5:H.get (h.nx+1+1+1+1+1)=.map [] 0:=by rw[<-hH];simp(disch:=first|exact bh|fail)
 obtain⟨t1,u6,u7⟩:∃t1,H.get (h.nx+1+1+1+1+1+1)=.rows 39 6 1 0 t1/\t1 0=ff 0:=⟨_,by rw[<-hH];exact Hp.br rfl,by simp⟩;clear hH;have nfH:=mY gH;have sl1:=Aq yh.2.1;obtain⟨b',U4,Ey,r',Lb,H',tu,U5,oY,qY,hf0,hfj⟩:=akd (H:=H) u6 (U3.nf nfH) sl1.1;have gg:ax h H':=gH.trans U5;have akf:E.p<h.nx/\E.aG<h.nx/\E.tb<h.nx:=by obtain⟨vv,hp,_⟩:=x.sc.hp;obtain⟨L,tm,_⟩:=x.env.nO;exact⟨Hp.lt hp rfl,x.sc.nd.lt,tm.lt⟩
 have p0:=x.g0 gg;have x0:=x.next p0;have g':=λi(hi:i<H.nx)=>U5.get i hi id;have x1:gG E h.nx H' true (h.nx+1+1+1+1) (h.nx+1+1+1) (h.nx+1) [aX] aX ⟨aX,aX,s.sc⟩ (.ptr (h.nx+1+1+1+1) 0) (.map (h.nx+1+1+1+1+1)):=by refine⟨x0.env,x0.sc,⟨λe=>qbj,λ_=>⟨rfl,⟨_,(g' _ zo).trans u4,?_⟩,MK.new ((g' _ zo).trans u3),MK.new ((g' _ zo).trans u1),by omega,by omega,by omega⟩⟩,.inr ⟨_,rfl,MK.new ((g' _ zo).trans u5),by omega,λ_=>by omega⟩,akf⟩;exact⟨h.nx+1+1,.gJ,.kQ,.map (h.nx+1),rfl,(g' _ zo).trans u2,by omega,by omega,.inl ⟨rfl,λ_=>rfl⟩,rfl⟩
 have e0:H'.get h.nx=.one 39 [.i t.kind,.i t.ak,.i t.to,.i t.at,S t.name,.slice b 0 6 4 cap ex]:=(g' _ zo).trans u0;have fX:H'.get b=.rows 39 6 r 0 ff:=(gg.get _ lb id).trans hb;have U6:=mY gg;have m0:k0∈t.kids:=by rw[ek];simp
 have m1:k1∈t.kids:=by rw[ek];simp
 have m2:k2∈t.kids:=by rw[ek];simp
 have m3:k3∈t.kids:=by rw[ek];simp
 generalize mX:oD E (k0::k1.kids) ⟨aX,aX,s.sc⟩=s2 at hk us;have us4:=auD (Ao E k3.kids [aX] true aX ⟨s2.m,s2.cW,(fU E [] false aX k2 ⟨aX,aX,s2.sc⟩).sc⟩) us;have us3:=auD (HL E k2 [] false aX ⟨aX,aX,s2.sc⟩) us4;have goD:∀(f':Fr)(h2:Hp),nE E H' true (h.nx+1+1+1) (h.nx+1) s2 h2->J 1 f'=.ptr (h.nx+1+1+1+1) 0->J 2 f'=.map (h.nx+1+1+1+1+1)->J 3 f'=.ptr E.wc 0->J 4 f'=.ptr E.pc 0->J 5 f'=.ptr E.ic 0->J 6 f'=.ptr h.nx 0->
  W T D f' h2 [] (bY 0 (bF (W T Tl) (finish T (W T) [] k))):=by
  intro f' h2 p2 f1 f2 f3 f4 f5 f6;have x2:=x1.next p2;have Ex:=x1.nf p2.1;have e2:=x1.one p2.1 e0 zd;have rT:=Ex _ _ _ (auz _) fX;have akg:=x2.env.wc;have e12:cellsOf (.rows 39 6 r 0 ff) 12 6=some [.i k2.kind,.i k2.ak,.i k2.to,.i k2.at,S k2.name,zX]:=by have:=Kd (el:=39) (rw:=6) (cnt:=r) (fz:=0) (t:=ff) (k:=2) (j:=0) (n:=6) zo zd zd;rw[this,r2];rfl
  have e23:cellsOf (.rows 39 6 r 0 ff) 23 1=some [zW]:=by have:=Kd (el:=39) (rw:=6) (cnt:=r) (fz:=0) (t:=ff) (k:=3) (j:=5) (n:=1) zo zd zd;rw[this,r3];rfl
  generalize hB:CC.loop l63_2=LB at hD;subst hD;unfold QK;refine fY f2 f3 f6 e2 rT akg e12 wW.bQ ?_;rw[<-r2];refine ih k2 (HN m2) false [] aX ⟨aX,aX,s2.sc⟩ h2 _ .gJ _ 0 0 0 _ _ x2.fls ((hN2.nf U6 zl).nf Ex zl) yh.2.2.1 o2 us4 λh3 p3=>?_;have p3':=x2.abN p3;have x3:=x2.next p3';have KF:=x2.nf p3'.1;have e3:=x2.one p3'.1 e2 zd;have Ea:=KF _ _ _ (auz _) rT;have ab4:lC 0 h3 zW k3.kids:=((Hj.nf U6).nf Ex).nf KF;simp(disch:=omega) [f6,e3,Ea,e23,ab4.len];subst hB;refine abM HT (n:=k3.kids.length) (kv:=zW) k3.kids 0 _ h3 _ _ (λt' jL=>ih t' (OJ m3 jL)) zo (Aq yh.2.2.2.1).1 x3 ab4.rows (Aq yh.2.2.2.1).2 o3 us aa aa aa zA zA zA λf5' h5 hf5 p5=>?_;refine ag ?_;have pp:=(p2.trans p3').trans p5;obtain⟨g5,sc5,_⟩:=pp;refine hk h5 ⟨⟨at1 gg.nx g5.nx,λi hi hm h36=>?_⟩,sc5,λhB=>?_⟩;rw[g5.get i (aur hi gg.nx) ?_ (by rw[gg.get i hi id];exact h36),gg.get i hi id];rintro(q|q|⟨_,q|q⟩);exact hm (.inl q);exact hm (.inr (.inl q));omega;omega;obtain⟨e,y⟩:=x.bk.2 hB;have y1:=y.l1;have y2:=y.l2;have:=x.lo
  have l1:=y.mm.lt;have l2:=y.ml.lt
  have q1:¬uw (H'.get kb0):=by rw[gg.get _ l1 id];rintro⟨_,_,q⟩;exact y.mm.Bv q
  have q2:¬uw (H'.get lb0):=by rw[gg.get _ l2 id];rintro⟨_,_,q⟩;exact y.ml.Bv q
  refine⟨y.mm.mono ((g5.get _ (aur l1 gg.nx) ?_ q1).trans (gg.get _ l1 id)),y.ml.mono ((g5.get _ (aur l2 gg.nx) ?_ q2).trans (gg.get _ l2 id))⟩;rintro(q|q|⟨_,q|q⟩)<;>omega;rintro(q|q|⟨_,q|q⟩)<;>omega
 have goP:∀(f':Fr),J 47 f'=.slice b' 0 6 (1+k1.kids.length) U4 Ey->J 48 f'=.i (1+k1.kids.length:Nat)->J 49 f'=.i 0->J 1 f'=.ptr (h.nx+1+1+1+1) 0->J 2 f'=.map (h.nx+1+1+1+1+1)->J 3 f'=.ptr E.wc 0->J 4 f'=.ptr E.pc 0->J 5 f'=.ptr E.ic 0->J 6 f'=.ptr h.nx 0->
  W T LP f' H' [] (bY 1 (bF (W T D) (bY 0 (bF (W T Tl) (finish T (W T) [] k))))):=by
  intro f' q1 q2 q3 f1 f2 f3 f4 f5 f6;subst hP;refine abP HT (n:=1+k1.kids.length) (k0::k1.kids) 0 ⟨aX,aX,s.sc⟩ H' f' _ (λt' jL=>?_) zn zo x1 (λ_=>⟨b',U4,Ey,r',Lb,rfl,oY,qY,λj hj=>?_⟩) ?_ ?_ (by rw[mX];exact us3) q1 q2 (by rw[q3];rfl) f1 f2 f3 f4 f5 λf2' h2 hf p2=>?_;rcases atZ.1 jL with rfl|jL;exact ih _ (HN m0);exact ih _ (OJ m1 jL);rcases j with _|j;simp only[aus,aud,hf0,u7];exact hN0.nf U6 zl;simp only[auu,aue];exact(hfj j qax).nf (mY U5) zl;unfold pq;exact⟨yh.1,sl1.2⟩;unfold gi;exact⟨o0,o1⟩;rw[mX] at p2;refine ag ?_;exact goD _ h2 p2 ((hf 1 zd).trans f1) ((hf 2 zd).trans f2) ((hf 3 zd).trans f3) ((hf 4 zd).trans f4) ((hf 5 zd).trans f5) ((hf 6 zd).trans f6)
 rcases tu with⟨ea,rfl⟩|ea;rw[ea];refine ag ?_;refine goP _ ?_ ?_ ?_ ?_ ?_ ?_ ?_ ?_ ?_<;>simp(disch:=omega);rw[ea];refine ag ?_;refine goP _ ?_ ?_ ?_ ?_ ?_ ?_ ?_ ?_ ?_<;>simp(disch:=omega)
theorem akh(HT:aA T)(E:fM)(t:Tree):tq T E t:=by
 generalize hn:sizeOf t=n
 induction n using Nat.strongRecOn generalizing t with
 |_ n ih=>
  subst hn;have ih':∀t',sizeOf t'<sizeOf t->tq T E t':=λt' h=>ih _ h t' rfl;have U7:∀t'∈t.kids,tq T E t':=λt' h=>ih' t' (HN h)
  by_cases n5:t.kind=5
  exact ake HT ih' n5
  by_cases n1:t.kind=10\/t.kind=15
  exact aj9 HT U7 n1
  by_cases n2:t.kind=16
  exact aka HT U7 n2;exact aj7 HT U7 n5 n1 n2
end
structure xm(E E':fM):Prop where
 j:E.j=E'.j
 fs:E.fs=E'.fs
 aq:E.aq=E'.aq
 bu:E.bu=E'.bu
section
variable{E E':fM}
theorem xm.note(x:xm E E'):kj E=kj E':=by obtain⟨a,b,c,d⟩:=x;unfold kj;rw[a,c]
theorem xm.use(x:xm E E'):lD E=lD E':=by obtain⟨a,b,c,d⟩:=x;unfold lD;rw[a]
theorem xm.pl(x:xm E E'):qH E=qH E':=by obtain⟨a,b,c,d⟩:=x;unfold qH;rw[a,b,c,d]
theorem xm.par(x:xm E E'):tj E=tj E':=by unfold tj;rw[x.note]
mutual
theorem HO(x:xm E E'):∀(t:Tree)(ms:List KM)(aN:Bool)(ar:KM)(s:WS),fU E ms aN ar t s=fU E' ms aN ar t s
 |.mk kind fr to a nm kids,ms,aN,ar,s=>by
  have hL:=λms aN ar s=>U8 x kids ms aN ar s
  by_cases n5:kind=5
  conv=>lhs;unfold fU
  conv=>rhs;unfold fU
  rw[atV n5,atV n5];split;rename_i k0 _ _ _ _ _ ps k2 _ _ _ _ _ bs;simp only[HO x k0,HO x k2,x.par,ab5 x ps,U8 x bs];rfl
  conv=>lhs;unfold fU
  conv=>rhs;unfold fU
  rw[atS n5,atS n5];simp only[hL,x.note,x.use,x.pl,x.bu]
theorem U8(x:xm E E'):∀(t:List Tree)(ms:List KM)(aN:Bool)(ar:KM)(s:WS),jF E ms aN ar t s=jF E' ms aN ar t s
 |[],_,_,_,_=>by unfold jF;rfl
 |t::ts,ms,aN,ar,s=>by unfold jF;rw[HO x t,U8 x ts]
theorem ab5(x:xm E E'):∀(t:List Tree)(s:WS),oD E t s=oD E' t s
 |[],_=>by unfold oD;rfl
 |t::ts,s=>by unfold oD;rw[HO x t,x.par,ab5 x ts]
end
def C3(fs:List Tree)(aq:List (List UInt8))(bu:List UInt8->List aC)(j:Nat):fM:=⟨0,0,0,0,0,0,j,.any,.any,.any,.any,fs,aq,bu⟩
def uB(fs:List Tree)(aq:List (List UInt8))(bu:List UInt8->List aC):List Tree->Nat->Sc->Sc
 |[],_,s=>s
 |t::ts,j,s=>uB fs aq bu ts (j+1) (fU (C3 fs aq bu j) [] false aX t ⟨aX,aX,s⟩).sc
theorem ab6{fs aq bu}:∀(ts:List Tree)(j:Nat)(s:Sc),s.us.length<=(uB fs aq bu ts j s).us.length
 |[],_,_=>at2 _
 |t::ts,j,s=>at1 (HL (C3 fs aq bu j) t [] false aX ⟨aX,aX,s⟩) (ab6 ts (j+1) _)
end
section
variable{h:Hp}{k:aK->Prop}
structure HP(p aG tb:Nat)(c0 c1 c2 c8:AV)(fs:List Tree)(aq:List (List UInt8))(bu:List UInt8->List aC)(h:Hp):Prop where
 nO:Bu h tb bu
 tl:∀s,(bu s).length<1073741824
 kf:lC 0 h c1 fs
 ds:yb h c2 aq
 len:fs.length=aq.length
 fl:fs.length<4294967296
theorem HP.mono{p aG tb:Nat}{c0 c1 c2 c8 fs aq bu}{h':Hp}{M:Nat->Prop}(x:HP p aG tb c0 c1 c2 c8 fs aq bu h)(g:Wf M h h')(hM:∀i,M i->i≠tb/\∀el rw r f,h.get i≠.rows el rw r 0 f):HP p aG tb c0 c1 c2 c8 fs aq bu h':=by
 have key:∀i o,h.get i=o->jN o=false->¬M i->¬uw o->h'.get i=o:=λi o e hn hm h3=>by rw[g.get i (Hp.lt e hn) hm (by rw[e];exact h3)];exact e
 have nf:NF 0 h h':=λi r f _ e=>key i _ e rfl (λm=>(hM i m).2 _ _ _ _ e) (λ⟨_,_,e⟩=>by cases e);obtain⟨L,tm,td⟩:=x.nO;refine⟨x.nO.mono λq hq hh=>?_,x.tl,x.kf.nf nf,λne=>?_,x.len,x.fl⟩;rcases hh with rfl|⟨r,f,e⟩;obtain⟨⟨aD,e⟩,_⟩:=tm;exact(key _ _ e rfl (λm=>(hM _ m).1 rfl) (λ⟨_,_,e⟩=>by cases e)).trans e.symm;exact(key _ _ e rfl (λm=>(hM _ m).2 _ _ _ _ e) (λ⟨_,_,e⟩=>by cases e)).trans e.symm;obtain⟨b,cap,ex,r,t,e1,hb,h1⟩:=x.ds ne;exact⟨b,cap,ex,r,t,e1,key _ _ hb rfl (λm=>(hM _ m).2 _ _ _ _ hb) (λ⟨_,_,e⟩=>by cases e),h1⟩
structure uC(p aG tb:Nat)(c0 c1 c2 c8:AV)(h:Hp)(s:Sc):Prop where
 hp:∃v,h.get p=.one 52 (bS c0 c1 c2 s.bN (.map aG) (.map tb) c8 v)/\pA h v s.us
 nd:lX h aG s.nd
 ne:aG≠tb
theorem aki(HT:aA T){p aG tb:Nat}{c0 c1 c2 c8:AV}{fs:List Tree}{aq:List (List UInt8)}{bu:List UInt8->List aC}{s:Sc}(x:HP p aG tb c0 c1 c2 c8 fs aq bu h)(y:uC p aG tb c0 c1 c2 c8 h s)
 (ok:∀t∈fs,fh false t/\rY t) (us:(uB fs aq bu fs 0 s).us.length<1073741824)
 (hk:∀h',Wf (λi=>i=p\/i=aG) h h'->uC p aG tb c0 c1 c2 c8 h' (uB fs aq bu fs 0 s)->k (.ret (.bA []) h')):aE T (W T) ⟨34⟩ [.ptr p 0] h k:=by
 rw[aJ HT.t34];obtain⟨vv,hp,sk⟩:=y.hp;have lp:=Hp.lt hp rfl;have OK:=y.nd.lt;have dj:=hp;simp only[bS] at dj;generalize hL:CC.loop l34_0=L;simp(disch:=omega) [dj,x.kf.len];subst hL;have kinds:∀(h1:Hp)(s1:Sc),HP p aG tb c0 c1 c2 c8 fs aq bu h1->uC p aG tb c0 c1 c2 c8 h1 s1->∀i,(i=p\/i=aG)->i≠tb/\∀el rw r f,h1.get i≠.rows el rw r 0 f:=by rintro h1 s1 x1 y1 i (rfl|rfl);obtain⟨v,hp,_⟩:=y1.hp;obtain⟨L,⟨⟨aD,e⟩,_⟩,_⟩:=x1.nO;exact⟨λq=>(by rw[q,e] at hp;cases hp),λ_ _ _ _ q=>(by rw[hp] at q;cases q)⟩;obtain⟨L,aD,q,_⟩:=y1.nd;exact⟨y1.ne,λ_ _ _ _ e=>qbe⟩
 have key:∀(ts:List Tree)(j:Nat)(s1:Sc)(h1:Hp)(f:Fr)(K:aT->Prop),j+ts.length=fs.length->(∀i(hi:i<ts.length),fs[j+i]? =some ts[i])->HP p aG tb c0 c1 c2 c8 fs aq bu h1->uC p aG tb c0 c1 c2 c8 h1 s1->h1.get h.nx=.one 25 [.ptr p 0]->p<h.nx->aG<h.nx->(uB fs aq bu ts j s1).us.length<1073741824->
  J 1 f=.ptr h.nx 0->J 8 f=c1->J 9 f=.i fs.length->J 10 f=.i j->(∀f' h',Wf (λi=>i=p\/i=aG) h1 h'->uC p aG tb c0 c1 c2 c8 h' (uB fs aq bu ts j s1)->K (.exit 0 f' h' []))->W T (.loop l34_0) f h1 [] K:=by
  intro ts
  induction ts with
  |nil=>
   intro j s1 h1 f K hj jh x1 y1 sn lp ln us f1 f8 f9 f10 hk;simp only[aup,aud] at hj;subst hj;rw[aP];refine aU f8 f9 f10 ?_;exact hk _ _ (Wf.refl _) y1
  |cons t ts ih=>
   intro j s1 h1 f K hj jh x1 y1 sn lp ln us f1 f8 f9 f10 hk;simp only[atX] at hj;have nV:=x1.fl;have ao:j<fs.length:=zo;have aY:(j:Int)<fs.length:=zo;have et:fs[j]=t:=by have:=jh 0 zm;simp only[aud,atT ao,aus] at this;exact auQ this
   obtain⟨OL,smt⟩:=ok t (by rw[<-et];exact auy ao);obtain⟨b,cap,ex,r,ff,ec,hb,hr,hn⟩:=x1.kf.rows qaZ;have eJ:=hn j ao;simp only[aue,et] at eJ;obtain⟨kv,r0,hkv⟩:=eJ.cells;have lb:=Hp.lt hb rfl;have OF:=Hp.lt sn rfl;rw[aP];refine nA f1 f8 f9 f10 ao aY ec hb r0 hkv.bQ ?_;rw[<-r0];generalize hH:((((((h1.push _).push _).set _ _).set _ _).push _).set _ _:Hp)=H;have gH:ax h1 H:=by rw[<-hH];exact fZ
   have nH:H.nx=h1.nx+1+1+1:=by rw[<-hH];simp(disch:=first|exact bh|fail)
   have u1:H.get h1.nx=.one 3 [.i j]:=by rw[<-hH];simp(disch:=first|exact bh|fail)
   have u3:H.get (h1.nx+1+1)=.one 107 [.func ⟨63⟩ [] [.ptr (h1.nx+1+1) 0,.ptr h.nx 0,.ptr h1.nx 0]]:=by rw[<-hH];simp(disch:=omega)
   clear hH;have U9:H.get h.nx=.one 25 [.ptr p 0]:=(gH.get _ OF id).trans sn
   let E:fM:=⟨p,aG,tb,h1.nx+1+1,h.nx,h1.nx,j,c0,c1,c2,c8,fs,aq,bu⟩
   have xH:=x1.mono (Wf.of gH) (λ_ q=>q.elim);have akj:CZ E H:=⟨u3,U9,u1,xH.nO,xH.tl,xH.kf,xH.ds (Cq (j:=j) (by rw[<-xH.len];exact ao)),ao,by rw[<-xH.len];exact ao,by show(fs.getD j zT).kids.length<_;rw[show fs.getD j zT=t by simp[List.getD,ao,et]];exact(Aq smt).1⟩;obtain⟨v1,fu,K6⟩:=y1.hp;have scH:EX E H s1:=(EX.g0 (E:=E) ⟨⟨v1,fu,K6⟩,y1.nd,y1.ne⟩ gH);obtain⟨L,tm,_⟩:=xH.nO;have dW:=tm.lt;have pre:gG E H.nx H false 0 0 0 [] aX ⟨aX,aX,s1⟩ .gJ .kQ:=⟨akj,scH,⟨λ_=>rfl,λe=>by cases e⟩,.inl ⟨rfl,rfl,rfl⟩,⟨by show p<_;omega,by show aG<_;omega,dW⟩⟩;have same:xm E (C3 fs aq bu j):=⟨rfl,rfl,rfl,rfl⟩;have UR:(fU E [] false aX t ⟨aX,aX,s1⟩).sc.us.length<1073741824:=by rw[HO same];exact auD (ab6 ts (j+1) _) us
   refine akh HT E t false [] aX ⟨aX,aX,s1⟩ H (ff j) .gJ .kQ 0 0 0 H.nx _ pre (eJ.nf (mY gH) zl) smt OL UR λh2 p2=>?_;rw[HO same] at p2;obtain⟨g2,OI,_⟩:=p2;have g2':Wf (λi=>i=p\/i=aG) H h2:=g2.mono λi _ q=>by rcases q with q|q|⟨q,_⟩;exact .inl q;exact .inr q;cases q
   have gg:Wf (λi=>i=p\/i=aG) h1 h2:=(Wf.of (ah.cn gH)).trans g2';have y2:uC p aG tb c0 c1 c2 c8 h2 (fU (C3 fs aq bu j) [] false aX t ⟨aX,aX,s1⟩).sc:=⟨OI.hp,OI.nd,y1.ne⟩;have x2:=x1.mono gg (kinds h1 s1 x1 y1);have uz:h2.get h.nx=.one 25 [.ptr p 0]:=by rw[g2'.get _ zo zo (by rw[U9];rintro⟨_,_,q⟩;cases q)];exact U9
   refine aS f10 ao ?_;refine ih (j+1) _ h2 _ K zo (λi hi=>?_) x2 y2 uz lp ln us zA zA zA aa λf' h' g' y'=>hk f' h' (gg.trans g') y';have:=jh (i+1) zn;simp only[auu] at this;rw[show j+1+i=j+(i+1) by omega];exact this
 have g0:ax h (h.push (.one 25 [.ptr p 0])):=aZ;have y0:uC p aG tb c0 c1 c2 c8 (h.push (.one 25 [.ptr p 0])) s:=⟨⟨vv,(g0.get _ lp id).trans hp,sk.mono λq hq _=>g0.get q hq id⟩,y.nd.mono (g0.get _ OK id),y.ne⟩;refine key fs 0 s _ _ _ zo (λi hi=>by simp[hi]) (x.mono (Wf.of g0) λ_ q=>q.elim) y0 (Hp.br rfl) lp OK us aa aa aa aa λf' h' g' y'=>?_;refine ag ?_;exact hk _ ((Wf.of (ah.cn g0)).trans g') y'
end
end Yv
