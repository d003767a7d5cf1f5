/- A part of the proof of 'TypesZeroUptoCardSaid'. No condition. -/
import Derived.Test.YtakmgamiepdiiaaGreatDoorX04
set_option maxHeartbeats 64000000
set_option maxRecDepth 100000
set_option linter.all false
namespace Yv
variable {D:Nat->Nat}{c:UInt8}{dp:Int}{h:Hp}{hi i nd δ:Nat}{ng tr:Bool}{nm p s:List UInt8}{v:AV}
variable {T:aM->Option CF}
section
open Go (IntKind)
variable {k:aK->Prop}
def aa0(hd:jS s=s.length):∀j,(a:j<s.length)->48<=s[j].toNat/\s[j].toNat<=57:=by
 intro j a;have b:s.takeWhile kh=s:=(aw9 _).eq_of_length hd;have c:s[j]∈s.takeWhile kh:=by rw[b];exact auy a
 have:=List.all_takeWhile (p:=kh) (l:=s);rw[auO] at this;simpa[kh] using this _ c
def aiN(I:aA T){t:Nat->List AV}{b:Nat}(A:h.ac b=.b 5 1 s.length 0 t)(G:∀j,(M:j<s.length)->t j=[.s s[j].toNat]) (N:s.length<1073741824) (hd:jS s=s.length) {K:aT->Prop}
 (kx:∀l x,0<=x->x<18446744073709551616->(s.length=1->x<10)->cg 13 l=.g .u64 x->cg 12 l=.d false->K (.a 3 l h []))
 (D:∀l x,0<=x->x<18446744073709551616->s.length≠1->cg 6 l=.g .u64 x->cg 7 l=.r 264 (.i 1)->K (.b l h [])):∀(m i:Nat)(f:Fr)(x:Int),m=s.length- i->i<=s.length->0<=x->x<18446744073709551616->(s.length=1->x<10/\(i=0->x=0))->
 cg 99 f=.c b 0 1 s.length s.length false->cg 100 f=.i s.length->cg 101 f=.i i->cg 13 f=.g .u64 x->cg 12 f=.d false->cg 8 f=.d false->cg 1 f=.i 10->cg 10 f=.g .u64 1844674407370955162->cg 11 f=.g .u64 18446744073709551615->W T (.d l192_0) f h [] K:=by
 intro m
 induction m with
 |zero=>
  intro i f x F hi h0 C o g a d f13 f12 f8 p f10 f11;have e:¬i<s.length:=zo;rw[aP];refine bK g a d e ?_;exact kx _ x h0 C (λq=>(o q).1) zA zA
 |succ m H=>
  intro i f x F hi h0 C o g a d f13 f12 f8 p f10 f11;have n:i<s.length:=zo;obtain⟨r,u⟩:=aa0 hd i n;have B:=G i n;rw[aP];have z:¬s[i].toNat=95:=zo;have J:s[i].toNat- 48<10:=zo;generalize L:s[i].toNat=c at*;obtain⟨q,rfl⟩:∃q,c=q+48:=⟨c- 48,by omega⟩;have v:¬10<=q:=zo;have w:q<10:=zo;have y:q<=9:=zo
  by_cases c1:1844674407370955162<=x
  refine kC g a d f13 f12 f8 p f10 f11 A B z (atQ (atQ (atQ (atQ (atQ (atQ r u) v) w) y) n) c1) ?_;exact D _ 18446744073709551615 zd zd (λq=>by have:=o q;omega) aa aa;have E:x*10% 18446744073709551616=x*10:=zo
  by_cases c2:(x*10+q)% 18446744073709551616<x*10
  refine kC g a d f13 f12 f8 p f10 f11 A B z (atQ (atQ (atQ (atQ (atQ (atQ (atQ (atQ r u) v) w) y) n) c1) c2) E) ?_;exact D _ 18446744073709551615 zd zd (λq=>by have:=o q;omega) aa aa;have c3:¬18446744073709551615<(x*10+q)% 18446744073709551616:=zo;refine kC g a d f13 f12 f8 p f10 f11 A B z (atQ (atQ (atQ (atQ (atQ (atQ (atQ (atQ (atQ r u) v) w) y) n) c1) c2) c3) E) ?_;refine H (i+1) _ ((x*10+q)% 18446744073709551616) zo zo zo zo (λq=>by have:=o q;omega) zA zA aa aa zA zA zA zA zA
def aiO(c:aA T)(j:s.length<1073741824)(l:s≠[])(hd:jS s=s.length)
 (d:∀x e h',ax h h'->0<=x->x<18446744073709551616->(e=.x/\(s.length=1->x<10)\/s.length≠1/\e=.r 264 (.i 1))->k (.a (.p [.g .u64 x,e]) h')):aE T (W T) ⟨192⟩ [S s,.i 10,.i 64] h k:=by
 rw[ic c.t192];obtain⟨t,f,m⟩:=aiL (h:=h) (s:=s) zo;generalize i:CC.d l192_0=L;refine aS l f ?_;subst i;refine aiN c (Hp.ba rfl) m j hd ?_ ?_ _ 0 _ 0 rfl zo zd zd (λ_=>⟨by decide,λ_=>rfl⟩) ?_ ?_ ?_ ?_ ?_ ?_ ?_ ?_ ?_;intro g x h0 a b f13 f12;refine aS f13 f12 ?_;exact d _ _ _ aZ h0 a (.inl ⟨rfl,b⟩);intro g x h0 a b f6 f7;refine aS f6 f7 ?_;exact d _ _ _ aZ h0 a (.inr ⟨b,rfl⟩)
 all_goals simp(disch:=omega)
def aiP(d:aA T)(m:s.length<1073741824)(f:s≠[])(hd:jS s=s.length)
 (b:∀x e h',ax h h'->(e=.x\/s.length≠1/\e=.r 264 (.i 1))->k (.a (.p [.i x,e]) h')):aE T (W T) ⟨166⟩ [S s,.i 10,.i 64] h k:=by
 rw[ic d.t166];obtain⟨c,r,rfl⟩:∃c r,s=c::r:=by cases s with|nil=>exact absurd rfl f|cons c r=>exact⟨c,r,rfl⟩
 have i:=aa0 hd 0 zm;simp only[aus] at i;have j:¬c.toNat=43:=zo;have l:¬c.toNat=45:=zo;refine aS j l ?_;refine aiO d m f hd λx e h' g h0 n a=>?_;rcases a with⟨rfl,a⟩|⟨a,rfl⟩
 by_cases c1:9223372036854775808<=x
 refine aB c1 ?_;exact b _ _ _ g (.inr ⟨λq=>by have:=a q;omega,rfl⟩);refine aB c1 ?_;exact b _ _ _ g (.inl rfl);refine ag ?_
 by_cases c1:9223372036854775808<=x
 refine aB c1 ?_;exact b _ _ _ g (.inr ⟨a,rfl⟩);refine aB c1 ?_;exact b _ _ _ g (.inl rfl)
def aEO(h:Hp)(i:Nat):Prop:=i<h.a/\∃t v,cellsOf (h.ac i) 0 1=some [.r t v]
def aEO.aw{h':Hp}{i}(x:aEO h i)(g:ax h h'):aEO h' i:=by obtain⟨a,t,v,e⟩:=x;exact⟨aur a g.g,t,v,by rw[g.f _ a id];exact e⟩
def aa1:∀(l:List (List AV))(t:N3 (List AV))(q n:Nat),q+l.length<=n->(∀j,j<n->∃u,u<256/\t j=[.s u])->(∀r∈l,∃u,u<256/\r=[.s u])->
 ∃t',yW (.b 5 1 n 0 t) q 1 l=some (.b 5 1 n 0 t')/\∀j,j<n->∃u,u<256/\t' j=[.s u]
 |[],t,q,n,_,a,_=>⟨t,rfl,a⟩
 |r::l,t,q,n,f,a,b=>by obtain⟨u,m,rfl⟩:=b r zm;simp only[atX] at f;obtain⟨w,o,e⟩:=a q zo;have:=aa1 l (cx t q [.s u]) (q+1) n zo (λj g=>by rw[dZ];split;exact⟨u,m,rfl⟩;exact a j g) (λr i=>b r (by simp[i]));obtain⟨t',c,d⟩:=this;refine⟨t',?_,d⟩;simp only[yW];rw[ag4 zo zo,e];exact c
def aa2(g:aA T)(v:s.length<1073741824)(f:∀l n h',ax h h'->k (.a (.A l n) h')):aE T (W T) ⟨217⟩ [S s] h k:=by
 rw[ic g.t217];cases s with
 |nil=>refine ag ?_;exact f 0 0 _ aZ
 |cons c r=>
  have e:¬((r.length:Int)+1=0):=zo;simp only[atX] at v;have em:DB h 5 1 1 [.s 0] (.i ((r.length:Int)+1)) (.i ((r.length:Int)+1))=.b (.c h.a 0 1 (r.length+1) (r.length+1) true) (h.am (.b 5 1 (r.length+1) 0 (qm [.s 0] (r.length+1) 0 fG))):=aan (n:=r.length+1) zo zo;obtain⟨t',b,i⟩:=aa1 (mg (r.length+1) (cO ((c::r).map (·.toNat)))) (qm [.s 0] (r.length+1) 0 fG) 0 (r.length+1) (by rw[Ua];omega) (λj d=>⟨0,by decide,by rw[aao,atV zo]⟩) (λq w=>by obtain⟨j,d,rfl⟩:=avC w;exact⟨_,avn _ zd,Ub _ _ _ d⟩)
  generalize qm [.s 0] (r.length+1) 0 fG=z at*;have o:∀H:Hp,H.ac h.a=.b 5 1 (r.length+1) 0 z->FV H 1 (.c h.a 0 1 (r.length+1) (r.length+1) true) (S (c::r))=.b (.i (r.length+1)) (H.bj h.a (.b 5 1 (r.length+1) 0 t')):=λH a=>by simp only[FV,S,lenOf,atX,show Nat.min (r.length+1) (r.length+1)=r.length+1 from Nat.min_self _,Mp,cond,a];obtain⟨x,L,m⟩:∃x L,mg (r.length+1) (cO ((c::r).map (·.toNat)))=x::L:=⟨_,_,rfl⟩;rw[m] at b⊢;simp only[b];rfl
  simp(disch:=omega) [e,em,o _ (Hp.ba (h:=h) rfl)];obtain⟨l,y,B,C⟩:=Tm (t:=t') (r.length+1) 0 λj _ A=>i j zo;have er:kZ (.b 5 1 (r.length+1) 0 t') 0 1 (r.length+1)=some (aEt t' (r.length+1) 0):=NL zd zl;have u:∀H:Hp,H.ac h.a=.b 5 1 (r.length+1) 0 t'->AL H 5 (.a h.a 0) (.i ((r.length:Int)+1))=.b (.A (r.length+1) (cO l)) (H.bj h.a .f):=λH a=>by have p:mM (.i ((r.length:Int)+1))=some (r.length+1):=rfl;unfold AL;rw[p];simp only[a,cond,J9,er,y]
  simp(disch:=omega) [u _ (Hp.dq rfl)];exact f _ _ _ aZ
def aiQ(b:aA T){p:List UInt8}(g:s.length<1073741824)(a:aEO h 6)(f:∀v h',ax h h'->k (.a v h')):aE T (W T) ⟨194⟩ [S p,S s] h k:=by
 rw[ic b.t194];obtain⟨a,t,v,c⟩:=a;refine aB c ?_;refine aa2 b g λw w' e g1=>?_;have d:cellsOf (e.ac 6) 0 1=some [.r t v]:=by rw[g1.f _ a id];exact c
 refine aB d ?_;exact f _ _ aZ
def aa3(a:aA T){p:List UInt8}{b z:Int}(e:s.length<1073741824)(c:aEO h 6)(d:∀v h',ax h h'->k (.a (.r 267 v) h')):aE T (W T) ⟨167⟩ [S p,S s,.i b,.i z,.r 264 (.i 1)] h k:=by rw[ic a.t167];refine ag ?_;refine aiQ a e c λv f g1=>?_;refine ag ?_;exact d _ _ aZ
def aiR(a:aA T)(d:s.length<1073741824)(g:s≠[])(hd:jS s=s.length)(f:aEO h 6)
 (c:∀x e h',ax h h'->(e=.x\/s.length≠1/\∃v,e=.r 267 v)->k (.a (.p [.i x,e]) h')):aE T (W T) ⟨141⟩ [S s,.i 10,.i 64] h k:=by
 rw[ic a.t141];refine ag ?_;refine aiP a d g hd λx e i g1 b=>?_;rcases b with rfl|⟨b,rfl⟩;refine ag ?_;exact c _ _ _ aZ (.inl rfl);refine ag ?_;refine aa3 a d (f.aw g1) λv j g2=>?_;refine ag ?_;exact c _ _ _ (g1.ab g2) (.inr ⟨b,_,rfl⟩)
def aiS:∀c:UInt8,c∈rj->kh c=true:=by decide
def aiT(d:aA T)(m:aEO h 6):Cz T h:=by
 intro s k j g;rw[ic d.t111];refine ag ?_;refine aaZ d j ?_;cases a:Ag s with
 |false=>
  refine ag ?_;refine g _ _ _ aZ λ⟨i,l⟩=>?_;obtain⟨c,rfl⟩:=List.length_eq_one_iff.1 i;have b:c∈rj:=by
   by_cases b:c∈rj
   exact b;simp[dU,sW,b] at l
  simp[Ag,jS,aiS c b] at a
 |true=>
  simp only[Ag,atW,auU] at a;refine ag ?_;refine aiR d j a.1.1 a.1.2 m λx e i g1 f=>?_;rcases f with rfl|⟨f,v,rfl⟩;refine ag ?_;exact g _ _ _ aZ λ_=>rfl;refine ag ?_;exact g _ _ _ aZ λq=>absurd q.1 f
def KR(c:UInt8):Prop:=kh c=true\/c=46\/c=101\/c=43\/c=45
structure FlA(s:List UInt8):Prop where
 d:s≠[]
 b:kh (s.headD 0)=true
 a:∀c∈s,KR c
def Oh:∀{s:List UInt8},∀c∈s.take (jS s),kh c=true
 |[],c,h=>by simp at h
 |a::s,c,h=>by
  unfold jS at h
  by_cases e:kh a=true
  rw[avL e,atX,awj] at h;rcases atZ.1 h with q|q;rw[q];exact e;exact Oh c q;rw[awb e] at h;simp at h
def aa4(e:jS s=s.length):∀c∈s,kh c=true:=by have:=@Oh s;rwa[e,List.take_length] at this
def aiU{c:UInt8}(h:(iz s c).2.2 =true):s=(iz s c).1 ++c::(iz s c).2.1 :=by unfold iz at h⊢;split at h;rename_i a;rw[atV a];have i:=avD a;have e:s[s.idxOf c]=c:=List.getElem_idxOf i;have:=av6 (s.idxOf c) s;rw[aut i,e] at this;exact this.symm;simp at h
def aa5{a rest p q:List UInt8}(e:s=a++46::rest)(b:Ag a=true)(er:rest=p++q)(g:∀c∈p,kh c=true) (i:∀c∈q,KR c):FlA s:=by
 simp only[Ag,atW,auU] at b;have d:=aa4 b.1.2;subst e er;refine⟨by simp,?_,λc f=>?_⟩;cases a with
 |nil=>exact absurd rfl b.1.1
 |cons x a=>exact d x zm
 rcases auj.1 f with m|m;exact .inl (d c m);rcases atZ.1 m with m|m;exact .inr (.inl m);rcases auj.1 m with m|m;exact .inl (g c m);exact i c m
def ff{P:Prop}:false=true->P:=nofun
def aiV(n:aA T)(V:s.length<1073741824)(i:∀b,(b=true->FlA s)->k (.a (.d b) h)):aE T (W T) ⟨142⟩ [S s] h k:=by
 rw[ic n.t142];generalize P:azY=R;refine ag ?_;refine Th n zo ?_;refine ag ?_;cases w:(iz s 46).2.2 with
 |false=>refine ag ?_;exact i _ ff
 |true=>
  have o:=aiU w;have le:s.length=(iz s 46).1.length+1+(iz s 46).2.1.length:=by
   conv=>lhs;rw[o]
   simp;omega
  generalize(iz s 46).1 =a at o le⊢;generalize(iz s 46).2.1 =rest at o le⊢;refine ag ?_;refine aaZ n zo ?_;cases D:Ag a with
  |false=>refine ag ?_;exact i _ ff
  |true=>
   subst P;unfold azY zt;generalize I:azX=U;refine ag ?_;refine Uc n zo ?_;have Y:=@aiM rest
   by_cases E:jS rest=0
   refine aB E ?_;exact i _ ff;have A:¬((jS rest:Nat):Int)=0:=zo;subst I;unfold azX zt;generalize G:azW=Q;refine aS E A ?_;refine Tg n zn ?_;have hd:=av6 (jS rest) rest;cases l:aEv (rest.drop (jS rest)) [101] with
   |false=>
    refine ag ?_
    by_cases e:jS rest=rest.length
    refine aB e ?_;exact i _ λ_=>aa5 o D hd.symm Oh λc g=>by rw[e,List.drop_length] at g;cases g
    have K:¬((jS rest:Nat):Int)=rest.length:=zo;refine aS e K ?_;exact i _ ff
   |true=>
    subst G;unfold azW zt;generalize J:aA3=H;have N:∃pw,rest.drop (jS rest)=101::pw:=by
     generalize rest.drop (jS rest)=z at l
     match z,l with
     |[],l=>simp[aEv] at l
     |c::z,l=>simp[aEv] at l;exact⟨z,by rw[l]⟩
    obtain⟨pw,ex⟩:=N;rw[ex];have O:pw.length<1073741824:=by have:=aui List.length ex;simp at this;omega
    have r:∀(d:List UInt8)(f:Fr),d.length<1073741824->cg 7 f=S d->(jS d=d.length->FlA s)->W T H f h [] (finish T (W T) [.a 2] k):=by
     intro d f X f7 hh;subst J
     by_cases c1:d=[]
     subst c1;refine aB f7 ?_;exact i _ ff
     by_cases c2:d.length<=3
     have j:(d.length:Int)<=3:=zo;refine bK f7 c1 c2 j ?_;refine Uc n zo ?_
     by_cases c3:jS d=d.length
     refine aS f7 c3 ?_;exact i _ λ_=>hh c3;have v:¬((jS d:Nat):Int)=d.length:=zo;refine aU f7 c3 v ?_;exact i _ ff;have j:¬(d.length:Int)<=3:=zo;refine bK f7 c1 c2 j ?_;exact i _ ff
    have p:∀(y d:List UInt8),101::pw=y++d->(∀c∈y,KR c)->jS d=d.length->FlA s:=λy d e L M=>
     aa5 o D hd.symm Oh λc g=>by rw[ex,e] at g;rcases auj.1 g with m|m;exact L c m;exact .inl (aa4 M c m)
    cases pw with
    |nil=>
     refine ag ?_;exact r [] _ zm aa λ_=>p [101] [] rfl (λc g=>by simp at g;exact .inr (.inr (.inl g))) rfl
    |cons x pw=>
     simp only[atX] at O;have F:wh (S (x::pw)) (some (.i 1)) none=.v (S pw):=by rw[ahb zd zn];rfl
     by_cases t:x=43
     subst t;have t:=rfl (a:=(43:UInt8));refine aB F ?_;exact r pw _ zo aa λq=>p [101,43] pw (by rw[t];rfl) (λc g=>by simp at g;rcases g with c|c;exact .inr (.inr (.inl c));exact .inr (.inr (.inr (.inl c)))) q
     by_cases u:x=45
     subst u;have u:=rfl (a:=(45:UInt8));refine aB F ?_;exact r pw _ zo aa λq=>p [101,45] pw (by rw[u];rfl) (λc g=>by simp at g;rcases g with c|c;exact .inr (.inr (.inl c));exact .inr (.inr (.inr (.inr c)))) q;have B:¬x.toNat=43:=λe=>t (avi.1 e);have C:¬x.toNat=45:=λe=>u (avi.1 e);refine aS B C ?_;exact r (x::pw) _ zn aa λq=>p [101] (x::pw) rfl (λc g=>by simp at g;exact .inr (.inr (.inl g))) q
end
section
open Go (IntKind)
def kO(D:Nat->Nat)(nd dp:Int)(ng tr:Bool):List AV:=(List.range 800).map (λi=>.s (D i))++[.i nd,.i dp,.d ng,.d tr]
section
variable {nd:Int}
def EH{c:Type}{x:c}:∀{l:List c}{i:Nat},l[i]? =some x->gK 1 (aEC i l)=some [x]
 |[],i,h=>by simp at h
 |a::l,0,h=>by simp at h;subst h;rfl
 |a::l,i+1,h=>EH (l:=l) (by simpa using h)
def Ud{c:Type}{x:c}:∀{l:List c}{i:Nat},i<l.length->mK i [x] l=some (l.set i x)
 |[],i,h=>by simp at h
 |a::l,0,_=>rfl
 |a::l,i+1,h=>by show(match mK i [x] l with|some d=>some (a::d)|none=>none)=_;rw[Ud (by simpa using h)];rfl
def HC(hi:i<800):(kO D nd dp ng tr)[i]? =some (.s (D i)):=by unfold kO;rw[aun (by simp;exact hi)];simp[hi]
def CQ(j:Nat):(kO D nd dp ng tr)[800+j]? =[AV.i nd,.i dp,.d ng,.d tr][j]? :=by unfold kO;rw[auq zm];simp
@[simp] def asV(hi:i<800):gK 1 (aEC i (kO D nd dp ng tr))=some [.s (D i)]:=EH (HC hi)
@[simp] def asW:gK 1 (kO D nd dp ng tr)=some [.s (D 0)]:=EH (i:=0) (HC zd)
@[simp] def asX:gK 1 (aEC 800 (kO D nd dp ng tr))=some [.i nd]:=EH (CQ 0)
@[simp] def asY:gK 1 (aEC 801 (kO D nd dp ng tr))=some [.i dp]:=EH (CQ 1)
@[simp] def asZ:gK 1 (aEC 802 (kO D nd dp ng tr))=some [.d ng]:=EH (CQ 2)
@[simp] def as0:gK 1 (aEC 803 (kO D nd dp ng tr))=some [.d tr]:=EH (CQ 3)
def KU:(kO D nd dp ng tr).length=804:=by simp[kO]
def aEK(D:Nat->Nat)(i v:Nat):Nat->Nat:=λj=>if j=i then v else D j
@[simp] def as1{u:Nat}(hi:i<800):mK i [.s u] (kO D nd dp ng tr)=some (kO (aEK D i u) nd dp ng tr):=by
 rw[Ud (by rw[KU];omega)];refine aui some (avs λj=>?_);rw[awt,KU,atV (by omega:i<804)];rcases avh j 800 with c|c;rw[HC c,HC c,aEK]
 by_cases e:i=j
 rw[atV e,atV e.symm];rw[atS e,atS (Ne.symm e)];obtain⟨q,rfl⟩:=awp c;rw[CQ,CQ,atS zo]
def Oj{D:Nat->Nat}{nd dp d a:Int}{ng tr g f:Bool}{q:Nat}(l:q<4)(h:∀j,[AV.i d,.i a,.d g,.d f][j]? =if q=j then some v else[AV.i nd,.i dp,.d ng,.d tr][j]?):mK (800+q) [v] (kO D nd dp ng tr)=some (kO D d a g f):=by
 rw[Ud (by rw[KU];omega)];refine aui some (avs λj=>?_);rw[awt,KU,atV (by omega:800+q<804)];rcases avh j 800 with c|c;rw[HC c,HC c,atS zo];obtain⟨j,rfl⟩:=awp c;rw[CQ,CQ,h j]
 by_cases e:q=j
 rw[atV zo,atV e];rw[atS zo,atS e]
def aau{P:Nat->Prop}(h:∀j,j<4->P j) (a:∀j,P (j+4)):∀j,P j:=λj=>by rcases avh j 4 with c|c;exact h j c;obtain⟨q,rfl⟩:=awp c;rw[awR];exact a q
@[simp] def as2{n:Int}:mK 800 [.i n] (kO D nd dp ng tr)=some (kO D n dp ng tr):=
 Oj (q:=0) zd λj=>by match j with|0=>rfl|1=>rfl|2=>rfl|3=>rfl|_+4=>rfl
@[simp] def as3{n:Int}:mK 801 [.i n] (kO D nd dp ng tr)=some (kO D nd n ng tr):=
 Oj (q:=1) zd λj=>by match j with|0=>rfl|1=>rfl|2=>rfl|3=>rfl|_+4=>rfl
@[simp] def as4{n:Bool}:mK 802 [.d n] (kO D nd dp ng tr)=some (kO D nd dp n tr):=
 Oj (q:=2) zd λj=>by match j with|0=>rfl|1=>rfl|2=>rfl|3=>rfl|_+4=>rfl
@[simp] def as5{n:Bool}:mK 803 [.d n] (kO D nd dp ng tr)=some (kO D nd dp ng n):=
 Oj (q:=3) zd λj=>by match j with|0=>rfl|1=>rfl|2=>rfl|3=>rfl|_+4=>rfl
end
section
variable {k:aK->Prop}{b:Nat}
@[simp] def as6{b:Nat}{a:Int}(h0:0<=a)(c:a<800):yY 1 800 (.a b 0) (.i a)=.v (.a b a.toNat):=by obtain⟨q,rfl⟩:=at6 h0;have c:q+1<=800:=zo;simp[yY,c]
def asc(h:Hp)(b:Nat)(D:Nat->Nat)(nd:Nat)(dp:Int)(ng tr:Bool):Prop:=h.ac b=.a 318 (kO D nd dp ng tr)
def aa6(C:aA T)(x:asc h b D nd dp ng tr)(G:nd<=800)(u:∀h' o,ah (·=b) h h'->asc h' b D o (if o=0 then 0 else dp) ng tr->o<=nd->(0<nd->D 0≠48->0<o)->k (.a (.p []) h')):aE T (W T) ⟨269⟩ [.a b 0] h k:=by
 rw[ic C.t269];generalize E:aBo=r;generalize t:CC.d l269_0=L;refine ag ?_;subst t;have s:∀(m:Nat)(j:Hp)(f:Fr),ah (·=b) h j->asc j b D m dp ng tr->m<=nd->(0<nd->D 0≠48->0<m)->cg 0 f=.a b 0->W T r f j [] (finish T (W T) [] k):=by
  intro m j f g l n h0 f0;have d:=l;unfold asc at d;subst E;have F:((m:Int)=0)=(m=0):=by simp
  by_cases e:m=0
  subst e;refine aS f0 d ?_;exact u _ 0 (g.bj _ (.inr rfl)) (Hp.dq rfl) n h0;refine aU f0 d e ?_;exact u _ m g (by rw[atS e];exact l) n h0
 have key:∀(m:Nat)(j:Hp)(f:Fr),ah (·=b) h j->asc j b D m dp ng tr->m<=nd->(0<nd->D 0≠48->0<m)->cg 0 f=.a b 0->W T (.d l269_0) f j [] (bY 0 (bF (W T r) (finish T (W T) [] k))):=by
  intro m
  induction m with
  |zero=>
   intro j f g l n h0 f0;have d:=l;unfold asc at d;rw[aP];show W T ay4 f j [] _;unfold ay4 zt;generalize p:CC.f r269_0=B;refine ag ?_;subst p;rw[lI,mu];generalize ku _ _=fm;refine aS f0 d ?_;exact s 0 j _ g l n h0 zA
  |succ m w=>
   intro j f g l n h0 f0;have d:=l;unfold asc at d;have y:0<m+1:=zo;have z:((m+1:Nat):Int)- 1=m:=zo;have A:m<800:=zo;rw[aP];generalize t:CC.d l269_0=L at w⊢;show W T ay4 f j [] _;unfold ay4 zt;generalize p:CC.f r269_0=B;refine ag ?_;subst p;rw[lI,mu];generalize ku _ _=fm
   by_cases e:D m=48
   refine cq f0 d y z A e ?_;refine w _ _ (g.bj _ (.inr rfl)) (Hp.dq rfl) zo (λa c=>?_) zA;rcases auP m with q|q;subst q;exact absurd e c;exact q;refine cq f0 d y z A e ?_;exact s (m+1) j _ g l n h0 zA
 exact key nd h _ (ah.da _) x zl (λa _=>a) aa
end
end
section
variable {C:Nat->Nat}{m n j k:Nat}
def V(D:Nat->Nat):Nat->Nat
 |0=>0
 |m+1=>10*V D m+(D m- 48)
def th(D:Nat->Nat)(n:Nat):Prop:=∀i,i<n->48<=D i/\D i<=57
def KV(h:th D n):∀m,m<=n->V D m<10^m
 |0,_=>by simp[V]
 |m+1,a=>by have:=KV h m zo;have:=h m zo;rw[V,auX];omega
def Ue(i j:Nat):V D (i+j)=V D i*10^j+V (λq=>D (i+q)) j:=by
 induction j with
 |zero=>simp[V]
 |succ j a=>rw[<-avg,V,a,V,auX,Nat.mul_add];rw[show 10*(V D i*10^j)=V D i*(10^j*10) by rw[auB 10,avM]];omega
def th.drop(h:th D n)(i:Nat):th (λq=>D (i+q)) (n- i):=λq a=>h (i+q) zo
def Ok(hi:i<=n):V D i*10^(n- i)<=V D n:=by have:=Ue (D:=D) i (n- i);rw[show i+(n- i)=n by omega] at this;omega
def aa7(h:th D n)(hi:i<=n):V D n<(V D i+1)*10^(n- i):=by have a:=Ue (D:=D) i (n- i);have b:=KV (h.drop i) (n- i) zl;rw[show i+(n- i)=n by omega] at a;rw[auC,avz];omega
def Uf(h:∀j,j<i->D j=C j):V D i=V C i:=by
 induction i with
 |zero=>rfl
 |succ i a=>rw[V,V,a λj b=>h j zo,h i zo]
def KW(h:th D n)(h0:0<n)(hd:D 0≠48):(D 0- 48)*10^(n- 1)<=V D n/\1<=D 0- 48:=by
 have a:=Ok (D:=D) (i:=1) (n:=n) zo;have e:V D 1=D 0- 48:=by simp[V]
 rw[e] at a;have:=h 0 h0;exact⟨a,by omega⟩
def aa8{a b:Nat}(c:th D a)(h:∀j,j<i->D j=C j) (g:i<a) (l:i<b) (d:D i<C i) (f:48<=D i):V D a*10^b<V C b*10^a:=by
 have e:=Uf h;have x:=aa7 c (i:=i+1) zo;have y:=Ok (D:=C) (i:=i+1) (n:=b) zo;have z:V D (i+1)+1<=V C (i+1):=by rw[V,V,e];omega
 have p:0<10^b:=auZ zd;have q1:V D a*10^b<(V D (i+1)+1)*10^(a- (i+1))*10^b:=avE x p;have q2:(V D (i+1)+1)*10^(a- (i+1))*10^b<=V C (i+1)*10^(a- (i+1))*10^b:=at4 _ (at4 _ z);have q3:V C (i+1)*10^(b- (i+1))*10^a<=V C b*10^a:=at4 _ y;have q4:V C (i+1)*10^(a- (i+1))*10^b=V C (i+1)*10^(b- (i+1))*10^a:=by rw[avM,avM,<-auT,<-auT];congr 2;omega
 omega
def aiW{a b:Nat}(h:∀j,j<a->D j=C j) (c:a<b) (d:48<C (b- 1)):V D a*10^b<V C b*10^a:=by
 have e:=Uf h;have y:=Ok (D:=C) (i:=a) (n:=b- 1) zo;have z:V C b=10*V C (b- 1)+(C (b- 1)- 48):=by
  conv=>lhs;rw[show b=(b- 1)+1 by omega]
  rfl
 have p:0<10^a:=auZ zd;have q1:V C a*10^(b- 1- a)*10<V C b:=zo;have q2:=avE q1 p;rw[e];have q3:V C a*10^(b- 1- a)*10*10^a=V C a*10^b:=by rw[avM,avM,<-Nat.pow_succ',<-auT];congr 2;omega
 omega
def aiX{a b:Nat}(h:∀j,j<b->D j=C j) (c:b<=a):V C b*10^a<=V D a*10^b:=by
 have e:=Uf h;have y:=Ok (D:=D) (i:=b) (n:=a) c;have q:=at4 (10^b) y;rw[<-e];have q4:V D b*10^(a- b)*10^b=V D b*10^a:=by rw[avM,<-auT];congr 2;omega
 omega
end
section
open Go (IntKind)
variable {k:aK->Prop}{b:Nat}{C:List UInt8}
def Cn(C:List UInt8):Nat->Nat:=λi=>(C.getD i 0).toNat
def aiY(G:aA T)(x:asc h b D nd dp ng tr)(R:nd<=800){cap:Nat}{ex:Bool}(A:th D nd)(y:th (Cn C) C.length)(Q:C.length<100)(t:0<C.length->48<Cn C (C.length- 1))
 (v:∀r:Bool,(r=true->V D nd*10^C.length<V (Cn C) C.length*10^nd)->(r=false->V (Cn C) C.length*10^nd<=V D nd*10^C.length)->k (.a (.d r) h)):aE T (W T) ⟨268⟩ [.c b 0 1 nd cap ex,S C] h k:=by
 rw[ic G.t268];generalize w:aBn=H;have p:=x;unfold asc at p;have key:∀(m i:Nat)(f:Fr),m=C.length- i->i<=C.length->(∀j,j<i->D j=Cn C j)->i<=nd->cg 5 f=.i i->cg 0 f=.c b 0 1 nd cap ex->cg 1 f=S C->W T (.d l268_0) f h [] (bY 0 (bF (W T H) (finish T (W T) [.a 4] k))):=by
  intro m
  induction m with
  |zero=>
   intro i f J hi g n f5 f0 d;have e:i=C.length:=zo;subst e;rw[aP];show W T ay3 f h [] _;unfold ay3 zt;refine aU f5 f0 d ?_;subst w;refine ag ?_;exact v false nofun λ_=>aiX g n
  |succ m E=>
   intro i f J hi g n f5 f0 d;have a:i<C.length:=zo;have l:(i:Int)<C.length:=zo;rw[aP];generalize P:CC.d l268_0=L at E⊢;show W T ay3 f h [] _;unfold ay3 zt;generalize K:CC.f r268_5=N;generalize F:CC.f r268_6=O
   by_cases c:nd<=i
   have c':(nd:Int)<=i:=zo;refine iR f5 f0 d a l c c' ?_;obtain rfl:i=nd:=zo;exact v true (λ_=>aiW g a (t zo)) nofun;have c1:i<nd:=zo;have c2:i<800:=zo;have c':¬(nd:Int)<=i:=zo;have o:(C[i]?.getD 0).toNat=Cn C i:=by unfold Cn;rw[aub]
   have s:(C[i]).toNat=Cn C i:=by rw[<-o,atT a];rfl
   refine fY f5 f0 d a l c c' c1 ?_;subst K;rw[lI,mu];generalize ku _ _=fm;have hd:=A i c1;have I:=y i a
   by_cases e:D i=Cn C i
   refine kC f5 f0 d a l c c' c1 c2 p o s e ?_;refine E (i+1) _ zo zo (λj u=>?_) zo aa zA zA
   by_cases q:j=i
   rw[q];exact e;exact g j zo;have M:∀r:Bool,(r=true <-> D i<Cn C i)->k (.a (.d r) h):=λr B=>v r (λq=>aa8 A g c1 a (B.1 q) hd.1) λq=>axM (aa8 y (λj u=>(g j u).symm) a c1 (by
    have:¬D i<Cn C i:=λz=>by rw[B.2 z] at q;cases q
    omega) I.1)
   refine kC f5 f0 d a l c c' c1 c2 p o s e ?_;subst F;rw[lI,mu];generalize ku _ _=fm;refine kC f5 f0 d a l c c' c1 c2 p o s e ?_;exact M _ zm
 refine ag ?_;subst w;exact key _ 0 _ rfl (auz _) (λj u=>by omega) (auz _) aa aa aa
end
section
open Go (IntKind)
variable {a b c d k:Nat}
def Ai(h:a<18446744073709551616):IntKind.u64.wrap (a:Int)=a:=by rw[Go.IntKind.wrap_u64];omega
def KY(h:a<256):ko .u64 (.s a)=.v (.g .u64 (a:Int)):=by show OR.v (.g .u64 (IntKind.u64.wrap (Int.ofNat a)))=_;rw[show Int.ofNat a=(a:Int) from rfl,Ai zo]
def EI(h:a+b<18446744073709551616):lG (.g .u64 (a:Int)) (.g .u64 (b:Int))=.v (.g .u64 ((a+b:Nat):Int)):=by rw[vJ,<-Int.natCast_add,Ai h]
def HD(h:b<=a)(e:a<18446744073709551616):jb (.g .u64 (a:Int)) (.g .u64 (b:Int))=.v (.g .u64 ((a- b:Nat):Int)):=by rw[ru,show(a:Int)- b=((a- b:Nat):Int) by omega,Ai zo]
def HF(h:a*b<18446744073709551616):qj (.g .u64 (a:Int)) (.g .u64 (b:Int))=.v (.g .u64 ((a*b:Nat):Int)):=by rw[vK,<-Int.natCast_mul,Ai h]
def aa9(e:b≠0)(h:a<18446744073709551616):we (.g .u64 (a:Int)) (.g .u64 (b:Int))=.v (.g .u64 ((a/b:Nat):Int)):=by rw[KQ zo,show(a:Int).tdiv b=((a/b:Nat):Int) by rw[avr zo];simp,Ai (auD (Nat.div_le_self _ _) h)]
def aa'(e:k<64)(h:a*2^k<18446744073709551616):oQ pF (.g .u64 (a:Int)) (.g .u64 (k:Int))=.v (.g .u64 ((a*2^k:Nat):Int)):=by show OR.v (.g .u64 (IntKind.u64.wrap ((a:Int)*2^(min k 64))))=_;rw[show min k 64=k by omega,show(a:Int)*2^k=((a*2^k:Nat):Int) by simp,Ai h]
def HG(e:k<64):sC (.g .u64 (a:Int)) (.g .u64 (k:Int))=.v (.g .u64 ((a/2^k:Nat):Int)):=by rw[aED zo];congr 2;show(a:Int).fdiv (2^(min k 64))=_;rw[show min k 64=k by omega,avH _ (Int.pow_nonneg zd)];simp
def Om(h:a<256):ko .u8 (.g .u64 (a:Int))=.v (.s a):=by simp only[ko,intOf,aEG,Go.IntKind.wrap_u8];congr 2;omega
def aba(g:k<64)(h:a<18446744073709551616):jI (λ_ a b=>a&&&b) (.g .u64 (a:Int)) (.g .u64 ((2^k- 1:Nat):Int))=.v (.g .u64 ((a% 2^k:Nat):Int)):=by
 rw[oy];congr 2;simp only[bW,qN,aEG,Go.IntKind.wrap_u64];have p:2^k<=2^63:=auG zd zo;have f:0<2^k:=auZ zd;have e:(BitVec.ofInt IntKind.u64.bits (a:Int)&&&BitVec.ofInt IntKind.u64.bits ((2^k- 1:Nat):Int)).toNat=a% 2^k:=by rw[aw6];show(BitVec.ofInt 64 (a:Int)).toNat&&&(BitVec.ofInt 64 ((2^k- 1:Nat):Int)).toNat=_;rw[awo,awo];rw[show((a:Int)% ((2^64:Nat):Int)).toNat=a by omega,show(((2^k- 1:Nat):Int)% ((2^64:Nat):Int)).toNat=2^k- 1 by omega];exact Nat.and_two_pow_sub_one_eq_mod a k
 rw[e];have:a% 2^k<2^k:=avn _ f;simp only[au8];omega
end
section
variable {k r:Nat}
def aE1(D:Nat->Nat)(nd r:Nat):Nat:=V (λq=>D (r+q)) (nd- r)
def mW(D:Nat->Nat)(nd k r:Nat):Nat:=aE1 D nd r*2^k/10^(nd- r)
def ai0(h:r<nd):aE1 D nd r=(D r- 48)*10^(nd- (r+1))+aE1 D nd (r+1):=by
 unfold aE1;have:=Ue (D:=λq=>D (r+q)) 1 (nd- (r+1));rw[show 1+(nd- (r+1))=nd- r by omega] at this;rw[this];have e:V (λq=>D (r+q)) 1=D r- 48:=by simp[V]
 rw[e];congr 2;funext q;rw[show r+(1+q)=r+1+q by omega]
def abb(h:th D nd)(e:r<=nd):mW D nd k r<2^k:=by unfold mW;have a:=KV (h.drop r) (nd- r) zl;have p:0<2^k:=auZ zd;apply auw;exact avE a p
def abc(h:r<nd):(D r- 48)*2^k+mW D nd k (r+1)=aE1 D nd r*2^k/10^(nd- (r+1)):=by rw[ai0 h,auC,av0];unfold mW;rw[awR,awR ((D r- 48)*2^k*_),Nat.add_mul_div_right _ _ (auZ zd)]
def ai1(h:r<nd):((D r- 48)*2^k+mW D nd k (r+1))/10=mW D nd k r:=by rw[abc h,Nat.div_div_eq_div_mul,<-auX,show(nd- (r+1)).succ=nd- r by omega];rfl
def ai2:mW D nd k nd=0:=by simp[mW,aE1,V]
def abd:aE1 D nd 0=V D nd:=by simp[aE1]
end
section
open Go (IntKind)
variable {k:aK->Prop}{b s:Nat}
def Wr(D:Nat->Nat)(w n:Nat):Prop:=∀j,w<=j->j<n->j<800->48<=D j/\D j<=57
theorem Wr.kw{w n u:Nat}(x:Wr D (w+1) n)(d:u<10):Wr (aEK D w (u+48)) w n:=λj a b c=>by unfold aEK;split;omega;exact x j zo b c
def Wr.PQ{w n:Nat}(x:Wr D (w+1) n)(d:800<=w):Wr D w n:=λj a b c=>x j zo b c
def ai3(S:th D nd)(hs:s<=60)(hn:nd<=800)(hδ:δ<100){K:aT->Prop}
 (hK:∀p h' w fT,ah (·=b) h h'->asc h' b w nd dp ng fT->Wr w δ (nd+δ)->(δ=0->0<nd->aE1 D nd 0*2^s/10^(nd- 1)<10->w 0- 48=aE1 D nd 0*2^s/10^(nd- 1))->(∀q,q=0\/q=4->cg q p=if q=0 then .a b 0 else .i δ)->cg 6 p=.i δ->cg 7 p=.g .u64 (mW D nd s 0)->K (.a 0 p h' [])):
 ∀(m:Nat)(i:Hp)(d:Nat->Nat)(l:Bool)(f:Fr),m<=nd->ah (·=b) h i->asc i b d nd dp ng l->(∀j,j<m->d j=D j)->Wr d (m+δ) (nd+δ)->(m=0->δ=0->0<nd->aE1 D nd 0*2^s/10^(nd- 1)<10->d 0- 48=aE1 D nd 0*2^s/10^(nd- 1))->
  cg 0 f=.a b 0->cg 1 f=.g .u64 s->cg 4 f=.i δ->cg 5 f=.i ((m:Int)- 1)->cg 6 f=.i ((m+δ:Nat):Int)->cg 7 f=.g .u64 (mW D nd s m)->W T (.d l262_1) f i [] K:=by
 intro m
 induction m with
 |zero=>
  intro i d l f V g x n X h0 f0 t f4 f5 f6 f7;have f5:cg 5 f=.i (-1):=f5;rw[aP];show W T aAo f i [] _;refine aB f5 ?_;exact hK _ i d l g x (by rwa[aue] at X) (h0 rfl) (λq hq=>by rcases hq with rfl|rfl<;>exact bV f0 f4) (au f6) (au f7)
 |succ r u=>
  intro i d l f V g x n X h0 f0 t f4 f5 f6 f7;have v:=x;unfold asc at v;have f5:cg 5 f=.i r:=by rw[f5];congr 1;omega
  have G:r<nd:=V;have r8:r<800:=zo;have hd:=S r G;have ed:=n r (aw7 _);have cl:=abb (k:=s) S (r:=r+1) zo;have cs:=ai1 (D:=D) (k:=s) G;have sm:=abc (D:=D) (k:=s) G;have p60:2^s<=2^60:=auG zd hs;have as7:(D r- 48)*2^s<=9*2^s:=at4 _ zo;have dl:d r<256:=zo;have y:=KY dl;have A:jb (.g .u64 (d r:Int)) (.g .u64 48)=.v (.g .u64 ((D r- 48:Nat):Int)):=by rw[ed];exact HD (b:=48) zo zo
  have B:=aa' (a:=D r- 48) (k:=s) zo zo;generalize hc:mW D nd s (r+1)=c at*;generalize hP:(D r- 48)*2^s=P at*;have o:=EI (a:=c) (b:=P) zo;rw[awR c P] at o;generalize hN:P+c=N at*;have C:we (.g .u64 (N:Int)) (.g .u64 10)=.v (.g .u64 (mW D nd s r:Int)):=by have:=aa9 (a:=N) (b:=10) zd zo;rw[cs] at this;exact this
  have E:qj (.g .u64 10) (.g .u64 (mW D nd s r:Int))=.v (.g .u64 ((10*mW D nd s r:Nat):Int)):=HF (a:=10) zo;have F:=HD (a:=N) (b:=10*mW D nd s r) zo zo;have rl:N- 10*mW D nd s r<10:=zo;have rN:N<10->N- 10*mW D nd s r=N:=λz=>zo;generalize hR:N- 10*mW D nd s r=R at*;generalize hT:10*mW D nd s r=t10 at*;have e8:lG (.g .u64 (R:Int)) (.g .u64 48)=.v (.g .u64 ((R+48:Nat):Int)):=EI (b:=48) zo;have e9:=Om (a:=R+48) zo;generalize Uh:R+48=Z at*;have I:((r+1+δ:Nat):Int)- 1=((r+δ:Nat):Int):=zo;have H:(0:Int)<=r:=zo;rw[aP];generalize hL:CC.d l262_1=L at u⊢;show W T aAo f i [] _;have q5:((5:Nat):Int)=5:=rfl;generalize EJ:mW D nd s r=cr at*
  by_cases c8:r+δ<800
  have e:((r+δ:Nat):Int)<800:=zo;simp(disch:=omega) [-vJ,-ru,-vK,-KQ,-Og,-Of,-Int.natCast_add,f0,t,f5,f6,f7,v,y,A,B,o,C,E,F,e8,e9,I,e,H];refine u _ (aEK d (r+δ) Z) l _ zo (g.bj _ (.inr rfl)) (Hp.dq rfl) (λj U=>by unfold aEK;rw[atS zo];exact n j zo) ?_ (λJ M z3 Y=>?_) ?_ ?_ ?_ ?_ ?_ ?_;rw[<-Uh];exact Wr.kw qaL rl;subst J M;rw[<-sm] at Y⊢;have:=rN Y;unfold aEK;rw[atV rfl];omega;exact zA;exact zA;exact zA;exact aa;simp(disch:=omega) [-Int.natCast_add];exact aa;have e:¬((r+δ:Nat):Int)<800:=zo;have O:Wr d (r+δ) (nd+δ):=Wr.PQ qaL zo
  by_cases Q:R=0
  subst Q;simp(disch:=omega) [-vJ,-ru,-vK,-KQ,-Og,-Of,-Int.natCast_add,f0,t,f5,f6,f7,v,y,A,B,o,C,E,F,I,e,H];refine u _ d l _ zo g x (λj U=>n j zo) O (λJ M=>by omega) ?_ ?_ ?_ ?_ ?_ ?_;exact zA;exact zA;exact zA;exact aa;simp(disch:=omega) [-Int.natCast_add];exact aa;have cR':¬(R:Int)=0:=zo;simp(disch:=omega) [-vJ,-ru,-vK,-KQ,-Og,-Of,-Int.natCast_add,f0,t,f5,f6,f7,v,y,A,B,o,C,E,F,I,e,H,Q];refine u _ d true _ zo (g.bj _ (.inr rfl)) (Hp.dq rfl) (λj U=>n j zo) O (λJ M=>by omega) ?_ ?_ ?_ ?_ ?_ ?_;exact zA;exact zA;exact zA;exact aa;simp(disch:=omega) [-Int.natCast_add];exact aa
def ai4{K:aT->Prop}{N2 X:Nat}
 (G:∀p h' j F,ah (·=b) h h'->asc h' b j nd dp ng F->Wr j 0 N2->j 0≠48/\(δ=0->j 0- 48=X)->cg 0 p=.a b 0->cg 4 p=.i δ->K (.a 2 p h' [])):
 ∀(w n:Nat)(d:Hp)(c:Nat->Nat)(e:Bool)(f:Fr),w<100->w<=δ->n<10^w->(0<w->10^(w- 1)<=n)->n<1152921504606846976->ah (·=b) h d->asc d b c nd dp ng e->Wr c w N2->(w=0->c 0≠48/\(δ=0->c 0- 48=X))->
  cg 0 f=.a b 0->cg 4 f=.i δ->cg 6 f=.i w->cg 7 f=.g .u64 n->W T (.d l262_0) f d [] K:=by
 intro w
 induction w with
 |zero=>
  intro n d c e f _ _ i _ _ g x q h0 f0 f4 f6 f7;obtain rfl:n=0:=by simp at i;exact i
  rw[aP];show W T aAp f d [] _;refine aB f7 ?_;exact G _ d c e g x q (h0 rfl) zA zA
 |succ w r=>
  intro n d c e f I J i o N g x q h0 f0 f4 f6 f7;have o:=o (Nat.succ_pos _);simp only[axE] at o;have pw:0<10^w:=auZ zd;have n0:0<n:=zo;have M:(0:Int)<n:=zo;have t:=x;unfold asc at t;rw[auX] at i;have q1:n/10<10^w:=zo;have y:we (.g .u64 (n:Int)) (.g .u64 10)=.v (.g .u64 ((n/10:Nat):Int)):=aa9 (b:=10) zd zo;have A:qj (.g .u64 10) (.g .u64 ((n/10:Nat):Int))=.v (.g .u64 ((10*(n/10):Nat):Int)):=HF (a:=10) zo;have B:=HD (a:=n) (b:=10*(n/10)) zo zo;have O:n- 10*(n/10)<10:=zo;have l:w=0->n- 10*(n/10)+48≠48:=λz=>by subst z;simp at i;omega
  have H:0<w->10^(w- 1)<=n/10:=λz=>by
   have:10^w=10^(w- 1)*10:=by rw[<-auX];congr 1;omega
   omega
  have q60:n/10<1152921504606846976:=zo;generalize V:n- 10*(n/10)=R at*;generalize Y:10*(n/10)=t10 at*;generalize U:n/10=Q at*;have C:lG (.g .u64 (R:Int)) (.g .u64 48)=.v (.g .u64 ((R+48:Nat):Int)):=EI (b:=48) zo;have E:=Om (a:=R+48) zo;generalize v:R+48=u at*;have P:((w+1:Nat):Int)- 1=(w:Int):=zo;have c8:w<800:=zo;have m:(w:Int)<800:=zo;rw[aP];generalize S:CC.d l262_0=L at r⊢;show W T aAp f d [] _;simp(disch:=omega) [-vJ,-ru,-vK,-KQ,-Og,-Of,-Int.natCast_add,f0,f6,f7,n0,t,y,A,B,C,E,P,m];refine r _ _ (aEK c w u) e _ zo zo q1 H q60 (g.bj _ (.inr rfl)) (Hp.dq rfl) (by rw[<-v];exact Wr.kw q O) (λz=>?_) ?_ ?_ ?_ ?_;subst z;unfold aEK;rw[atV rfl];exact⟨l rfl,λz=>by omega⟩;exact zA;exact zA;exact aa;exact aa
structure ai6(s:Nat)(d:Int)(C:List UInt8):Prop where
 a:th (Cn C) C.length
 b:0<C.length/\C.length<100
 c:V (Cn C) C.length=5^s
 f:48<Cn C (C.length- 1)
 d:d=(s:Int)+1- C.length
 g:Cn C 0≠48
def CS(h:Hp):Prop:=∃q cap ex,∃d:Nat->Int,∃C:Nat->List UInt8,cellsOf (h.ac 15) 0 1=some [.c q 0 2 61 cap ex]/\q<22/\∀s,1<=s->s<=60->cellsOf (h.ac q) (s*2) 1=some [.i (d s)]/\cellsOf (h.ac q) (s*2+1) 1=some [S (C s)]/\ai6 s (d s) (C s)
def xe(h h':Hp):Prop:=∀i,i<22->h'.ac i=h.ac i
def xe.of{h':Hp}(g:ah (·=b) h h')(a:22<=b)(c:22<=h.a):xe h h':=λi hi=>g.f i zo zo
def CS.kp{h':Hp}(x:CS h)(g:xe h h'):CS h':=by obtain⟨q,cap,ex,d,C,e,c,a⟩:=x;exact⟨q,cap,ex,d,C,by rw[g 15 zd];exact e,c,λs f i=>by rw[g q c];exact a s f i⟩
def ai7{N nd L s:Nat}{d:Int}(j:10^(nd- 1)<=N)(i:N<10^nd)(h0:0<nd)(c1:10^(L- 1)<=5^s)(c2:5^s<10^L)(o:0<L)(hd:d=(s:Int)+1- L)(l:L<=s)(r:Bool)(c:r=true->N*10^L<5^s*10^nd)(f:r=false->5^s*10^nd<=N*10^L):
 ∃δ:Nat,(d- if r=true then 1 else 0)=δ/\10^(nd+δ- 1)<=N*2^s/\N*2^s<10^(nd+δ)/\δ<=s+1:=by
 have t:5^s*2^s=10^s:=by rw[<-Nat.mul_pow]
 have m:0<2^s:=auZ zd;have n:0<10^L:=auZ zd;cases r with
 |true=>
  have c:=avE (c rfl) m;refine⟨s- L,by rw[atV rfl];omega,?_,?_,by omega⟩;have a:10^(s- L)*5^s<=2^s*5^s:=by
   rw[auB (2^s),t];have:10^s=10^(s- L)*10^L:=by rw[<-auT];congr 1;omega
   rw[this];exact au2 _ (axM c2)
  have g:=awc a (auZ (by decide:0<5));have:10^(nd+(s- L)- 1)=10^(nd- 1)*10^(s- L):=by rw[<-auT];congr 1;omega
  rw[this];exact axp j g;have e:5^s*10^nd*2^s=10^(nd+(s- L))*10^L:=by rw[av0,t,<-auT,<-auT];congr 1;omega
  rw[e,av0] at c;exact Nat.lt_of_mul_lt_mul_right c
 |false=>
  have f:=at4 (2^s) (f rfl);refine⟨s+1- L,by rw[atS zd];omega,?_,?_,by omega⟩;have e:5^s*10^nd*2^s=10^(nd+(s+1- L)- 1)*10^L:=by rw[av0,t,<-auT,<-auT];congr 1;omega
  rw[e,av0] at f;exact awc f n;have a:2^s*5^s<=10^(s+1- L)*5^s:=by
   rw[auB (2^s),t];have:10^s=10^(s+1- L)*10^(L- 1):=by rw[<-auT];congr 1;omega
   rw[this];exact au2 _ c1
  have g:=awc a (auZ (by decide:0<5));have:10^(nd+(s+1- L))=10^nd*10^(s+1- L):=by rw[<-auT]
  rw[this];exact Nat.mul_lt_mul_of_lt_of_le i g (auZ zd)
end
section
open Go (IntKind)
variable {k:aK->Prop}{b s:Nat}
def ai8(x:asc h b D nd dp ng tr)(a:nd<=800):FQ h 1 800 (.a b 0) (some (.i 0)) (some (.i nd))=.v (.c b 0 1 nd 800 true):=by
 unfold asc at x;have e:bounds (some (.i 0)) (some (.i (nd:Int))) 800 800=some (0,nd):=by simp[bounds,mM,BP,a]
 simp only[FQ,e,x,IN];rw[tR,KU];rfl
def iaW{q cap n:Nat}{ex:Bool}(a:s<n):Dy 2 (.c q 0 2 n cap ex) (.g .u64 (s:Int))=.v (.a q (s*2)):=by have:s+1<=n:=a;show cond (Nat.ble (Nat.succ s) n) (OR.v (.a q (0+s*2))) _=_;rw[aue];simp[this]
structure kE(D:Nat->Nat)(nd:Nat):Prop where
 a:th D nd
 d:nd<=800
 b:0<nd
 c:D 0≠48
def ai9(F:aA T)(x:asc h b D nd dp ng tr)(g:kE D nd)(O:1<=s)(N:s<=60)(hc:CS h)(hb:22<=b)(Bl:-1000000000<dp/\dp<1000000000)
 (hk:∀h' n B M(δ:Nat),ah (·=b) h h'->asc h' b n B (dp+δ) ng M->kE n B->δ<=s+1->10^(nd+δ- 1)<=V D nd*2^s->V D nd*2^s<10^(nd+δ)->(δ=0->n 0- 48=V D nd*2^s/10^(nd- 1))->k (.a (.p []) h')):aE T (W T) ⟨262⟩ [.a b 0,.g .u64 s] h k:=by
 rw[ic F.t262];obtain⟨q,cap,ex,d,C,t,hq,hC⟩:=hc;obtain⟨c1,c2,e⟩:=hC s O N;obtain⟨v,P,n0,hd⟩:=g;have U:=x;unfold asc at U;obtain⟨v1,v2⟩:=KW v n0 hd;have v3:=KV v nd zl;have pN:10^(nd- 1)<=V D nd:=at1 (by have:=at4 (10^(nd- 1)) v2;rwa[avz] at this) v1;obtain⟨w1,w2⟩:=KW e.a e.b.1 e.g;have w3:=KV e.a _ zl;rw[e.c] at w1 w3;have J:10^((C s).length- 1)<=5^s:=at1 (by have:=at4 (10^((C s).length- 1)) w2;rwa[avz] at this) w1;have K:(C s).length<=s:=by refine avu λc=>?_;have Z:10^s<=10^((C s).length- 1):=auG zd zo;have a2:5^s<10^s:=Nat.pow_lt_pow_left zd zo;omega
 have len:=e.b;have I:=e.d;generalize rq:aAr=T3;generalize ju:CC.f r262_1=Dr;have i15:(15:Nat)<22:=by decide
 simp(disch:=omega) [t,iaW (show s<61 by omega),c1];subst ju;rw[lI,mu];generalize ku _ _=fm;have sa:=ai8 x P;simp(disch:=omega) [t,iaW (show s<61 by omega),c2,U,sa,-Cp];rw[Cp,ZS,ZQ];refine aiY F x P v e.a len.2 (λ_=>e.f) λr r1 r2=>?_;rw[e.c] at r1 r2;obtain⟨δ,o,y,A,Y⟩:=ai7 pN v3 n0 J w3 len.1 I K r r1 r2;have rest:∀f:Fr,cg 0 f=.a b 0->cg 1 f=.g .u64 s->cg 4 f=.i δ->W T T3 f h [] (finish T (W T) [] k):=by
  intro f f0 f1 f4;subst rq;unfold aAr zt;generalize hT:aAq=T27;generalize jg:CC.d l262_1=L1;generalize pz:CC.d l262_0=L0;have Z:((nd:Int)+δ)=((nd+δ:Nat):Int):=zo;simp(disch:=omega) [-Int.natCast_add,f0,f4,U,Z];subst jg;refine ai3 (δ:=δ) (s:=s) v N P zo (λf' h' n M g1 x1 R z1 q04 q6 q7=>?_) nd h D tr _ zl (ah.da _) x (λ_ _=>rfl) (λj _ _ _=>by omega) (λz=>by omega) ?_ ?_ ?_ ?_ ?_ ?_;have q0:=q04 0 (.inl rfl);have q4:=q04 4 (.inr rfl);rw[atV rfl] at q0;rw[atS zd] at q4;refine ag ?_;subst pz;have cc:mW D nd s 0=V D nd*2^s/10^nd:=by unfold mW;rw[abd];rfl
  have c60:=abb (k:=s) v (r:=0) zo;have p60:2^s<=2^60:=auG zd N;have pn:0<10^nd:=auZ zd;rw[abd] at z1;have dz:δ=0->V D nd*2^s/10^(nd- 1)<10/\1<=V D nd*2^s/10^(nd- 1):=λz=>by subst z;simp only[aud] at y A;refine⟨auw ?_,(avN (auZ zd)).2 y⟩;rw[<-auX,show(nd- 1).succ=nd by omega];exact A
  refine ai4 (δ:=δ) (N2:=nd+δ) (X:=V D nd*2^s/10^(nd- 1)) (λf2 h2 E Q g2 x2 S y2 q20 q24=>?_) δ (mW D nd s 0) h' n M _ zo zl ?_ (λp=>?_) zo g1 x1 R (λz=>?_) q0 q4 q6 q7;subst hT;unfold aAq zt;have m:=x2;unfold asc at m;have a2:w64 ((nd:Int)+δ)=((nd+δ:Nat):Int):=by rw[gf zo zo];omega
  have a3:w64 (dp+δ)=dp+δ:=gf zo zo;generalize H:aBl=G;have b8:∀(l:Nat)(f3:Fr)(u:Hp),l<=800->l<=nd+δ->0<l->cg 0 f3=.a b 0->cg 4 f3=.i δ->ah (·=b) h u->asc u b E l dp ng Q->W T G f3 u [] (finish T (W T) [] k):=by intro l f3 u b1 b2 b3 p0 p4 g3 x3;subst H;have w:=x3;unfold asc at w;refine bK p0 p4 w a3 ?_;refine aa6 F (h:=u.bj b (.a 318 (kO E l (dp+δ) ng Q))) (nd:=l) (Hp.dq rfl) b1 λh4 B g4 x4 Oq Ui=>?_;have np:=Ui b3 y2.1;rw[atS zo] at x4;refine ag ?_;refine hk h4 E B Q δ ((g3.bj _ (.inr rfl)).ab g4) x4 ⟨λi hi=>S i (auz _) zo zo,by omega,np,y2.1⟩ Y y A y2.2
  by_cases c8:800<=nd+δ
  have a:(800:Int)<=((nd+δ:Nat):Int):=zo;have a:(800:Int)<=(nd:Int)+δ:=zo;refine bK q20 q24 m a ?_;refine b8 800 _ _ zo c8 zd ?_ ?_ ((g2.bj _ (.inr rfl)).bj _ (.inr rfl)) (Hp.dq rfl);exact au q20;exact au q24;have a:¬(800:Int)<=((nd+δ:Nat):Int):=zo;have a:¬(800:Int)<=(nd:Int)+δ:=zo;refine bK q20 q24 m a ?_;refine b8 (nd+δ) _ _ zo zl zo ?_ ?_ (g2.bj _ (.inr rfl)) (Hp.dq rfl);exact au q20;exact au q24;rw[cc];apply auw;rw[<-auT];exact A;rw[cc];refine(awA pn).2 ?_;rw[<-auT,show δ- 1+nd=nd+δ- 1 by omega];exact y;have:=z1 z n0 (dz z).1;have:=(dz z).2;exact⟨by omega,λ_=>by omega⟩;exact zA;exact zA;exact zA;exact aa;simp(disch:=omega) [-Int.natCast_add];simp(disch:=omega) [ai2]
 cases r with
 |true=>
  have L:d s- 1=δ:=by simpa using o
  refine aB L ?_;exact rest _ aa aa aa
 |false=>
  have L:d s=δ:=by simpa using o
  refine aB L ?_;exact rest _ aa aa aa
def aja(y:s<=60){K:aT->Prop}{hh:Hp}{n0:Nat}(p:∀e(r n:Nat),nd<=r->(r=nd->n=n0)->r<=nd+61->2^s<=n->n<10*2^s->cg 0 e=.a b 0->cg 1 e=.g .u64 s->cg 5 e=.i 0->cg 4 e=.i r->cg 6 e=.g .u64 n->K (.a 2 e hh [])):
 ∀(m r n:Nat)(f:Fr),2^s<=n+m->nd<=r->(r=nd->n=n0)->2^(r- nd)<=n->n<10*2^s->(2^s<=n->r<=nd+61)->(nd:Int)<10000->cg 0 f=.a b 0->cg 1 f=.g .u64 s->cg 5 f=.i 0->cg 4 f=.i r->cg 6 f=.g .u64 n->W T (.d l263_2) f hh [] K:=by
 intro m;have E:2^s<=2^60:=auG zd y;have ps:0<2^s:=auZ zd
 induction m with
 |zero=>
  intro r n f w j o x l h5 t f0 i f5 f4 f6;have d:=HG (a:=n) (k:=s) zo;have g:¬n/2^s=0:=by have:=(avN ps).2 (by omega:2^s<=n);omega
  generalize n/2^s=Q at d g;rw[aP];show W T azm f hh [] _;simp(disch:=omega) [i,f6,d,g,-aED];refine p _ r n j o (h5 zo) zo l ?_ ?_ ?_ ?_ ?_;exact zA;exact zA;exact zA;exact zA;exact zA
 |succ m u=>
  intro r n f w j o x l h5 t f0 i f5 f4 f6;have d:=HG (a:=n) (k:=s) zo
  by_cases c:2^s<=n
  have g:¬n/2^s=0:=by have:=(avN ps).2 c;omega
  generalize n/2^s=Q at d g;rw[aP];show W T azm f hh [] _;simp(disch:=omega) [i,f6,d,g,-aED];refine p _ r n j o (h5 c) c l ?_ ?_ ?_ ?_ ?_;exact zA;exact zA;exact zA;exact zA;exact zA;have z:n/2^s=0:=avY zo;rw[z] at d;have G:0<2^(r- nd):=auZ zd;have rs:r- nd<s:=(Nat.pow_lt_pow_iff_right (by decide:1<2)).1 (by omega:2^(r- nd)<2^s);have v:qj (.g .u64 (n:Int)) (.g .u64 10)=.v (.g .u64 ((n*10:Nat):Int)):=HF (b:=10) zo;have C:2^(r+1- nd)<=n*10:=by rw[show r+1- nd=(r- nd)+1 by omega,auX];omega
  have B:n*10<10*2^s:=zo;have A:2^s<=n*10+m:=zo;generalize n*10=N at*;rw[aP];generalize F:CC.d l263_2=L at u⊢;show W T azm f hh [] _;simp(disch:=omega) [i,f4,f6,d,v,-aED,-vK];refine u (r+1) N _ A zo (λq=>by omega) C B (λ_=>by omega) t ?_ ?_ ?_ ?_ ?_;exact zA;exact zA;exact zA;exact aa;exact aa
structure ajb(D:Nat->Nat)(nd s r n:Nat):Prop where
 f:1<=r
 g:r<=nd+61
 d:2^s<=n
 c:n<10*2^s
 a:r=1->n=D 0- 48
 b:D 0- 48<2^s->2<=r
def ajc(g:kE D nd)(C:1<=s)(J:s<=60)(x:asc h b D nd dp ng tr){K:aT->Prop}(I:∀j(r n:Nat),ajb D nd s r n->cg 0 j=.a b 0->cg 1 j=.g .u64 s->cg 5 j=.i 0->cg 4 j=.i r->cg 6 j=.g .u64 n->K (.a 0 j h [])):
 ∀(m r:Nat)(f:Fr),m=nd- r->r<=nd->V D r<10*2^s->(r<=1\/V D (r- 1)<2^s)->cg 0 f=.a b 0->cg 1 f=.g .u64 s->cg 5 f=.i 0->cg 4 f=.i r->cg 6 f=.g .u64 (V D r)->W T (.d l263_3) f h [] K:=by
 intro m;obtain⟨H,n8,n0,hd⟩:=g;have p60:2^s<=2^60:=auG zd J;have ps:2<=2^s:=by have:=auG (by decide:0<2) C;omega
 have F:=x;unfold asc at F;have d0:=H 0 n0;have w:V D 1=D 0- 48:=by simp[V]
 have up:∀i,1<=i->D 0- 48<=V D i:=λi hi=>by
  induction i with
  |zero=>omega
  |succ i v=>
   rcases auP i with q|q;subst q;rw[w];exact at2 _;have:=v q;rw[V];omega
 have out:∀(r:Nat)(f:Fr),r<=nd->2^s<=V D r->V D r<10*2^s->(r<=1\/V D (r- 1)<2^s)->cg 0 f=.a b 0->cg 1 f=.g .u64 s->cg 5 f=.i 0->cg 4 f=.i r->cg 6 f=.g .u64 (V D r)->K (.a 0 f h []):=by
  intro r f u c o t f0 l f5 f4 f6;have r0:r≠0:=by rintro rfl;simp[V] at c
  refine I f r _ ⟨by omega,by omega,c,o,λe=>by subst e;exact w,λe=>?_⟩ f0 l f5 f4 f6;rcases avh 1 r with q|q;exact q;obtain rfl:r=1:=zo;rw[w] at c;omega
 induction m with
 |zero=>
  intro r f hm u o t f0 l f5 f4 f6;obtain rfl:r=nd:=zo;have d:=HG (a:=V D r) (k:=s) zo
  by_cases c:2^s<=V D r
  have p:¬V D r/2^s=0:=by have:=(avN zo).2 c;omega
  generalize hQ:V D r/2^s=Q at d p;rw[aP];show W T ayx f h [] _;unfold ayx zt;simp(disch:=omega) [l,f6,d,p,-aED];refine out r _ u c o t ?_ ?_ ?_ ?_ ?_;exact zA;exact zA;exact zA;exact zA;exact zA;have z:V D r/2^s=0:=avY zo;rw[z] at d;have v0:¬((V D r:Nat):Int)=0:=by have:=up r n0;omega
  have E:¬V D r=0:=zo;rw[aP];generalize N:CC.d l263_2=O;generalize hL:CC.d l263_3=L;show W T ayx f h [] _;unfold ayx zt;simp(disch:=omega) [f0,l,f4,f6,d,F,E,-aED];subst N;refine aja (s:=s) (nd:=r) (b:=b) J (n0:=V D r) (λj M n a1 U P R S q0 q1 q5 q4 q6=>?_) (2^s) r (V D r) _ zo zl (λ_=>rfl) (by simp<;>omega) o (λq=>absurd q c) zo ?_ ?_ ?_ ?_ ?_;refine ag ?_;have ne:M≠r:=λe=>by have:=U e;omega
  exact I j M n ⟨by omega,P,R,S,λe=>by omega,λe=>by omega⟩ q0 q1 q5 q4 q6;exact zA;exact zA;exact zA;exact zA;exact zA
 |succ m v=>
  intro r f hm u o t f0 l f5 f4 f6;have qY:r<nd:=zo;have y:¬(nd:Int)<=r:=zo;have r8:r<800:=zo;have dr:=H r qY;have d:=HG (a:=V D r) (k:=s) zo
  by_cases c:2^s<=V D r
  have p:¬V D r/2^s=0:=by have:=(avN zo).2 c;omega
  generalize hQ:V D r/2^s=Q at d p;rw[aP];show W T ayx f h [] _;unfold ayx zt;simp(disch:=omega) [l,f6,d,p,-aED];refine out r _ u c o t ?_ ?_ ?_ ?_ ?_;exact zA;exact zA;exact zA;exact zA;exact zA;have z:V D r/2^s=0:=avY zo;rw[z] at d;have X:qj (.g .u64 (V D r:Int)) (.g .u64 10)=.v (.g .u64 ((V D r*10:Nat):Int)):=HF (b:=10) zo;have Y:=KY (a:=D r) zo;have Z:=EI (a:=V D r*10) (b:=D r) zo;have G:jb (.g .u64 ((V D r*10+D r:Nat):Int)) (.g .u64 48)=.v (.g .u64 ((V D r*10+D r- 48:Nat):Int)):=HD (b:=48) zo zo;have ev:V D r*10+D r- 48=V D (r+1):=by rw[V];omega
  rw[ev] at G;generalize hA:V D r*10+D r=A at*;generalize hB:V D r*10=B at*;rw[aP];generalize N:CC.d l263_2=O;generalize hL:CC.d l263_3=L at v⊢;show W T ayx f h [] _;unfold ayx zt;simp(disch:=omega) [-Int.natCast_add,f0,l,f4,f6,d,X,Y,Z,G,F,y,-aED,-vK,-vJ,-ru];refine v (r+1) _ zo zo (by rw[V];omega) (.inr zn) ?_ ?_ ?_ ?_ ?_;exact zA;exact zA;exact zA;exact aa;exact aa
structure CT(D:Nat->Nat)(s w n F:Nat):Prop where
 b:∀j,j<w->48<=D j/\D j<=57
 c:n<10*2^s
 a:0<w->D 0=F
 d:w=0->n/2^s+48=F/\2^s<=n
theorem CT.kw{w n F n':Nat}(x:CT D s w n F)(h:n'<10*2^s):CT (aEK D w (n/2^s+48)) s (w+1) n' F:=by have q:n/2^s<10:=auw (by have:=x.c;omega);refine⟨λj f=>?_,h,λ_=>?_,λe=>by omega⟩;unfold aEK;split;generalize n/2^s=Q at q⊢;omega;exact x.b j zo;unfold aEK;split;rename_i e;exact(x.d e.symm).1;rename_i e;exact x.a zo
def aje(P:s<=60)(n8:nd<=800)(J:th D nd){F:Nat}{K:aT->Prop}
 (M:∀i h' p(w n:Nat),ah (·=b) h h'->asc h' b p nd dp ng tr->w<=nd->CT p s w n F->cg 0 i=.a b 0->cg 1 i=.g .u64 s->cg 5 i=.i w->cg 6 i=.g .u64 n->cg 8 i=.g .u64 ((2^s- 1:Nat):Int)->K (.a 4 i h' [])):
 ∀(m r w n:Nat)(e:Hp)(d:Nat->Nat)(f:Fr),m=nd- r->r<10000->w<r->w<=nd->ah (·=b) h e->asc e b d nd dp ng tr->(∀j,r<=j->j<nd->d j=D j)->CT d s w n F->cg 0 f=.a b 0->cg 1 f=.g .u64 s->cg 4 f=.i r->cg 5 f=.i w->cg 6 f=.g .u64 n->cg 8 f=.g .u64 ((2^s- 1:Nat):Int)->W T (.d l263_1) f e [] K:=by
 intro m;have S:2^s<=2^60:=auG zd P;have ps:0<2^s:=auZ zd
 induction m with
 |zero=>
  intro r w n e d f O V R y g x hd o f0 u f4 f5 f6 f8;have l:=x;unfold asc at l;have c:¬r<nd:=zo;have c':¬(r:Int)<nd:=zo;rw[aP];show W T aAs f e [] _;refine cC f0 f4 l c c' ?_;refine M _ e d w n g x y o ?_ ?_ ?_ ?_ ?_;exact zA;exact zA;exact zA;exact zA;exact zA
 |succ m v=>
  intro r w n e d f O V R y g x hd o f0 u f4 f5 f6 f8;have l:=x;unfold asc at l;have c:r<nd:=zo;have c':(r:Int)<nd:=zo;have r8:r<800:=zo;have w8:w<800:=zo;have t:=hd r zl c;have dr:=J r c;have hi:=o.c;have ml:n% 2^s<2^s:=avn _ ps;have ql:n/2^s<10:=auw zo;have q:=KY (a:=d r) zo;rw[t] at q;have A:=HG (a:=n) (k:=s) zo;have B:=aba (a:=n) (k:=s) zo zo;have C:lG (.g .u64 ((n/2^s:Nat):Int)) (.g .u64 48)=.v (.g .u64 ((n/2^s+48:Nat):Int)):=EI (b:=48) zo;have E:=Om (a:=n/2^s+48) zo;have G:qj (.g .u64 ((n% 2^s:Nat):Int)) (.g .u64 10)=.v (.g .u64 ((n% 2^s*10:Nat):Int)):=HF (b:=10) zo;have H:=EI (a:=n% 2^s*10) (b:=D r) zo;have I:jb (.g .u64 ((n% 2^s*10+D r:Nat):Int)) (.g .u64 48)=.v (.g .u64 ((n% 2^s*10+D r- 48:Nat):Int)):=HD (b:=48) zo zo;have U:=o.kw (n':=n% 2^s*10+D r- 48) zo;generalize n% 2^s*10+D r- 48=N2 at*;generalize n% 2^s*10+D r=Y at*;generalize n% 2^s*10=X at*;generalize n% 2^s=N at*;generalize n/2^s+48=z at*;generalize n/2^s=Q at*;generalize 2^s- 1=mk at*;rw[aP];generalize Z:CC.d l263_1=L at v⊢;show W T aAs f e [] _;simp(disch:=omega) [-Int.natCast_add,-aED,-vK,-vJ,-ru,-oy,f0,u,f4,f5,f6,f8,l,t,c',q,A,B,C,E,G,H,I];refine v (r+1) (w+1) N2 _ (aEK d w z) _ zo zo zo zo (g.bj _ (.inr rfl)) (Hp.dq rfl) (λj a c=>by unfold aEK;rw[atS zo];exact hd j zo c) U ?_ ?_ ?_ ?_ ?_ ?_;exact zA;exact zA;exact aa;exact aa;exact aa;exact zA
def ajf(hs:s<=60){F:Nat}{K:aT->Prop}
 (hK:∀G h' t fT(w:Nat),ah (·=b) h h'->asc h' b t nd dp ng fT->0<w->w<=800->(∀j,j<w->48<=t j/\t j<=57)->t 0=F->cg 0 G=.a b 0->cg 5 G=.i w->K (.a 6 G h' [])):
 ∀(m w n:Nat)(i:Hp)(d:Nat->Nat)(l:Bool)(f:Fr),(n≠0->m<=s+1/\1<=m/\2^(s+1- m)∣n)->w<=800->ah (·=b) h i->asc i b d nd dp ng l->CT d s w n F->cg 0 f=.a b 0->cg 1 f=.g .u64 s->cg 5 f=.i w->cg 6 f=.g .u64 n->cg 8 f=.g .u64 ((2^s- 1:Nat):Int)->W T (.d l263_0) f i [] K:=by
 intro m;have p60:2^s<=2^60:=auG zd hs;have ps:0<2^s:=auZ zd;have z:∀(w:Nat)(i:Hp)(d:Nat->Nat)(l:Bool)(f:Fr),w<=800->ah (·=b) h i->asc i b d nd dp ng l->CT d s w 0 F->cg 0 f=.a b 0->cg 5 f=.i w->cg 6 f=.g .u64 0->W T (.d l263_0) f i [] K:=by
  intro w i d l f r g x o f0 f5 f6;have R:0<w:=by rcases auP w with e|e;have:=(o.d e).2;omega;exact e
  rw[aP];show W T aAt f i [] _;refine aB f6 ?_;refine hK _ i d l w g x R r o.b (o.a R) ?_ ?_;exact zA;exact zA
 induction m with
 |zero=>
  intro w n i d l f H r g x o f0 u f5 f6 f8;have n0:n=0:=avu λc=>by have:=H c;omega
  subst n0;exact z w i d l f r g x o f0 f5 f6
 |succ m v=>
  intro w n i d l f H r g x o f0 u f5 f6 f8
  by_cases n0:n=0
  subst n0;exact z w i d l f r g x o f0 f5 f6;obtain⟨m1,m2,X⟩:=H n0;have J:=x;unfold asc at J;have I:0<n:=zo;have p0':(0:Int)<n:=zo;have hi:=o.c;have ml:n% 2^s<2^s:=avn _ ps;have ql:n/2^s<10:=auw zo;have B:=HG (a:=n) (k:=s) zo;have C:=aba (a:=n) (k:=s) zo zo;have Y:lG (.g .u64 ((n/2^s:Nat):Int)) (.g .u64 48)=.v (.g .u64 ((n/2^s+48:Nat):Int)):=EI (b:=48) zo;have Z:=Om (a:=n/2^s+48) zo;have E:qj (.g .u64 ((n% 2^s:Nat):Int)) (.g .u64 10)=.v (.g .u64 ((n% 2^s*10:Nat):Int)):=HF (b:=10) zo;have O:n% 2^s*10<10*2^s:=zo;have M:n% 2^s*10≠0->m<=s+1/\1<=m/\2^(s+1- m)∣n% 2^s*10:=λc=>by
   have U:2^(s- m)∣n:=by rwa[show s+1- (m+1)=s- m by omega] at X
   have V:2^(s- m)∣2^s:=Nat.pow_dvd_pow 2 zo;have A:2^(s- m)∣n% 2^s:=(Nat.dvd_mod_iff V).2 U;have mp:1<=m:=by rcases auP m with q|q;subst q;rw[axL] at A;have:=Nat.eq_zero_of_dvd_of_lt A ml;rw[this] at c;simp at c;exact q
   refine⟨by omega,mp,?_⟩;rw[show s+1- m=(s- m)+1 by omega,auX];exact Nat.mul_dvd_mul A ⟨5,rfl⟩
  have pI:=o.kw (n':=n% 2^s*10) O;have P:0<w->CT d s w (n% 2^s*10) F:=λc=>⟨o.b,O,o.a,λe=>by omega⟩;generalize n% 2^s*10=y at*;generalize n% 2^s=N at*;generalize n/2^s+48=S at*;generalize n/2^s=Q at*;generalize 2^s- 1=mk at*;rw[aP];generalize hL:CC.d l263_0=L at v⊢;show W T aAt f i [] _
  by_cases c8:w<800
  have p:(w:Int)<800:=zo;simp(disch:=omega) [-Int.natCast_add,-aED,-vK,-vJ,-ru,-oy,f0,u,f5,f6,f8,J,I,p,B,C,Y,Z,E];refine v (w+1) y _ (aEK d w S) l _ M zo (g.bj _ (.inr rfl)) (Hp.dq rfl) pI ?_ ?_ ?_ ?_ ?_;exact zA;exact zA;exact aa;exact aa;exact zA;have p:¬(w:Int)<800:=zo
  by_cases q0:Q=0
  subst q0;simp(disch:=omega) [-Int.natCast_add,-aED,-vK,-vJ,-ru,-oy,u,f5,f6,f8,I,p,B,C,E];refine v w y _ d l _ M r g x (P zo) ?_ ?_ ?_ ?_ ?_;exact zA;exact zA;exact zA;exact aa;exact zA;have q1:0<Q:=zo;have q1':(0:Int)<Q:=zo;simp(disch:=omega) [-Int.natCast_add,-aED,-vK,-vJ,-ru,-oy,f0,u,f5,f6,f8,J,I,p,q1,B,C,E];refine v w y _ d true _ M r (g.bj _ (.inr rfl)) (Hp.dq rfl) (P zo) ?_ ?_ ?_ ?_ ?_;exact zA;exact zA;exact zA;exact aa;exact zA
def Ot(B:aA T)(x:asc h b D nd dp ng tr)(g:kE D nd)(u:1<=s)(f:s<=60)(Bl:-1000000000<dp/\dp<1000000000)
 (hk:∀h' l e U(q:Nat),ah (·=b) h h'->asc h' b l e (dp- q) ng U->kE l e->q<=1000->(D 0- 48<2^s->1<=q)->(q=0->l 0- 48=(D 0- 48)/2^s)->k (.a (.p []) h')):aE T (W T) ⟨263⟩ [.a b 0,.g .u64 s] h k:=by
 rw[ic B.t263];have n8:=g.d;have p60:2^s<=2^60:=auG zd f;have ps:0<2^s:=auZ zd;generalize o:aAu=M;generalize P:CC.d l263_3=L3;refine ag ?_;subst P;refine ajc g u f x (λf1 r n H q0 q1 q5 q4 q6=>?_) nd 0 _ zo (auz _) (by simp only[V];omega) (.inl zd) ?_ ?_ ?_ ?_ ?_;have I:=x;unfold asc at I;have r1:=H.f;have rn:=H.g;have lo:=H.d;have hi:=H.c;subst o;unfold aAu zt;generalize Q:aBm=N;generalize jg:CC.d l263_1=L1;generalize pz:CC.d l263_0=L0;have C:oQ pF (.g .u64 1) (.g .u64 (s:Int))=.v (.g .u64 ((2^s:Nat):Int)):=by have:=aa' (a:=1) (k:=s) zo zo;rw[avz] at this;exact this
 have p:jb (.g .u64 ((2^s:Nat):Int)) (.g .u64 1)=.v (.g .u64 ((2^s- 1:Nat):Int)):=HD (b:=1) zo zo;have S:dp- ((r:Int)- 1)=dp- ((r- 1:Nat):Int):=zo;have ml:((2^s- 1:Nat):Int)=((2^s- 1:Nat):Int):=rfl;generalize hm:((2^s- 1:Nat):Int)=mI at p ml;generalize Hg:((2^s:Nat):Int)=pI at C p;simp(disch:=omega) [-ru,q0,q1,q4,I,C,p,S];generalize t:(h.bj b _:Hp)=c;have g1:ah (·=b) h c:=by rw[<-t];exact(ah.da _).bj _ (.inr rfl)
 have x1:asc c b D nd (dp- ((r- 1:Nat):Int)) ng tr:=by rw[<-t];exact Hp.dq rfl
 clear t;have F0:n/2^s<10:=auw zo;have F1:1<=n/2^s:=(avN ps).2 lo;subst jg;refine aje (s:=s) (F:=n/2^s+48) (b:=b) (ng:=ng) (tr:=tr) (dp:=dp- ((r- 1:Nat):Int)) (h:=c) f n8 g.a (λf2 Z K w2 E g2 x2 w2n L v p1 w p6 p8=>?_) (nd- r) r 0 n c D _ rfl zo r1 (auz _) (ah.da _) x1 (λ_ _ _=>rfl) ⟨λj hj=>by omega,hi,λz=>by omega,λ_=>⟨rfl,lo⟩⟩ ?_ ?_ ?_ ?_ ?_ ?_;refine ag ?_;subst pz;refine ajf (s:=s) (F:=n/2^s+48) (b:=b) (ng:=ng) (dp:=dp- ((r- 1:Nat):Int)) (nd:=nd) (h:=c) f (λf3 h3 m A G X x3 w0 w8 R dF v w=>?_) (s+1) w2 E Z K tr _ (λ_=>⟨at2 _,by omega,by rw[awP];exact⟨E,by simp⟩⟩) zo g2 x2 L v p1 w p6 p8;have d:=x3;unfold asc at d;subst Q;refine aU v w d ?_;refine aa6 B (h:=h3.bj b (.a 318 (kO m G (dp- ((r- 1:Nat):Int)) ng A))) (nd:=G) (Hp.dq rfl) w8 λh4 e Y J Oq O=>?_;have y:m 0≠48:=by rw[dF];omega
 have np:=O w0 y;rw[atS zo] at J;refine ag ?_;refine hk h4 m e A (r- 1) (((g1.ab X).bj _ (.inr rfl)).ab Y) J ⟨λi hi=>R i zo,by omega,np,y⟩ zo (λz=>by have:=H.b z;omega) λz=>?_;rw[dF,H.a zo,axE];exact au q0;exact au q1;exact au q4;exact au q5;exact au q6;exact au hm;exact aa;exact aa;exact aa;exact aa;simp(disch:=omega) [V]
def Ou(g:kE D nd):¬((nd:Int)=0)/\¬nd=0:=by have:=g.b;omega
def abf(j:aA T)(x:asc h b D nd dp ng tr)(g:kE D nd)(c:1<=s)(C:s<=60)(A:CS h)(z:22<=b)(n:-1000000000<dp/\dp<1000000000)
 (B:∀h' a d e(δ:Nat),ah (·=b) h h'->asc h' b a d (dp+δ) ng e->kE a d->δ<=s+1->10^(nd+δ- 1)<=V D nd*2^s->V D nd*2^s<10^(nd+δ)->(δ=0->a 0- 48=V D nd*2^s/10^(nd- 1))->k (.a (.p []) h')):aE T (W T) ⟨254⟩ [.a b 0,.i s] h k:=by
 rw[ic j.t254];have m:=x;unfold asc at m;have l:=Ou g;have E:0<s:=c;have f:(0:Int)<s:=zo;have F:¬60<s:=zo;have i:¬(60:Int)<s:=zo;have w:ko .u64 (.i (s:Int))=.v (.g .u64 (s:Int)):=by rw[vL,Ai zo]
 generalize y:CC.d l254_1=L;refine cC m l.1 l.2 E f ?_;subst y;rw[aP];show W T aBj _ h [] _;simp(disch:=omega) [i,w,-vL];refine ai9 j x g c C A z n λh' a d e δ o p q r t u v=>?_;refine ag ?_;exact B h' a d e δ o p q r t u v
def ajh(f:aA T)(x:asc h b D nd dp ng tr)(g:kE D nd)(e:1<=s)(z:s<=60)(l:-1000000000<dp/\dp<1000000000)
 (y:∀h' a c d(q:Nat),ah (·=b) h h'->asc h' b a c (dp- q) ng d->kE a c->q<=1000->(D 0- 48<2^s->1<=q)->(q=0->a 0- 48=(D 0- 48)/2^s)->k (.a (.p []) h')):aE T (W T) ⟨254⟩ [.a b 0,.i (-(s:Int))] h k:=by
 rw[ic f.t254];have j:=x;unfold asc at j;have i:=Ou g;have A:¬(0:Int)< -(s:Int):=zo;have B:-(s:Int)<0:=zo;have C:¬-(s:Int)< -60:=zo;have u:uR (.i (-(s:Int)))=.v (.i (s:Int)):=by show OR.v (.i (w64 (0- -(s:Int))))=_;rw[gf zo zo];congr 2;omega
 have v:ko .u64 (.i (s:Int))=.v (.g .u64 (s:Int)):=by rw[vL,Ai zo]
 generalize w:CC.d l254_0=L;generalize E:-(s:Int)=ms at*;refine cC j i.1 i.2 A B ?_;subst w;rw[aP];show W T ay2 _ h [] _;simp(disch:=omega) [C,u,v,-vL];refine Ot f x g e z l λh' a c d q m n o p r t=>?_;refine ag ?_;exact y h' a c d q m n o p r t
def aji(A:aA T){n:Nat}(x:asc h b D nd dp ng tr)(g:kE D nd)(v:1<=n)(O:n<=1000000)(Bl:-100000000<dp/\dp<100000000)
 (H:∀h' i j p(q:Nat),ah (·=b) h h'->asc h' b i j (dp- q) ng p->kE i j->q<=20000000->k (.a (.p []) h')):aE T (W T) ⟨254⟩ [.a b 0,.i (-(n:Int))] h k:=by
 rw[ic A.t254];have I:=x;unfold asc at I;have Q:=Ou g;have R:¬(0:Int)< -(n:Int):=zo;have S:-(n:Int)<0:=zo;generalize N:CC.d l254_0=L;generalize J:CC.h (z q254 10)=U;generalize B:-(n:Int)=ms at R S;refine cC I Q.1 Q.2 R S ?_;subst N B;have key:∀(m n q0:Nat)(l:Hp)(y:Nat->Nat)(e:Nat)(G:Bool)(f:Fr),n<=60*(m+1)->1<=n->m<=16700->q0+(m+1)*1000<=20000000->ah (·=b) h l->asc l b y e (dp- q0) ng G->kE y e->cg 0 f=.a b 0->cg 1 f=.i (-(n:Int))->W T (.d l254_0) f l [] (bY 3 (bF (W T U) (bY 0 (finish T (W T) [] k)))):=by
  intro m
  induction m with
  |zero=>
   intro n q0 l y e G f O v _ V g1 w C f0 a;have o:¬-(n:Int)< -60:=zo;have d:uR (.i (-(n:Int)))=.v (.i (n:Int)):=by show OR.v (.i (w64 (0- -(n:Int))))=_;rw[gf zo zo];congr 2;omega
   have F:ko .u64 (.i (n:Int))=.v (.g .u64 (n:Int)):=by rw[vL,Ai zo]
   rw[aP];show W T ay2 _ l [] _;generalize B:-(n:Int)=ms at a o d;refine aU f0 a o ?_;subst J;simp(disch:=omega) [f0,a,d,F,-vL];refine Ot A w C v zo zo λh' i j p q r t u E K M=>?_;refine ag ?_;exact H h' i j p (q0+q) (g1.ab r) qaj u zo
  |succ m P=>
   intro n q0 l y e G f O v hm V g1 w C f0 a
   by_cases c:n<=60
   have o:¬-(n:Int)< -60:=zo;have d:uR (.i (-(n:Int)))=.v (.i (n:Int)):=by show OR.v (.i (w64 (0- -(n:Int))))=_;rw[gf zo zo];congr 2;omega
   have F:ko .u64 (.i (n:Int))=.v (.g .u64 (n:Int)):=by rw[vL,Ai zo]
   rw[aP];show W T ay2 _ l [] _;generalize B:-(n:Int)=ms at a o d;refine aU f0 a o ?_;subst J;simp(disch:=omega) [f0,a,d,F,-vL];refine Ot A w C v zo zo λh' i j p q r t u E K M=>?_;refine ag ?_;exact H h' i j p (q0+q) (g1.ab r) qaj u zo;have o:-(n:Int)< -60:=zo;have Z:n- 60<=60*(m+1):=by clear H x I w;omega
   have z2:1<=n- 60:=zo;have z3:m<=16700:=zo;have z4:∀q,q<=1000->q0+q+(m+1)*1000<=20000000:=λq _=>zo;have d:lG (.i (-(n:Int))) (.i 60)=.v (.i (-((n- 60:Nat):Int))):=by rw[zR,gf zo zo];congr 2;omega
   rw[aP];generalize N:CC.d l254_0=L at P⊢;show W T ay2 _ l [] _;generalize B:-(n:Int)=ms at a o d;generalize X:-((n- 60:Nat):Int)=Y at d;refine aU f0 a o ?_;refine Ot A (s:=60) w C zd zd zo λh' i j p q r t u E K M=>?_;simp(disch:=omega) [a,d,-zR];refine P (n- 60) (q0+q) h' i j p _ Z z2 z3 (z4 q E) (g1.ab r) qaj u ?_ ?_;exact zA;exact au X
 refine key 16700 n 0 h D nd tr _ zo v zd zd (ah.da _) (by rw[show dp- ((0:Nat):Int)=dp by omega];exact x) g ?_ ?_;exact aa;exact aa
def ajj(o:aA T)(x:asc h b D nd dp ng tr)(g:kE D nd){m:Int}(v:-1000000000<m/\m<1000000000)(i:∀r:Bool,k (.a (.d r) h)):aE T (W T) ⟨264⟩ [.a b 0,.i m] h k:=by
 rw[ic o.t264];have e:=x;unfold asc at e;have w:=g.d
 by_cases c1:m<0
 refine aS e c1 ?_;exact i _;obtain⟨n,rfl⟩:=at6 (by omega:0<=m)
 by_cases c2:nd<=n
 have a:(nd:Int)<=n:=zo;refine bK e c1 c2 a ?_;exact i _;have a:¬(nd:Int)<=n:=zo;have c3:n<800:=zo;have d:=g.a n zo
 by_cases j:D n=53
 by_cases l:n+1=nd
 have c:(n:Int)+1=nd:=zo;cases tr with
 |true=>
  refine fY e c1 c2 a c3 j l c ?_;exact i _
 |false=>
  by_cases c6:0<n
  have f:(0:Int)<n:=zo;have q:(n:Int)- 1=((n- 1:Nat):Int):=zo;have c7:n- 1<800:=zo;have p:=g.a (n- 1) zo;have t:jb (.s (D (n- 1))) (.s 48)=.v (.s (D (n- 1)- 48)):=T' p.1 zo;have u:AH (.s (D (n- 1)- 48)) (.s 2)=.v (.s ((D (n- 1)- 48)% 2)):=rfl;refine kC e c1 c2 a c3 j l c c6 f q c7 (atQ t u) ?_;exact i _;have f:¬(0:Int)<n:=zo;refine nA e c1 c2 a c3 j l c c6 f ?_;exact i _
 have c:¬(n:Int)+1=nd:=zo;refine fY e c1 c2 a c3 j l c ?_;exact i _;refine cq e c1 c2 a c3 j ?_;exact i _
def ajk(y:aA T)(x:asc h b D nd dp ng tr)(g:kE D nd)(C:-1000000000<dp/\dp<1000000000)(t:∀r:Int,k (.a (.g .u64 r) h)):aE T (W T) ⟨255⟩ [.a b 0] h k:=by
 rw[ic y.t255];have e:=x;unfold asc at e;have L:=g.d
 by_cases j:20<dp
 refine aS e j ?_;exact t _;generalize E:aBk=o;generalize n:CC.d l255_0=z;generalize l:CC.d l255_1=L1;refine aS e j ?_;have B:∀(f:Fr),cg 0 f=.a b 0->(∃v,cg 4 f=.g .u64 v)->W T o f h [] (finish T (W T) [.a 2] k):=by
  intro f f0 ⟨v,f4⟩;subst E;refine aS f0 e ?_;refine ajj y x g C λr=>?_;cases r with
  |true=>refine aB f4 ?_;exact t _
  |false=>refine aB f4 ?_;exact t _
 have p:∀(m i:Nat)(f:Fr),(dp:Int)<=i+m->i+m<=2000->cg 0 f=.a b 0->cg 3 f=.i i->(∃v,cg 4 f=.g .u64 v)->W T z f h [] (bY 2 (bF (W T o) (finish T (W T) [.a 2] k))):=by
  intro m
  induction m with
  |zero=>
   intro i f u i8 f0 f3 ⟨v,f4⟩;have c:¬(i:Int)<dp:=zo;subst n;rw[aP];show W T azl f h [] _;refine bK f0 f3 e c ?_;refine B _ ?_ ⟨v,?_⟩;exact zA;exact zA
  |succ m w=>
   intro i f u i8 f0 f3 ⟨v,f4⟩
   by_cases c:(i:Int)<dp
   rw[<-n,aP];show W T azl f h [] _;rw[n];refine cC f0 f3 f4 e c ?_;refine w (i+1) _ zo zo ?_ ?_ ⟨v*10% 18446744073709551616,?_⟩;exact zA;exact aa;exact aa;rw[<-n,aP];show W T azl f h [] _;refine bK f0 f3 e c ?_;refine B _ ?_ ⟨v,?_⟩;exact zA;exact zA
 have q:∀(m i:Nat)(f:Fr),m=nd- i->i<=nd->cg 0 f=.a b 0->cg 3 f=.i i->(∃v,cg 4 f=.g .u64 v)->W T L1 f h [] (bY 0 (bF (W T ((CC.j 2 z).g o)) (finish T (W T) [.a 2] k))):=by
  intro m
  induction m with
  |zero=>
   intro i f u hi f0 f3 ⟨v,f4⟩;obtain rfl:i=nd:=zo;subst l;rw[aP];show W T azk f h [] _
   by_cases c:(i:Int)<dp
   refine bK f0 f3 e c ?_;refine p 1000 i _ zo zo ?_ ?_ ⟨v,?_⟩;exact zA;exact zA;exact zA;refine bK f0 f3 e c ?_;refine p 1000 i _ zo zo ?_ ?_ ⟨v,?_⟩;exact zA;exact zA;exact zA
  |succ m w=>
   intro i f u hi f0 f3 ⟨v,f4⟩;have A:i<nd:=zo;have i8:i<800:=zo;have d:=g.a i A;have H:jb (.s (D i)) (.s 48)=.v (.s (D i- 48)):=T' d.1 zo;have I:=KY (a:=D i- 48) zo;obtain⟨F,J⟩:∃a,qj (.g .u64 v) (.g .u64 10)=.v (.g .u64 a):=⟨_,rfl⟩;obtain⟨G,K⟩:∃a,lG (.g .u64 F) (.g .u64 ((D i- 48:Nat):Int))=.v (.g .u64 a):=⟨_,rfl⟩
   by_cases c:(i:Int)<dp
   rw[<-l,aP];show W T azk f h [] _;rw[l];simp(disch:=omega) [-vK,-vJ,f0,f3,f4,e,c,A,H,I,J,K];refine w (i+1) _ zo zo ?_ ?_ ⟨G,?_⟩;exact zA;exact aa;exact aa;rw[<-l,aP];show W T azk f h [] _;refine cC f0 f3 f4 e c ?_;refine p 1000 i _ zo zo ?_ ?_ ⟨v,?_⟩;exact zA;exact zA;exact zA
 refine q nd 0 _ rfl (auz _) ?_ ?_ ⟨0,?_⟩;exact aa;exact aa;exact aa
end
section
open Go (IntKind)
variable {k:aK->Prop}{b:Nat}
def Ov{c:UInt8}(h:kh c=true):48<=c.toNat/\c.toNat<=57:=by simpa[kh] using h
def abg{c:UInt8}(h:KR c):(48<=c.toNat/\c.toNat<=57)\/c.toNat=46\/c.toNat=101\/c.toNat=43\/c.toNat=45:=by rcases h with h|h|h|h|h;exact .inl (Ov h);subst h;exact .inr (.inl rfl);subst h;exact .inr (.inr (.inl rfl));subst h;exact .inr (.inr (.inr (.inl rfl)));subst h;exact .inr (.inr (.inr (.inr rfl)))
def abh(g:FlA s){i:Nat}(hi:i<s.length):KR s[i]:=g.a _ (auy hi)
def Um(c:uU T){u:Nat}(e:u<256)(d:k (.a (.s (bU (λ_ a b=>a|||b) u 32)) h)):aE T (W T) ⟨215⟩ [.s u] h k:=by rw[ic c.t215];refine ag ?_;exact d
def abi:∀u,u<128->32<=u->(u<64->bU (λ_ a b=>a|||b) u 32=u)/\(96<=u->bU (λ_ a b=>a|||b) u 32=u):=by decide
def Un{u:Nat}(h:(48<=u/\u<=57)\/u=46\/u=101\/u=43\/u=45):bU (λ_ a b=>a|||b) u 32=u:=by
 by_cases c:u<64
 exact(abi u zo zo).1 c;exact(abi u zo zo).2 zo
structure EL(D:Nat->Nat)(nd i:Nat)(dp:Int):Prop where
 a:th D nd
 c:0<nd->D 0≠48
 d:nd<=i
 b:-(i:Int)<=dp/\dp<=i
def EL.or{i:Nat}(x:EL D nd i dp)(h:i<=800):nd=0\/kE D nd:=by rcases auP nd with e|e;exact .inl e;exact .inr ⟨x.a,by have:=x.d;omega,e,x.c e⟩
def ajm(fl:FlA s)(hl:s.length<=60){K:aT->Prop}
 (Q:∀v h' H(J i:Nat) t,ah (·=b) h h'->asc h' b H J t ng tr->EL H J i t->i<=s.length->cg 0 v=.a b 0->cg 1 v=S s->cg 5 v=.i i->(∃n,cg 6 v=.d n)->(∃n,cg 7 v=.d n)->cg 4 v=.d false->K (.a 1 v h' []))
 (hR:∀v h' H(J i:Nat) t,ah (·=b) h h'->asc h' b H J t ng tr->EL H J i t->i<=s.length->cg 4 v=.d false->K (.b v h' [])):
 ∀(m i:Nat)(p:Hp)(o:Nat->Nat)(c:Nat)(l:Int)(n E:Bool)(f:Fr),m=s.length- i->i<=s.length->ah (·=b) h p->asc p b o c l ng tr->EL o c i l->
  cg 0 f=.a b 0->cg 1 f=S s->cg 5 f=.i i->cg 6 f=.d n->cg 7 f=.d E->cg 4 f=.d false->W T (.d l237_1) f p [] K:=by
 intro m
 induction m with
 |zero=>
  intro i p o c l n E f hm hi g x I f0 w f5 f6 f7 f4;have e:i=s.length:=zo;subst e;rw[aP];show W T ayZ f p [] _;unfold ayZ zt;refine aS w f5 ?_;refine Q _ p o c _ l g x I zl ?_ ?_ ?_ ⟨n,?_⟩ ⟨E,?_⟩ ?_;exact zA;exact zA;exact zA;exact zA;exact zA;exact zA
 |succ m N=>
  intro i p o c l n E f hm hi g x I f0 w f5 f6 f7 f4;have G:=x;unfold asc at G;have F:i<s.length:=zo;have B:(i:Int)<s.length:=zo;have oc:=abg (abh fl F);have Z:s.getD i 0=s[i]:=by rw[aub,atT F];rfl
  have y:nh (S s) (.i (i:Int))=.v (.s s[i].toNat):=by rw[dQ zo (by simpa using F)];simp only[awr];rw[Z]
  generalize s[i].toNat=u at oc y;have I1:EL o c (i+1) l:=⟨I.a,I.c,by have:=I.d;omega,by have:=I.b;omega⟩;have le:=I.d;have Y:=I.b;rw[aP];generalize hL:CC.d l237_1=L at N⊢;show W T ayZ f p [] _;unfold ayZ zt;generalize ju:CC.f r237_24=X;have C:¬u=95:=zo
  by_cases r:u=46
  cases n with
  |true=>
   simp(disch:=omega) [-dQ,w,f5,f6,B,y,r];refine hR _ p o c i l g x I hi ?_;exact zA
  |false=>
   simp(disch:=omega) [-dQ,f0,w,f5,f6,B,y,r,G];refine N (i+1) _ o c c true E _ zo F (g.bj _ (.inr rfl)) (Hp.dq rfl) ⟨I.a,I.c,by omega,by omega⟩ ?_ ?_ ?_ ?_ ?_ ?_;exact zA;exact zA;exact aa;exact aa;exact zA;exact zA
  by_cases U:48<=u/\u<=57
  obtain⟨O,V⟩:=U
  by_cases c0:u=48/\c=0
  obtain⟨c0,rfl⟩:=c0;subst c0;have e1:w64 (l- 1)=l- 1:=gf zo zo;simp(disch:=omega) [-dQ,f0,w,f5,B,y,G];refine N (i+1) _ o 0 (l- 1) n true _ zo F (g.bj _ (.inr rfl)) (Hp.dq rfl) ⟨I.a,I.c,by omega,by omega⟩ ?_ ?_ ?_ ?_ ?_ ?_;exact zA;exact zA;exact aa;exact zA;exact aa;exact zA;have n8:c<800:=zo;have M:(c:Int)<800:=zo;have nI:EL (aEK o c u) (c+1) (i+1) l:=⟨λj hj=>by
   unfold aEK;split;exact⟨O,V⟩;exact I.a j zo,λ_=>by
   unfold aEK;split;rename_i e;intro q;exact c0 ⟨q,e.symm⟩;rename_i e;exact I.c zo,by omega,by omega⟩
  have R:∀A,cg 0 A=.a b 0->cg 1 A=S s->cg 5 A=.i i->cg 6 A=.d n->cg 7 A=.d true->cg 4 A=.d false->W T X A p [] (bF (W T (CC.h (z q237 25))) (bF (W T (CC.n 2)) (bY 3 (bF (W T (CC.n 1)) (bY 2 (bF (W T (CC.h (z q237 28))) (bF (W T L) K))))))):=by intro A q0 q1 q5 q6 q7 q4;subst ju;rw[lI,mu];generalize ku _ _=fm;simp(disch:=omega) [-dQ,q0,q1,q5,G,y];refine N (i+1) _ (aEK o c u) (c+1) l n true _ zo F ((g.bj _ (.inr rfl)).bj _ (.inr rfl)) (Hp.dq rfl) nI ?_ ?_ ?_ ?_ ?_ ?_;exact au q0;exact au q1;exact aa;exact au q6;exact au q7;exact au q4
  by_cases d:u=48
  have z:¬c=0:=λe=>c0 ⟨d,e⟩;have z':¬(c:Int)=0:=zo;simp(disch:=omega) [-dQ,f0,w,f5,B,y,d,z,M,G];refine R _ ?_ ?_ ?_ ?_ ?_ ?_;exact zA;exact zA;exact zA;exact zA;exact aa;exact zA;simp(disch:=omega) [-dQ,f0,w,f5,B,y,C,r,O,V,d,M,G];refine R _ ?_ ?_ ?_ ?_ ?_ ?_;exact zA;exact zA;exact zA;exact zA;exact aa;exact zA;have O:48<=u->¬u<=57:=λa b=>U ⟨a,b⟩
  by_cases d:48<=u
  have P:=O d;simp(disch:=omega) [-dQ,w,f5,B,y,C,r,d,P];refine Q _ p o c i l g x I hi ?_ ?_ ?_ ⟨n,?_⟩ ⟨E,?_⟩ ?_;exact zA;exact zA;exact zA;exact zA;exact zA;exact zA;simp(disch:=omega) [-dQ,w,f5,B,y,C,r,d];refine Q _ p o c i l g x I hi ?_ ?_ ?_ ⟨n,?_⟩ ⟨E,?_⟩ ?_;exact zA;exact zA;exact zA;exact zA;exact zA;exact zA
def xh(c:FlA s){i:Nat}(a:i<s.length):∃u,nh (S s) (.i (i:Int))=.v (.s u)/\((48<=u/\u<=57)\/u=46\/u=101\/u=43\/u=45):=by refine⟨s[i].toNat,?_,abg (abh c a)⟩;rw[dQ zo (by simpa using a)];simp only[awr];rw[aub,atT a];rfl
def ajn(F:FlA s)(J:s.length<=60){K:aT->Prop}(z:∀a(i:Nat)(e:Int),i<=s.length->0<=e->e<100000->cg 0 a=.a b 0->cg 1 a=S s->cg 4 a=.d false->cg 5 a=.i i->(∃g,cg 8 a=.i g/\(g=1\/g=-1))->cg 9 a=.i e->K (.a 5 a h [])):
 ∀(m i:Nat)(e:Int)(f:Fr),m=s.length- i->i<=s.length->0<=e->e<100000->cg 0 f=.a b 0->cg 1 f=S s->cg 4 f=.d false->cg 5 f=.i i->(∃g,cg 8 f=.i g/\(g=1\/g=-1))->cg 9 f=.i e->W T (.d l237_0) f h [] K:=by
 intro m
 induction m with
 |zero=>
  intro i e f G hi p r f0 l f4 f5 ⟨g,f8,n⟩ f9;have E:i=s.length:=zo;subst E;rw[aP];show W T aAg f h [] _;refine aS l f5 ?_;refine z _ _ e zl p r ?_ ?_ ?_ ?_ ⟨g,?_,n⟩ ?_;exact zA;exact zA;exact zA;exact zA;exact zA;exact zA
 |succ m x=>
  intro i e f G hi p r f0 l f4 f5 ⟨g,f8,n⟩ f9;have v:i<s.length:=zo;have o:(i:Int)<s.length:=zo;obtain⟨u,t,M⟩:=xh F v;have d:¬u=95:=zo;rw[aP];generalize I:CC.d l237_0=L at x⊢;show W T aAg f h [] _
  by_cases y:48<=u/\u<=57
  obtain⟨B,A⟩:=y;have C:ko .i64 (.s u)=.v (.i (u:Int)):=by show OR.v (.i (w64 (Int.ofNat u)))=_;rw[show Int.ofNat u=(u:Int) from rfl,gf zo zo]
  by_cases c:e<10000
  have H:w64 (e*10)=e*10:=gf zo zo;simp(disch:=omega) [-dQ,l,f5,f9,o,t,B,A,d,c,C];refine x (i+1) (e*10+u- 48) _ zo v zo zo ?_ ?_ ?_ ?_ ⟨g,?_,n⟩ ?_;exact zA;exact zA;exact zA;exact aa;exact zA;exact aa;simp(disch:=omega) [-dQ,l,f5,f9,o,t,B,A,d,c];refine x (i+1) e _ zo v p r ?_ ?_ ?_ ?_ ⟨g,?_,n⟩ ?_;exact zA;exact zA;exact zA;exact aa;exact zA;exact zA;have out:∀a,cg 0 a=.a b 0->cg 1 a=S s->cg 4 a=.d false->cg 5 a=.i i->cg 8 a=.i g->cg 9 a=.i e->K (.a 5 a h []):=λa q0 q1 q4 q5 q8 q9=>z a i e hi p r q0 q1 q4 q5 ⟨g,q8,n⟩ q9
  by_cases j:48<=u
  have w:¬u<=57:=λq=>y ⟨j,q⟩;simp(disch:=omega) [-dQ,l,f5,o,t,j,w,d];refine out _ ?_ ?_ ?_ ?_ ?_ ?_;exact zA;exact zA;exact zA;exact zA;exact zA;exact zA;simp(disch:=omega) [-dQ,l,f5,o,t,j,d];refine out _ ?_ ?_ ?_ ?_ ?_ ?_;exact zA;exact zA;exact zA;exact zA;exact zA;exact zA
def ajo(H2:uU T)(x:asc h b (λ_=>0) 0 0 false false) (A:FlA s) (hl:s.length<=60)
 (w:∀(r:Bool) h' D' cG B yw fT,ah (·=b) h h'->asc h' b D' cG B yw fT->(cG=0\/kE D' cG)->-200000<B->B<200000->k (.a (.d r) h')):aE T (W T) ⟨237⟩ [.a b 0,S s] h k:=by
 rw[ic H2.h.t237];have x':=x;unfold asc at x';have l0:0<s.length:=auA.2 A.d;obtain⟨u,ix,oc⟩:=xh A l0;have ix:nh (S s) (.i 0)=.v (.s u):=ix;have dh:48<=u/\u<=57:=by
  have a:=Ov A.b;have e:nh (S s) (.i 0)=.v (.s (s.headD 0).toNat):=by
   rw[dQ zd (by simpa using l0)];cases s with
   |nil=>simp at l0
   |cons c r=>rfl
  rw[ix] at e;cases e;exact a
 have c43:¬u=43:=zo;have c45:¬u=45:=zo;have sl:¬(s.length:Int)<=0:=zo;have KZ:¬s.length=0:=zo;generalize ajp:aAj=T29;generalize jg:CC.d l237_1=L1;simp(disch:=omega) [-dQ,x',ix,c43,c45,KZ];generalize hH:(Hp.bj (Hp.bj h b _) b _:Hp)=H;have gH:ah (·=b) h H:=by rw[<-hH];exact((ah.da (M:=(·=b)) h).bj _ (.inr rfl)).bj _ (.inr rfl)
 have xH:asc H b (λ_=>0) 0 0 false false:=by rw[<-hH];exact Hp.dq rfl
 clear hH;subst jg;refine ajm (h:=H) (b:=b) (ng:=false) (tr:=false) A hl (λf1 h1 t l i Y g1 Q I hi q0 q1 q5 e6 e7 q4=>?_) (λf1 h1 t l i Y g1 Q I hi q4=>?_) s.length 0 H (λ_=>0) 0 0 false false _ rfl (auz _) (ah.da _) xH ⟨λj hj=>by omega,λz=>by omega,at2 _,by decide⟩ ?_ ?_ ?_ ?_ ?_ ?_;obtain⟨sd,q6⟩:=e6;obtain⟨sg,q7⟩:=e7;have le:=I.d;have dpb:=I.b;have E:=I.or zo;have g2:=gH.ab g1;have bad:∀(m:Fr) f X(N:Nat) d nD,ah (·=b) h f->asc f b X N d false nD->(N=0\/kE X N)->-200000<d->d<200000->cg 4 m=.d false->finish T (W T) [.a 4] k (.b m f []):=λm f X N d nD o p J K a5 a6=>by refine aB a6 ?_;exact w false f X N d false nD o p J K a5
 subst ajp;unfold aAj zt;generalize Uk:aAi=T32;generalize L:aBe=F;cases sg with
 |false=>
  refine aS q7 q4 ?_;exact w false h1 t l Y false false g2 Q E zo zo
 |true=>
  have Uo:∀(m:Fr) f(d:Int)(Z:Nat),ah (·=b) h f->asc f b t l d false false->-200000<d->d<200000->cg 1 m=S s->cg 4 m=.d false->cg 5 m=.i Z->W T F m f [] (finish T (W T) [.a 4] k):=by
   intro m f d Z o p J K n y v;subst L
   by_cases c:Z=s.length
   subst c;refine aU n y v ?_;exact w true f t l d false false o p E J K;have c':¬(Z:Int)=s.length:=zo;refine cC n y v c c' ?_;exact w false f t l d false false o p E J K
  have HH:∀(m:Fr) f(d:Int),ah (·=b) h f->asc f b t l d false false->-1000<d->d<1000->cg 0 m=.a b 0->cg 1 m=S s->cg 4 m=.d false->cg 5 m=.i i->W T T32 m f [] (finish T (W T) [.a 4] k):=by
   intro m f d o p J K p0 n y v;have G:=p;unfold asc at G;subst Uk;unfold aAi zt;rw[L]
   by_cases ci:i<s.length
   have yy:(i:Int)<s.length:=zo;obtain⟨u1,yz,K0⟩:=xh A ci;have lo:=Un K0;simp(disch:=omega) [-dQ,n,v,yy,yz];refine Um H2 zo ?_;rw[lo]
   by_cases ce:u1=101
   subst ce
   by_cases cj:i+1<s.length
   have R:¬(s.length:Int)<=(i:Int)+1:=zo;have yB:¬s.length<=i+1:=zo;obtain⟨u2,U,oc2⟩:=xh A cj;have U:nh (S s) (.i ((i:Int)+1))=.v (.s u2):=U;generalize ajq:aAh=T42;have EM:∀(f3:Fr)(j:Nat)(g:Int),(g=1\/g=-1)->j<=s.length->cg 0 f3=.a b 0->cg 1 f3=S s->cg 4 f3=.d false->cg 5 f3=.i j->cg 8 f3=.i g->W T T42 f3 f [] (bF (W T F) (finish T (W T) [.a 4] k)):=by
    intro f3 j g hg hj r0 O r4 P r8;subst ajq;unfold aAh zt
    by_cases cl:j<s.length
    have V:¬(s.length:Int)<=j:=zo;have yE:¬s.length<=j:=zo;obtain⟨u3,EN,oc3⟩:=xh A cl
    by_cases cd:u3<48
    simp(disch:=omega) [-dQ,O,r4,P,V,EN,cd];exact w false f t l d false false o p E zo zo
    by_cases rz:57<u3
    simp(disch:=omega) [-dQ,O,r4,P,V,EN,cd,rz];exact w false f t l d false false o p E zo zo;generalize pz:CC.d l237_0=L0;simp(disch:=omega) [-dQ,O,P,V,EN,cd,rz];subst pz;refine ajn (h:=f) (b:=b) A hl (λf4 i4 e i4l e0 e1 z0 z1 z4 z5 e8 z9=>?_) (s.length- j) j 0 _ rfl hj (atY _) zd ?_ ?_ ?_ ?_ ⟨g,?_,hg⟩ ?_;obtain⟨g2,z8,nv⟩:=e8;have bd:-100000<e*g2/\e*g2<100000:=by rcases nv with q|q<;>subst q<;>omega
    have w1:w64 (e*g2)=e*g2:=gf zo zo;have em:qj (.i e) (.i g2)=.v (.i (e*g2)):=by rw[NG,w1]
    generalize e*g2=eg at bd em;have w2:w64 (d+eg)=d+eg:=gf zo zo;simp(disch:=omega) [-NG,em,z0,z8,z9,G];refine Uo _ _ (d+eg) i4 (o.bj _ (.inr rfl)) (Hp.dq rfl) zo zo ?_ ?_ ?_;exact au z1;exact au z4;exact au z5;exact au r0;exact au O;exact au r4;exact au P;exact au r8;exact aa;have V:(s.length:Int)<=j:=zo;have yE:s.length<=j:=zo;simp(disch:=omega) [-dQ,O,r4,P,V];exact w false f t l d false false o p E zo zo
   by_cases cp:u2=43
   subst cp;simp(disch:=omega) [-dQ,n,v,U,R];refine EM _ (i+1+1) 1 (.inl rfl) zo ?_ ?_ ?_ ?_ ?_;exact au p0;exact au n;exact au y;exact aa;exact aa
   by_cases cm:u2=45
   subst cm;simp(disch:=omega) [-dQ,n,v,U,R];refine EM _ (i+1+1) (-1) (.inr rfl) zo ?_ ?_ ?_ ?_ ?_;exact au p0;exact au n;exact au y;exact aa;exact aa;simp(disch:=omega) [-dQ,n,v,U,R,cp,cm];refine EM _ (i+1) 1 (.inl rfl) zo ?_ ?_ ?_ ?_ ?_;exact au p0;exact au n;exact au y;exact aa;exact aa;have R:(s.length:Int)<=(i:Int)+1:=zo;have yB:s.length<=i+1:=zo;simp(disch:=omega) [-dQ,n,y,v,R];exact w false f t l d false false o p E zo zo;refine aB ce ?_;refine Uo _ f d i o p zo zo ?_ ?_ ?_;exact au n;exact au y;exact au v;have yy:¬(i:Int)<s.length:=zo;simp(disch:=omega) [-dQ,n,v,yy];refine Uo _ f d i o p zo zo ?_ ?_ ?_;exact au n;exact au y;exact au v
  have C:=Q;unfold asc at C;cases sd with
  |false=>
   refine bK q0 q6 q7 C ?_;refine HH _ _ l (g2.bj _ (.inr rfl)) (Hp.dq rfl) zo zo ?_ ?_ ?_ ?_;exact au q0;exact au q1;exact au q4;exact au q5
  |true=>
   refine bK q0 q6 q7 C ?_;refine HH _ _ Y g2 Q zo zo ?_ ?_ ?_ ?_;exact au q0;exact au q1;exact au q4;exact au q5
 refine aB q4 ?_;exact w false h1 t l Y false false (gH.ab g1) Q (I.or zo) (by have:=I.b;omega) (by have:=I.b;omega);exact aa;exact aa;exact aa;exact aa;exact aa;exact aa
end
section
open Go (IntKind)
variable {k:aK->Prop}{b:Nat}
def pw(i:Nat):Nat:=[1,3,6,9,13,16,19,23,26].getD i 0
def abk:∀i,i<9->1<=pw i/\pw i<=27/\(2<=i->6<=pw i):=by decide
def EO(h:Hp):Prop:=∃q cap ex,cellsOf (h.ac 11) 0 1=some [.c q 0 1 9 cap ex]/\q<22/\∀i,i<9->cellsOf (h.ac q) i 1=some [.i (pw i)]
def EO.kp{h':Hp}(x:EO h)(g:xe h h'):EO h':=by obtain⟨q,cap,ex,e,c,a⟩:=x;exact⟨q,cap,ex,by rw[g 11 zd];exact e,c,λi hi=>by rw[g q c];exact a i hi⟩
def abl{n:Nat}(h:n<1000000000):uR (.i (n:Int))=.v (.i (-(n:Int))):=by show OR.v (.i (w64 (0- (n:Int))))=_;rw[gf zo zo];congr 2;omega
def Aj(D:Nat->Nat):Nat:=if 56<=D 0 then 1 else 0
def ajr(V:aA T)(pt:EO h)(hb:22<=b)(hn:22<=h.a){K:aT->Prop}
 (hK:∀w h' J O(t:Int) fT(e:Int),ah (·=b) h h'->asc h' b J O t ng fT->kE J O->t<=0->-2000<t->-100<=e->e<=100000->cg 0 w=.a b 0->cg 1 w=.a 9 0->cg 5 w=.d false->cg 6 w=.i e->K (.a 0 w h' [])):
 ∀(m:Nat)(i:Hp)(j:Nat->Nat)(a:Nat)(d:Int)(l:Bool)(e:Int)(f:Fr),2*d+Aj j<=m->d<=400->-2000<d->-100<=e->e+27*m<=100000->ah (·=b) h i->asc i b j a d ng l->kE j a->
  cg 0 f=.a b 0->cg 1 f=.a 9 0->cg 5 f=.d false->cg 6 f=.i e->W T (.d l238_1) f i [] K:=by
 intro m;have out:∀(i:Hp)(j:Nat->Nat)(a:Nat)(d:Int)(l:Bool)(e:Int)(f:Fr),d<=0->-2000<d->-100<=e->e<=100000->ah (·=b) h i->asc i b j a d ng l->kE j a->cg 0 f=.a b 0->cg 1 f=.a 9 0->cg 5 f=.d false->cg 6 f=.i e->W T (.d l238_1) f i [] K:=by intro i j a d l e f c lo v F g x o f0 A f5 f6;have p:=x;unfold asc at p;have c':¬0<d:=zo;rw[aP];show W T XT f i [] _;unfold XT zt;refine aU f0 p c' ?_;refine hK _ i j a d l e g x o c lo v F ?_ ?_ ?_ ?_;exact zA;exact zA;exact zA;exact zA
 induction m with
 |zero=>
  intro i j a d l e f P up lo v F g x o f0 A f5 f6;exact out i j a d l e f zo lo v zo g x o f0 A f5 f6
 |succ m Q=>
  intro i j a d l e f P up lo v F g x o f0 A f5 f6
  by_cases c:0<d
  have p:=x;unfold asc at p;obtain⟨q,cap,ex,H,hq,pa⟩:=pt.kp (.of g hb hn);obtain⟨n,rfl⟩:=at6 (by omega:0<=d);have d0:=o.a 0 o.b;have dh:=o.c;rw[aP];generalize hL:CC.d l238_1=L at Q⊢;show W T XT f i [] _;unfold XT zt;generalize ju:CC.f r238_13=Dr;generalize U:CC.f r238_15=KX;generalize hT:Jw=B;have rest:∀(u:Fr)(s:Nat),1<=s->s<=27->(2<=n->6<=s)->(n=1->s=3)->cg 0 u=.a b 0->cg 1 u=.a 9 0->cg 5 u=.d false->cg 6 u=.i e->cg 8 u=.i s->W T B u i [] (bY 1 (bF (W T L) K)):=by
   intro u s s1 s2 s3 s4 R p1 p5 p6 S;subst hT;have ne:=abl (n:=s) zo;generalize X:-(s:Int)=ms at ne;refine aU R S ne ?_;subst X;refine ajh V x o s1 zo zo λh2 y cZ nD q Z a2 C a4 M N=>?_;have es:w64 (e+s)=e+s:=gf zo zo;refine aU p6 S es ?_;have dn:=C.a 0 C.b;have G:6<=s->64<=2^s:=λz=>auG (by decide:0<2) z;have Y:2*((n:Int)- q)+Aj y<=m:=by
    have b2:Aj y<=1:=by unfold Aj;split<;>omega
    rcases auP q with z|z;subst z;have n1:n=1:=by refine avu λz=>?_;have:=G (s3 zo);have:=M zo;omega
    have I:=s4 n1;subst I;have a5':¬j 0- 48<2^3:=λz=>by have:=M z;omega
    have N:=N rfl;have b1:Aj j=1:=by unfold Aj;rw[atV zo]
    have b3:Aj y=0:=by unfold Aj;rw[atS zo]
    rw[b1] at P;rw[b3];omega;omega
   refine Q h2 y cZ ((n:Int)- q) nD (e+s) _ Y zo zo zo zo (g.ab Z) a2 C ?_ ?_ ?_ ?_;exact au R;exact au p1;exact au p5;exact aa
  have c0:0<n:=zo;have E:(0:Int)<n:=zo;refine bK f0 p c0 E ?_;subst ju;rw[lI,mu];generalize ku _ _=fm
  by_cases c9:9<=n
  have r:(9:Int)<=n:=zo;refine cC f0 p H c9 r ?_;refine rest _ 27 zd zd (λ_=>by decide) (λz=>by omega) ?_ ?_ ?_ ?_ ?_;exact zA;exact zA;exact zA;exact zA;exact aa;have r:¬(9:Int)<=n:=zo;obtain⟨w1,w2,w3⟩:=abk n zo;have pn:=pa n zo;have n9:n<9:=zo;refine cC f0 p H c9 r ?_;subst U;rw[lI,mu];generalize ku _ _=fm;refine cC f0 p H pn n9 ?_;refine rest _ (pw n) w1 w2 w3 (λz=>by subst z;rfl) ?_ ?_ ?_ ?_ ?_;exact zA;exact zA;exact zA;exact zA;exact aa;exact out i j a d l e f zo lo v zo g x o f0 A f5 f6
end
section
open Go (IntKind)
variable {k:aK->Prop}{d:Nat->Nat}{b:Nat}
def ajs(g:kE D nd){s:Nat}(c:6<=s)(j:V D nd*2^s<10^(nd+δ)):1<=δ:=by
 obtain⟨f,i⟩:=KW g.a g.b g.c;rcases auP δ with z|z;subst z;have p:64<=2^s:=auG (by decide:0<2) c;have a:=at4 (10^(nd- 1)) i;rw[avz] at a;have lo:10^(nd- 1)<=V D nd:=at1 a f;have e:10^(nd+0)=10^(nd- 1)*10:=by rw[<-auX];congr 1;have:=g.b;omega
 have b:=axp lo p;have q:10^(nd- 1)*10<=10^(nd- 1)*64:=au2 _ zd;omega;exact z
def ajt(g:kE D nd)(l:V D nd*2^3<10^(nd+δ))(f:δ=0->d 0- 48=V D nd*2^3/10^(nd- 1))(j:48<=d 0):1<=δ\/D 0<d 0/\δ=0:=by
 obtain⟨m,i⟩:=KW g.a g.b g.c;rcases auP δ with z|z;right;refine⟨?_,z⟩;have f:=f z;subst z;have p:0<10^(nd- 1):=auZ zd;have e:10^(nd+0)=10^(nd- 1)*10:=by rw[<-auX];congr 1;have:=g.b;omega
 generalize 10^(nd- 1)=P at*;have a:=at4 P i;rw[avz] at a;have one:D 0- 48<=1:=by refine avu λc=>?_;have:=at4 P (by omega:2<=D 0- 48);omega
 have lo:8<=V D nd*2^3/P:=(awA p).2 zo;omega;exact .inl z
def aju(g:kE D nd)(h5:D 0<53)(l:10^(nd+δ- 1)<=V D nd*2^1)(f:δ=0->d 0- 48=V D nd*2^1/10^(nd- 1))(m:48<=d 0):D 0<d 0/\δ=0:=by
 obtain⟨n,o⟩:=KW g.a g.b g.c;have up:=aa7 g.a (i:=1) g.b;have j:V D 1=D 0- 48:=by simp[V]
 rw[j] at up;have p:0<10^(nd- 1):=auZ zd;have z:δ=0:=by
  refine avu λc=>?_;have e:10^(nd+δ- 1)=10^(nd- 1)*10^δ:=by rw[<-auT];congr 1;have:=g.b;omega
  have q:10<=10^δ:=by have:=auG (by decide:0<10) (by omega:1<=δ);omega
  rw[e] at l;have a:=au2 (10^(nd- 1)) q;generalize 10^(nd- 1)=P at*;have:=at4 P (by omega:D 0- 48+1<=5);omega
 refine⟨?_,z⟩;have f:=f z;have lo:2*(D 0- 48)<=V D nd*2^1/10^(nd- 1):=by refine(awA p).2 ?_;rw[avM];omega
 omega
def ajv(HT:aA T)(pt:EO h)(ct:CS h)(hb:22<=b)(hn:22<=h.a){K:aT->Prop}
 (Z:∀C h' d X(w:Int) fT(e:Int),ah (·=b) h h'->asc h' b d X w ng fT->kE d X->-2000<w->w<2000->-900000<=e->e<=100000->cg 0 C=.a b 0->cg 1 C=.a 9 0->cg 5 C=.d false->cg 6 C=.i e->K (.a 2 C h' [])):
 ∀(m:Nat)(j:Hp)(l:Nat->Nat)(a:Nat)(i:Int)(t:Bool)(e:Int)(f:Fr),10*(-i)+(57- l 0)<=m->i<=100->-2000<i->e<=100000->-900000<=e- 27*m->ah (·=b) h j->asc j b l a i ng t->kE l a->
  cg 0 f=.a b 0->cg 1 f=.a 9 0->cg 5 f=.d false->cg 6 f=.i e->W T (.d l238_0) f j [] K:=by
 intro m;have out:∀(j:Hp)(l:Nat->Nat)(a:Nat)(i:Int)(t:Bool)(e:Int)(f:Fr),¬(i<0\/i=0/\l 0<53)->i<=100->-900000<=e->e<=100000->ah (·=b) h j->asc j b l a i ng t->kE l a->cg 0 f=.a b 0->cg 1 f=.a 9 0->cg 5 f=.d false->cg 6 f=.i e->W T (.d l238_0) f j [] K:=by
  intro j l a i t e f c up A E g x p f0 F f5 f6;have r:=x;unfold asc at r;have c1:¬i<0:=λz=>c (.inl z);rw[aP];show W T ay0 f j [] _;unfold ay0 zt
  by_cases z:i=0
  have c2:¬l 0<53:=λy=>c (.inr ⟨z,y⟩);subst z;refine aU f0 r c2 ?_;refine Z _ j l a 0 t e g x p zd zd A E ?_ ?_ ?_ ?_;exact zA;exact zA;exact zA;exact zA;refine bK f0 r c1 z ?_;refine Z _ j l a i t e g x p zo zo A E ?_ ?_ ?_ ?_;exact zA;exact zA;exact zA;exact zA
 induction m with
 |zero=>
  intro j l a i t e f hm up lo A E g x p f0 F f5 f6;have d0:=p.a 0 p.b;exact out j l a i t e f zo up zo A g x p f0 F f5 f6
 |succ m ih=>
  intro j l a i t e f hm up lo A E g x p f0 F f5 f6
  by_cases c:i<0\/i=0/\l 0<53
  have r:=x;unfold asc at r;have kp:=xe.of g hb hn;obtain⟨q,cap,ex,P,hq,pa⟩:=pt.kp kp;obtain⟨n,bg⟩:=at6 (by omega:0<=-i);obtain rfl:i=-(n:Int):=zo;have d0:=p.a 0 p.b;rw[aP];generalize hL:CC.d l238_0=L at ih⊢;show W T ay0 f j [] _;unfold ay0 zt;generalize ju:CC.f r238_20=Dr;generalize Ah:CC.f r238_22=KX;generalize hT:aBf=B;have rest:∀(o:Fr)(s:Nat),1<=s->s<=27->(2<=n->6<=s)->(n=1->s=3)->(n=0->s=1)->cg 0 o=.a b 0->cg 1 o=.a 9 0->cg 5 o=.d false->cg 6 o=.i e->cg 9 o=.i s->W T B o j [] (bY 3 (bF (W T L) K)):=by
   intro o s s1 s2 s3 s4 s5 u G H I p9;subst hT;refine aS u p9 ?_;refine abf HT x p s1 zo (ct.kp kp) hb zo λh2 S cZ nD δ a1 a2 M a4 a5 U V=>?_;have es:w64 (e- s)=e- s:=gf zo zo;refine aU I p9 es ?_;have Y:=M.a 0 M.b;have Uq:10*(-(-(n:Int)+δ))+(57- S 0)<=m:=by rcases avh n 1 with z|z;have n0:n=0:=zo;have Q:=s5 n0;subst Q;have:=aju p zo a5 V Y.1;omega;rcases avh n 2 with y|y;have R:=s4 zo;subst R;have:=ajt p U V Y.1;omega;have:=ajs p (s3 y) U;omega
   refine ih h2 S cZ (-(n:Int)+δ) nD (e- s) _ Uq zo zo zo zo (g.ab a1) a2 M ?_ ?_ ?_ ?_;exact au u;exact au G;exact au H;exact aa
  have O:uR (.i (-(n:Int)))=.v (.i (n:Int)):=by show OR.v (.i (w64 (0- -(n:Int))))=_;rw[gf zo zo];congr 2;omega
  have k9:∀o,cg 0 o=.a b 0->cg 1 o=.a 9 0->cg 5 o=.d false->cg 6 o=.i e->W T Dr o j [] (bF (W T (CC.i (.t 88) (CC.h r238_21) KX)) (bF (W T B) (bY 3 (bF (W T L) K)))):=by
   intro o u G H I;generalize Sh:-(n:Int)=mn at*;subst ju;rw[lI,mu];generalize ku _ _=fm
   by_cases c9:9<=n
   have v:(9:Int)<=n:=zo;refine cq u r P c9 v O ?_;refine rest _ 27 zd zd (λ_=>by decide) (λz=>by omega) (λz=>by omega) ?_ ?_ ?_ ?_ ?_;exact au u;exact au G;exact au H;exact au I;exact aa;have v:¬(9:Int)<=n:=zo;obtain⟨w1,w2,w3⟩:=abk n zo;have pn:=pa n zo;have n9:n<9:=zo;refine cq u r P c9 v O ?_;subst Ah;rw[lI,mu];generalize ku _ _=fm;refine cq u r P pn n9 O ?_;refine rest _ (pw n) w1 w2 w3 (λz=>by subst z;rfl) (λz=>by subst z;rfl) ?_ ?_ ?_ ?_ ?_;exact au u;exact au G;exact au H;exact au I;exact aa
  rcases auP n with z|z;subst z;have N:l 0<53:=zo;have J:¬(-((0:Nat):Int))<0:=by decide
  have z2:(-((0:Nat):Int))=0:=by decide
  refine cC f0 r N J z2 ?_;refine k9 _ ?_ ?_ ?_ ?_;exact zA;exact zA;exact zA;exact zA;have J:-(n:Int)<0:=zo;generalize Sh:-(n:Int)=mn at r J;refine aU f0 r J ?_;refine k9 _ ?_ ?_ ?_ ?_;exact zA;exact zA;exact zA;exact zA;exact out j l a i t e f c up zo A g x p f0 F f5 f6
def Bm(h:Hp):Prop:=cellsOf (h.ac 9) 0 1=some [.g .u64 52]/\cellsOf (h.ac 9) 1 1=some [.g .u64 11]/\cellsOf (h.ac 9) 2 1=some [.i (-1023)]
def Bm.kp{h':Hp}(x:Bm h)(g:xe h h'):Bm h':=by unfold Bm;rw[g 9 zd];exact x
def abm{f:Fr}{v e:Int}{r:Bool}(x:asc h b D nd dp ng tr)(O:Bm h){o:aT->Prop}(f0:cg 0 f=.a b 0)(c:cg 1 f=.a 9 0)(f5:cg 5 f=.d r)(f6:cg 6 f=.i e)(f7:cg 7 f=.g .u64 v)
 (C:∀m v r,cg 4 m=.g .u64 v->cg 5 m=.d r->o (.b m h [])):W T (CC.g (.h (z q238 42)) (.g (.f r238_43) (.g (.g (.h (z q238 44)) (.i (.t 228) (.f r238_45) .k)) (.g (.h (z q238 46)) .m)))) f h [] o:=by
 have n:=x;unfold asc at n;obtain⟨t1,t2,t3⟩:=O;generalize P:CC.f r238_43=Q;generalize E:CC.f r238_45=R;obtain⟨p,s⟩:∃a,oQ pF (.g .u64 1) (.g .u64 52)=.v (.g .u64 a):=⟨_,rfl⟩;obtain⟨F,M⟩:∃a,jb (.g .u64 p) (.g .u64 1)=.v (.g .u64 a):=⟨_,rfl⟩;obtain⟨G,N⟩:∃a,jI (λ_ a b=>a&&&b) (.g .u64 v) (.g .u64 F)=.v (.g .u64 a):=⟨_,rfl⟩;obtain⟨H,t⟩:∃a,jb (.i e) (.i (-1023))=.v (.i a):=⟨_,rfl⟩;obtain⟨I,u⟩:∃a,jb (.i 2048) (.i 1)=.v (.i a):=⟨_,rfl⟩;obtain⟨J,w⟩:∃a,jI (λ_ a b=>a&&&b) (.i H) (.i I)=.v (.i a):=⟨_,rfl⟩;obtain⟨K,y⟩:∃a,ko .u64 (.i J)=.v (.g .u64 a):=⟨_,rfl⟩;obtain⟨L,A⟩:∃a,oQ pF (.g .u64 K) (.g .u64 52)=.v (.g .u64 a):=⟨_,rfl⟩;obtain⟨q,B⟩:∃a,jI (λ_ a b=>a|||b) (.g .u64 G) (.g .u64 L)=.v (.g .u64 a):=⟨_,rfl⟩;obtain⟨g,j⟩:∃a,oQ pF (.g .u64 p) (.g .u64 11)=.v (.g .u64 a):=⟨_,rfl⟩;obtain⟨i,l⟩:∃a,jI (λ_ a b=>a|||b) (.g .u64 q) (.g .u64 g)=.v (.g .u64 a):=⟨_,rfl⟩;simp(disch:=omega) [-ru,-kD,-oy,-G5,-vL,c,f7,t1,s,M,N];subst P;rw[lI,mu];generalize ku _ _=fm;cases ng with
 |false=>
  simp(disch:=omega) [-ru,-kD,-oy,-G5,-vL,f0,c,f5,f6,t1,t2,t3,t,u,w,y,A,B,n];refine C _ q r ?_ ?_;exact aa;exact aa
 |true=>
  simp(disch:=omega) [-ru,-kD,-oy,-G5,-vL,f0,c,f6,t1,t2,t3,t,u,w,y,A,B,n];subst E;rw[lI,mu];generalize ku _ _=fm;simp(disch:=omega) [-ru,-kD,-oy,-G5,-vL,c,f5,t1,t2,s,j,l];refine C _ i r ?_ ?_;exact aa;exact aa
def ajw{f:Fr}{n:Nat}{C:CC}(x:asc h b D nd dp ng tr)(j:Bm h){c:aT->Prop}(f0:cg 0 f=.a b 0)(i:cg 1 f=.a 9 0)
 (m:∀a v r,cg 4 a=.g .u64 v->cg 5 a=.d r->c (.b a h [])):W T (CC.g (.h (z q238 39)) (.g (.f r238_40) (.g (.h r238_41) (.g (.o 0) azh)))) f h [] (pH (W T) C c n):=by
 obtain⟨t1,t2,t3⟩:=j;generalize o:CC.f r238_40=s;generalize l:azh=g;refine ag ?_;subst o;rw[lI,mu];generalize ku _ _=fm;simp(disch:=omega) [i,t2,t3];subst l;refine abm (v:=0) (r:=true) (e:=1024) x ⟨t1,t2,t3⟩ ?_ ?_ ?_ ?_ ?_ (λa v r p q=>?_);exact zA;exact zA;exact aa;exact aa;exact aa;rw[Ta];exact m a v r p q
def ajx(R:aA T)(x:asc h b D nd dp ng tr)(yx:nd=0\/kE D nd)(Bl:-200000<dp/\dp<200000)(ct:CS h)(pt:EO h)(P:Bm h)(K:22<=b)(F:22<=h.a)
 (hk:∀v r h',ah (·=b) h h'->k (.a (.p [.g .u64 v,.d r]) h')):aE T (W T) ⟨238⟩ [.a b 0,.a 9 0] h k:=by
 rw[ic R.t238];have b0:xO 0 ay1=some (.g .k azh):=rfl;have O:xO 1 ay1=some (.g .k aBg):=rfl;have ft':=P;obtain⟨t1,t2,t3⟩:=ft';have x':=x;unfold asc at x';generalize hC:ay1=C at b0 O;have done:∀l v r h',ah (·=b) h h'->cg 4 l=.g .u64 v->cg 5 l=.d r->finish T (W T) [.a 4,.a 5] k (.b l h' []):=λl v r h' g p4 u=>by refine aS p4 u ?_;exact hk v r h' g
 generalize ER:finish T (W T) [.a 4,.a 5] k=Kf at done⊢;generalize hS:pH (W T) C Kf 8=Z;have J0:∀(l:Fr) h' d cG A yw fT(e v:Int)(r:Bool),ah (·=b) h h'->asc h' b d cG A yw fT->cg 0 l=.a b 0->cg 1 l=.a 9 0->cg 5 l=.d r->cg 6 l=.i e->cg 7 l=.g .u64 v->Z (.g 0 l h' []):=by intro l h' d cG A yw fT e v r g x1 o i u B V;rw[<-hS,ZO,b0,ZP,Gi,Qq];show W T _ l h' [] _;refine abm x1 (P.kp (.of g K F)) o i u B V λm v r q4 q5=>?_;rw[Ta];exact done m v r h' g q4 q5
 have J1:∀(l:Fr) h' d cG A yw fT,ah (·=b) h h'->asc h' b d cG A yw fT->cg 0 l=.a b 0->cg 1 l=.a 9 0->Z (.g 1 l h' []):=by intro l h' d cG A yw fT g x1 o i;rw[<-hS,ZO,O,ZP,Gi,Qq];show W T _ l h' [] _;exact ajw x1 (P.kp (.of g K F)) o i λm v r q4 q5=>done m v r h' g q4 q5
 have entry:∀f,cg 0 f=.a b 0->cg 1 f=.a 9 0->cg 5 f=.d false->W T C f h [] Z:=by
  intro f f0 f1 f5;clear hS b0 O;subst hC;unfold ay1;have nn:∀n:Nat,n<1000000000->uR (.i (n:Int))=.v (.i (-(n:Int))):=λn F=>abl F;have EM:∀(m:Fr) p w y(t:Int) H(j v2:Int),ah (·=b) h p->asc p b w y t ng H->cg 0 m=.a b 0->cg 1 m=.a 9 0->cg 5 m=.d false->cg 6 m=.i j->cg 7 m=.g .u64 v2->W T azi m p [] Z:=by
   intro m p w y t H j v2 N a2 o i u B V;unfold azi zt;obtain⟨L,M,E⟩:=P.kp (.of N K F);obtain⟨c1,e1⟩:∃a,oQ pF (.g .u64 1) (.g .u64 52)=.v (.g .u64 a):=⟨_,rfl⟩;obtain⟨c2,e2'⟩:∃a,jI (λ_ a b=>a&&&b) (.g .u64 v2) (.g .u64 c1)=.v (.g .u64 a):=⟨_,rfl⟩;generalize hG:CC.p 0=G
   by_cases z:c2=0
   subst z;simp(maxSteps:=400000) (disch:=first|exact bh|fail) [-oy,i,V,L,E,e1,e2'];subst hG;refine ag ?_;refine J0 _ p w y t ng H (-1023) v2 false N a2 ?_ ?_ ?_ ?_ ?_;exact au o;exact au i;exact au u;exact aa;exact au V;simp(maxSteps:=400000) (disch:=first|exact bh|fail) [-oy,i,V,L,e1,e2',z];subst hG;refine ag ?_;refine J0 _ p w y t ng H j v2 false N a2 ?_ ?_ ?_ ?_ ?_;exact au o;exact au i;exact au u;exact au B;exact au V
  have HH:∀(m:Fr) p w y(t:Int) H(j:Int),ah (·=b) h p->asc p b w y t ng H->kE w y->-100000000<t->t<100000000->-1000000<=j->j<=1000000->cg 0 m=.a b 0->cg 1 m=.a 9 0->cg 5 m=.d false->cg 6 m=.i j->W T azj m p [] Z:=by
   intro m p w y t H j N a2 a3 d1 d2 e1 J o i u B;have kp:=xe.of N K F;obtain⟨L,M,E⟩:=P.kp kp;have w1:w64 (j- -1023)=j+1023:=by rw[gf zo zo];omega
   unfold azj cI;generalize ju:CC.f r238_30=Dr;generalize Ah:CC.f r238_36=KX;generalize ajy:aAk=T31;generalize ajz:azi=T37 at EM;generalize Ur:CC.p 1=G1;rw[Gi,Gi];subst ju;rw[lI,mu];generalize ku _ _=fm;have em:jb (.i j) (.i (-1023))=.v (.i (j+1023)):=by rw[kD,w1]
   by_cases c:2047<=j+1023
   simp(maxSteps:=400000) (disch:=first|exact bh|fail) [-kD,i,B,M,E,em,c,show jb (.i 2048) (.i 1)=.v (.i 2047) from rfl];subst Ur;refine ag ?_;refine J1 _ p w y t ng H N a2 ?_ ?_;exact au o;exact au i;simp(maxSteps:=400000) (disch:=first|exact bh|fail) [-kD,i,B,M,E,em,c,show jb (.i 2048) (.i 1)=.v (.i 2047) from rfl];subst ajy;unfold aAk zt;rw[Ah,ajz,Ur];have e53:lG (.g .u64 1) (.g .u64 52)=.v (.g .u64 53):=rfl;have c53:ko .i64 (.g .u64 53)=.v (.i 53):=rfl;simp(disch:=omega) [-kD,-zR,o,i,L,e53,c53];refine abf R (s:=53) a2 a3 zd zd (ct.kp kp) K zo λh3 Y o8 X δ O S b3 b4 b5 b6 b7=>?_;have I:=N.ab O;obtain⟨L,M,E⟩:=P.kp (.of I K F);refine aB o ?_;refine ajk R S b3 zo λv=>?_;obtain⟨z1,g1⟩:∃a,oQ pF (.g .u64 2) (.g .u64 52)=.v (.g .u64 a):=⟨_,rfl⟩
   by_cases cv:v=z1
   subst cv;have w2:w64 (j+1)=j+1:=gf zo zo;obtain⟨z2,g2⟩:∃a,sC (.g .u64 v) (.g .u64 1)=.v (.g .u64 a):=⟨_,rfl⟩;have JM:jb (.i (j+1)) (.i (-1023))=.v (.i (j+1+1023)):=by rw[kD,gf zo zo];exact aui (λz=>OR.v (.i z)) zo
   generalize hE:j+1=e4 at w2 JM;have w3:lG (.i j) (.i 1)=.v (.i e4):=by rw[zR,hE,w2]
   simp(disch:=omega) [-kD,-zR,-aED,i,B,L,g1,g2,w3];subst Ah;rw[lI,mu];generalize ku _ _=fm
   by_cases c2:2047<=e4+1023
   simp(disch:=omega) [-kD,i,M,E,JM,c2,show jb (.i 2048) (.i 1)=.v (.i 2047) from rfl];subst Ur;refine ag ?_;refine J1 _ h3 Y o8 _ ng X I S ?_ ?_;exact au o;exact au i;simp(disch:=omega) [-kD,i,M,E,JM,c2,show jb (.i 2048) (.i 1)=.v (.i 2047) from rfl];refine EM _ h3 Y o8 _ X e4 z2 I S ?_ ?_ ?_ ?_ ?_;exact au o;exact au i;exact au u;exact aa;exact aa;refine mz o i u B L M E g1 cv ?_;refine EM _ h3 Y o8 _ X j v I S ?_ ?_ ?_ ?_ ?_;exact au o;exact au i;exact au u;exact au B;exact aa
  rcases yx with z|gg;subst z;refine iR f0 f1 f5 x' t1 t2 t3 ?_;refine J0 _ h D 0 dp ng tr (-1023) 0 false (ah.da _) x ?_ ?_ ?_ ?_ ?_;exact zA;exact zA;exact zA;exact aa;exact aa;have U:=Ou gg
  by_cases c1:310<dp
  refine iR f0 f1 f5 x' U.1 U.2 c1 ?_;refine J1 _ h D nd dp ng tr (ah.da _) x ?_ ?_;exact zA;exact zA
  by_cases c2:dp< -330
  refine mz f0 f1 f5 x' U.1 U.2 c1 c2 t3 ?_;refine J0 _ h D nd dp ng tr (-1023) 0 false (ah.da _) x ?_ ?_ ?_ ?_ ?_;exact zA;exact zA;exact zA;exact aa;exact aa;generalize abe:azj=T30 at HH⊢;generalize jg:CC.d l238_1=L1;generalize pz:CC.d l238_0=L0;refine mz f0 f1 f5 x' U.1 U.2 c1 c2 t3 ?_;subst jg;have bb:Aj D<=1:=by unfold Aj;split<;>omega
  refine ajr R pt K F (ng:=ng) (λm p w y t H e g2 x2 Q d1 d2 e1 j o i u B=>?_) 700 h D nd dp tr 0 _ zo zo zo zd zd (ah.da _) x gg ?_ ?_ ?_ ?_;refine ag ?_;subst pz;have dd:=Q.a 0 Q.b;refine ajv R pt ct K F (ng:=ng) (λf3 h3 Y o8 dp3 X J g3 x3 dL d3 d4 e4 e5 q0 q1 q5 q6=>?_) 20009 p w y t H e _ zo zo zo zo zo g2 x2 Q o i u B;obtain⟨L,M,E⟩:=P.kp (.of g3 K F);have w1:jb (.i J) (.i 1)=.v (.i (J- 1)):=by rw[kD,gf zo zo]
  have w2:lG (.i (-1023)) (.i 1)=.v (.i (-1022)):=rfl
  by_cases c3:J- 1< -1022
  obtain⟨n,en⟩:=at6 (by omega:0<=-1022- (J- 1));have w3:jb (.i (-1022)) (.i (J- 1))=.v (.i (n:Int)):=by rw[kD,gf zo zo,en]
  have w4:lG (.i (J- 1)) (.i (n:Int))=.v (.i (-1022)):=by rw[zR,gf zo zo];congr 2;omega
  have ne:=nn n zo;generalize Up:-(n:Int)=ms at ne;generalize hE:J- 1=e6 at c3 w1 w3 w4;simp(disch:=omega) [-kD,-zR,q0,q1,q6,E,w1,w2,w3,c3,ne];subst Up;refine aji R (n:=n) x3 dL zo zo zo λh4 D4 rW tr4 q O S b3 b4=>?_;simp(disch:=omega) [-kD,-zR,w4];refine HH _ h4 D4 rW _ tr4 (-1022) (g3.ab O) S b3 zo zo zd zd ?_ ?_ ?_ ?_;exact au q0;exact au q1;exact au q5;exact aa;simp(disch:=omega) [-kD,-zR,q1,q6,E,w1,w2,c3];refine HH _ h3 Y o8 dp3 X (J- 1) g3 x3 dL zo zo zo zo ?_ ?_ ?_ ?_;exact au q0;exact au q1;exact au q5;exact aa;exact zA;exact zA;exact zA;exact aa
 subst ER;simp(disch:=omega) [Qr];rw[hS];refine entry _ ?_ ?_ ?_;exact aa;exact aa;exact aa
end
section
open Go (IntKind)
variable {k:aK->Prop}
abbrev Us(s:List UInt8)(f:Fr)(i nd nm:Nat)(dp m:Int)(tr a b:Bool):Prop:=cg 0 f=S s/\cg 2 f=.g .u64 m/\cg 3 f=.i 0/\cg 4 f=.d false/\cg 5 f=.d tr/\cg 6 f=.d false/\cg 7 f=.i i/\cg 8 f=.d false/\cg 9 f=.d false/\cg 10 f=.g .u64 10/\cg 11 f=.i 19/\cg 12 f=.s 101/\cg 13 f=.d a/\cg 14 f=.d b/\cg 15 f=.i nd/\cg 16 f=.i nm/\cg 17 f=.i dp
structure RfB(i nd nm:Nat)(dp:Int):Prop where
 a:nd<=i
 b:nm<=nd
 c:-(i:Int)<=dp/\dp<=i
def ajA(Q:FlA s)(hl:s.length<=60){K:aT->Prop}(A:∀F(i nd nm:Nat)(dp m:Int)(tr d g:Bool),Us s F i nd nm dp m tr d g->RfB i nd nm dp->i<=s.length->K (.a 1 F h [])):
 ∀(n i nd nm:Nat)(dp m:Int)(tr d g:Bool)(f:Fr),n=s.length- i->i<=s.length->Us s f i nd nm dp m tr d g->RfB i nd nm dp->W T (.d l231_1) f h [] K:=by
 intro n
 induction n with
 |zero=>
  intro i nd nm dp m tr d g f R hi x B;have e:i=s.length:=zo;subst e;rw[aP];show W T ayY f h [] _;unfold ayY zt;refine aB x ?_;refine A _ _ nd nm dp m tr d g ?_ B zl;simp(disch:=omega) [Us,x]
 |succ n t=>
  intro i nd nm dp m tr d g f R hi x B;have r:i<s.length:=zo;have l:(i:Int)<s.length:=zo;obtain⟨u,p,oc⟩:=xh Q r;have U:=B.a;have D:=B.b;have V:=B.c;have o:¬u=95:=zo;rw[aP];generalize Y:CC.d l231_1=L at t⊢;show W T ayY f h [] _;unfold ayY zt
  by_cases j:u=46
  subst j;cases d with
  |true=>
   simp(disch:=omega) [-dQ,x,l,p];refine A _ i nd nm dp m tr true g ?_ B hi;simp(disch:=omega) [Us,x]
  |false=>
   simp(disch:=omega) [-dQ,x,l,p];refine t (i+1) nd nm nd m tr true g _ zo r ?_ ⟨by omega,D,by omega⟩;simp(disch:=omega) [Us,x]
  by_cases E:48<=u/\u<=57
  obtain⟨G,S⟩:=E
  by_cases c0:u=48/\nd=0
  obtain⟨c0,rfl⟩:=c0;subst c0;have X:w64 (dp- 1)=dp- 1:=gf zo zo;simp(disch:=omega) [-dQ,x,l,p];refine t (i+1) 0 nm (dp- 1) m tr d true _ zo r ?_ ⟨by omega,D,by omega⟩;simp(disch:=omega) [Us,x];have rest:∀w:Fr,Us s w i (nd+1) nm dp m tr d true->cg 18 w=.s u->W T aAa w h [] (bY 3 (bF (W T (CC.n 1)) (bY 2 (bF (W T (CC.h (z q231 50))) (bF (W T L) K))))):=by
   intro w y q
   by_cases v:nm<19
   have c:(nm:Int)<19:=zo;have M:jb (.s u) (.s 48)=.v (.s (u- 48)):=T' G zo;have N:=KY (a:=u- 48) zo;obtain⟨I,O⟩:∃a,qj (.g .u64 m) (.g .u64 10)=.v (.g .u64 a):=⟨_,rfl⟩;obtain⟨J,P⟩:∃a,lG (.g .u64 I) (.g .u64 ((u- 48:Nat):Int))=.v (.g .u64 a):=⟨_,rfl⟩;simp(disch:=omega) [-vK,-vJ,y,q,c,M,N,O,P];refine t (i+1) (nd+1) (nm+1) dp J tr d true _ zo r ?_ ⟨by omega,by omega,by omega⟩;simp(disch:=omega) [Us,y];have c:¬(nm:Int)<19:=zo
   by_cases b:u=48
   subst b;refine bK y q v c ?_;refine t (i+1) (nd+1) nm dp m tr d true _ zo r ?_ ⟨by omega,by omega,by omega⟩;simp(disch:=omega) [Us,y];refine cC y q v c b ?_;refine t (i+1) (nd+1) nm dp m true d true _ zo r ?_ ⟨by omega,by omega,by omega⟩;simp(disch:=omega) [Us,y]
  generalize Z:aAa=H at rest⊢
  by_cases b:u=48
  subst b;have z:¬nd=0:=λe=>c0 ⟨rfl,e⟩;have z':¬(nd:Int)=0:=zo;simp(disch:=omega) [-dQ,x,l,p,z];refine rest _ ?_ ?_;simp(disch:=omega) [Us,x];exact aa;simp(disch:=omega) [-dQ,x,l,p,G,S,b,j,o];refine rest _ ?_ ?_;simp(disch:=omega) [Us,x];exact aa
  by_cases b:48<=u
  have C:¬u<=57:=λz=>E ⟨b,z⟩;simp(disch:=omega) [-dQ,x,l,p,j,o,b,C];refine A _ i nd nm dp m tr d g ?_ B hi;simp(disch:=omega) [Us,x];simp(disch:=omega) [-dQ,x,l,p,j,o,b];refine A _ i nd nm dp m tr d g ?_ B hi;simp(disch:=omega) [Us,x]
abbrev HI(f:Fr)(s:List UInt8)(i nm:Nat)(dp m:Int)(tr:Bool):Prop:=cg 0 f=S s/\cg 2 f=.g .u64 m/\cg 3 f=.i 0/\cg 4 f=.d false/\cg 5 f=.d tr/\cg 6 f=.d false/\cg 7 f=.i i/\cg 8 f=.d false/\cg 9 f=.d false/\cg 10 f=.g .u64 10/\cg 16 f=.i nm/\cg 17 f=.i dp
def ajB(E:FlA s)(I:s.length<=60){nm:Nat}{dp m:Int}{tr:Bool}{K:aT->Prop}(w:∀p(i:Nat)(e g:Int),HI p s i nm dp m tr->i<=s.length->0<=e->e<100000->(g=1\/g=-1)->cg 19 p=.i g->cg 20 p=.i e->K (.a 5 p h [])):
 ∀(n i:Nat)(e g:Int)(f:Fr),n=s.length- i->i<=s.length->0<=e->e<100000->(g=1\/g=-1)->HI f s i nm dp m tr->cg 19 f=.i g->cg 20 f=.i e->W T (.d l231_0) f h [] K:=by
 intro n
 induction n with
 |zero=>
  intro i e g f F hi j l d x f19 f20;have D:i=s.length:=zo;subst D;rw[aP];show W T aAb f h [] _;refine aB x ?_;refine w _ _ e g ?_ zl j l d ?_ ?_;simp(disch:=omega) [HI,x];exact zA;exact zA
 |succ n y=>
  intro i e g f F hi j l d x f19 f20;have t:i<s.length:=zo;have o:(i:Int)<s.length:=zo;obtain⟨u,r,J⟩:=xh E t;have a:¬u=95:=zo;rw[aP];generalize H:CC.d l231_0=L at y⊢;show W T aAb f h [] _
  by_cases z:48<=u/\u<=57
  obtain⟨B,A⟩:=z;have C:ko .i64 (.s u)=.v (.i (u:Int)):=by show OR.v (.i (w64 (Int.ofNat u)))=_;rw[show Int.ofNat u=(u:Int) from rfl,gf zo zo]
  by_cases c:e<10000
  have G:w64 (e*10)=e*10:=gf zo zo;simp(disch:=omega) [-dQ,x,f20,o,r,B,A,a,c,C];refine y (i+1) (e*10+u- 48) g _ zo t zo zo d ?_ ?_ ?_;simp(disch:=omega) [HI,x];exact zA;exact aa;simp(disch:=omega) [-dQ,x,f20,o,r,B,A,a,c];refine y (i+1) e g _ zo t j l d ?_ ?_ ?_;simp(disch:=omega) [HI,x];exact zA;exact zA
  by_cases b:48<=u
  have v:¬u<=57:=λq=>z ⟨b,q⟩;simp(disch:=omega) [-dQ,x,o,r,b,v,a];refine w _ i e g ?_ hi j l d ?_ ?_;simp(disch:=omega) [HI,x];exact zA;exact zA;simp(disch:=omega) [-dQ,x,o,r,b,a];refine w _ i e g ?_ hi j l d ?_ ?_;simp(disch:=omega) [HI,x];exact zA;exact zA
def ajC(Q:uU T)(o:FlA s)(hl:s.length<=60)
 (hk:∀(m e:Int)(tr ok:Bool)(i:Nat),i<=s.length->-300000<e->e<300000->k (.a (.p [.g .u64 m,.i e,.d false,.d tr,.d false,.i i,.d ok]) h)):aE T (W T) ⟨231⟩ [S s] h k:=by
 rw[ic Q.h.t231];have l0:0<s.length:=auA.2 o.d;obtain⟨u,y,oc⟩:=xh o l0;have y:nh (S s) (.i 0)=.v (.s u):=y;have dh:48<=u/\u<=57:=by
  have a:=Ov o.b;have e:nh (S s) (.i 0)=.v (.s (s.headD 0).toNat):=by
   rw[dQ zd (by simpa using l0)];cases s with
   |nil=>simp at l0
   |cons c r=>rfl
  rw[y] at e;cases e;exact a
 have c43:¬u=43:=zo;have c45:¬u=45:=zo;have sl:¬(s.length:Int)<=0:=zo;have KZ:¬s.length=0:=zo;generalize KT:aAf=EG;generalize ER:finish T (W T) [.a 2,.a 3,.a 4,.a 5,.a 6,.a 7,.a 8] k=Kf;have done:∀(f:Fr)(m e:Int)(tr ok:Bool)(i:Nat),i<=s.length->-300000<e->e<300000->cg 2 f=.g .u64 m->cg 3 f=.i e->cg 4 f=.d false->cg 5 f=.d tr->cg 6 f=.d false->cg 7 f=.i i->cg 8 f=.d ok->Kf (.b f h []):=λf m e tr ok i a b c p2 p3 p4 p5 p6 p7 p8=>by subst ER;refine iR p2 p3 p4 p5 p6 p7 p8 ?_;exact hk m e tr ok i a b c
 have key:∀(p:aT->Prop),(∀f,Kf (.b f h [])->p (.b f h []))->∀f:Fr,cg 0 f=S s->cg 2 f=.g .u64 0->cg 3 f=.i 0->cg 4 f=.d false->cg 5 f=.d false->cg 6 f=.d false->cg 7 f=.i 0->cg 8 f=.d false->cg 9 f=.d false->cg 10 f=.g .u64 10->cg 11 f=.i 19->cg 12 f=.s 101->W T EG f h [] p:=by
  intro p M f f0 G f3 f4 f5 f6 f7 f8 f9 f10 f11 f12;subst KT;unfold aAf zt;generalize Ox:aAe=U;obtain⟨V,C⟩:∃X,aAd=X:=⟨_,rfl⟩;have t:=Ox.symm;unfold aAe zt at t;rw[C] at t;obtain⟨A,D⟩:∃X,aBd=X:=⟨_,rfl⟩;have v:=C.symm;unfold aAd zt at v;rw[D] at v;have Z:∀(f:Fr)(i nm:Nat)(dp m:Int)(tr:Bool),HI f s i nm dp m tr->i<=s.length->nm<=100->-250000<dp->dp<250000->W T A f h [] p:=by
   intro f i nm dp m tr x hi nb d1 d2;rw[<-D];have w1:w64 (dp- nm)=dp- nm:=gf zo zo
   by_cases z:m=0
   ·subst z;refine aB x ?_;refine M _ (done _ 0 0 tr true i hi zd zd ?_ ?_ ?_ ?_ ?_ ?_ ?_)
    all_goals simp(disch:=omega) [x]
   ·refine aU x z w1 ?_;refine M _ (done _ m (dp- nm) tr true i hi zo zo ?_ ?_ ?_ ?_ ?_ ?_ ?_)
    all_goals simp(disch:=omega) [x]
  have l:∀(f:Fr)(i nm:Nat)(dp m:Int)(tr:Bool),HI f s i nm dp m tr->i<=s.length->p (.b f h []):=λf i nm dp m tr x hi=>
   M _ (done _ m 0 tr false i hi zd zd x.2.1 x.2.2.1 x.2.2.2.1 x.2.2.2.2.1 x.2.2.2.2.2.1 x.2.2.2.2.2.2.1 x.2.2.2.2.2.2.2.1)
  have E:∀(f:Fr)(i nm:Nat)(dp m:Int)(tr:Bool),HI f s i nm dp m tr->cg 12 f=.s 101->i<=s.length->nm<=100->-100<=dp->dp<=100->W T V f h [] p:=by
   intro f i nm dp m tr x d hi nb d1 d2;rw[v];have w:¬(10:Int)=16:=by decide
   by_cases ci:i<s.length
   have yy:(i:Int)<s.length:=zo;obtain⟨O,L,R⟩:=xh o ci;have lo:=Un R;simp(disch:=omega) [-dQ,x,yy,L];refine Um Q zo ?_;rw[lo]
   by_cases ce:O=101
   subst ce
   by_cases cj:i+1<s.length
   have I:¬(s.length:Int)<=(i:Int)+1:=zo;have yB:¬s.length<=i+1:=zo;obtain⟨u2,J,oc2⟩:=xh o cj;have J:nh (S s) (.i ((i:Int)+1))=.v (.s u2):=J;generalize ajD:aAc=Y;have Uu:∀(f3:Fr)(j:Nat)(g:Int),(g=1\/g=-1)->j<=s.length->HI f3 s j nm dp m tr->cg 19 f3=.i g->W T Y f3 h [] (bF (W T A) p):=by
    intro f3 j g hg N x p19;subst ajD;unfold aAc zt
    by_cases cl:j<s.length
    have K:¬(s.length:Int)<=j:=zo;have yE:¬s.length<=j:=zo;obtain⟨u3,P,oc3⟩:=xh o cl
    by_cases cd:u3<48
    simp(disch:=omega) [-dQ,x,K,P,cd];refine l _ j nm dp m tr ?_ N;simp(disch:=omega) [HI,x]
    by_cases rz:57<u3
    simp(disch:=omega) [-dQ,x,K,P,cd,rz];refine l _ j nm dp m tr ?_ N;simp(disch:=omega) [HI,x];generalize pz:CC.d l231_0=L0;simp(disch:=omega) [-dQ,x,K,P,cd,rz];subst pz;refine ajB o hl (nm:=nm) (dp:=dp) (m:=m) (tr:=tr) (λf4 i4 e g2 x i4l e0 e1 nv z19 z20=>?_) (s.length- j) j 0 g _ rfl N (atY _) zd hg ?_ ?_ ?_;have bd:-100000<e*g2/\e*g2<100000:=by rcases nv with q|q<;>subst q<;>omega
    have w1:w64 (e*g2)=e*g2:=gf zo zo;have em:qj (.i e) (.i g2)=.v (.i (e*g2)):=by rw[NG,w1]
    generalize e*g2=eg at bd em;have w2:w64 (dp+eg)=dp+eg:=gf zo zo;simp(disch:=omega) [-NG,em,z19,z20,x];refine Z _ i4 nm (dp+eg) m tr ?_ i4l nb zo zo;simp(disch:=omega) [HI,x];simp(disch:=omega) [HI,x];exact au p19;exact aa;have K:(s.length:Int)<=j:=zo;have yE:s.length<=j:=zo;simp(disch:=omega) [-dQ,x,K];refine l _ j nm dp m tr ?_ N;simp(disch:=omega) [HI,x]
   by_cases cp:u2=43
   subst cp;simp(disch:=omega) [-dQ,x,d,J,I];refine Uu _ (i+1+1) 1 (.inl rfl) zo ?_ ?_;simp(disch:=omega) [HI,x];exact aa
   by_cases cm:u2=45
   subst cm;simp(disch:=omega) [-dQ,x,d,J,I];refine Uu _ (i+1+1) (-1) (.inr rfl) zo ?_ ?_;simp(disch:=omega) [HI,x];exact aa;simp(disch:=omega) [-dQ,x,d,J,I,cp,cm];refine Uu _ (i+1) 1 (.inl rfl) zo ?_ ?_;simp(disch:=omega) [HI,x];exact aa;have I:(s.length:Int)<=(i:Int)+1:=zo;have yB:s.length<=i+1:=zo;simp(disch:=omega) [-dQ,x,d,I];refine l _ (i+1) nm dp m tr ?_ zo;simp(disch:=omega) [HI,x];refine bK x d ce w ?_;refine Z _ i nm dp m tr ?_ hi nb zo zo;simp(disch:=omega) [HI,x];have yy:¬(i:Int)<s.length:=zo;simp(disch:=omega) [-dQ,x,yy,w];refine Z _ i nm dp m tr ?_ hi nb zo zo;simp(disch:=omega) [HI,x]
  have Uv:∀(f:Fr),cg 0 f=S s->cg 2 f=.g .u64 0->cg 3 f=.i 0->cg 4 f=.d false->cg 5 f=.d false->cg 6 f=.d false->cg 7 f=.i 0->cg 8 f=.d false->cg 9 f=.d false->cg 10 f=.g .u64 10->cg 11 f=.i 19->cg 12 f=.s 101->W T U f h [] p:=by
   intro f f0 G f3 f4 f5 f6 f7 f8 f9 f10 f11 f12;rw[t];generalize jg:CC.d l231_1=L1;simp(disch:=omega) [Xg];subst jg;refine ajA o hl (λf' i nd nm dp m tr sd sg x B hi=>?_) s.length 0 0 0 0 0 false false false _ rfl (auz _) ?_ ⟨at2 _,at2 _,by decide⟩
   ·have b1:=B.a;have b2:=B.b;have b3:=B.c;have w:¬(10:Int)=16:=by decide
    cases sg with
    |false=>
     refine aB x ?_;refine M _ (done _ m 0 tr false i hi zd zd ?_ ?_ ?_ ?_ ?_ ?_ ?_)
     all_goals simp(disch:=omega) [x]
    |true=>
     cases sd with
     |false=>
      refine aB x ?_;refine E _ i nm nd m tr ?_ ?_ hi zo zo zo;simp(disch:=omega) [HI,x];exact au x
     |true=>
      refine aB x ?_;refine E _ i nm dp m tr ?_ ?_ hi zo zo zo;simp(disch:=omega) [HI,x];exact au x
   simp(disch:=omega) [Us,f0,G,f3,f4,f5,f6,f7,f8,f9,f10,f11,f12]
  by_cases c2:2<s.length
  ·have n:(2:Int)<s.length:=zo
   by_cases F:u=48
   ·obtain⟨O,L,R⟩:=xh o (show 1<s.length by omega);have L:nh (S s) (.i 1)=.v (.s O):=L;have lo:=Un R;have H:¬O=120:=zo;subst F;simp(disch:=omega) [-dQ,f0,f7,n,y,L];refine Um Q zo ?_;rw[lo];refine aB H ?_;refine Uv _ ?_ ?_ ?_ ?_ ?_ ?_ ?_ ?_ ?_ ?_ ?_ ?_
    all_goals simp(disch:=omega) [f0,G,f3,f4,f5,f6,f7,f8,f9,f10,f11,f12]
   ·simp(disch:=omega) [-dQ,f0,f7,n,y,F];refine Uv _ ?_ ?_ ?_ ?_ ?_ ?_ ?_ ?_ ?_ ?_ ?_ ?_
    all_goals simp(disch:=omega) [f0,G,f3,f4,f5,f6,f7,f8,f9,f10,f11,f12]
  ·have n:¬(2:Int)<s.length:=zo;simp(disch:=omega) [-dQ,f0,f7,n];refine Uv _ ?_ ?_ ?_ ?_ ?_ ?_ ?_ ?_ ?_ ?_ ?_ ?_
   all_goals simp(disch:=omega) [f0,G,f3,f4,f5,f6,f7,f8,f9,f10,f11,f12]
 simp(disch:=omega) [-dQ,y,c43,c45,KZ,Qr];refine key _ (λf z=>by rw[Ta];exact z) _ ?_ ?_ ?_ ?_ ?_ ?_ ?_ ?_ ?_ ?_ ?_ ?_
 all_goals simp(disch:=omega)
end
section
open Go (IntKind FloatKind)
def lW(a:Nat):Prop:=∀s t,Ieee.double.read a≠.nan s t
def Bn(b:Nat):Bool:=match Ieee.double.read b with|.number _ n _=>decide (n≠0)|_=>false
def Uw{neg:Bool}{r:Nat}(h:r<=Ieee.double.infRung):lW (Ieee.double.word neg r):=by
 have a:Ieee.double.infRung=9218868437227405312:=by decide
 have b:Ieee.double.signWeight=9223372036854775808:=by decide
 have m:Ieee.double.word neg r% Ieee.double.signWeight=r:=by unfold Ieee.Format.word;split;rw[Nat.add_mod_left,avy zo];rw[avy zo]
 intro s t;unfold Ieee.Format.read;simp only[m];split;simp;split;simp;split;simp;omega
def abq{neg:Bool}{m:Nat}{p:Int}:lW (Ieee.double.nearest neg m p):=by unfold Ieee.Format.nearest;split;exact Uw (auz _);exact Uw (Nat.min_le_right _ _)
def abr{d:Ieee.Datum}(h:∀s t,d≠.nan s t):lW (Ieee.double.write d):=by
 cases d with
 |number s m p=>exact abq
 |infinity s=>exact Uw zl
 |nan s t=>exact absurd rfl (h s t)
def Ux{b:Nat}(h:Bn b=true):∃s n p,Ieee.double.read b=.number s n p/\n≠0:=by unfold Bn at h;split at h;exact⟨_,_,_,by assumption,by simpa using h⟩;cases h
def ajE{a b:Nat}(c:lW a)(e:Bn b=true):∃r,Ieee.double.mul a b=some r/\lW r:=by
 obtain⟨t,n,j,d,n0⟩:=Ux e;unfold Ieee.Format.mul;rw[d];unfold lW at c;generalize Ieee.double.read a=x at c;cases x with
 |number s m i=>exact⟨_,rfl,abr zm⟩
 |infinity s=>
  refine⟨Ieee.double.write (.infinity (s^^t)),?_,abr zm⟩;simp[Ieee.Datum.product,n0]
 |nan s q=>exact absurd rfl (c s q)
def ajF{a b:Nat}(c:lW a)(e:Bn b=true):∃r,Ieee.double.div a b=some r:=by
 obtain⟨t,n,j,d,n0⟩:=Ux e;unfold Ieee.Format.div;rw[d];unfold lW at c;generalize Ieee.double.read a=x at c;cases x with
 |number s m i=>exact⟨_,by simp[Ieee.Datum.quotient,n0];rfl⟩
 |infinity s=>exact⟨_,by simp[Ieee.Datum.quotient];rfl⟩
 |nan s q=>exact absurd rfl (c s q)
def ajG{a b:Nat}(d:lW a)(c:lW b):∃o,Ieee.double.order a b=some o:=by
 unfold lW at d c;unfold Ieee.Format.order;generalize Ieee.double.read a=x at d;generalize Ieee.double.read b=y at c;cases x with
 |nan s q=>exact absurd rfl (d s q)
 |number s m i=>
  cases y with
  |nan s q=>exact absurd rfl (c s q)
  |number=>exact⟨_,rfl⟩
  |infinity=>exact⟨_,rfl⟩
 |infinity s=>
  cases y with
  |nan s q=>exact absurd rfl (c s q)
  |number=>exact⟨_,rfl⟩
  |infinity=>exact⟨_,rfl⟩
def abt{a b:Nat}(c:lW a)(d:Bn b=true):∃r,qj (.u .f64 a) (.u .f64 b)=.v (.u .f64 r)/\lW r:=by obtain⟨r,e,n⟩:=ajE c d;refine⟨r,?_,n⟩;show(match Ieee.double.mul a b with|some r=>OR.v (.u .f64 r)|none=>_)=_;rw[e]
def ajH{a b:Nat}(c:lW a)(d:Bn b=true):∃r,we (.u .f64 a) (.u .f64 b)=.v (.u .f64 r):=by obtain⟨r,e⟩:=ajF c d;refine⟨r,?_⟩;show(match Ieee.double.div a b with|some r=>OR.v (.u .f64 r)|none=>_)=_;rw[e]
def abu{a b:Nat}{g:Nat->Bool}(d:lW a)(f:lW b):∃r,mc g (.u .f64 a) (.u .f64 b)=.v (.d r):=by
 obtain⟨o,e⟩:=ajG d f;have c:FloatKind.f64.format.order a b=some o:=e;have q:tK (.u .f64 a) (.u .f64 b)=some (match o with|.lt=>0|.eq=>1|.gt=>2):=by simp only[tK,c];cases o<;>rfl
 unfold mc;rw[q];exact⟨_,rfl⟩
def ajI{a b:Nat}:∃r,Dv (.g .f64) (.u .f64 a) (.u .f64 b)=.v (.d r):=⟨_,rfl⟩
def ajJ{n:Int}:∃r,IZ .f64 (.g .u64 n)=.v (.u .f64 r)/\lW r:=⟨_,rfl,abq⟩
end
section
variable {k:aK->Prop}
def uv(c:UInt8):Bool:=decide (65<=c.toNat/\c.toNat<=90)||decide (97<=c.toNat/\c.toNat<=122)||decide (c.toNat=95)
def ajL(b:aA T)(a:k (.a (.d (uv c)) h)):aE T (W T) ⟨70⟩ [.s c.toNat] h k:=by
 rw[ic b.t70];unfold uv at a
 by_cases c1:65<=c.toNat<;>by_cases c2:c.toNat<=90<;>by_cases c3:97<=c.toNat<;>by_cases d:c.toNat<=122<;>simp(disch:=omega) [c1,c2,c3,d] at a⊢<;>exact a
def yF(s:List UInt8):Bool:=decide (s≠[])&&decide (s≠[95])&&decide (s.length<=40)&&uv (s.headD 0)&&s.all λc=>uv c||kh c
def abv(v:aA T)(I:s.length<1073741824)(b:k (.a (.d (yF s)) h)):aE T (W T) ⟨48⟩ [S s] h k:=by
 rw[ic v.t48];generalize D:CC.d l48_0=L
 by_cases l:s=[]
 subst l;refine ag ?_;exact b
 by_cases n:s=[95]
 subst n;refine ag ?_;exact b
 by_cases w:(40:Int)<s.length
 have:yF s=false:=by simp[yF];omega
 rw[this] at b;refine aU l n w ?_;exact b;refine aU l n w ?_;have B:s.length<=40:=zo;have F:yF s=(uv (s.headD 0)&&s.all λc=>uv c||kh c):=by simp[yF,l,n,B]
 rw[F] at b;subst D;have key:∀(m i:Nat)(f:Fr)(K:aT->Prop),m=s.length- i->i<=s.length->cg 16 f=.i s.length->cg 17 f=.i i->cg 0 f=S s->
  (((∀j,(d:j<s.length)->i<=j->uv s[j]=true\/j≠0/\kh s[j]=true)->∀a,K (.a 0 a h []))/\((∃j,∃d:j<s.length,¬(uv s[j]=true\/j≠0/\kh s[j]=true))->∀a,cg 2 a=.d false->K (.b a h [])))->W T (.d l48_0) f h [] K:=by
  intro m
  induction m with
  |zero=>
   intro i f K E hi f16 f17 f0 b;have e:¬i<s.length:=zo;rw[aP];refine bK f16 f17 f0 e ?_;exact b.1 (λj d z=>by omega) _
  |succ m G=>
   intro i f K E hi f16 f17 f0 b;have t:i<s.length:=zo;rw[aP];simp(disch:=omega) [f16,f17,f0,t];refine ajL v ?_;have u:uv s[i]=true\/i≠0/\kh s[i]=true->∀a,cg 16 a=.i s.length->cg 17 a=.i ((i:Int)+1)->cg 0 a=S s->W T (.d l48_0) a h [] K:=λq a f16 f17 f0=>by
    refine G (i+1) a K zo zo f16 (by rw[f17];rfl) f0 ⟨λg H=>b.1 (λj d z=>?_) H,b.2⟩
    by_cases A:j=i
    subst A;exact q;exact g j d zo
   have o:¬(uv s[i]=true\/i≠0/\kh s[i]=true)->∀a,cg 2 a=.d false->K (.b a h []):=λq=>b.2 ⟨i,t,q⟩;cases c1:uv s[i] with
   |true=>
    refine aU f16 f17 f0 ?_;exact u (.inl c1) _ zA aa zA
   |false=>
    by_cases c0:i=0
    subst c0;refine bK f16 f17 f0 t ?_;exact o (by simp[c1]) _ aa
    by_cases c2:s[i].toNat<48
    simp(disch:=omega) [f0,c0,c2];exact o (by simp[c1,kh];omega) _ qaH
    by_cases c3:57<s[i].toNat
    simp(disch:=omega) [f0,c0,c2,c3];exact o (by simp[c1,kh];omega) _ qaH;simp(disch:=omega) [f17,f0,c0,c2,c3];exact u (.inr ⟨c0,by simp[kh];omega⟩) _ (by simp(disch:=omega) [f16]) qaH (by simp(disch:=omega) [f0])
 have y:(∀j,(d:j<s.length)->uv s[j]=true\/j≠0/\kh s[j]=true) <-> (uv (s.headD 0)&&s.all λc=>uv c||kh c)=true:=by
  obtain⟨c,r,rfl⟩:∃c r,s=c::r:=by cases s with|nil=>exact absurd rfl l|cons c r=>exact⟨c,r,rfl⟩
  simp only[axh,atW,auO,awq];constructor;intro q;refine⟨by have:=q 0 zm;rcases this with q|q;exact q;exact absurd rfl q.1,λx g=>?_⟩;obtain⟨j,d,rfl⟩:=avC g;rcases q j d with q|q;exact .inl q;exact .inr q.2;rintro⟨q1,q2⟩ j d;rcases j with _|j;exact .inl q1;rcases q2 _ (auy d) with q|q;exact .inl q;exact .inr ⟨by omega,q⟩
 refine key _ 0 _ _ rfl zo aa aa aa ⟨λg a=>?_,λg a C=>?_⟩;have:=y.1 λj d=>g j d (auz _);rw[this] at b;refine ag ?_;exact b;have:¬_:=mt y.2 (by obtain⟨j,d,g⟩:=g;exact λq=>g (q j d));rw[Bool.not_eq_true] at this;rw[this] at b;refine aB C ?_;exact b
def kwS:List UInt8:=[98,111,111,108,32,98,114,101,97,107,32,99,111,110,116,105,110,117,101,32,101,108,115,101,32,102,97,108,115,101,32,102,108,111,97,116,54,52,32,102,111,114,32,102,117,110,99,32,105,102,32,105,109,112,111,114,116,32,105,110,116,32,108,101,110,32,112,97,99,107,97,103,101,32,112,97,110,105,99,32,112,114,105,110,116,32,114,101,116,117,114,110,32,115,116,114,105,110,103,32,115,116,114,117,99,116,32,116,114,117,101,32,116,121,112,101,32,118,97,114]
def Oy(s:List UInt8):Bool:=decide (s∈vA kwS)
def ajM(a:aA T)(b:lO (h.ac 1))(d:∀h',ax h h'->k (.a (.d (Oy s)) h')):aE T (W T) ⟨49⟩ [S s] h k:=by rw[ic a.t49];refine ag ?_;refine aap (s:=kwS) a zd zd b qay qay λf v g1 e=>?_;refine ag ?_;refine Ek a e qay ?_;refine ag ?_;exact d _ g1
def rZ(u:List UInt8):Option (List UInt8):=
 let rest:=if aEv u [102,105,108,101,58,47,47,47]=true then u.drop 8 else u
 let q:=iz rest 47
 let base:=if vu q.2.1 [46,103,111]=true then q.2.1.take (q.2.1.length- 3) else q.2.1
 if aEv u [102,105,108,101,58,47,47,47]=true/\q.2.2 =true/\vu q.2.1 [46,103,111]=true/\yF q.1 =true/\Oy q.1 =false/\yF base=true then some q.1 else none
theorem abw:(iz s c).1.length<=s.length/\(iz s c).2.1.length<=s.length:=by unfold iz;split<;>simp<;>omega
def ajN(e:aA T)(A:s.length<1073741824)(w:lO (h.ac 1))(a:∀h',ax h h'->k (.a (match rZ s with|some d=>.p [S d,.d true]|none=>.p [S [],.d false]) h')):aE T (W T) ⟨19⟩ [S s] h k:=by
 rw[ic e.t19];have hd:∀rest d b base f j g,aEv s [102,105,108,101,58,47,47,47]=f->(if f=true then s.drop 8 else s)=rest->iz rest 47=(d,b,j)->vu b [46,103,111]=g->(if g=true then b.take (b.length- 3) else b)=base->
  rZ s=if f=true/\j=true/\g=true/\yF d=true/\Oy d=false/\yF base=true then some d else none:=by
  rintro rest d b base f j g rfl rfl m rfl rfl;simp only[rZ,m]
 refine ag ?_;refine Tg e zo ?_;generalize t:aEv s [102,105,108,101,58,47,47,47]=f;rw[show([102,105,108,101,58,47,47,47]:List UInt8).length=8 from rfl];generalize o:(if f=true then s.drop 8 else s)=rest;have x:rest.length<=s.length:=by subst o;split<;>simp
 refine aB o ?_;refine Th e zo ?_;have m:=abw (s:=rest) (c:=47);generalize u:iz rest 47=q at m⊢;obtain⟨d,b,j⟩:=q;simp only at m;refine ag ?_;refine ahh e zo ?_;generalize v:vu b [46,103,111]=g;generalize i:(if g=true then b.take (b.length- 3) else b)=base;have y:base.length<=s.length:=by subst i;split<;>(try rw[auN])<;>omega
 have hd:=hd _ _ _ _ _ _ _ t o u v i;cases f with
 |false=>refine aB i ?_;rw[hd] at a;exact a _ aZ
 |true=>
 cases j with
 |false=>refine aB i ?_;rw[hd] at a;exact a _ aZ
 |true=>
 cases g with
 |false=>refine aB i ?_;rw[hd] at a;exact a _ aZ
 |true=>
 refine aB i ?_;refine abv e zo ?_;cases l:yF d with
 |false=>refine ag ?_;rw[hd] at a;simp only[l] at a;exact a _ aZ
 |true=>
 refine ag ?_;refine ajM e w λz g1=>?_;cases n:Oy d with
 |true=>refine ag ?_;rw[hd] at a;simp only[l,n] at a;exact a _ g1
 |false=>
 refine ag ?_;refine abv e zo ?_;cases r:yF base with
 |false=>refine ag ?_;rw[hd] at a;simp only[l,n,r] at a;exact a _ g1
 |true=>refine ag ?_;rw[hd] at a;simp only[l,n,r] at a;exact a _ g1
end
section
variable {k:aK->Prop}{a b:Int}
def xj(a b:Int):Int:=if a<b then-1 else if b<a then 1 else 0
def abx(c:aA T)(d:k (.a (.d false) h)):aE T (W T) ⟨64⟩ [.i a] h k:=by rw[ic c.t64];refine ag ?_;omega
def aby(c:aA T)(d:k (.a (.d false) h)):aE T (W T) ⟨65⟩ [.i a] h k:=by rw[ic c.t65];refine ag ?_;omega
def Oz(c:aA T)(d:k (.a (.i (xj a b)) h)):aE T (W T) ⟨32⟩ [.i a,.i b] h k:=by
 rw[ic c.t32];refine ag ?_;refine abx c ?_;refine ag ?_;refine abx c ?_;unfold xj at d
 by_cases c1:a<b
 simp_all
 by_cases c2:b<a
 simp(disch:=omega) [c1,c2] at d⊢;omega;simp(disch:=omega) [c1,c2] at d⊢;omega
def ajO(c:aA T)(d:k (.a (.i (xj a b)) h)):aE T (W T) ⟨33⟩ [.i a,.i b] h k:=by
 rw[ic c.t33];refine ag ?_;refine aby c ?_;refine ag ?_;refine aby c ?_;unfold xj at d
 by_cases c1:a<b
 simp_all
 by_cases c2:b<a
 simp(disch:=omega) [c1,c2] at d⊢;omega;simp(disch:=omega) [c1,c2] at d⊢;omega
def Bo(l:List Int):Int:=(l.dropWhile λx=>decide (x=0)).headD 0
theorem abz(p:aA T){L:List Int}{q r:Nat}{cap ex}{t:Nat->List AV}(l:h.ac q=.b 3 1 r 0 t)(z:L.length<=r)(n:∀j,(w:j<L.length)->t j=[.i L[j]]) (y:L.length<1073741824) (x:k (.a (.i (Bo L)) h)):aE T (W T) ⟨31⟩ [.c q 0 1 L.length cap ex] h k:=by
 rw[ic p.t31];refine ag ?_;have key:∀(m i:Nat)(f:Fr)(K:aT->Prop),m=L.length- i->i<=L.length->cg 6 f=.c q 0 1 L.length cap ex->cg 7 f=.i L.length->cg 8 f=.i i->cg 3 f=.i 0->Bo L=Bo (L.drop i)->
  (Bo L=0->∀c,cg 3 c=.i 0->K (.a 0 c h []))->(∀c,cg 2 c=.i (Bo L)->K (.b c h []))->W T (.d l31_0) f h [] K:=by
  intro m
  induction m with
  |zero=>
   intro i f K s hi f6 f7 f8 f3 g k1 o;have e:¬i<L.length:=zo;rw[aP];refine bK f6 f7 f8 e ?_;refine k1 ?_ _ zA;rw[g,auJ zo];rfl
  |succ m u=>
   intro i f K s hi f6 f7 f8 f3 g k1 o;have d:i<L.length:=zo;rw[aP];have:=n i d
   by_cases e:L[i]=0
   refine fY f6 f7 f8 f3 l this d e ?_;refine u (i+1) _ K zo zo zA zA aa zA ?_ k1 o
   grind [List.drop_eq_getElem_cons,Bo,List.dropWhile_cons_of_pos]
   have:Bo L=L[i]:=by grind [List.drop_eq_getElem_cons,Bo,List.dropWhile_cons_of_neg]
   refine fY f6 f7 f8 f3 l (n i d) d e ?_;simp_all
 refine key _ 0 _ _ rfl zo aa aa aa aa rfl (λe c f3=>?_) λc v=>?_;simp_all;simp_all
structure cN where
 b:Int
 a:Int
 e:Int
def cN.ca(f:cN):List AV:=[.i f.b,.i f.a,.i f.e]
def Uz(x y:cN):Int:=Bo [xj x.b y.b,xj x.a y.a,xj x.e y.e]
def ajP(c:aA T){x y:cN}(e:∀h',ax h h'->k (.a (.i (Uz x y)) h')):aE T (W T) ⟨55⟩ [.j x.ca,.j y.ca] h k:=by
 rw[ic c.t55];refine aB cN.ca.eq_1 ?_;refine Oz c ?_;refine ag ?_;refine Oz c ?_;refine ag ?_;refine ajO c ?_;refine ag ?_;refine abz c (L:=[xj x.b y.b,xj x.a y.a,xj x.e y.e]) (Hp.ba rfl) zm (λj d=>?_) zm ?_;exact match j,d with
 |0,_=>rfl
 |1,_=>rfl
 |2,_=>rfl
 refine ag ?_;exact e _ aZ
def Bp(f x:cN):cN:=if f.e=0\/Uz x f<0 then x else f
def bS(c d aq:AV)(f:cN)(nodes bu g e:AV):List AV:=[c,d,aq,.i f.b,.i f.a,.i f.e,nodes,bu,g,e]
def ES(g:aA T){p:Nat}{c0 c1 c2 c6 c7 c8 c9:AV}{f x:cN}(c:h.ac p=.a 67 (bS c0 c1 c2 f c6 c7 c8 c9))(d:∀h',ah (·=p) h h'->h'.ac p=.a 67 (bS c0 c1 c2 (Bp f x) c6 c7 c8 c9)->k (.a (.p []) h')):
 aE T (W T) ⟨22⟩ [.a p 3,.i x.b,.i x.a,.i x.e] h k:=by
 rw[ic g.t22];have i:=Hp.lt c rfl;simp[bS] at c;unfold Bp at d
 by_cases c1:f.e=0
 refine aS c c1 ?_;refine d _ aZ ?_;simp_all[bS];refine aS c c1 ?_;refine ajP g (x:=x) (y:=f) λj g2=>?_;have e:=g0 g2
 by_cases c2:Uz x f<0
 refine aU e c c2 ?_;refine d _ (ah.bj (ah.ka (ah.ab aZ g2)) _ (.inr rfl)) ?_;simp_all[bS];refine aU e c c2 ?_;refine d _ (ah.ka (ah.ab aZ g2)) ?_;simp(disch:=first|exact bh|fail) [bS,e,c,c1,c2]
end
abbrev SL:=List (List UInt8×AV)
def di(L:SL):List (AV×AV):=L.map λp=>(S p.1,p.2)
def eV:SL->List UInt8->Option AV
 |[],_=>none
 |(a,v)::L,s=>if s=a then some v else eV L s
def mA:SL->List UInt8->AV->SL
 |[],s,v=>[(s,v)]
 |(a,w)::L,s,v=>if s=a then(a,v)::L else(a,w)::mA L s v
def cD(L:SL):List (List UInt8):=L.map (·.1)
section
variable {k:aK->Prop}{a:List UInt8}{L:SL}{z:AV}{aD:Nat}
def UA:∀L:SL,s∉cD L->yZ (.a .a) (S s) (di L)=true
 |[],_=>rfl
 |(a,v)::L,h=>by simp only[cD,aul,atZ,aEi] at h;simp[di,aul,yZ,Td,auK h.1];exact UA L h.2
theorem UB:∀L:SL,(cD L).Nodup->wj (.a .a) (S s) (di L)=some (eV L s)
 |[],_=>rfl
 |(a,v)::L,h=>by
  simp only[cD,aul,au6] at h;simp[di,aul,wj,Td,eV]
  by_cases e:s=a
  have:=UA L h.1
  grind [di]
  have:=UB L h.2
  grind [di]
def abA:∀L:SL,(cD L).Nodup->∃b,AJ (.a .a) (S s) v (di L)=some (b,di (mA L s v))
 |[],_=>⟨_,rfl⟩
 |(a,w)::L,h=>by
  simp only[cD,aul,au6] at h;simp[di,aul,AJ,Td,mA]
  by_cases e:s=a
  have:=UA L h.1;simp_all[di];obtain⟨b,this⟩:=abA L h.2;simp_all[di]
theorem OA:∀L:SL,cD (mA L s v)=if s∈cD L then cD L else cD L++[s]
 |[]=>rfl
 |(a,w)::L=>by
  have:=OA L
  grind [mA,cD]
theorem ajS(h:(cD L).Nodup):(cD (mA L s v)).Nodup:=by grind [OA]
theorem Bq:∀L:SL,eV (mA L s v) a=if a=s then some v else eV L a
 |[]=>rfl
 |(b,w)::L=>by
  simp[mA]
  by_cases e:s=b
  simp_all[eV];simp[e,auM,eV,Bq L]
  grind
theorem Br:∀{L:SL},eV L s=none <-> s∉cD L
 |[]=>by simp[eV,cD]
 |(a,v)::L=>by
  have:=Br (L:=L);simp[cD] at this;simp[eV,cD,aul,atZ,aEi]
  grind
def iV(h:Hp)(i:Nat)(L:SL):Prop:=(∃aD,h.ac i=.d (di L) aD)/\(cD L).Nodup
def iV.lt(x:iV h i L):i<h.a:=by obtain⟨⟨aD,e⟩,_⟩:=x;exact Hp.lt e rfl
theorem iV.rg(x:iV h i L){ok:Bool}:aEx (.a .a) h z (.h i) (S s) ok=y7 ok ((eV L s).getD z) (eV L s).isSome:=by
 obtain⟨⟨aD,e⟩,b⟩:=x;simp[aEx,BS,cond,e,UB L b]
 grind
def iV.sf(x:iV h i L):∃o,wk (.a .a) h (.h i) (S s) v=.b undef (h.bj i o)/\∀h':Hp,h'.ac i=o->iV h' i (mA L s v):=by obtain⟨⟨aD,e⟩,b⟩:=x;obtain⟨bb,f⟩:=abA (s:=s) (v:=v) L b;refine⟨.d (di (mA L s v)) (cond bb (Nat.succ aD) aD),?_,λh' c=>⟨⟨_,c⟩,ajS b⟩⟩;simp_all[wk,BS]
def iV.ph(e:h.ac i=.d [] aD):iV h i []:=⟨⟨aD,e⟩,by simp[cD]⟩
theorem iV.aw{h':Hp}(x:iV h i L)(e:h'.ac i=h.ac i):iV h' i L:=by obtain⟨⟨aD,q⟩,b⟩:=x;exact⟨⟨aD,by grind⟩,b⟩
end
structure aC where
 b:Int
 a:List UInt8
 c:Int
 f:Int
 g:List UInt8
deriving DecidableEq
def aC.ca(d:aC):List AV:=[.i d.b,S d.a,.i d.c,.i d.f,S d.g]
def qG:aC:=⟨0,[],0,0,[]⟩
abbrev dK:EK:=.b [.b .i64,.a,.b .i64,.b .i64,.a]
section
variable {k:aK->Prop}{d e:aC}{L:List (aC×AV)}{z:AV}{aD:Nat}
theorem K2:cJ dK (.j d.ca) (.j e.ca)=some (decide (d=e)):=by
 obtain⟨f,g,j,l,m⟩:=d;obtain⟨n,o,p,q,r⟩:=e;have c:∀a b:Int,sD (.b .i64) (.i a) (.i b)=some (decide (a=b)):=λa b=>by simp[sD,A6]
 simp[cJ,aC.ca,yX,c,Z1,aC.mk.injEq]
 grind
def vN(L:List (aC×AV)):List (AV×AV):=L.map λp=>(.j p.1.ca,p.2)
def vO(L:List (aC×AV)):List aC:=L.map (·.1)
def Ak:List (aC×AV)->aC->Option AV
 |[],_=>none
 |(a,v)::L,s=>if s=a then some v else Ak L s
def Bs:List (aC×AV)->aC->AV->List (aC×AV)
 |[],s,v=>[(s,v)]
 |(a,w)::L,s,v=>if s=a then(a,v)::L else(a,w)::Bs L s v
def UD:∀L:List (aC×AV),d∉vO L->yZ dK (.j d.ca) (vN L)=true
 |[],_=>rfl
 |(a,v)::L,h=>by simp only[vO,aul,atZ,aEi] at h;simp[vN,aul,yZ,K2,auK h.1];exact UD L h.2
theorem abB:∀L:List (aC×AV),(vO L).Nodup->wj dK (.j d.ca) (vN L)=some (Ak L d)
 |[],_=>rfl
 |(a,v)::L,h=>by
  simp only[vO,aul,au6] at h;simp[vN,aul,wj,K2,Ak]
  by_cases e:d=a
  have:=UD L h.1
  grind [vN]
  have:=abB L h.2
  grind [vN]
def abC:∀L:List (aC×AV),(vO L).Nodup->∃b,AJ dK (.j d.ca) v (vN L)=some (b,vN (Bs L d v))
 |[],_=>⟨_,rfl⟩
 |(a,w)::L,h=>by
  simp only[vO,aul,au6] at h;simp[vN,aul,AJ,K2,Bs]
  by_cases e:d=a
  have:=UD L h.1;simp_all[vN];obtain⟨b,this⟩:=abC L h.2;simp_all[vN]
theorem abD:∀L:List (aC×AV),vO (Bs L d v)=if d∈vO L then vO L else vO L++[d]
 |[]=>rfl
 |(a,w)::L=>by
  have:=abD L
  grind [Bs,vO]
theorem UE:∀L:List (aC×AV),Ak (Bs L d v) e=if e=d then some v else Ak L e
 |[]=>rfl
 |(b,w)::L=>by
  simp[Bs]
  by_cases c:d=b
  simp_all[Ak];simp[c,auM,Ak,UE L]
  grind
def lX(h:Hp)(i:Nat)(N:List aC):Prop:=∃L aD,h.ac i=.d (vN L) aD/\(vO L).Nodup/\(∀d v,Ak L d=some v->∃a b c e kv,v=.j [a,b,c,e,S d.a,kv])/\∀d∈N,(Ak L d).isSome=true
def lX.lt{N}(x:lX h i N):i<h.a:=by obtain⟨L,aD,e,_⟩:=x;exact Hp.lt e rfl
theorem lX.aw{h':Hp}{N}(x:lX h i N)(e:h'.ac i=h.ac i):lX h' i N:=by obtain⟨L,aD,q,r⟩:=x;exact⟨L,aD,by grind,r⟩
theorem lX.sf{N}(x:lX h i N){a b c f kv:AV}:∃o,wk dK h (.h i) (.j d.ca) (.j [a,b,c,f,S d.a,kv])=.b undef (h.bj i o)/\∀h':Hp,h'.ac i=o->lX h' i (d::N):=by
 obtain⟨L,aD,e,l,m,n⟩:=x;obtain⟨bb,p⟩:=abC (d:=d) (v:=.j [a,b,c,f,S d.a,kv]) L l;refine⟨.d (vN (Bs L d (.j [a,b,c,f,S d.a,kv]))) (cond bb (Nat.succ aD) aD),?_,λh' j=>⟨Bs L d (.j [a,b,c,f,S d.a,kv]),_,j,?_,λg v q=>?_,λg hd=>?_⟩⟩;simp_all[wk,BS,K2]
 grind [abD]
 grind [UE]
 grind [UE]
def lX.rg{N}(x:lX h i N)(hd:d∈N):∃a b c f kv,aEx dK h z (.h i) (.j d.ca) false=.v (.j [a,b,c,f,S d.a,kv]):=by obtain⟨L,aD,e,l,j,g⟩:=x;obtain⟨v,m⟩:=awk.1 (g d hd);simp_all[aEx,BS,K2,abB]
end
abbrev KM:=List UInt8->Option aC
def rA(m:KM)(s:List UInt8)(d:aC):KM:=λa=>if a=s then some d else m a
def aX:KM:=λ_=>none
def MK(h:Hp)(i:Nat)(m:KM):Prop:=∃L,iV h i L/\∀s,eV L s=(m s).map λd=>.j d.ca
def xk:List KM->List UInt8->Option aC
 |[],_=>none
 |m::ms,s=>match m s with|some d=>some d|none=>xk ms s
def si(lo hi:Nat)(h:Hp):List KM->AV->Prop
 |[],v=>v=.w
 |m::ms,v=>∃bb par kv lv,v=.a bb 0/\h.ac bb=.a 159 [par,kv,lv]/\lo<bb/\bb<hi/\(kv=.y/\(∀s,m s=none)\/∃i,kv=.h i/\lo<i/\i<hi/\MK h i m)/\si lo hi h ms par
def lA(o:Option aC):AV:=.p [.j (o.getD qG).ca,.d o.isSome]
section
variable {k:aK->Prop}{m:KM}{ms:List KM}{d:aC}{lo:Nat}
def MK.lt(x:MK h i m):i<h.a:=by obtain⟨L,e,_⟩:=x;exact e.lt
def MK.aw{h':Hp}(x:MK h i m)(e:h'.ac i=h.ac i):MK h' i m:=by obtain⟨L,q,r⟩:=x;exact⟨L,q.aw e,r⟩
def MK.ph{aD}(e:h.ac i=.d [] aD):MK h i aX:=⟨[],iV.ph e,λ_=>rfl⟩
def MK.rg(x:MK h i m){ok:Bool}{z:AV}:aEx (.a .a) h z (.h i) (S s) ok=y7 ok ((m s).elim z λd=>.j d.ca) (m s).isSome:=by obtain⟨L,q,r⟩:=x;rw[q.rg,r];cases m s<;>rfl
theorem MK.sf(x:MK h i m):∃o,wk (.a .a) h (.h i) (S s) (.j d.ca)=.b undef (h.bj i o)/\∀h':Hp,h'.ac i=o->MK h' i (rA m s d):=by
 obtain⟨L,q,r⟩:=x;obtain⟨o,e,f⟩:=q.sf (s:=s) (v:=.j d.ca);refine⟨o,e,λh' b=>⟨_,f h' b,λa=>?_⟩⟩
 grind [Bq,rA]
theorem si.aw{h':Hp}:∀{ms:List KM}{v:AV},(∀j,lo<j->j<hi->(∃l,h.ac j=.a 159 l)\/(∃c aD,h.ac j=.d c aD)->h'.ac j=h.ac j)->si lo hi h ms v->si lo hi h' ms v
 |[],_,_,x=>x
 |m::ms,v,g,x=>by
  obtain⟨bb,par,kv,lv,b,n,e,f,a,x⟩:=x;refine⟨bb,par,kv,lv,b,by grind,e,f,?_,si.aw g x⟩;rcases a with a|⟨i,q1,q2,q3,q4⟩
  grind
  have q5:=q4;obtain⟨L,⟨⟨aD,q6⟩,_⟩,_⟩:=q5;exact .inr ⟨i,q1,q2,q3,q4.aw (g i q2 q3 (.inr ⟨_,_,q6⟩))⟩
theorem si.up{a:Nat}(le:hi<=a):∀{ms:List KM}{v:AV},si lo hi h ms v->si lo a h ms v
 |[],_,x=>x
 |m::ms,v,x=>by
  obtain⟨bb,par,kv,lv,b,c,e,g,f,x⟩:=x;refine⟨bb,par,kv,lv,b,c,e,by omega,?_,x.up le⟩
  grind
theorem ajT(w:aA T)(j:si lo hi h ms v)(o:∀h',ax h h'->k (.a (lA (xk ms s)) h')):aE T (W T) ⟨129⟩ [v,S s] h k:=by
 rw[ic w.t129];refine ag ?_;have key:∀(ms:List KM)(v:AV)(f:Fr)(c:Hp)(K:aT->Prop),ax h c->si lo hi h ms v->h.a<c.a->c.ac h.a=.a 38 qG.ca->cg 0 f=v->cg 1 f=S s->cg 4 f=.a h.a 0->
  (xk ms s=none->∀b h',ax h h'->h.a<h'.a->h'.ac h.a=.a 38 qG.ca->cg 4 b=.a h.a 0->K (.a 0 b h' []))->
  (∀d,xk ms s=some d->∀b h',ax h h'->h.a<h'.a->h'.ac h.a=.a 38 d.ca->cg 4 b=.a h.a 0->cg 5 b=.d true->K (.b b h' []))->W T (.d l129_0) f c [] K:=by
  intro ms
  induction ms with
  |nil=>
   intro v f c K g j p a f0 r f4 k1 u;subst j;rw[aP];refine aB f0 ?_;exact k1 rfl _ _ g p a zA
  |cons m ms A=>
   intro v f c K g j p a f0 r f4 k1 u;obtain⟨bb,par,kv,lv,rfl,y,B,C,z,j⟩:=j;have D:=Hp.lt y rfl;have x:=g0 g;have n:c.ac bb=.a 159 [par,kv,lv]:=by grind
   rw[aP];have l:aEx (.a .a) c (.j [.i 0,S [],.i 0,.i 0,S []]) kv (S s) true=.v (lA (m s)):=by rcases z with⟨rfl,q⟩|⟨i,rfl,q2,q3,q4⟩;rw[q];rfl;rw[(q4.aw (x i q4.lt)).rg];cases m s<;>rfl
   simp only[qG,aC.ca] at a;cases t:m s with
   |some d=>
    rw[t] at l;simp[lA,Option.getD,Option.isSome,aC.ca] at l;refine cq f0 r f4 n l a ?_;refine u d (by simp only[xk,t]) _ _ ?_ ?_ ?_ ?_ ?_;exact(((g.am _).bj _ (.inl zo)).bj _ (.inl zo));refine ag ?_;omega;exact au aC.ca.eq_1;exact zA;rfl
   |none=>
    rw[t] at l;simp[lA,Option.getD,Option.isSome,aC.ca,qG] at l;refine cq f0 r f4 n l a ?_;refine A _ _ _ K ?_ j ?_ ?_ aa zA zA (λq=>k1 (by grind [xk])) (λd q=>u d (by grind [xk]));exact((g.am _).bj _ (.inl zo));refine ag ?_;omega;simp(disch:=omega) [a,qG,aC.ca]
 refine key ms v _ _ _ aZ j aa (by simp(disch:=omega) [qG,aC.ca]) aa aa aa (λe b h' g p a f4=>?_) (λd e b h' g p a f4 f5=>?_);rw[e] at o;simp only[qG,aC.ca] at a;refine aS f4 a ?_;refine o _ (g.bj _ (.inl zl));rw[e] at o;simp only[aC.ca] at a;refine aU f4 a f5 ?_;exact o _ g
end
structure dx where
 a:Int
 b:Int
 f:List UInt8
 c:Bool
 d:aC
deriving DecidableEq
def dx.ca(u:dx):List AV:=[.i u.a,.i u.b,S u.f,.d u.c,.i u.d.b,S u.d.a,.i u.d.c,.i u.d.f,S u.d.g]
def pA(h:Hp)(v:AV)(us:List dx):Prop:=
 us=[]/\v=.o\/us≠[]/\∃q t,v=.c q 0 9 us.length us.length false/\h.ac q=.b 193 9 us.length 0 t/\∀j,(a:j<us.length)->t j=us[j].ca
def uw(o:AO):Prop:=∃r f,o=.b 193 9 r 0 f
structure Wf(M:Nat->Prop)(h h':Hp):Prop where
 f:h.a<=h'.a
 d:∀i,i<h.a->¬M i->¬uw (h.ac i)->h'.ac i=h.ac i
section
variable {k:aK->Prop}{m:KM}{ms:List KM}{d:aC}{lo:Nat}
theorem Wf.da{M}(h:Hp):Wf M h h:=⟨at2 _,λ_ _ _ _=>rfl⟩
theorem Wf.ab{M}{a b c:Hp}(x:Wf M a b)(y:Wf M b c):Wf M a c:=⟨at1 x.f y.f,λi hi j g=>by have e:=x.d i hi j g;rw[y.d i (aur hi x.f) j qaa,e]⟩
def Wf.aw{M N}{a b:Hp}(x:Wf M a b)(le:∀i,i<a.a->M i->N i):Wf N a b:=⟨x.f,λi hi e=>x.d i hi λc=>e (le i hi c)⟩
def Wf.of{M}{a b:Hp}(x:ah M a b):Wf M a b:=⟨x.g,λi hi c _=>x.f i hi c⟩
def pA.aw{h':Hp}{us}(x:pA h v us)(e:∀q,q<h.a->uw (h.ac q)->h'.ac q=h.ac q):pA h' v us:=by rcases x with x|⟨x,q,t,b,a,c⟩;exact .inl x;exact .inr ⟨x,q,t,b,by rw[e q (Hp.lt a rfl) ⟨_,_,a⟩];omega,c⟩
def pA.xn{M}{h':Hp}{us}(x:pA h v us)(g:ah M h h')(b:∀q,M q->¬uw (h.ac q)):pA h' v us:=
 x.aw λq c a=>g.f q c λm=>b q m a
theorem UF(u:aA T){p:Nat}{c0 c1 c2 c6 c7 c8 c9:AV}{f:cN}(t:h.ac p=.a 67 (bS c0 c1 c2 f c6 c7 c8 c9))(c:MK h i m)
 (z:∀h',ah (λj=>j=p\/j=i) h h'->h'.ac p=.a 67 (bS c0 c1 c2 (if(m d.a).isSome=true then Bp f ⟨d.c,d.f,13⟩ else f) c6 c7 c8 c9)->MK h' i (rA m d.a d)->k (.a (.p []) h')):
 aE T (W T) ⟨93⟩ [.a p 0,.h i,.j d.ca] h k:=by
 rw[ic u.t93];have A:=Hp.lt t rfl;have B:=c.lt;have w:p≠i:=by
  rintro rfl;obtain⟨L,⟨⟨aD,q6⟩,_⟩,_⟩:=c
  grind
 have a:∀o,aEx (.a .a) (h.am o) (.j [.i 0,S [],.i 0,.i 0,S []]) (.h i) (S d.a) true=.v (lA (m d.a)):=λo=>by rw[(c.aw (h':=h.am o) (Hp.io B)).rg];cases m d.a<;>rfl
 cases e:m d.a with
 |none=>
  rw[e] at a;simp[lA,Option.getD,Option.isSome,aC.ca,qG] at a;simp[aC.ca];refine aB a ?_;generalize y:(((h.am _).am _).bj _ _:Hp)=H;have n:MK H i m:=c.aw (by rw[<-y];exact aa);obtain⟨o,b,r⟩:=n.sf (s:=d.a) (d:=d);simp[aC.ca] at b;have l:ax h H:=by grind [ah.bj,ah.am,ah.da]
  have q:H.ac h.a=.a 38 [.i d.b,S d.a,.i d.c,.i d.f,S d.g]:=by rw[<-y];simp
  refine aS q b ?_;refine z _ ((ah.ka l).bj _ (.inr (.inr rfl))) ?_ (r _ (Hp.dq rfl));rw[Hp.du w,l.f _ A id,t]
  grind
 |some C=>
  rw[e] at a;simp[lA,Option.getD,Option.isSome,aC.ca] at a;simp[aC.ca];refine aB a ?_;refine ES u (x:=⟨d.c,d.f,13⟩) (f:=f) (c0:=c0) (c1:=c1) (c2:=c2) (c6:=c6) (c7:=c7) (c8:=c8) (c9:=c9) (au t) λH g D=>?_;have q:H.ac h.a=.a 38 [.i d.b,S d.a,.i d.c,.i d.f,S d.g]:=by rw[g.f _ (by simp(disch:=first|exact bh|fail);omega) zo];simp
  have n:=c.aw (by rw[g.f _ qan (Ne.symm w)];exact aa);obtain⟨o,b,r⟩:=n.sf (s:=d.a) (d:=d);simp[aC.ca] at b;have l:ah (λj=>j=p\/j=i) h H:=by exact ah.ab fZ (g.aw λ_ _ h=>.inl h)
  refine aS q b ?_;refine z _ (l.bj _ (.inr (.inr rfl))) ?_ (r _ (Hp.dq rfl));simp_all
end
section
variable {k:aK->Prop}{m:KM}{ms:List KM}{d:aC}{lo:Nat}
def CV(I:aA T){p aG j:Nat}{c0 c1 c2 c7 c8 c9:AV}{f:cN}{N:List aC}{ds:List (List UInt8)}{kind at_:Int}{x0 C D kv:AV}(q:h.ac p=.a 67 (bS c0 c1 c2 f (.h aG) c7 c8 c9))(y:lX h aG N)(hd:cY h c2 ds)(x:j<ds.length)
 (n:∀h',ah (·=aG) h h'->lX h' aG (⟨kind,nm,j,at_,if kind=1 then nm else ds[j]⟩::N)->k (.a (.j (aC.ca ⟨kind,nm,j,at_,if kind=1 then nm else ds[j]⟩)) h')):
 aE T (W T) ⟨87⟩ [.a p 0,.i kind,.i j,.j [x0,C,D,.i at_,S nm,kv]] h k:=by
 rw[ic I.t87];obtain⟨b,cap,ex,r,t,rfl,w,K,J⟩:=hd;have L:=Hp.lt q rfl;have G:=y.lt;have M:=Hp.lt w rfl;have F:=J j x;simp[bS] at q;have E:(j:Int)<ds.length:=zo
 by_cases c:kind=1
 subst c;simp only[auo] at n;refine cC q w F x E ?_;generalize e:(((((h.am _).am _).am _).bj _ _).bj _ _:Hp)=H;have l:ax h H:=by rw[<-e];exact fZ
 obtain⟨o,g,u⟩:=(y.aw (h':=H) (l.f _ G id)).sf (d:=⟨1,nm,j,at_,nm⟩) (a:=x0) (b:=C) (c:=D) (f:=.i at_) (kv:=kv);simp only[aC.ca] at g;have z:H.ac (h.a+1+1)=.a 38 [.i 1,S nm,.i j,.i at_,S nm]:=by rw[<-e];simp
 have A:H.ac (h.a+1)=.a 38 [.i 0,S [],.i 0,.i 0,S []]:=by rw[<-e];simp
 have B:H.a=h.a+1+1+1:=by rw[<-e];simp
 refine bK g z A B ?_;refine n _ ?_ (u _ ?_);refine ah.bj ?_ _ (.inl ?_);exact ah.bj (ah.ka l) _ (.inr rfl);omega;exact aa;simp[c,auM] at n;refine cq q w F x E c ?_;generalize e:((((h.am _).am _).am _).bj _ _:Hp)=H;have l:ax h H:=by rw[<-e];exact fZ
 obtain⟨o,g,u⟩:=(y.aw (h':=H) (l.f _ G id)).sf (d:=⟨kind,nm,j,at_,ds[j]⟩) (a:=x0) (b:=C) (c:=D) (f:=.i at_) (kv:=kv);simp[aC.ca] at g;have z:H.ac (h.a+1+1)=.a 38 [.i kind,S nm,.i j,.i at_,S ds[j]]:=by rw[<-e];simp
 have A:H.ac (h.a+1)=.a 38 [.i 0,S [],.i 0,.i 0,S []]:=by rw[<-e];simp
 have B:H.a=h.a+1+1+1:=by rw[<-e];simp
 refine bK g z A B ?_;refine n _ ?_ (u _ ?_);refine ah.bj ?_ _ (.inl ?_);exact ah.bj (ah.ka l) _ (.inr rfl);omega;exact aa
theorem UH(D:aA T){p doc:Nat}{c0 c1 c2 c6 c7 c8 v:AV}{f:cN}{us:List dx}{at_:Int}{is:Bool}{x0 K L kv:AV}(g:h.ac p=.a 67 (bS c0 c1 c2 f c6 c7 c8 v))(E:pA h v us)(N:us.length<1073741824)
 (x:∀h' B,Wf (·=p) h h'->pA h' B (us++[⟨doc,at_,nm,is,d⟩])->h'.ac p=.a 67 (bS c0 c1 c2 f c6 c7 c8 B)->k (.a (.p []) h')):
 aE T (W T) ⟨94⟩ [.a p 0,.i doc,.j [x0,K,L,.i at_,S nm,kv],.j d.ca,.d is] h k:=by
 rw[ic D.t94];have z:=Hp.lt g rfl;simp[bS] at g;simp[aC.ca];rcases E with⟨rfl,rfl⟩|⟨M,q,t,rfl,r,G⟩;refine aB g ?_;generalize a:(((h.am _).am _).am _:Hp)=H;have b:∃t,H.ac (h.a+1+1)=.b 193 9 1 0 t/\t 0=[.i doc,.i at_,S nm,.d is,.i d.b,S d.a,.i d.c,.i d.f,S d.g]:=⟨_,by rw[<-a];exact Hp.ba rfl,by simp⟩;have J:H.a=h.a+1+1+1:=by rw[<-a];rfl
 have c:ax h H:=by rw[<-a];exact aZ
 obtain⟨t,b,A⟩:=b;have l:=A7 (h:=H) (el:=193) (rw:=9) (bytes:=96) (n:=0) (wN b zl) (y:=.c (h.a+1+1) 0 9 1 1 true) rfl qac;rw[l];have u:=(c.f _ z id).trans g;refine aB u ?_;refine x _ (.c H.a 0 9 1 1 false) (Wf.of (ah.bj ((ah.ka c).am _) _ (.inr rfl))) (.inr ⟨by simp,H.a,cx fG 0 (t 0),rfl,?_,λj w=>?_⟩) ?_;exact aa;obtain rfl:j=0:=by grind
 simp[dx.ca,A];simp_all[bS];have I:=Hp.lt r rfl;have F:q≠p:=by grind
 refine aB g ?_;generalize a:(((h.am _).am _).am _:Hp)=H;have b:∃t,H.ac (h.a+1+1)=.b 193 9 1 0 t/\t 0=[.i doc,.i at_,S nm,.d is,.i d.b,S d.a,.i d.c,.i d.f,S d.g]:=⟨_,by rw[<-a];exact Hp.ba rfl,by simp⟩;have J:H.a=h.a+1+1+1:=by rw[<-a];rfl
 have c:ax h H:=by rw[<-a];exact aZ
 obtain⟨t1,b,A⟩:=b;have u:=(c.f _ z id).trans g;have C:=(c.f _ I id).trans r;have l:=A8 (h:=H) (el:=193) (rw:=9) (bytes:=96) (n:=0) (i:=q) (len:=us.length) (vh:=us.length) (t:=t) C zl (wN b zl) (y:=.c (h.a+1+1) 0 9 1 1 true) rfl (rV zo zo);rw[l];refine aB u ?_;refine x _ (.c H.a 0 9 (us.length+1) (us.length+1) false) ⟨?_,λi hi O o=>?_⟩ (.inr ⟨by simp,H.a,cx t us.length (t1 0),by grind,?_,λj w=>?_⟩) ?_;refine ag ?_;omega;have:i≠q:=by rintro rfl;exact o ⟨_,_,r⟩
 simp(maxSteps:=400000) (disch:=first|exact bh|fail) [c.f _ hi id];exact aa;simp at w
 by_cases e:j=us.length
 simp_all[dx.ca];rw[ava zo];simp[e,G j zo];simp_all[bS]
end
def yG(h:Hp)(v:AV)(ds:List aC):Prop:=
 ds=[]/\v=.o\/ds≠[]/\∃q t cap ex r,v=.c q 0 5 ds.length cap ex/\h.ac q=.b 38 5 r 0 t/\ds.length<=r/\∀j,(a:j<ds.length)->t j=ds[j].ca
def Bu(h:Hp)(i:Nat)(bu:List UInt8->List aC):Prop:=∃L,iV h i L/\∀s,yG h ((eV L s).getD .o) (bu s)
section
variable {k:aK->Prop}{m:KM}{ds:List aC}{d:aC}{lo:Nat}
def yG.aw{h':Hp}(x:yG h v ds)(e:∀q,q<h.a->(∃r f,h.ac q=.b 38 5 r 0 f)->h'.ac q=h.ac q):yG h' v ds:=by rcases x with x|⟨x,q,t,cap,ex,r,b,a,c⟩;exact .inl x;exact .inr ⟨x,q,t,cap,ex,r,b,by rw[e q (Hp.lt a rfl) ⟨_,_,a⟩];omega,c⟩
def ajU(b:aA T){c:Nat}(a:h.ac c=.a 9 [S nm])(e:∀h',ax h h'->k (.a (.d (decide (d.a=nm))) h')):aE T (W T) ⟨157⟩ [.j d.ca,.a c 0] h k:=by rw[ic b.t157];have f:=Hp.lt a rfl;refine aS aC.ca.eq_1 a ?_;exact e _ aZ
theorem ajV(l:aA T){c:Nat}(y:h.ac c=.a 9 [S nm])(hd:yG h v ds)(H:ds.length<1073741824)(u:∀h',ax h h'->k (.a (.i (if ds.findIdx (λd=>decide (d.a=nm))<ds.length then(ds.findIdx λd=>decide (d.a=nm):Nat) else-1)) h')):
 aE T (W T) ⟨156⟩ [v,.q ⟨157⟩ [] [.a c 0]] h k:=by
 rw[ic l.t156];rcases hd with⟨rfl,rfl⟩|⟨F,q,t,cap,ex,r,rfl,w,J,A⟩;refine ag ?_;rw[aP];exact ag (u _ aZ);have D:=Hp.lt y rfl;have L:=Hp.lt w rfl;refine ag ?_;generalize x:ds.findIdx (λd=>decide (d.a=nm))=I at u;have key:∀(m i:Nat)(f:Fr)(b:Hp)(K:aT->Prop),m=ds.length- i->i<=ds.length->ax h b->i<=I->cg 0 f=.c q 0 5 ds.length cap ex->cg 1 f=.q ⟨157⟩ [] [.a c 0]->cg 7 f=.i ds.length->cg 8 f=.i i->
  (¬I<ds.length->∀a h',ax h h'->K (.a 0 a h' []))->(I<ds.length->∀a h',ax h h'->cg 4 a=.i I->K (.b a h' []))->W T (.d l156_0) f b [] K:=by
  intro m
  induction m with
  |zero=>
   intro i f b K z hi g x f0 p f7 f8 k1 j;have e:¬i<ds.length:=zo;rw[aP];refine aU f7 f8 e ?_
   grind
  |succ m B=>
   intro i f b K z hi g E f0 p f7 f8 k1 j;have n:i<ds.length:=zo;have C:=A i n;have o:=g0 g;rw[aP];refine mz f0 p f7 f8 n o w C aC.ca.eq_1 ?_;refine ajU (d:=ds[i]) l (by rw[o c D];omega) λG g2=>?_
   by_cases e:ds[i].a=nm
   have:I=i:=by grind
   refine aU e f7 f8 ?_;exact j zo _ _ (g.ab g2) qap;have:I≠i:=by grind
   refine aU e f7 f8 ?_;exact B (i+1) _ _ K zo zo (g.ab g2) zo zA zA zA aa k1 j
 refine key _ 0 _ _ _ rfl zo aZ zo aa aa aa aa (λe a h' g=>?_) (λe a h' g f4=>?_);simp_all;simp_all
theorem abE(z:aA T)(hd:yG h v ds)(G:ds.length<1073741824)(u:∀h' l,ax h h'->yG h' l ds->(∀q a b c e x,l=.c q a b c e x->h.a<=q)->k (.a l h')):aE T (W T) ⟨34⟩ [v] h k:=by
 rw[ic z.t34];rcases hd with⟨rfl,rfl⟩|⟨o,q,t,cap,ex,r,rfl,w,E,I⟩;simp(disch:=omega) [cJ];exact u _ _ aZ (.inl ⟨rfl,rfl⟩) (λ_ _ _ _ _ _ e=>by grind);have F:=Hp.lt w rfl;have h0:=auA.2 o;obtain⟨n,D⟩:∃n,ds.length=n+1:=⟨ds.length- 1,by omega⟩;simp(disch:=omega) [cJ];generalize f:(h.am _:Hp)=H;have g:∃t,H.ac h.a=.b 38 5 0 0 t:=⟨_,by rw[<-f];exact Hp.ba rfl⟩;have K:H.a=h.a+1:=by rw[<-f];rfl
 have p:ax h H:=by rw[<-f];exact aZ
 obtain⟨t1,g⟩:=g;have y:=(p.f _ F id).trans w;have B:=G2 (h:=H) (el:=38) (rw:=5) (bytes:=56) (n:=n) (i:=h.a) (len:=0) (vh:=0) (t:=t1) zm g zl (Ke (n:=ds.length) (b:=q) (cap:=cap) (ex:=ex) zm y E) (by simp[lenOf,D]) (rV zo zo);rw[B];refine ag ?_;refine u _ _ (p.am _) (.inr ⟨o,H.a,jy fG 0 ([]++aEt t ds.length 0),n+1,false,n+1,by grind,?_,by omega,λj C=>?_⟩) (λJ _ _ _ _ _ e=>by grind);rw[Hp.ba rfl,jJ];rfl;have A:j<(aEt t ds.length 0).length:=by grind [oZ]
 rw[au5,wO A];have:=vw t ds.length 0 j C
 grind
def uy(ds:List aC)(nm:List UInt8):Option aC:=ds.find? λd=>decide (d.a=nm)
def abF{p:aC->Bool}:∀(l:List aC),l.find? p=l[l.findIdx p]?
 |[]=>rfl
 |a::l=>by
  rw[awM,List.findIdx_cons];cases p a with
  |true=>rfl
  |false=>rw[abF l];rfl
theorem ajW(f:aA T)(hd:yG h v ds)(o:ds.length<1073741824)(a:∀h',ax h h'->k (.a (lA (uy ds nm)) h')):aE T (W T) ⟨128⟩ [v,S nm] h k:=by
 rw[ic f.t128];refine ag ?_;refine ajV f (nm:=nm) (ds:=ds) aa (hd.aw λq c _=>aa) o λg g1=>?_;have n:=g0 g1;have b:uy ds nm=_:=abF ds;generalize ds.findIdx (λd=>decide (d.a=nm))=I at b⊢;have j:g.ac (h.a+1)=.a 38 [.i 0,S [],.i 0,.i 0,S []]:=by simp_all
 by_cases e:I<ds.length
 rw[b,atT e] at a;rcases hd with⟨rfl,rfl⟩|⟨x,q,t,cap,ex,r,rfl,c,y,p⟩
 grind
 have z:=Hp.lt c rfl;have w:g.ac q=.b 38 5 r 0 t:=(n q qan).trans (au c);have u:=p I e;have l:¬((I:Int)<0):=zo;refine cq e l w u aC.ca.eq_1 j ?_;exact a _ (ah.bj (ah.ab aZ g1) _ (.inl zo));rw[b,auI zo] at a;refine aS e j ?_;exact a _ (ah.bj (ah.ab aZ g1) _ (.inl zo))
def Bu.aw{h':Hp}{bu}(x:Bu h i bu)(e:∀q,q<h.a->q=i\/(∃r f,h.ac q=.b 38 5 r 0 f)->h'.ac q=h.ac q):Bu h' i bu:=by obtain⟨L,x,y⟩:=x;exact⟨L,x.aw (e i x.lt (.inl rfl)),λs=>(y s).aw λq a h=>e q a (.inr h)⟩
def UI(a:aA T){p tb:Nat}{c0 c1 c2 c6 c8 c9:AV}{f:cN}{bu:List UInt8->List aC}(e:h.ac p=.a 67 (bS c0 c1 c2 f c6 (.h tb) c8 c9))(u:Bu h tb bu)(j:(bu s).length<1073741824)
 (g:∀h',ax h h'->k (.a (lA (uy (bu s) nm)) h')):aE T (W T) ⟨90⟩ [.a p 0,S s,S nm] h k:=by
 rw[ic a.t90];have x:=Hp.lt e rfl;simp[bS] at e;refine ag ?_;rw[ic a.t8];obtain⟨L,l,hd⟩:=u;have y:=l.lt;generalize c:(h.am _:Hp)=H;have b:ax h H:=by rw[<-c];exact aZ
 have C:H.ac h.a=.a 38 [.i 0,S [],.i 0,.i 0,S []]:=by rw[<-c];simp
 have D:H.a=h.a+1:=by rw[<-c];rfl
 have w:=(b.f _ x id).trans e;have o:=(l.aw (h':=H) (b.f _ y id)).rg (s:=s) (z:=.o) (ok:=false);simp(disch:=omega) [w,o,y7];refine abE a ((hd s).aw λq t _=>b.f q t id) j λB E g1 n _=>?_;refine ag ?_;refine ajW a n j λr g2=>?_;have A:r.ac h.a=.a 38 [.i 0,S [],.i 0,.i 0,S []]:=by rw[g2.f _ qar id,g1.f _ zo id];omega
 simp[lA,aC.ca] at g⊢;refine aB A ?_;exact g _ (ah.bj ((b.ab g1).ab g2) _ (.inl zo))
end
def lY(l:List Tk):Nat:=l.length+2
def sj(l:List Tk)(size:Nat)(oi:Nat->List UInt8×Bool):PR Tree:=
 Ad l (lY l) (Hw l (lY l) (zU l (lY l) (lY l)) (lY l)) size oi 0
def fD(s:List UInt8):Tk:=⟨0,[],s.length,s.length⟩
def Al(b:Int)(o:Nat->Nat×Int)(oi:Nat->List UInt8×Bool)(s:List UInt8):PR Tree:=
 (tf b o s).dk λl _=>(sj (l++[fD s]) s.length oi).dk λt n=>if yu t 64 (s.length+1)<=s.length then .i (yu t 64 (s.length+1)) 3 else .c t n
@[simp] def as8{g:aM}{cs:List AV}:Mt (.q g [] cs) []=.j (.a g cs):=rfl
section
variable {hh:Hp}{k:aK->Prop}
def UJ(hh:Hp)(k:aK->Prop)(r:PR Tree):Prop:=
 match r with
 |.c t _=>∀h' row,ax hh h'->ay hh.a h' t row->k (.a (.p [.j row,.i 0,.i 0]) h')
 |.i p e=>∀h',ax hh h'->k (.a (.p [.j aEs,.i p,.i e]) h')
 |.d=>False
def lv(T:aM->Option CF)(X:fJ)(rs:List CR)(f:Fr)(k:aK->Prop)(ds:List Df)(o:aT)(m:Md):Prop:=
 match o with
 |.d _ h' []=>pJ T X rs f k ds (B7 m) h'
 |.b _ h' []=>pJ T X rs f k ds (B7 m) h'
 |_=>False
def abG{X:fJ}{rs:List CR}{f:Fr}{n:Nat}{b:Bool}{c:CC}{args:List AV}{ds:List Df}{m:Md}(a:T ⟨n⟩=some ⟨n,b,c,[]⟩):pJ T X rs f k (.a ⟨n⟩ args::ds) m h=aE4 X c m (nQ args) h (lv T X rs f k ds):=by show(match T ⟨n⟩ with|some c=>_|none=>_)=_;rw[a];simp only[Ql,av1,axw,cond];rfl
def abH{X:fJ}{l:List CI}{b:CC}{m:Md}{f:Fr}{k:aT->Md->Prop}:aE4 X (.g (.h l) b) m f h k=aET (λm f h=>X b f h [] λo=>k o m) l m f h:=rfl
def ajX(q:aA T){rs:List CR}{f:Fr}{g i j:Nat}{p e:Int}{r2:List AV}{x y:AV}(m:h.ac g=.a 72 r2)(l:r2.length=6)(n:h.ac i=.a 3 [x])(o:h.ac j=.a 26 [y])(t:g≠i)(u:g≠j)(v:i≠j)
 (r:wz (((((h.am (.a 115 [.i 0,.i 0])).bj h.a (.a 115 [.i p,.i e])).bj g (.a 72 aEs)).bj i (.a 3 [.i p])).bj j (.a 26 [.i e])) f rs k):pJ T (W T) rs f k [.a ⟨52⟩ [.a g 0,.a i 0,.a j 0]] (.b (qD p e)) h:=by
 rw[abG q.t52,abH];have w:=Hp.lt m rfl;have z:=Hp.lt n rfl;have A:=Hp.lt o rfl;obtain⟨B,C,D,E,F,G,rfl⟩:∃a b c d e f,r2=[a,b,c,d,e,f]:=by
  match r2,l with
  |[a,b,c,d,e,f],_=>exact⟨a,b,c,d,e,f,rfl⟩
 simp only[aET,jO,Md.qr];simp(disch:=omega) [qD,cJ,IU,m,n,o,lv,B7,pJ];exact r
def abI(a:aA T){rs:List CR}{f:Fr}{b d e:Nat}(g:wz h f rs k):pJ T (W T) rs f k [.a ⟨52⟩ [.a b 0,.a d 0,.a e 0]] .a h:=by rw[abG a.t52,abH];simp only[aET,jO,Md.qr];simp(disch:=omega) [cJ,lv,B7,pJ];exact g
def ajY(x:aA T)(IC:∀h',ax h h'->Cz T h') (FC:∀h',ax h h'->CA T h') (BC:∀h',ax h h'->KG T h') (VC:∀h',ax h h'->KP T h') (hl:s.length<16777216) (hg:lO (h.ac 1))
 (K:∀b o l n,tf b o s=.c l n->fc (l++[fD s])/\(∀n,n<(l++[fD s]).length->(tk (l++[fD s]) n).b.length<1073741824)/\l.length<1073741824)
 (L:∀b o p e,tf b o s=.i p e->e≠0)
 (u:∀b o l n oi t m,tf b o s=.c l n->sj (l++[fD s]) s.length oi=.c t m->rY t)
 (a:∀b o oi,((∀c∈s,c.toNat<128)->b<0)->UJ h k (Al b o oi s)):aE T (W T) ⟨21⟩ [S s] h k:=by
 rw[ic x.t21];have yd:1<h.a:=by obtain⟨t,e,_⟩:=hg;exact Hp.lt e rfl
 generalize qE:azN=T4;refine ag ?_;refine aiw x (λh' g=>IC h' (ah.ab aZ g)) (λh' g=>FC h' (ah.ab aZ g)) (λh' g=>BC h' (ah.ab aZ g)) zo (au hg) λb o hb=>?_;have a:=λoi=>a b o oi hb;have K:=K b o;have L:=L b o;have u:=u b o;unfold Al at a;generalize tf b o s=R at*;cases R with
 |d=>exact(a λ_=>([],false)).elim
 |i p e=>
  intro f g1;have z:=g0 g1;have Y:=g1.g;simp only[Hp.dC] at Y;have a:=a λ_=>([],false);have he:=L p e rfl;have q2:f.ac h.a=.a 72 aEs:=au z;have q3:f.ac (h.a+1)=.a 3 [.i 0]:=au z;have q4:f.ac (h.a+1+1)=.a 26 [.i 0]:=au z;refine bK he q2 q3 q4 ?_;have O:ax h f:=ah.ab aZ g1;refine a _ ?_
  repeat(refine ah.bj ?_ _ (.inl zo))
  exact O
 |c l n=>
  intro f v g1 hv;have z:=g0 g1;have Y:=g1.g;simp only[Hp.dC] at Y;have a:∀oi,UJ h k ((sj (l++[fD s]) s.length oi).dk λt n=>if yu t 64 (s.length+1)<=s.length then .i (yu t 64 (s.length+1)) 3 else .c t n):=a;obtain⟨V,CM,Tj⟩:=K l n rfl;have u:=λoi t m=>u l n oi t m rfl;have q2:f.ac h.a=.a 72 aEs:=au z;have q3:f.ac (h.a+1)=.a 3 [.i 0]:=au z;have q4:f.ac (h.a+1+1)=.a 26 [.i 0]:=au z;refine bK q2 q3 q4 hv.iv ?_;subst qE;unfold azN zt;refine ag ?_;obtain⟨y,C⟩:∃y,y=(f.bj (h.a+1) (.a 3 [.i 0])).bj (h.a+1+1) (.a 26 [.i 0]):=⟨_,rfl⟩;have TW:y.a=f.a:=by rw[C];simp only[Hp.ii];omega
  have r2:y.ac h.a=.a 72 aEs:=by rw[C];simp(disch:=omega) [q2]
  have r3:y.ac (h.a+1)=.a 3 [.i 0]:=by rw[C];simp(disch:=omega)
  have r4:y.ac (h.a+1+1)=.a 26 [.i 0]:=by rw[C];simp(disch:=omega)
  have gH:ah (λi=>i=h.a+1\/i=h.a+1+1) f y:=by rw[C];exact ah.bj (ah.bj (ah.da _) _ (.inr (.inl rfl))) _ (.inr (.inr rfl))
  have gg:ax h y:=(ah.ab aZ g1:ax h f).na gH λi hi=>zo;rw[<-C];clear C;obtain⟨w,D,ha,hw,u1,u2⟩:=TV (h:=y) (lo:=h.a+1+1+1) (t:=fD s) (fB:=cx (cx fG 0 ta) 0 [.i 0,S [],.i s.length,.i s.length]) ((hv.lo (at2 (h.a+1+1+1))).xn gH λi hi=>by omega) Tj zo (by simp[Tk.ca,fD]);rw[TW] at ha;rw[ha];have u1n:=u1.g;have w2:=u2 _ _ _ r2;have w3:=u2 _ _ _ r3;have w4:=u2 _ _ _ r4;rcases hw with⟨e,_⟩|⟨tb,r,t,K3,rfl,_,ht,hr,kz⟩;simp at e;have X:=Hp.lt ht rfl;have Q:ax h D:=gg.na u1 λi hi=>zo;have SC:bp (D.am (.a 120 [.c tb 0 4 (l.length+1) (l.length+1) false,.i 0,.i 0,.d false])) D.a tb (l++[fD s]) 0 0 false:=by
   have vz:(l++[fD s]).length=l.length+1:=by simp
   refine⟨⟨l.length+1,false,?_⟩,⟨r,t,?_,?_,λq hq=>?_⟩,by omega⟩;rw[vz];exact Hp.ba rfl;rw[Hp.io X];exact ht;simpa using hr;rw[kz q hq];unfold tk;rw[aub,atT hq];rfl
  have N6:lY (l++[fD s])<4294967296:=by unfold lY;rw[auk,ave];omega
  generalize HA:aAV=T7;refine ag ?_;have E:=aaG (c:=D.a) (tb:=tb) x V (F:=lY (l++[fD s])) zo (lY (l++[fD s]));have S1:=aaN x V E (F:=lY (l++[fD s])) zo (lY (l++[fD s]));have P:ax h (D.am (.a 120 [.c tb 0 4 (l.length+1) (l.length+1) false,.i 0,.i 0,.d false])):=Q.am _;refine aiE x V (λh' g=>aiF x λET g'=>VC ET (P.na (g.ab g'.ka) λi hi=>by omega)) CM S1 N6 SC zm λoi=>?_;have a:=a oi;have u:=u oi;unfold sj at a u;revert a u;generalize Ad (l++[fD s]) (lY (l++[fD s])) (Hw (l++[fD s]) (lY (l++[fD s])) (zU (l++[fD s]) (lY (l++[fD s])) (lY (l++[fD s]))) (lY (l++[fD s]))) s.length oi 0=R;intro a u;cases R with
  |d=>exact a.elim
  |i p e=>
   intro j B;have A:=gp B;have Z:=B.g;simp only[Hp.dC] at Z;have J:j.ac h.a=.a 72 aEs:=bV A w2;have x3:j.ac (h.a+1)=.a 3 [.i 0]:=bV A w3;have x4:j.ac (h.a+1+1)=.a 26 [.i 0]:=bV A w4;have M:ax h j:=P.na B λi hi=>zo;refine ag ?_;refine ajX x (r2:=aEs) J rfl x3 x4 zo zo zo ?_;refine ag ?_;refine a _ ?_;exact(((((M.am _).bj _ (.inl zo)).bj _ (.inl zo)).bj _ (.inl zo)).bj _ (.inl zo))
  |c t m=>
   intro j row B nd;have rB:=u t m rfl;have a:UJ h k (if yu t 64 (s.length+1)<=s.length then .i (yu t 64 (s.length+1)) 3 else .c t m):=a;have A:=gp B;have Z:=B.g;simp only[Hp.dC] at Z;have J:j.ac h.a=.a 72 aEs:=bV A w2;have x3:j.ac (h.a+1)=.a 3 [.i 0]:=bV A w3;have x4:j.ac (h.a+1+1)=.a 26 [.i 0]:=bV A w4;have M:ax h j:=P.na B λi hi=>zo;obtain⟨kv,rfl,U,nk⟩:=nd.dT;subst HA;have cG:ay (D.a+1) (j.bj h.a (.a 72 [.i t.bi,.i t.gl,.i t.to,.i t.at,S t.bc,kv])) t _:=ay.nf ((NF.da j).bj _ J) zl _ _ nd;refine aB J ?_;refine aaW x t _ _ _ _ _ _ cG rB zd zd λI H=>?_;have N:=g0 H;have n4:=H.g;simp only[Hp.ii] at n4;have y2:I.ac h.a=.a 72 [.i t.bi,.i t.gl,.i t.to,.i t.at,S t.bc,kv]:=au N;have y3:I.ac (h.a+1)=.a 3 [.i 0]:=bV N x3;have y4:I.ac (h.a+1+1)=.a 26 [.i 0]:=bV N x4;have uh:ax h I:=(M.bj _ (.inl zl)).ab H
   by_cases G:yu t 64 (s.length+1)<=s.length
   rw[atV G] at a;refine bK G y2 y3 y4 ?_;refine abI x ?_;refine ag ?_;refine a _ ?_;exact((uh.bj _ (.inl zo)).bj _ (.inl zo)).bj _ (.inl zo);rw[atS G] at a;refine cC G y2 y3 y4 U ?_;refine abI x ?_;refine ag ?_;refine a _ _ (((uh.bj _ (.inl zo)).bj _ (.inl zo)).bj _ (.inl zo)) ?_;exact ay.nf (((((NF.da _).g0 H).bj _ y2).bj _ (el:=3) (l:=[.i 0]) (au y3)).bj _ (el:=26) (l:=[.i 0]) (au y4)) zo _ _ cG
end
end Yv
