/- A part of the proof of 'ScopeOwnUptoCardSaid'. No condition. -/
import Derived.Test.YtpllhjebgjcigaaGreatDoorX00
import Derived.Calls
import Derived.Laws.Sem
set_option maxHeartbeats 16000000
set_option maxRecDepth 100000
set_option linter.all false
namespace Yv
section
open Go.Proofs
abbrev iC(d:Nat)(o:CO):CI:=⟨some d,o,none⟩
abbrev iN(o:CO):CI:=⟨none,o,none⟩
abbrev iG(d p:Nat)(o:CO):CI:=⟨some d,o,some (p,true)⟩
abbrev iM(d s:Nat):CI:=⟨some d,.mv (.t s),none⟩
abbrev iK(d:Nat)(n:Int):CI:=⟨some d,.mv (.k (.i n)),none⟩
abbrev iB(d:Nat)(b:Bool):CI:=⟨some d,.mv (.k (.bool b)),none⟩
abbrev iL(d s:Nat):CI:=⟨some d,.yV (.t s),none⟩
abbrev iF(d s n:Nat):CI:=⟨some d,.fa (.t s) n,none⟩
abbrev iS(n a v:Nat):CI:=⟨none,.st n (.t a) (.t v),none⟩
abbrev iX(d s n:Nat):CI:=⟨some d,.ext (.t s) n,none⟩
abbrev iZ(d s:Nat):CI:=⟨some d,.Ds (.t s),none⟩
abbrev iD(d n s:Nat):CI:=⟨some d,.FE n (.t s),none⟩
abbrev iA(d n x i:Nat):CI:=⟨some d,.ia n (.t x) (.t i),none⟩
abbrev iH(d k s:Nat):CI:=⟨some d,.len k (.t s),none⟩
abbrev iF1(d g s:Nat):CI:=⟨some d,.call ⟨g⟩ [.t s],none⟩
abbrev iF2(d g s u:Nat):CI:=⟨some d,.call ⟨g⟩ [.t s,.t u],none⟩
abbrev iP(d s:Nat)(n:Int):CI:=⟨some d,.add (.t s) (.k (.i n)),none⟩
abbrev iE(d s:Nat)(n:Int):CI:=⟨some d,.eql (.cell (.int .i64)) (.t s) (.k (.i n)),none⟩
abbrev iU(d s n:Nat):CI:=⟨some d,.eql (.cell (.int .u8)) (.t s) (.k (.u8 n)),none⟩
abbrev iT(d s u:Nat):CI:=⟨some d,.pick (.t s) (.t u) (.k (.bool false)),none⟩
abbrev iT1(d s u:Nat):CI:=⟨some d,.pick (.t s) (.k (.bool true)) (.t u),none⟩
abbrev gM(d p:Nat)(s:Nat):CI:=⟨some d,.mv (.t s),some (p,true)⟩
abbrev gL(d p:Nat)(s:Nat):CI:=⟨some d,.yV (.t s),some (p,true)⟩
abbrev gF(d p:Nat)(s n:Nat):CI:=⟨some d,.fa (.t s) n,some (p,true)⟩
abbrev gA(d p:Nat)(n x i:Nat):CI:=⟨some d,.ia n (.t x) (.t i),some (p,true)⟩
abbrev hM(d p s:Nat):CI:=⟨some d,.mv (.t s),some (p,false)⟩
abbrev hL(d p s:Nat):CI:=⟨some d,.yV (.t s),some (p,false)⟩
abbrev hF(d p s n:Nat):CI:=⟨some d,.fa (.t s) n,some (p,false)⟩
abbrev hA(d p n x i:Nat):CI:=⟨some d,.ia n (.t x) (.t i),some (p,false)⟩
abbrev hG(d p:Nat)(o:CO):CI:=⟨some d,o,some (p,false)⟩
abbrev cQ(l:List CI)(x:CC):CC:=.seq (.af l) x
abbrev cI(p:Nat)(x:CC):CC:=.cond (.t p) x .skip
abbrev iF3(d g s u v:Nat):CI:=⟨some d,.call ⟨g⟩ [.t s,.t u,.t v],none⟩
abbrev iF4(d g s u v x:Nat):CI:=⟨some d,.call ⟨g⟩ [.t s,.t u,.t v,.t x],none⟩
abbrev kI(n:Int):CX:=.k (.i n)
abbrev oA(a b:Nat):CO:=.add (.t a) (.t b)
abbrev oS(a b:Nat):CO:=.sub (.t a) (.t b)
abbrev oL(a b:Nat):CO:=.lss (.t a) (.t b)
abbrev oG(a b:Nat):CO:=.geq (.t a) (.t b)
abbrev oI(a b:Nat):CO:=.AG (.t a) (.t b)
abbrev oO(a b:Nat):CO:=.or (.t a) (.t b)
abbrev oSk(a:Nat)(n:Int):CO:=.sub (.t a) (.k (.i n))
abbrev oLk(a:Nat)(n:Int):CO:=.lss (.t a) (.k (.i n))
abbrev oGk(a:Nat)(n:Int):CO:=.geq (.t a) (.k (.i n))
abbrev oHk(a:Nat)(n:Int):CO:=.gtr (.t a) (.k (.i n))
abbrev oIk(a:Nat)(n:Int):CO:=.AG (.t a) (.k (.i n))
abbrev oE(a:Nat)(n:Int):CO:=.eql (.cell (.int .i64)) (.t a) (.k (.i n))
abbrev oU(a n:Nat):CO:=.eql (.cell (.int .u8)) (.t a) (.k (.u8 n))
abbrev oN(a:Nat)(n:Int):CO:=.neq (.cell (.int .i64)) (.t a) (.k (.i n))
abbrev oT(a b:Nat):CO:=.pick (.t a) (.t b) (.k (.bool false))
abbrev oT1(a b:Nat):CO:=.pick (.t a) (.k (.bool true)) (.t b)
abbrev oB(a:Nat):CO:=.not (.t a)
abbrev oC(f a:Nat):CO:=.call ⟨f⟩ [.t a]
abbrev ME(k:Go.IntKind)(a:Nat):CO:=.FF k (.t a)
abbrev dP(i:Nat)(c:CI):DI:=⟨i,c,.v7,0⟩
abbrev dR(i:Nat)(c:CI)(n:Nat):DI:=⟨i,c,.rd,n⟩
abbrev dE(i:Nat)(c:CI)(n:Nat):DI:=⟨i,c,.ev,n⟩
abbrev dM(i d s:Nat):DI:=⟨i,⟨some d,.mv (.t s),none⟩,.v7,0⟩
abbrev q3:=bG Tryz.f3.eq_1
abbrev r3_10:List DI:=(bB q3 10 [0,1,2,3,21704,5,6,7,8,9,21710,11,12,13,21714,15,16,17,18,19,21720,21,22,23,21724,25,26,27,28,29,21730,31,32,33,34])
abbrev r3_17:List DI:=(bB q3 17 [0,101,2,103,4,5,6,107,10,711,208,9,12,13,14,15,16,17,718,19,720,21,22,723,724,825,26,27,28,29,30,31,31932,33,34,35,31936,37,31938,39,40,41,42,43,31944,45,46,47,48,31949,50,51])
abbrev r3_18:List CI:=(z q3 18)
abbrev r3_19:List CI:=(z q3 19)
abbrev Qw:CC:=.seq (.aR r3_17) (cI 147 (cQ r3_18 .ret))
abbrev Qx:CC:=.seq (cQ (z q3 12) (cI 76 (.seq (cQ (z q3 13) (cI 80 (cQ (z q3 14) .ret))) (.exit 1)))) (cQ (z q3 15) (cQ (z q3 16) Qw))
abbrev Jl:CC:=.seq (cQ (z q3 8) (.cond (.t 32) .skip (.exit 0))) (.seq (.block 1 (cQ (z q3 9) (.seq (.seq (.aR r3_10) (cI 73 (cQ (z q3 11) .ret))) Qx))) (.af r3_19))
abbrev l3_0:CC:=Jl
abbrev Xm:CC:=cQ (z q3 6) (.seq (cQ [iK 6 0] (.block 0 (.loop l3_0))) (cQ (z q3 20) .ret))
abbrev Qy:CC:=cQ (z q3 3) (.seq (cQ (z q3 4) (cI 21 (cQ (z q3 5) .ret))) Xm)
abbrev cf3:CF:=⟨3,false,(cQ (z q3 0) (.seq (cQ (z q3 1) (cI 12 (cQ (z q3 2) .ret))) Qy)),[.tmp 2]⟩
abbrev q4:=bG Tryz.f4.eq_1
abbrev r4_4:List DI:=(bB q4 4 [0,1,2,3,4,10305,10306,7,8,9,10,11,10312,10313,14,15])
abbrev Jm:CC:=.seq (cQ (z q4 3) (.cond (.t 8) .skip (.exit 0))) (.seq (.block 1 (.aR r4_4)) (.af (z q4 5)))
abbrev l4_0:CC:=Jm
abbrev Xn:CC:=cQ (z q4 6) .ret
abbrev cf4:CF:=⟨4,false,(cQ (z q4 0) (cQ [iK 3 0] (.seq (cQ [iK 4 0] (.block 0 (.loop l4_0))) Xn))),[.tmp 2]⟩
abbrev cf5:CF:=⟨5,false,zc Tryz.f5.eq_1,[.tmp 0]⟩
abbrev q6:=bG Tryz.f6.eq_1
abbrev r6_6:List DI:=(bB q6 6 [0,1,2,3,4,5,6,7,8,9,10,111,12,113,214,15,16,17])
abbrev r6_7:List CI:=(z q6 7)
abbrev r6_8:List CI:=(z q6 8)
abbrev r6_9:List CI:=(z q6 9)
abbrev r6_16:List DI:=(bB q6 16 [0,1,2,703,704,705,206,807,8,10,11,1609,1712])
abbrev r6_17:List CI:=(z q6 17)
abbrev Qz:CC:=.seq (.seq (.aR r6_6) (cI 53 (cQ r6_7 .ret))) (.af r6_8)
abbrev l6_2:CC:=cQ (z q6 3) (.seq (.cond (.t 26) .skip (.exit 0)) (.seq (.block 1 (cQ (z q6 4) (cQ (z q6 5) Qz))) (.af r6_9)))
abbrev QA:CC:=cQ (z q6 11) (.seq (.cond (.t 69) .skip (.exit 2)) (.seq (.block 3 (cQ (z q6 12) (cQ (z q6 13) (.seq (cQ (z q6 14) (cI 81 (.af (z q6 15)))) (.aR r6_16))))) (.af r6_17)))
abbrev l6_1:CC:=QA
abbrev Gk:CC:=cQ (z q6 19) (.seq (.cond (.t 108) .skip (.exit 4)) (.seq (.block 5 (cQ (z q6 20) (cQ (z q6 21) (cI 117 (.af (z q6 22)))))) (.af (z q6 23))))
abbrev l6_0:CC:=Gk
abbrev QB:CC:=.seq (cQ (z q6 24) (cI 127 (.seq (.aR (bB q6 25 [0,1,2,3,104,5,206])) .ret))) (cQ (z q6 26) .ret)
abbrev QC:CC:=.seq (cQ (z q6 18) (.block 4 (.loop l6_0))) QB
abbrev QD:CC:=.seq (cQ (z q6 10) (.block 2 (.loop l6_1))) QC
abbrev QE:CC:=.seq (cQ (z q6 2) (.block 0 (.loop l6_2))) QD
abbrev cf6:CF:=⟨6,false,(cQ (z q6 0) (cQ (z q6 1) QE)),[.tmp 2,.cell 3 true 3]⟩
abbrev cf7:CF:=⟨7,false,zc Tryz.f7.eq_1,[.tmp 2]⟩
abbrev q8:=bG Tryz.f8.eq_1
abbrev r8_3:List DI:=(bB q8 3 [0,1,2,103,104,105,206])
abbrev cf8:CF:=⟨8,false,(cQ (z q8 0) (.seq (cQ (z q8 1) (cI 6 (cQ (z q8 2) .ret))) (.seq (.aR r8_3) .ret))),[.cell 6 true 4]⟩
abbrev cf9:CF:=⟨9,false,zc Tryz.f9.eq_1,[.tmp 4]⟩
abbrev q10:=bG Tryz.f10.eq_1
abbrev r10_6:List DI:=(bB q10 6 [0,1,2,6103,4,5,6,6107,8])
abbrev r10_9:List CI:=(z q10 9)
abbrev Jn:CC:=.seq (cQ (z q10 5) (.cond (.t 17) .skip (.exit 0))) (.seq (.block 1 (.seq (.aR r10_6) (cI 28 (cQ (z q10 7) .ret)))) (.af (z q10 8)))
abbrev l10_0:CC:=Jn
abbrev QF:CC:=.seq (cQ [iK 6 0] (.block 0 (.loop l10_0))) (cQ r10_9 .ret)
abbrev cf10:CF:=⟨10,false,(cQ (z q10 0) (cQ (z q10 1) (.seq (cQ (z q10 2) (cI 13 (cQ (z q10 3) .ret))) QF))),[.tmp 4]⟩
abbrev cf11:CF:=⟨11,false,zc Tryz.f11.eq_1,[.tmp 2]⟩
abbrev cf12:CF:=⟨12,false,zc Tryz.f12.eq_1,[.tmp 2,.tmp 3]⟩
abbrev cf13:CF:=⟨13,false,zc Tryz.f13.eq_1,[.tmp 4]⟩
abbrev q14:=bG Tryz.f14.eq_1
abbrev Xo:CC:=.seq (cQ (z q14 7) (cQ (z q14 8) (cI 42 (cQ (z q14 9) .ret)))) (cQ (z q14 10) .ret)
abbrev QG:CC:=cQ (z q14 4) (cQ (z q14 5) (cQ (z q14 6) Xo))
abbrev cf14:CF:=⟨14,false,(cQ (z q14 0) (cQ (z q14 1) (.seq (cQ (z q14 2) (cI 15 (.seq (.aR (bB q14 3 [0,701,1302,203,804,1405])) .ret))) QG))),[.cell 6 true 2,.cell 1 false 3,.cell 1 false 4]⟩
abbrev q15:=bG Tryz.f15.eq_1
abbrev cf15:CF:=⟨15,false,(cQ (z q15 0) (.seq (.aR (bB q15 1 [0,1,2,3,104,5,6,107,8,9,10,111,212,13,14])) (cI 27 (.af (z q15 2))))),[]⟩
abbrev q16:=bG Tryz.f16.eq_1
abbrev r16_1:List CI:=(z q16 1)
abbrev r16_2:List CI:=(z q16 2)
abbrev r16_3:List DI:=(bB q16 3 [0,6701,2,3,4,6705,6,7,6708,9])
abbrev r16_4:List DI:=(bB q16 4 [0,1,2,3,4,105,206])
abbrev r16_5:List CI:=(z q16 5)
abbrev r16_6:List CI:=(z q16 6)
abbrev r16_17:List CI:=(z q16 17)
abbrev r16_18:List CI:=(z q16 18)
abbrev Xp:CC:=.block 4 (.seq (.aR (bB q16 13 [0,1,2,103,4,105,206,7,8])) (.cond (.t 62) (.aR (bB q16 14 [0,1,2,3,4,105,206])) (.seq (.aR (bB q16 15 [0,1,702,3,4,5,706,7,8,709,210,811,12])) (cI 78 (.aR (bB q16 16 [0,1,2,3,4,105,206]))))))
abbrev QH:CC:=cQ (z q16 7) (.seq (.cond (.t 39) .skip (.exit 2)) (.seq (.block 3 (cQ (z q16 8) (.seq (cQ (z q16 9) (cI 44 (.exit 3))) (.seq (cQ (z q16 10) (cQ (z q16 11) (cI 54 (.aR (bB q16 12 [0,1,2,3,4,105,206]))))) Xp)))) (.af r16_17)))
abbrev l16_0:CC:=QH
abbrev MF:CC:=cQ r16_5 (cQ r16_6 (.block 2 (.loop l16_0)))
abbrev l16_1:CC:=cQ r16_1 (.seq (.cond (.t 13) .skip (.exit 0)) (.seq (.block 1 (cQ r16_2 (.seq (.seq (.aR r16_3) (cI 26 (.aR r16_4))) MF))) (.af r16_18)))
abbrev cf16:CF:=⟨16,false,(cQ (z q16 0) (.block 0 (.loop l16_1))),[]⟩
abbrev cf17:CF:=⟨17,false,zc Tryz.f17.eq_1,[]⟩
abbrev cf18:CF:=⟨18,false,zc Tryz.f18.eq_1,[.tmp 2]⟩
abbrev q19:=bG Tryz.f19.eq_1
abbrev r19_11:List CI:=(z q19 11)
abbrev r19_12:List CI:=(z q19 12)
abbrev Jo:CC:=.seq (cQ (z q19 7) (.cond (.t 29) .skip (.exit 0))) (.seq (.block 1 (cQ (z q19 8) (.seq (cQ (z q19 9) (cI 36 (.af (z q19 10)))) (.af r19_11)))) (.af r19_12))
abbrev l19_0:CC:=Jo
abbrev Xq:CC:=cQ (z q19 4) (cQ (z q19 5) (.seq (cQ [iK 7 0] (.block 0 (.loop l19_0))) (cQ (z q19 13) .ret)))
abbrev cf19:CF:=⟨19,false,(cQ (z q19 0) (cQ (z q19 1) (.seq (cQ (z q19 2) (cI 17 (cQ (z q19 3) .ret))) Xq))),[.tmp 2]⟩
abbrev cf20:CF:=⟨20,false,zc Tryz.f20.eq_1,[.tmp 4,.tmp 5]⟩
abbrev cf21:CF:=⟨21,false,zc Tryz.f21.eq_1,[.tmp 4,.tmp 5,.tmp 6]⟩
abbrev cf22:CF:=⟨22,false,zc Tryz.f22.eq_1,[.tmp 4,.tmp 5]⟩
abbrev q23:=bG Tryz.f23.eq_1
abbrev l23_0:CC:=cQ (z q23 4) (.seq (.cond (.t 18) .skip (.exit 0)) (.seq (.block 1 (cQ (z q23 5) (cQ (z q23 6) (cI 40 (cQ (z q23 7) .ret))))) (.af (z q23 8))))
abbrev cf23:CF:=⟨23,false,(cQ (z q23 0) (.seq (cQ (z q23 1) (cI 14 (cQ (z q23 2) .ret))) (.seq (cQ (z q23 3) (.block 0 (.loop l23_0))) (cQ (z q23 9) .ret)))),[.tmp 2]⟩
abbrev q24:=bG Tryz.f24.eq_1
abbrev cf24:CF:=⟨24,false,(cQ (z q24 0) (cQ [iC 3 (.call ⟨40⟩ [(.k (S [98,111,111,108,32,98,114,101,97,107,32,99,111,110,116,105,110,117,101,32,101,108,115,101,32,102,97,108,115,101,32,102,108,111,97,116,54,52,32,102,111,114,32,102,117,110,99,32,105,102,32,105,109,112,111,114,116,32,105,110,116,32,108,101,110,32,112,97,99,107,97,103,101,32,112,97,110,105,99,32,112,114,105,110,116,32,114,101,116,117,114,110,32,115,116,114,105,110,103,32,115,116,114,117,99,116,32,116,114,117,101,32,116,121,112,101,32,118,97,114]))]),iM 4 0,iF2 5 31 3 4,iM 2 5] .ret)),[.tmp 2]⟩
abbrev cf25:CF:=⟨25,false,zc Tryz.f25.eq_1,[.tmp 4]⟩
abbrev q26:=bG Tryz.f26.eq_1
abbrev r26_24:List CI:=(z q26 24)
abbrev r26_25:List CI:=(z q26 25)
abbrev Xr:CC:=.seq (.af (z q26 16)) (.cond (.t 69) (.seq (.af (z q26 17)) (.af (z q26 18))) (.seq (.af (z q26 19)) (.seq (.seq (.af (z q26 20)) (.cond (.t 37) (.seq (.af (z q26 21)) .ret) .skip)) (.seq (.af (z q26 22)) (.aR (bB q26 23 [700,101,1904,5,6706,202,803,1407,2008,9]))))))
abbrev l26_0:CC:=.seq (.seq (.af (z q26 9)) (.cond (.t 27) .skip (.exit 0))) (.block 1 (.seq (.af (z q26 10)) (.block 2 (.seq (.af (z q26 11)) (.cond (.t 54) (.af (z q26 12)) (.seq (.af (z q26 13)) (.cond (.t 61) (.seq (.af (z q26 14)) (.af (z q26 15))) Xr)))))))
abbrev cf26:CF:=⟨26,false,(.seq (.af (z q26 0)) (.seq (.seq (.af (z q26 1)) (.cond (.t 17) (.seq (.af (z q26 2)) .ret) .skip)) (.seq (.seq (.af (z q26 3)) (.seq (.af (z q26 4)) (.cond (.t 21) (.seq (.af (z q26 5)) .ret) .skip))) (.seq (.af (z q26 6)) (.seq (.af (z q26 7)) (.seq (.seq (.af [iK 8 0]) (.block 0 (.loop l26_0))) (.seq (.af r26_24) (.seq (.af r26_25) .ret)))))))),[.cell 1 false 2,.tmp 3,.tmp 4]⟩
abbrev q27:=bG Tryz.f27.eq_1
abbrev cf27:CF:=⟨27,false,(cQ (z q27 0) (.block 0 (cQ (z q27 1) (.cond (.t 8) (.af [iM 3 6]) (cQ (z q27 3) (.cond (.t 10) (cQ (z q27 4) (.aR (bB q27 5 [0,1,702,3,1304,205,806,1407]))) (cQ [iM 5 6] (.af (z q27 7))))))))),[]⟩
abbrev q28:=bG Tryz.f28.eq_1
abbrev l28_1:CC:=.seq (cQ (z q28 5) (.cond (.t 15) .skip (.exit 0))) (.block 1 (cQ (z q28 6) (.af (z q28 7))))
abbrev l28_0:CC:=.seq (.seq (.aR (bB q28 8 [0,1,2,7303,4,5,6,7,7308,7309,10])) (.cond (.t 33) .skip (.exit 2))) (.block 3 (.seq (cQ (z q28 9) (.cond (.t 36) (.af (z q28 10)) (.af (z q28 11)))) (.af (z q28 12))))
abbrev cf28:CF:=⟨28,false,(cQ (z q28 0) (cQ (z q28 1) (cQ (z q28 2) (cQ (z q28 3) (cQ (z q28 4) (.seq (.block 0 (.loop l28_1)) (.seq (.block 2 (.loop l28_0)) (cQ (z q28 13) .ret)))))))),[.cell 6 true 4]⟩
abbrev q29:=bG Tryz.f29.eq_1
abbrev r29_10:List CI:=(z q29 10)
abbrev l29_0:CC:=cQ (z q29 6) (.seq (.cond (.t 23) .skip (.exit 0)) (.seq (.block 1 (cQ (z q29 7) (.af (z q29 8)))) (.af (z q29 9))))
abbrev cf29:CF:=⟨29,false,(cQ (z q29 0) (.seq (cQ (z q29 1) (cI 11 (cQ (z q29 2) .ret))) (.seq (cQ (z q29 3) (cI 14 (.af (z q29 4)))) (.seq (cQ (z q29 5) (.block 0 (.loop l29_0))) (cQ r29_10 .ret))))),[.tmp 6]⟩
abbrev q30:=bG Tryz.f30.eq_1
abbrev cf30:CF:=⟨30,false,(cQ (z q30 0) (.seq (.aR (bB q30 1 [0,101,2,103,5,706,7,708,10,1311,12,1313,204,809,1414,2015,2616,17])) .ret)),[.tmp 4]⟩
abbrev cf31:CF:=⟨31,false,zc Tryz.f31.eq_1,[.tmp 4]⟩
abbrev q32:=bG Tryz.f32.eq_1
abbrev r32_12:List CI:=(z q32 12)
abbrev QI:CC:=cQ (z q32 8) (.seq (.cond (.t 34) .skip (.exit 2)) (.seq (.block 3 (cQ (z q32 9) (cQ (z q32 10) (cI 65 (cQ (z q32 11) .ret))))) (.af r32_12)))
abbrev l32_0:CC:=QI
abbrev l32_1:CC:=cQ (z q32 5) (.seq (.cond (.t 26) .skip (.exit 0)) (.seq (.block 1 (cQ (z q32 6) (cQ (z q32 7) (.block 2 (.loop l32_0))))) (.af (z q32 13))))
abbrev cf32:CF:=⟨32,false,(cQ (z q32 0) (.seq (cQ (z q32 1) (cI 15 (cQ (z q32 2) .ret))) (cQ (z q32 3) (.seq (cQ (z q32 4) (.block 0 (.loop l32_1))) (cQ (z q32 14) .ret))))),[.tmp 8]⟩
abbrev q33:=bG Tryz.f33.eq_1
abbrev r33_6:List CI:=(z q33 6)
abbrev r33_7:List CI:=(z q33 7)
abbrev r33_8:List CI:=(z q33 8)
abbrev r33_9:List CI:=(z q33 9)
abbrev r33_10:List CI:=(z q33 10)
abbrev r33_11:List DI:=(bB q33 11 [0,1,2,1903,4,5,6,1907,8,9,1910,11,12,13,1314,15,16,17,1318,19,20,1321,1322,23,24,125,226,827,1428,2029])
abbrev r33_12:List DI:=(bB q33 12 [0,1,2,103,4,5,106,7,108,209,10])
abbrev r33_13:List CI:=(z q33 13)
abbrev r33_18:List CI:=(z q33 18)
abbrev r33_19:List DI:=(bB q33 19 [0,1,2,103,4,5,106,7,108,9,10,111,12,13,114,215,16])
abbrev r33_20:List DI:=(bB q33 20 [0,1,2,3,1304,5,6,107,208,809,1410,2011])
abbrev r33_21:List DI:=(bB q33 21 [0,1,2,1903,4,5,6,1907,8,9,1910,11,12,13,1314,15,16,17,1318,19,20,1321,1322,23,24,125,226,827,1428,2029])
abbrev r33_22:List CI:=(z q33 22)
abbrev r33_42:List CI:=(z q33 42)
abbrev l33_4:CC:=cQ (z q33 14) (.seq (.cond (.t 127) .skip (.exit 5)) (.seq (.block 6 (cQ (z q33 15) (.aR (bB q33 16 [0,1,2,1903,4,5,6,7,1308,9,1310,11,12,113,214,815,1416,2017])))) (.af (z q33 17))))
abbrev Gl:CC:=.block 4 (cQ r33_8 (.cond (.t 69) (.af r33_9) (cQ r33_10 (.cond (.t 80) (.seq (.aR r33_11) (.seq (.aR r33_12) (cQ r33_13 (.block 5 (.loop l33_4))))) (cQ r33_18 (.cond (.t 148) (.seq (.aR r33_19) (.aR r33_20)) (.aR r33_21)))))))
abbrev l33_5:CC:=cQ r33_6 (.seq (.cond (.t 37) .skip (.exit 2)) (.seq (.block 3 (cQ r33_7 Gl)) (.af r33_22)))
abbrev l33_6:CC:=cQ (z q33 3) (.seq (.cond (.t 29) .skip (.exit 0)) (.seq (.block 1 (cQ (z q33 4) (cQ (z q33 5) (.block 2 (.loop l33_5))))) (.af (z q33 23))))
abbrev l33_3:CC:=cQ (z q33 25) (.seq (.cond (.t 187) .skip (.exit 7)) (.block 8 (cQ (z q33 26) (.aR (bB q33 27 [0,1,2,703,4,5,6,7,108,9,110,11,212,813])))))
abbrev l33_2:CC:=cQ (z q33 29) (.seq (.cond (.t 210) .skip (.exit 9)) (.block 10 (cQ (z q33 30) (.af (z q33 31)))))
abbrev l33_1:CC:=cQ (z q33 33) (.seq (.cond (.t 222) .skip (.exit 11)) (.block 12 (cQ (z q33 34) (.af (z q33 35)))))
abbrev l33_0:CC:=cQ (z q33 37) (.seq (.cond (.t 231) .skip (.exit 13)) (.seq (.block 14 (cQ (z q33 38) (.seq (.aR (bB q33 39 [0,1,2,3,104,5,106,7,108,9,110,211,12,13,14,915,1416,17])) (cQ (z q33 40) (cI 249 (.af (z q33 41))))))) (.af r33_42)))
abbrev cf33:CF:=⟨33,true,(cQ (z q33 0) (cQ (z q33 1) (.seq (cQ (z q33 2) (.block 0 (.loop l33_6))) (.seq (cQ (z q33 24) (.block 7 (.loop l33_3))) (.seq (cQ (z q33 28) (.block 9 (.loop l33_2))) (.seq (cQ (z q33 32) (.block 11 (.loop l33_1))) (cQ (z q33 36) (.block 13 (.loop l33_0))))))))),[]⟩
abbrev q34:=bG Tryz.f34.eq_1
abbrev l34_0:CC:=cQ (z q34 2) (.seq (.cond (.t 11) .skip (.exit 0)) (.seq (.block 1 (cQ (z q34 3) (cQ (z q34 4) (cQ (z q34 5) (.af (z q34 6)))))) (.af (z q34 7))))
abbrev cf34:CF:=⟨34,false,(cQ (z q34 0) (cQ (z q34 1) (.block 0 (.loop l34_0)))),[]⟩
abbrev cf35:CF:=⟨35,false,zc Tryz.f35.eq_1,[.tmp 2]⟩
abbrev cf36:CF:=⟨36,false,zc Tryz.f36.eq_1,[.tmp 4,.tmp 5]⟩
abbrev q37:=bG Tryz.f37.eq_1
abbrev cf37:CF:=⟨37,false,(cQ (z q37 0) (.seq (cQ (z q37 1) (cQ (z q37 2) (cI 12 (.seq (.aR (bB q37 3 [0,1,2,3,4,5,7906,7,8,9,10,11])) .ret)))) (cQ (z q37 4) .ret))),[.tmp 4,.tmp 5,.tmp 6]⟩
abbrev cf38:CF:=⟨38,false,zc Tryz.f38.eq_1,[.tmp 4,.tmp 5]⟩
abbrev cf39:CF:=⟨39,false,zc Tryz.f39.eq_1,[.tmp 2]⟩
abbrev q40:=bG Tryz.f40.eq_1
abbrev r40_13:List CI:=(z q40 13)
abbrev l40_3:CC:=.seq (cQ (z q40 5) (.cond (.t 16) .skip (.exit 0))) (.seq (.block 1 (cQ (z q40 6) (cQ (z q40 7) (cQ (z q40 8) (cQ (z q40 9) (.af (z q40 10))))))) (.af (z q40 11)))
abbrev l40_2:CC:=.seq (cQ (z q40 18) (.cond (.t 53) .skip (.exit 2))) (.block 3 (.af (z q40 19)))
abbrev l40_0:CC:=.seq (cQ (z q40 27) (.cond (.t 91) .skip (.exit 6))) (.block 7 (.af (z q40 28)))
abbrev l40_1:CC:=.seq (cQ (z q40 21) (.cond (.t 60) .skip (.exit 4))) (.block 5 (.seq (cQ (z q40 22) (cI 66 (cQ (z q40 23) (.exit 5)))) (cQ (z q40 24) (cQ (z q40 25) (cQ (z q40 26) (.seq (.block 6 (.loop l40_0)) (.af (z q40 29))))))))
abbrev cf40:CF:=⟨40,false,(cQ (z q40 0) (cQ [iK 3 0] (cQ [iK 4 1] (cQ (z q40 3) (.seq (cQ [iK 6 0] (.block 0 (.loop l40_3))) (.seq (cQ (z q40 12) (cI 37 (cQ r40_13 .ret))) (cQ (z q40 14) (cQ [iK 10 0] (cQ [iK 11 0] (cQ [iK 12 0] (.seq (.block 2 (.loop l40_2)) (cQ (z q40 20) (.seq (.block 4 (.loop l40_1)) (.seq (cQ (z q40 30) (cI 98 (.af (z q40 31)))) (cQ (z q40 32) .ret))))))))))))))),[.tmp 2]⟩
abbrev q42:=bG Tryz.f42.eq_1
abbrev r42_7:List CI:=(z q42 7)
abbrev l42_0:CC:=.seq (cQ (z q42 2) (.cond (.t 9) .skip (.exit 0))) (.block 1 (cQ (z q42 3) (.seq (cQ (z q42 4) (cI 24 (cQ (z q42 5) .ret))) (.af (z q42 6)))))
abbrev cf42:CF:=⟨42,false,(cQ [iK 2 0] (.seq (cQ [iK 3 0] (.block 0 (.loop l42_0))) (cQ r42_7 .ret))),[.tmp 2]⟩
abbrev cf43:CF:=⟨43,false,zc Tryz.f43.eq_1,[]⟩
abbrev cf44:CF:=⟨44,false,zc Tryz.f44.eq_1,[.tmp 2]⟩
abbrev cf45:CF:=⟨45,false,zc Tryz.f45.eq_1,[.tmp 4]⟩
abbrev cf46:CF:=⟨46,false,zc Tryz.f46.eq_1,[.tmp 4]⟩
abbrev q47:=bG Tryz.f47.eq_1
abbrev r47_11:List CI:=(z q47 11)
abbrev r47_12:List CI:=(z q47 12)
abbrev r47_13:=[iK 8 0]
abbrev r47_14:List CI:=(z q47 14)
abbrev r47_15:List CI:=(z q47 15)
abbrev r47_16:List CI:=(z q47 16)
abbrev r47_17:List CI:=(z q47 17)
abbrev r47_18:List CI:=(z q47 18)
abbrev r47_19:List CI:=(z q47 19)
abbrev r47_20:=[iK 11 0]
abbrev r47_21:List CI:=(z q47 21)
abbrev r47_22:=[iK 11 3]
abbrev r47_23:List CI:=(z q47 23)
abbrev MG:CC:=.seq (cQ (z q47 24) (cI 85 (cQ (z q47 25) .ret))) (.seq (cQ (z q47 26) (cQ (z q47 27) (cI 90 (cQ (z q47 28) .ret)))) (cQ (z q47 29) .ret))
abbrev QJ:CC:=.seq (cQ r47_18 (cQ r47_19 (cI 74 (cQ r47_20 (.seq (cQ r47_21 (cI 77 (.af r47_22))) (cQ r47_23 .ret)))))) MG
abbrev Xs:CC:=.seq (cQ r47_11 (cQ r47_12 (cI 44 (cQ r47_13 (.seq (cQ r47_14 (.cond (.t 46) (.af r47_15) (.af r47_16))) (cQ r47_17 .ret)))))) QJ
abbrev cf47:CF:=⟨47,false,(cQ (z q47 0) (.seq (cQ (z q47 1) (cQ (z q47 2) (cI 16 (cQ (z q47 3) (.seq (.block 0 (cQ (z q47 4) (.cond (.t 22) (.af (z q47 5)) (cQ (z q47 6) (.cond (.t 27) (cQ (z q47 7) .ret) (cQ (z q47 8) (cI 31 (cQ (z q47 9) .ret)))))))) (cQ (z q47 10) .ret)))))) Xs)),[.cell 4 true 2,.tmp 3]⟩
abbrev cf48:CF:=⟨48,false,zc Tryz.f48.eq_1,[.cell 4 true 4]⟩
abbrev q49:=bG Tryz.f49.eq_1
abbrev r49_0:List CI:=(z q49 0)
abbrev r49_1:List CI:=(z q49 1)
abbrev r49_2:List CI:=(z q49 2)
abbrev r49_3:List CI:=(z q49 3)
abbrev cf49:CF:=⟨49,false,(cQ r49_0 (.seq (cQ r49_1 (cI 9 (.af r49_2))) (cQ r49_3 .ret))),[.cell 4 true 4]⟩
abbrev q50:=bG Tryz.f50.eq_1
abbrev cf50:CF:=⟨50,false,(.af (z q50 0)),[]⟩
abbrev q51:=bG Tryz.f51.eq_1
abbrev r51_0:List CI:=(z q51 0)
abbrev r51_1:List CI:=(z q51 1)
abbrev r51_2:List CI:=(z q51 2)
abbrev cf51:CF:=⟨51,false,(cQ r51_0 (cQ r51_1 (cQ r51_2 .ret))),[.tmp 4]⟩
abbrev cf52:CF:=⟨52,false,zc Tryz.f52.eq_1,[.cell 6 true 2]⟩
abbrev cf53:CF:=⟨53,false,zc Tryz.f53.eq_1,[.cell 6 true 2]⟩
abbrev q54:=bG Tryz.f54.eq_1
abbrev r54_5:List CI:=(z q54 5)
abbrev r54_6:List CI:=(z q54 6)
abbrev r54_7:List CI:=(z q54 7)
abbrev r54_8:List CI:=(z q54 8)
abbrev r54_9:List CI:=(z q54 9)
abbrev r54_10:List CI:=(z q54 10)
abbrev r54_11:List CI:=(z q54 11)
abbrev r54_12:List CI:=(z q54 12)
abbrev cf54:CF:=⟨54,false,(.seq (.af (z q54 0)) (.seq (.af (z q54 1)) (.seq (.af (z q54 2)) (.seq (.seq (.af (z q54 3)) (.cond (.t 16) (.af (z q54 4)) .skip)) (.seq (.af r54_5) (.seq (.af r54_6) (.seq (.af r54_7) (.seq (.af r54_8) (.seq (.seq (.af r54_9) (.cond (.t 38) (.af r54_10) .skip)) (.seq (.af r54_11) (.seq (.af r54_12) .ret))))))))))),[.cell 6 true 2]⟩
abbrev q55:=bG Tryz.f55.eq_1
abbrev l55_0:CC:=cQ (z q55 3) (.seq (.cond (.t 9) .skip (.exit 0)) (.seq (.block 1 (cQ (z q55 4) (cQ (z q55 5) (cI 14 (cQ (z q55 6) .ret))))) (.af (z q55 7))))
abbrev cf55:CF:=⟨55,false,(cQ [iK 2 0] (cQ [iK 3 0] (.seq (cQ (z q55 2) (.block 0 (.loop l55_0))) (cQ (z q55 8) .ret)))),[.tmp 2]⟩
abbrev cf56:CF:=⟨56,false,zc Tryz.f56.eq_1,[.tmp 4]⟩
abbrev cf57:CF:=⟨57,false,zc Tryz.f57.eq_1,[.tmp 4]⟩
abbrev q58:=bG Tryz.f58.eq_1
abbrev r58_7:List CI:=(z q58 7)
abbrev l58_0:CC:=cQ (z q58 2) (.seq (.cond (.t 9) .skip (.exit 0)) (.seq (.block 1 (cQ (z q58 3) (cQ (z q58 4) (cI 16 (cQ (z q58 5) .ret))))) (.af (z q58 6))))
abbrev cf58:CF:=⟨58,false,(cQ [iK 4 0] (.seq (cQ (z q58 1) (.block 0 (.loop l58_0))) (cQ r58_7 .ret))),[.tmp 4]⟩
abbrev q59:=bG Tryz.f59.eq_1
abbrev cf59:CF:=⟨59,false,(cQ (z q59 0) (.seq (.aR (bB q59 1 [0,1,702,3,4,705,6,7,8,709,10,11,712,13,214,815])) (.seq (cQ (z q59 2) (cI 25 (.af (z q59 3)))) (.seq (.aR (bB q59 4 [0,1,2,103,104,105,206])) (cQ (z q59 5) .ret))))),[.cell 5 true 8]⟩
abbrev cf60:CF:=⟨60,false,zc Tryz.f60.eq_1,[.tmp 4]⟩
abbrev q61:=bG Tryz.f61.eq_1
abbrev l61_0:CC:=cQ (z q61 4) (.seq (.cond (.t 16) .skip (.exit 0)) (.seq (.block 1 (cQ (z q61 5) (cQ (z q61 6) (cQ (z q61 7) (cI 28 (.aR (bB q61 8 [0,1,2,3,104,5,106,207]))))))) (.af (z q61 9))))
abbrev cf61:CF:=⟨61,false,(cQ (z q61 0) (cQ (z q61 1) (cQ (z q61 2) (cQ (z q61 3) (.block 0 (.loop l61_0)))))),[]⟩
abbrev cf62:CF:=⟨62,false,zc Tryz.f62.eq_1,[.cell 5 true 6,.tmp 7]⟩
abbrev q63:=bG Tryz.f63.eq_1
abbrev r63_41:List CI:=(z q63 41)
abbrev r63_46:List CI:=(z q63 46)
abbrev r63_47:List CI:=(z q63 47)
abbrev r63_48:List CI:=(z q63 48)
abbrev r63_49:List DI:=(bB q63 49 [700,1,2,3,704,105,106,107,208,809])
abbrev r63_50:List CI:=(z q63 50)
abbrev r63_51:List CI:=(z q63 51)
abbrev l63_3:CC:=cQ (z q63 6) (.seq (.cond (.t 50) .skip (.exit 1)) (.seq (.block 2 (cQ (z q63 7) (cQ (z q63 8) (cQ (z q63 9) (cI 59 (.aR (bB q63 10 [700,1,2,3,704,105,106,107,208,809]))))))) (.af (z q63 11))))
abbrev l63_2:CC:=cQ (z q63 14) (.seq (.cond (.t 85) .skip (.exit 3)) (.seq (.block 4 (cQ (z q63 15) (.af (z q63 16)))) (.af (z q63 17))))
abbrev QK:CC:=.seq (.aR (bB q63 12 [100,1,102,3,104,5,206])) (.seq (cQ (z q63 13) (.block 3 (.loop l63_2))) .ret)
abbrev l63_1:CC:=cQ (z q63 26) (.seq (.cond (.t 116) .skip (.exit 5)) (.block 6 (cQ (z q63 27) (.af (z q63 28)))))
abbrev Xt:CC:=cQ (z q63 33) (cI 133 (cQ (z q63 34) (.af (z q63 35))))
abbrev Xu:CC:=cQ (z q63 38) (cI 154 (cQ (z q63 39) (.af (z q63 40))))
abbrev l63_0:CC:=cQ (z q63 42) (.seq (.cond (.t 174) .skip (.exit 7)) (.seq (.block 8 (cQ (z q63 43) (.af (z q63 44)))) (.af (z q63 45))))
abbrev QL:CC:=cQ (z q63 52) (cQ (z q63 53) (cI 207 (cQ (z q63 54) (cQ (z q63 55) (cI 222 (cQ (z q63 56) (.af (z q63 57))))))))
abbrev QM:CC:=cQ r63_46 (.block 9 (.seq (cQ r63_47 (.cond (.t 185) .skip (.af r63_48))) (.cond (.t 185) (.aR r63_49) (.seq (cQ r63_50 (.cond (.t 198) .skip (.af r63_51))) (cI 198 QL)))))
abbrev Jp:CC:=.seq (cQ r63_41 (.block 7 (.loop l63_0))) QM
abbrev cf63:CF:=⟨63,true,(cQ (z q63 0) (.seq (cQ (z q63 1) (.block 0 (cQ (z q63 2) (.cond (.t 30) (cQ (z q63 3) (cQ (z q63 4) (.seq (.seq (.aR (bB q63 5 [0,101,2,103,5,706,7,8,709,12,204,810,8511])) (.block 1 (.loop l63_3))) QK))) (.seq (cQ (z q63 18) (.cond (.t 94) .skip (.af (z q63 19)))) (.cond (.t 94) (.af (z q63 20)) (cQ (z q63 21) (.cond (.t 99) (cQ (z q63 22) (.seq (.aR (bB q63 23 [100,1,2,3,104,105,206])) (cQ (z q63 24) (.seq (cQ (z q63 25) (.block 5 (.loop l63_1))) (cQ (z q63 29) (.af (z q63 30))))))) (.seq (cQ (z q63 31) (.cond (.t 128) .skip (.af (z q63 32)))) (.cond (.t 128) Xt (.seq (cQ (z q63 36) (.cond (.t 147) .skip (.af (z q63 37)))) (cI 147 Xu)))))))))))) Jp)),[]⟩
abbrev cf64:CF:=⟨64,false,zc Tryz.f64.eq_1,[.tmp 2]⟩
abbrev q65:=bG Tryz.f65.eq_1
abbrev cf65:CF:=⟨65,false,(cQ (z q65 0) (.seq (cQ (z q65 1) (cQ [iM 15 7] (cI 15 (.aR (bB q65 3 [0,1,2,3,104,5,106,207]))))) (.af (z q65 4)))),[]⟩
abbrev q66:=bG Tryz.f66.eq_1
abbrev cf66:CF:=⟨66,false,(cQ (z q66 0) (.aR (bB q66 1 [0,1,2,3,704,5,6,107,8,109,10,111,12,213,814,15,16,1417]))),[]⟩
abbrev q67:=bG Tryz.f67.eq_1
abbrev l67_0:CC:=cQ (z q67 5) (.seq (.cond (.t 32) .skip (.exit 0)) (.seq (.block 1 (cQ (z q67 6) (cQ (z q67 7) (cI 43 (cQ (z q67 8) .ret))))) (.af (z q67 9))))
abbrev cf67:CF:=⟨67,false,(cQ (z q67 0) (.seq (cQ (z q67 1) (cQ (z q67 2) (cI 20 (cQ (z q67 3) .ret)))) (.seq (cQ (z q67 4) (.block 0 (.loop l67_0))) (cQ (z q67 10) .ret)))),[.cell 5 true 8,.tmp 9]⟩
abbrev cf68:CF:=⟨68,false,zc Tryz.f68.eq_1,[.tmp 4]⟩
abbrev q69:=bG Tryz.f69.eq_1
abbrev r69_9:List CI:=(z q69 9)
abbrev l69_0:CC:=.seq (cQ (z q69 15) (.cond (.t 59) .skip (.exit 1))) (.block 2 (.seq (cQ (z q69 16) (cI 64 (cQ (z q69 17) (.seq (cQ (z q69 18) (cI 73 (cQ (z q69 19) .ret))) (.af (z q69 20)))))) (.seq (cQ (z q69 21) (cI 93 (cQ (z q69 22) .ret))) (cQ (z q69 23) (cQ (z q69 24) (cQ (z q69 25) (.cond (.t 107) (cQ (z q69 26) (.seq (cQ (z q69 27) (cI 114 (cQ (z q69 28) .ret))) (cQ (z q69 29) .ret))) (cQ (z q69 30) (cI 132 (cQ (z q69 31) (.seq (cQ (z q69 32) (cI 139 (cQ (z q69 33) .ret))) (cQ (z q69 34) .ret))))))))))))
abbrev cf69:CF:=⟨69,false,(cQ [iK 4 0] (cQ (z q69 1) (.seq (.block 0 (cQ (z q69 2) (.cond (.t 16) (cQ [iK 4 0] .ret) (cQ (z q69 4) (.cond (.t 24) (cQ (z q69 5) .ret) (cQ (z q69 6) (.cond (.t 31) (cQ (z q69 7) .ret) (cQ (z q69 8) (cI 36 (cQ r69_9 .ret)))))))))) (cQ (z q69 10) (cQ (z q69 11) (cQ [iK 8 0] (cQ (z q69 13) (cQ [iK 10 0] (.seq (.block 1 (.loop l69_0)) (cQ (z q69 35) .ret)))))))))),[.tmp 4]⟩
abbrev cf70:CF:=⟨70,false,zc Tryz.f70.eq_1,[.tmp 4]⟩
abbrev cf73:CF:=⟨73,false,zc Tryz.f73.eq_1,[.tmp 2,.tmp 3]⟩
abbrev cf74:CF:=⟨74,false,zc Tryz.f74.eq_1,[.tmp 4]⟩
abbrev cf75:CF:=⟨75,false,zc Tryz.f75.eq_1,[.tmp 2]⟩
abbrev cf76:CF:=⟨76,false,zc Tryz.f76.eq_1,[.tmp 2]⟩
abbrev cf77:CF:=⟨77,false,zc Tryz.f77.eq_1,[.tmp 2]⟩
abbrev q78:=bG Tryz.f78.eq_1
abbrev r78_4:List CI:=(z q78 4)
abbrev r78_5:List CI:=(z q78 5)
abbrev r78_6:=[iM 44 6]
abbrev r78_7:List CI:=(z q78 7)
abbrev r78_8:List CI:=(z q78 8)
abbrev r78_9:List CI:=(z q78 9)
abbrev r78_10:List CI:=(z q78 10)
abbrev r78_11:List CI:=(z q78 11)
abbrev r78_12:List CI:=(z q78 12)
abbrev r78_13:List CI:=(z q78 13)
abbrev cf78:CF:=⟨78,false,(.seq (.af (z q78 0)) (.seq (.af (z q78 1)) (.seq (.seq (.af (z q78 2)) (.cond (.t 27) (.seq (.af (z q78 3)) .ret) .skip)) (.seq (.af r78_4) (.seq (.seq (.af r78_5) (.seq (.af r78_6) (.cond (.t 44) (.seq (.af r78_7) (.seq (.seq (.af r78_8) (.cond (.t 57) (.af r78_9) .skip)) (.seq (.af r78_10) (.seq (.af r78_11) (.cond (.t 63) (.af r78_12) .skip))))) .skip))) (.seq (.af r78_13) .ret)))))),[.tmp 2,.tmp 3]⟩
abbrev cf79:CF:=⟨79,false,zc Tryz.f79.eq_1,[.tmp 2,.tmp 3]⟩
abbrev cf80:CF:=⟨80,false,zc Tryz.f80.eq_1,[.tmp 2,.tmp 3]⟩
abbrev q81:=bG Tryz.f81.eq_1
abbrev r81_19:List CI:=(z q81 19)
abbrev l81_0:CC:=.seq (cQ (z q81 5) (.cond (.t 19) .skip (.exit 0))) (.seq (.block 1 (cQ (z q81 6) (.seq (.block 2 (cQ (z q81 7) (.cond (.t 25) (cQ (z q81 8) .ret) (cQ (z q81 9) (.cond (.t 31) (cQ (z q81 10) .ret) (cQ (z q81 11) (cI 38 (cQ (z q81 12) (.seq (cQ (z q81 13) (cI 50 (cQ (z q81 14) .ret))) (cQ (z q81 15) (.af (z q81 16)))))))))))) (.af (z q81 17))))) (.af (z q81 18)))
abbrev cf81:CF:=⟨81,false,(cQ (z q81 0) (.seq (cQ (z q81 1) (cI 15 (cQ (z q81 2) .ret))) (cQ (z q81 3) (.seq (cQ [iK 5 1] (.block 0 (.loop l81_0))) (cQ r81_19 .ret))))),[.tmp 2,.tmp 3]⟩
abbrev q82:=bG Tryz.f82.eq_1
abbrev l82_0:CC:=cQ (z q82 4) (.seq (.cond (.t 13) .skip (.exit 2)) (.seq (.block 3 (cQ (z q82 5) (cQ (z q82 6) (cI 24 (.exit 0))))) (.af (z q82 7))))
abbrev l82_1:CC:=.seq (cQ (z q82 2) (.cond (.t 7) .skip (.exit 0))) (.seq (.block 1 (cQ (z q82 3) (.block 2 (.loop l82_0)))) (.af (z q82 8)))
abbrev cf82:CF:=⟨82,false,(cQ [iK 2 0] (.scope (cQ [iK 3 2] (.seq (.label 0) (.seq (.block 0 (.loop l82_1)) (cQ (z q82 9) .ret)))))),[.tmp 2]⟩
abbrev q83:=bG Tryz.f83.eq_1
abbrev r83_0:List CI:=(z q83 0)
abbrev cf83:CF:=⟨83,false,(.af r83_0),[]⟩
abbrev q84:=bG Tryz.f84.eq_1
abbrev r84_0:List CI:=(z q84 0)
abbrev r84_1:List CI:=(z q84 1)
abbrev r84_2:List DI:=(bB q84 2 [0,1,2,103,4,5,6,107,8,9,110,211])
abbrev cf84:CF:=⟨84,false,(cQ r84_0 (cQ r84_1 (.seq (.aR r84_2) .ret))),[.cell 4 true 2]⟩
abbrev q85:=bG Tryz.f85.eq_1
abbrev r85_0:List CI:=(z q85 0)
abbrev r85_1:List DI:=(bB q85 1 [0,1,2,103,4,5,6,107,8,109,210])
abbrev cf85:CF:=⟨85,false,(cQ r85_0 (.seq (.aR r85_1) .ret)),[.cell 4 true 2]⟩
abbrev q86:=bG Tryz.f86.eq_1
abbrev Xv:CC:=cQ (z q86 4) (cI 25 (cQ (z q86 5) .ret))
abbrev cf86:CF:=⟨86,false,(cQ (z q86 0) (cQ (z q86 1) (.seq (.block 0 (cQ (z q86 2) (.cond (.t 11) (cQ (z q86 3) .ret) Xv))) (cQ (z q86 6) .ret)))),[.tmp 2,.tmp 3]⟩
abbrev q87:=bG Tryz.f87.eq_1
abbrev cf87:CF:=⟨87,false,(cQ (z q87 0) (.seq (.aR (bB q87 1 [0,1,2,3,4,105,6,7,8,109,10,11,12,113,14,15,16,17,218])) .ret)),[.cell 6 true 12]⟩
abbrev q88:=bG Tryz.f88.eq_1
abbrev r88_3:List CI:=(z q88 3)
abbrev cf88:CF:=⟨88,false,(cQ (z q88 0) (cQ (z q88 1) (cQ (z q88 2) (cQ r88_3 .ret)))),[.tmp 10]⟩
abbrev cf89:CF:=⟨89,false,zc Tryz.f89.eq_1,[.tmp 4]⟩
abbrev cf90:CF:=⟨90,false,zc Tryz.f90.eq_1,[.cell 6 true 2]⟩
abbrev cf91:CF:=⟨91,false,zc Tryz.f91.eq_1,[.tmp 4]⟩
abbrev cf92:CF:=⟨92,false,zc Tryz.f92.eq_1,[.cell 6 true 2]⟩
abbrev cf93:CF:=⟨93,false,zc Tryz.f93.eq_1,[.cell 6 true 2]⟩
abbrev cf94:CF:=⟨94,false,zc Tryz.f94.eq_1,[.tmp 2]⟩
abbrev cf95:CF:=⟨95,false,zc Tryz.f95.eq_1,[.tmp 2]⟩
abbrev cf96:CF:=⟨96,false,zc Tryz.f96.eq_1,[.tmp 2]⟩
abbrev cf97:CF:=⟨97,false,zc Tryz.f97.eq_1,[]⟩
abbrev q98:=bG Tryz.f98.eq_1
abbrev cf98:CF:=⟨98,false,(cQ (z q98 0) (.seq (.aR (bB q98 1 [0,101,2,103,5,706,7,708,204,809,1410,2011,12])) .ret)),[.tmp 4]⟩
abbrev cf99:CF:=⟨99,false,zc Tryz.f99.eq_1,[.cell 5 true 4,.tmp 5]⟩
abbrev cf100:CF:=⟨100,false,zc Tryz.f100.eq_1,[.tmp 4]⟩
abbrev q101:=bG Tryz.f101.eq_1
abbrev l101_0:CC:=.seq (cQ (z q101 1) (.cond (.t 9) .skip (.exit 0))) (.seq (.block 1 (cQ (z q101 2) (cQ [iM 23 7] (cI 23 (cQ (z q101 4) .ret))))) (.af (z q101 5)))
abbrev cf101:CF:=⟨101,false,(cQ (z q101 0) (.seq (.block 0 (.loop l101_0)) (cQ (z q101 6) .ret))),[.cell 5 true 4,.tmp 5]⟩
abbrev q106:=bG Tryz.f106.eq_1
abbrev r106_0:List CI:=(z q106 0)
abbrev r106_1:List CI:=(z q106 1)
abbrev r106_2:List CI:=(z q106 2)
abbrev r106_3:List CI:=(z q106 3)
abbrev r106_4:List CI:=(z q106 4)
abbrev r106_5:List CI:=(z q106 5)
abbrev r106_6:List CI:=(z q106 6)
abbrev r106_7:List CI:=(z q106 7)
abbrev r106_8:List CI:=(z q106 8)
abbrev r106_9:List CI:=(z q106 9)
abbrev r106_10:List CI:=(z q106 10)
abbrev r106_11:List CI:=(z q106 11)
abbrev r106_12:List CI:=(z q106 12)
abbrev r106_13:List CI:=(z q106 13)
abbrev r106_14:List CI:=(z q106 14)
abbrev r106_15:List CI:=(z q106 15)
abbrev Xw:CC:=.seq (cQ (z q106 21) (cI 77 (cQ (z q106 22) .ret))) (cQ (z q106 23) (.seq (cQ (z q106 24) (cI 98 (cQ (z q106 25) .ret))) (cQ (z q106 26) .ret)))
abbrev MH:CC:=.seq (cQ (z q106 16) (cI 59 (cQ (z q106 17) .ret))) (cQ (z q106 18) (.seq (cQ (z q106 19) (cI 75 (cQ (z q106 20) .ret))) Xw))
abbrev QN:CC:=.seq (cQ r106_11 (cI 45 (cQ r106_12 .ret))) (cQ r106_13 (.seq (cQ r106_14 (cI 57 (cQ r106_15 .ret))) MH))
abbrev ae':CC:=cQ r106_0 (cQ r106_1 (.seq (cQ r106_2 (cI 16 (cQ r106_3 .ret))) (cQ r106_4 (cQ r106_5 (.seq (cQ r106_6 (cI 23 (cQ r106_7 (cQ r106_8 .ret)))) (cQ r106_9 (cQ r106_10 QN)))))))
abbrev cf106:CF:=⟨106,false,ae',[.tmp 2,.tmp 3]⟩
abbrev q108:=bG Tryz.f108.eq_1
abbrev r108_8:List CI:=(z q108 8)
abbrev cf108:CF:=⟨108,false,(cQ (z q108 0) (.seq (cQ (z q108 1) (cI 12 (cQ (z q108 2) .ret))) (.seq (cQ (z q108 3) (cI 21 (cQ (z q108 4) .ret))) (.seq (cQ [iM 27 1,iF1 28 133 27,iM 26 28,iX 29 26 0,iX 30 26 1,iC 5 (.FD 192 1 256 (List.replicate 256 [(.bool false)])),iS 256 5 29,iM 6 30] (cQ [iM 31 6] (cI 31 (cQ (z q108 7) .ret)))) (cQ r108_8 .ret))))),[.tmp 4]⟩
abbrev cf109:CF:=⟨109,false,zc Tryz.f109.eq_1,[.tmp 0]⟩
abbrev cf110:CF:=⟨110,false,zc Tryz.f110.eq_1,[.tmp 2]⟩
abbrev cf111:CF:=⟨111,false,zc Tryz.f111.eq_1,[.tmp 2]⟩
abbrev cf112:CF:=⟨112,false,zc Tryz.f112.eq_1,[.tmp 6,.tmp 7]⟩
abbrev q113:=bG Tryz.f113.eq_1
abbrev Xx:CC:=cQ (z q113 12) .ret
abbrev QO:CC:=.seq (cQ (z q113 10) (cI 50 (.af (z q113 11)))) Xx
abbrev QS:CC:=cQ (z q113 7) (.seq (cQ (z q113 8) (cI 34 (cQ (z q113 9) .ret))) QO)
abbrev QT:CC:=cQ (z q113 4) (.seq (cQ (z q113 5) (cI 25 (cQ (z q113 6) .ret))) QS)
abbrev cf113:CF:=⟨113,false,(cQ (z q113 0) (cQ (z q113 1) (.seq (cQ (z q113 2) (cI 21 (cQ (z q113 3) .ret))) QT))),[.tmp 2]⟩
abbrev cf114:CF:=⟨114,false,zc Tryz.f114.eq_1,[.tmp 4,.tmp 5]⟩
abbrev q115:=bG Tryz.f115.eq_1
abbrev cf115:CF:=⟨115,false,(cQ (z q115 0) (.seq (.aR (bB q115 1 [0,1,2,103,4,5,6,7,108,109,210,11])) .ret)),[.tmp 2]⟩
abbrev q116:=bG Tryz.f116.eq_1
abbrev cf116:CF:=⟨116,false,(cQ (z q116 0) (.seq (.block 0 (cQ (z q116 1) (.cond (.t 6) .skip (cQ (z q116 2) (.cond (.t 9) (cQ (z q116 3) .ret) (cQ (z q116 4) (.cond (.t 13) (cQ (z q116 5) .ret) (cQ (z q116 6) (.cond (.t 17) (cQ (z q116 7) .ret) (cQ (z q116 8) (cI 28 (.seq (.aR (bB q116 9 [0,1,3,4,202,805,6,7])) (cQ (z q116 10) (cI 48 (cQ (z q116 11) .ret))))))))))))))) (cQ (z q116 12) .ret))),[.tmp 2,.tmp 3]⟩
abbrev cf117:CF:=⟨117,false,zc Tryz.f117.eq_1,[.tmp 4]⟩
abbrev q118:=bG Tryz.f118.eq_1
abbrev r118_4:List CI:=(z q118 4)
abbrev r118_5:List CI:=(z q118 5)
abbrev r118_6:List CI:=(z q118 6)
abbrev r118_7:List DI:=(bB q118 7 [0,101,2,3,4,6,7,205,808,9,10,11,12])
abbrev r118_8:List CI:=(z q118 8)
abbrev l118_0:CC:=.seq (.seq (.aR (bB q118 9 [0,101,2,3,4,6,7,10,11,13,14,205,808,9,1412,2015,16,17,18,19,20])) (.cond (.t 62) .skip (.exit 2))) (.block 3 (.af (z q118 10)))
abbrev Xy:CC:=cQ r118_4 (.seq (cQ r118_5 (cI 24 (cQ r118_6 (.seq (.aR r118_7) (cI 39 (cQ r118_8 (.block 2 (.loop l118_0)))))))) (.exit 1))
abbrev QU:CC:=cQ [iM 75 5] (.block 4 (cQ (z q118 15) (.cond (.t 76) (.seq (.seq (.aR (bB q118 16 [0,10901,2,3,4,5,6,10907,8,9,10,11,10912,13,14,15,16])) (cI 94 (cQ (z q118 17) .ret))) (.af (z q118 18))) (cQ (z q118 19) (.cond (.t 97) (.seq (.seq (.aR (bB q118 20 [0,16901,2,3,4,5,6,16907,8,9,10,11,16912,13,14,15,16,17,18,19,20,21,22,23,24,25,26])) (cI 125 (cQ (z q118 21) .ret))) (.af (z q118 22))) (cQ (z q118 23) (.cond (.t 128) (.seq (.seq (.aR (bB q118 24 [0,22901,2,3,4,5,6,22907,8,9,10,11,22912,13,14,15,16,17,18,19,20,21,22,23,24,25,26,27,28,29,30,31,32,33,34,35,36])) (cI 166 (cQ (z q118 25) .ret))) (.af (z q118 26))) (cQ (z q118 27) .ret))))))))
abbrev MI:CC:=cQ (z q118 11) (cQ (z q118 12) (cQ (z q118 13) QU))
abbrev QV:CC:=.seq (cQ (z q118 1) (.cond (.t 9) .skip (.exit 0))) (.block 1 (cQ (z q118 2) (.seq (cQ (z q118 3) (cI 13 Xy)) MI)))
abbrev l118_1:CC:=QV
abbrev cf118:CF:=⟨118,false,(cQ (z q118 0) (.seq (.block 0 (.loop l118_1)) (cQ [iB 2 true] .ret))),[.tmp 2]⟩
abbrev cf119:CF:=⟨119,false,zc Tryz.f119.eq_1,[]⟩
abbrev q120:=bG Tryz.f120.eq_1
abbrev r120_0:List CI:=(z q120 0)
abbrev r120_1:List DI:=(bB q120 1 [1300,101,1303,202,904,1405,6,2207,2308])
abbrev r120_2:List CI:=(z q120 2)
abbrev r120_3:List CI:=(z q120 3)
abbrev l120_0:CC:=.seq (.seq (.af r120_0) (.cond (.t 9) .skip (.exit 0))) (.block 1 (.seq (.aR r120_1) (.seq (.seq (.af r120_2) (.cond (.t 20) .ret .skip)) (.af r120_3))))
abbrev cf120:CF:=⟨120,false,(.block 0 (.loop l120_0)),[]⟩
abbrev cf121:CF:=⟨121,false,zc Tryz.f121.eq_1,[.cell 6 true 2]⟩
abbrev cf122:CF:=⟨122,false,zc Tryz.f122.eq_1,[]⟩
abbrev cf123:CF:=⟨123,false,zc Tryz.f123.eq_1,[]⟩
abbrev q124:=bG Tryz.f124.eq_1
abbrev r124_23:List CI:=(z q124 23)
abbrev cf124:CF:=⟨124,false,(.seq (.af (z q124 0)) (.seq (.af (z q124 1)) (.seq (.block 0 (.seq (.af (z q124 2)) (.cond (.t 9) (.seq (.af (z q124 3)) .ret) (.seq (.af (z q124 4)) (.cond (.t 15) (.seq (.af (z q124 5)) .ret) (.seq (.af (z q124 6)) (.cond (.t 21) (.seq (.af (z q124 7)) .ret) (.seq (.af (z q124 8)) (.cond (.t 27) (.seq (.af (z q124 9)) .ret) (.seq (.af (z q124 10)) (.cond (.t 33) (.seq (.af (z q124 11)) .ret) (.seq (.af (z q124 12)) (.cond (.t 39) (.seq (.af (z q124 13)) .ret) (.seq (.af (z q124 14)) (.cond (.t 45) (.seq (.seq (.af (z q124 15)) (.cond (.t 56) (.seq (.af (z q124 16)) .ret) .skip)) (.seq (.af (z q124 17)) (.seq (.af (z q124 18)) .ret))) .skip))))))))))))))) (.seq (.af (z q124 19)) (.seq (.seq (.af (z q124 20)) (.cond (.t 81) (.seq (.af (z q124 21)) (.seq (.af (z q124 22)) .ret)) .skip)) (.seq (.af r124_23) .ret)))))),[.cell 6 true 2]⟩
abbrev q125:=bG Tryz.f125.eq_1
abbrev Xz:CC:=cQ (z q125 20) (cQ (z q125 21) (cQ (z q125 22) (cQ (z q125 23) (cQ (z q125 24) (.cond (.t 125) (cQ (z q125 25) (cQ (z q125 26) (.af (z q125 27)))) (cQ (z q125 28) (cQ (z q125 29) (.af (z q125 30)))))))))
abbrev QW:CC:=.seq (.seq (.aR (bB q125 17 [0,1,2,3,4,5,6,7,108,9,10,11,112,213,14,15,16])) (cI 97 (cQ (z q125 18) (cQ (z q125 19) (.exit 1))))) Xz
abbrev QX:CC:=.seq (cQ (z q125 15) (cI 75 (cQ (z q125 16) (cI 80 .ret)))) QW
abbrev QY:CC:=cQ (z q125 10) (.seq (cQ (z q125 11) (cI 56 (cQ (z q125 12) (cQ (z q125 13) (.af [iK 14 1]))))) QX)
abbrev QZ:CC:=.block 1 (cQ (z q125 2) (.seq (cQ (z q125 3) (cI 25 (cQ (z q125 4) .ret))) (.seq (cQ (z q125 5) (cI 32 (cQ (z q125 6) .ret))) (.seq (cQ (z q125 7) (cI 39 (cQ (z q125 8) (.af (z q125 9))))) QY))))
abbrev l125_0:CC:=QZ
abbrev cf125:CF:=⟨125,false,(cQ (z q125 0) (cQ (z q125 1) (.block 0 (.loop l125_0)))),[]⟩
abbrev cf126:CF:=⟨126,false,zc Tryz.f126.eq_1,[.tmp 2]⟩
abbrev q127:=bG Tryz.f127.eq_1
abbrev l127_0:CC:=cQ (z q127 2) (.seq (.cond (.t 9) .skip (.exit 0)) (.seq (.block 1 (cQ (z q127 3) (cQ (z q127 4) (cI 16 (cQ (z q127 5) .ret))))) (.af (z q127 6))))
abbrev cf127:CF:=⟨127,false,(cQ [iK 4 0] (.seq (cQ (z q127 1) (.block 0 (.loop l127_0))) (cQ (z q127 7) .ret))),[.tmp 4]⟩
abbrev cf128:CF:=⟨128,false,zc Tryz.f128.eq_1,[.tmp 3]⟩
abbrev q133:=bG Tryz.f133.eq_1
abbrev r133_8:List CI:=(z q133 8)
abbrev l133_0:CC:=.seq (cQ (z q133 2) (.cond (.t 9) .skip (.exit 0))) (.seq (.block 1 (cQ (z q133 3) (.seq (cQ (z q133 4) (cI 16 (cQ (z q133 5) .ret))) (.af (z q133 6))))) (.af (z q133 7)))
abbrev cf133:CF:=⟨133,false,(cQ [iC 2 (.FD 192 1 256 (List.replicate 256 [(.bool false)])),iB 3 false] (.seq (cQ [iK 4 0] (.block 0 (.loop l133_0))) (cQ r133_8 .ret))),[.cell 256 true 2,.tmp 3]⟩
abbrev q134:=bG Tryz.f134.eq_1
abbrev r134_4:List CI:=(z q134 4)
abbrev l134_0:CC:=.seq (cQ (z q134 1) (.cond (.t 7) .skip (.exit 0))) (.block 1 (.seq (cQ (z q134 2) (cI 12 (.exit 0))) (.af (z q134 3))))
abbrev cf134:CF:=⟨134,false,(cQ (z q134 0) (.seq (.block 0 (.loop l134_0)) (cQ r134_4 .ret))),[.tmp 4]⟩
abbrev q136:=bG Tryz.f136.eq_1
abbrev l136_0:CC:=.seq (cQ (z q136 2) (.cond (.t 8) .skip (.exit 0))) (.block 1 (.seq (cQ (z q136 3) (.block 2 (cQ (z q136 4) (cI 12 (.exit 0))))) (.af (z q136 5))))
abbrev cf136:CF:=⟨136,false,(cQ [iK 2 0] (.scope (cQ [iK 3 0] (.seq (.label 0) (.seq (.block 0 (.loop l136_0)) (cQ (z q136 6) .ret)))))),[.tmp 2]⟩
abbrev cf137:CF:=⟨137,false,zc Tryz.f137.eq_1,[.tmp 6,.tmp 7]⟩
abbrev cf138:CF:=⟨138,false,zc Tryz.f138.eq_1,[.tmp 10]⟩
abbrev cf139:CF:=⟨139,false,zc Tryz.f139.eq_1,[.tmp 4,.tmp 5]⟩
abbrev cf140:CF:=⟨140,false,zc Tryz.f140.eq_1,[]⟩
abbrev q141:=bG Tryz.f141.eq_1
abbrev cf141:CF:=⟨141,false,(cQ (z q141 0) (.seq (.cond (.k (.bool false)) (.seq (.aR (bB q141 1 [0,1,2,3,4,5,6,7,8,9,10,11,12,13,14,15,16,17,18])) .ret) .skip) (.seq (.aR (bB q141 2 [0,1,2,3,4,5,6,7,8,9,10,11,12,13,14,15,16,17,18,19,20,21,22,23,24,25,26,27,28,29,30,31,32,33,34,35,36,37,38])) .ret))),[.tmp 2]⟩
abbrev q142:=bG Tryz.f142.eq_1
abbrev r142_9:List CI:=(z q142 9)
abbrev cf142:CF:=⟨142,false,(.seq (.af (z q142 0)) (.seq (.af (z q142 1)) (.seq (.af (z q142 2)) (.seq (.af (z q142 3)) (.seq (.af (z q142 4)) (.seq (.seq (.af (z q142 5)) (.cond (.t 17) (.seq (.af (z q142 6)) (.cond (.t 20) (.af (z q142 7)) (.af (z q142 8)))) .skip)) (.seq (.af r142_9) .ret))))))),[.cell 6 true 2]⟩
abbrev q143:=bG Tryz.f143.eq_1
abbrev r143_5:List CI:=(z q143 5)
abbrev r143_6:List CI:=(z q143 6)
abbrev cf143:CF:=⟨143,false,(.seq (.af (z q143 0)) (.seq (.af (z q143 1)) (.seq (.af (z q143 2)) (.seq (.seq (.af (z q143 3)) (.cond (.t 14) (.af (z q143 4)) .skip)) (.seq (.af r143_5) (.seq (.af r143_6) .ret)))))),[.cell 6 true 2]⟩
abbrev q144:=bG Tryz.f144.eq_1
abbrev r144_6:List CI:=(z q144 6)
abbrev r144_7:List CI:=(z q144 7)
abbrev r144_8:List CI:=(z q144 8)
abbrev cf144:CF:=⟨144,false,(.seq (.af (z q144 0)) (.seq (.af (z q144 1)) (.seq (.af (z q144 2)) (.seq (.af (z q144 3)) (.seq (.seq (.af (z q144 4)) (.cond (.t 15) (.af (z q144 5)) .skip)) (.seq (.seq (.af r144_6) (.cond (.t 19) (.af r144_7) .skip)) (.seq (.af r144_8) .ret))))))),[.cell 6 true 2]⟩
abbrev cf145:CF:=⟨145,false,zc Tryz.f145.eq_1,[.cell 6 true 4]⟩
abbrev cf146:CF:=⟨146,false,zc Tryz.f146.eq_1,[.tmp 4]⟩
abbrev q147:=bG Tryz.f147.eq_1
abbrev r147_2:List CI:=(z q147 2)
abbrev r147_3:List CI:=(z q147 3)
abbrev r147_4:List CI:=(z q147 4)
abbrev r147_5:List CI:=(z q147 5)
abbrev r147_6:List CI:=(z q147 6)
abbrev l147_0:CC:=.seq (cQ r147_2 (.cond (.t 14) .skip (.exit 0))) (.block 1 (cQ r147_3 (cQ r147_4 (.af r147_5))))
abbrev cf147:CF:=⟨147,false,(cQ (z q147 0) (cQ (z q147 1) (.seq (.block 0 (.loop l147_0)) (cQ r147_6 .ret)))),[.cell 6 true 4]⟩
abbrev q148:=bG Tryz.f148.eq_1
abbrev r148_2:List CI:=(z q148 2)
abbrev r148_3:List CI:=(z q148 3)
abbrev r148_4:List CI:=(z q148 4)
abbrev r148_5:=[iK 5 26]
abbrev r148_6:List CI:=(z q148 6)
abbrev r148_7:=[iK 5 9]
abbrev r148_8:List CI:=(z q148 8)
abbrev r148_9:List CI:=(z q148 9)
abbrev r148_10:List CI:=(z q148 10)
abbrev r148_11:List CI:=(z q148 11)
abbrev r148_12:List CI:=(z q148 12)
abbrev r148_13:List CI:=(z q148 13)
abbrev r148_14:List DI:=(bB q148 14 [0,1,1302,3,104,6,205,807,1408,2009])
abbrev r148_15:List CI:=(z q148 15)
abbrev l148_0:CC:=.block 1 (.block 2 (.seq (.af r148_2) (.cond (.t 11) (.seq (.af r148_3) (.seq (.af r148_4) (.seq (.af r148_5) (.seq (.seq (.af r148_6) (.cond (.t 33) (.af r148_7) .skip)) (.seq (.af r148_8) (.seq (.af r148_9) (.cond (.t 46) (.af r148_10) .skip))))))) (.seq (.af r148_11) (.cond (.t 50) (.seq (.af r148_12) (.seq (.af r148_13) (.aR r148_14))) (.seq (.af r148_15) .ret))))))
abbrev cf148:CF:=⟨148,false,(.seq (.af (z q148 0)) (.seq (.af (z q148 1)) (.block 0 (.loop l148_0)))),[.cell 6 true 2]⟩
abbrev q149:=bG Tryz.f149.eq_1
abbrev r149_5:List CI:=(z q149 5)
abbrev r149_6:List CI:=(z q149 6)
abbrev r149_7:List CI:=(z q149 7)
abbrev r149_8:List CI:=(z q149 8)
abbrev r149_9:List CI:=(z q149 9)
abbrev r149_10:List CI:=(z q149 10)
abbrev cf149:CF:=⟨149,false,(.seq (.af (z q149 0)) (.seq (.af (z q149 1)) (.seq (.block 0 (.seq (.af (z q149 2)) (.cond (.t 12) (.seq (.af (z q149 3)) (.seq (.af (z q149 4)) .ret)) (.seq (.af r149_5) (.cond (.t 35) (.seq (.af r149_6) (.seq (.af r149_7) .ret)) (.seq (.af r149_8) (.cond (.t 53) (.af r149_9) .skip))))))) (.seq (.af r149_10) .ret)))),[.cell 6 true 6]⟩
abbrev q150:=bG Tryz.f150.eq_1
abbrev l150_0:CC:=.seq (.seq (.aR (bB q150 3 [0,1,2,3,4,5,6,7,108,9,10,11,12,113,214,15,16])) (.cond (.t 34) .skip (.exit 2))) (.seq (.block 3 (.aR (bB q150 4 [0,1,2,3,4,5,6,7,8,109,10,11,12,113,14,215,16,817]))) (.af (z q150 5)))
abbrev l150_1:CC:=.seq (cQ (z q150 1) (.cond (.t 14) .skip (.exit 0))) (.seq (.block 1 (cQ (z q150 2) (.block 2 (.loop l150_0)))) (.af (z q150 6)))
abbrev cf150:CF:=⟨150,false,(cQ (z q150 0) (.block 0 (.loop l150_1))),[]⟩
abbrev q151:=bG Tryz.f151.eq_1
abbrev l151_1:CC:=.seq (cQ (z q151 4) (.cond (.t 21) .skip (.exit 0))) (.seq (.block 1 (.af (z q151 5))) (.af (z q151 6)))
abbrev l151_0:CC:=.seq (cQ (z q151 8) (.cond (.t 33) .skip (.exit 2))) (.seq (.block 3 (.seq (.aR (bB q151 9 [0,1,2,3,4,5,6,7,8,9,10,111,12,13,14,115,16,217,18,819])) (.af (z q151 10)))) (.af (z q151 11)))
abbrev cf151:CF:=⟨151,false,(cQ (z q151 0) (cQ [iK 9 0] (cQ (z q151 2) (.seq (cQ (z q151 3) (.block 0 (.loop l151_1))) (cQ (z q151 7) (.block 2 (.loop l151_0))))))),[]⟩
abbrev q152:=bG Tryz.f152.eq_1
abbrev r152_9:List DI:=(bB q152 9 [0,1,2,3,4,5,6,7,8,9,10,111,12,13,14,115,16,217,18,819])
abbrev r152_10:List CI:=(z q152 10)
abbrev l152_0:CC:=.seq (cQ (z q152 5) (.cond (.t 35) .skip (.exit 0))) (.seq (.block 1 (cQ (z q152 6) (.seq (cQ (z q152 7) (cI 45 (.af (z q152 8)))) (.aR r152_9)))) (.af r152_10))
abbrev cf152:CF:=⟨152,false,(cQ (z q152 0) (cQ (z q152 1) (cI 17 (cQ (z q152 2) (cQ (z q152 3) (cQ (z q152 4) (.block 0 (.loop l152_0)))))))),[]⟩
abbrev q153:=bG Tryz.f153.eq_1
abbrev XA:CC:=.af (z q153 11)
abbrev XB:CC:=cQ [iL 55 11] (.block 0 (cQ (z q153 13) (.cond (.t 57) (cQ (z q153 14) .ret) (cQ (z q153 15) (.cond (.t 60) (cQ (z q153 16) .ret) (cQ (z q153 17) .ret))))))
abbrev cf153:CF:=⟨153,false,(cQ (z q153 0) (cQ (z q153 1) (cQ (z q153 2) (cQ (z q153 3) (cQ (z q153 4) (cQ (z q153 5) (.seq (cQ (z q153 6) (cI 34 (.seq (cQ (z q153 7) (cI 36 (cQ (z q153 8) (cQ (z q153 9) (.af (z q153 10)))))) XA))) XB))))))),[.tmp 8,.tmp 9]⟩
abbrev q154:=bG Tryz.f154.eq_1
abbrev l154_0:CC:=.seq (cQ (z q154 2) (.cond (.t 15) .skip (.exit 0))) (.block 1 (.seq (.aR (bB q154 3 [0,1,2,3,4,5,6,107,8,9,10,111,12,213,14,815])) (cQ (z q154 4) (.af (z q154 5)))))
abbrev cf154:CF:=⟨154,false,(cQ (z q154 0) (cQ (z q154 1) (.block 0 (.loop l154_0)))),[]⟩
abbrev q155:=bG Tryz.f155.eq_1
abbrev r155_23:List CI:=(z q155 23)
abbrev l155_2:CC:=.seq (.seq (.aR (bB q155 4 [0,1,2,3,4,5,6,7,108,9,10,11,12,113,214,15,16,17])) (.cond (.t 36) .skip (.exit 2))) (.block 3 (.af (z q155 5)))
abbrev l155_1:CC:=.seq (cQ (z q155 13) (.cond (.t 69) .skip (.exit 4))) (.seq (.block 5 (.seq (.seq (.aR (bB q155 14 [0,1,2,3,104,5,6,7,8,109,210,11,12])) (cI 84 (.exit 4))) (.aR (bB q155 15 [0,1,2,3,4,5,6,7,8,109,10,11,12,113,14,215,16,817])))) (.af (z q155 16)))
abbrev l155_0:CC:=.seq (cQ (z q155 19) (.cond (.t 109) .skip (.exit 6))) (.seq (.block 7 (.seq (.seq (.aR (bB q155 20 [0,1,2,3,104,5,6,7,8,109,210,11,12])) (cI 124 (.exit 6))) (.aR (bB q155 21 [0,1,2,3,4,5,6,7,8,109,10,11,12,113,14,215,16,817])))) (.af (z q155 22)))
abbrev Q0:CC:=cQ (z q155 17) (cI 104 (cQ (z q155 18) (.block 6 (.loop l155_0))))
abbrev Q4:CC:=.seq (cQ (z q155 3) (.cond (.t 16) .skip (.exit 0))) (.seq (.block 1 (.seq (.block 2 (.loop l155_2)) (.seq (cQ (z q155 6) (cI 41 (cQ (z q155 7) .ret))) (.seq (cQ (z q155 8) (cI 45 (cQ (z q155 9) .ret))) (.seq (.aR (bB q155 10 [0,1,2,3,4,5,6,7,8,109,10,11,12,113,14,215,16,817])) (.seq (cQ (z q155 11) (cI 65 (cQ (z q155 12) (.block 4 (.loop l155_1))))) Q0)))))) (.af r155_23))
abbrev l155_3:CC:=Q4
abbrev cf155:CF:=⟨155,false,(cQ (z q155 0) (cQ (z q155 1) (.seq (cQ [iK 10 0] (.block 0 (.loop l155_3))) (cQ (z q155 24) .ret)))),[.tmp 8]⟩
abbrev q156:=bG Tryz.f156.eq_1
abbrev l156_1:CC:=.seq (.seq (.aR (bB q156 3 [0,1,2,3,4,5,6,7,108,9,10,11,112,213,14,15,16])) (.cond (.t 47) .skip (.exit 2))) (.block 3 (.af (z q156 4)))
abbrev l156_0:CC:=.seq (.seq (.aR (bB q156 5 [0,1,2,3,4,5,6,7,108,9,10,11,112,213,14,15])) (.cond (.t 65) .skip (.exit 4))) (.block 5 (.af (z q156 6)))
abbrev XC:CC:=.seq (cQ (z q156 7) (cI 70 (.exit 0))) (.seq (.aR (bB q156 8 [0,1,2,3,4,5,6,107,8,9,10,111,12,213,14,815])) (cQ (z q156 9) (.af (z q156 10))))
abbrev l156_2:CC:=.block 1 (.seq (.block 2 (.loop l156_1)) (.seq (.block 4 (.loop l156_0)) XC))
abbrev cf156:CF:=⟨156,false,(cQ [iK 10 0] (.seq (.aR (bB q156 1 [0,1,2,3,4,5,6,107,8,9,10,111,12,213,14,815])) (cQ (z q156 2) (.seq (.block 0 (.loop l156_2)) (cQ (z q156 11) .ret))))),[.tmp 10]⟩
abbrev q157:=bG Tryz.f157.eq_1
abbrev l157_4:CC:=.seq (.seq (.aR (bB q157 3 [0,1,2,3,4,5,6,7,108,9,10,11,112,213,14,15])) (.cond (.t 47) .skip (.exit 0))) (.block 1 (.af (z q157 4)))
abbrev l157_3:CC:=.seq (.seq (.aR (bB q157 5 [0,1,2,3,4,5,6,7,108,9,10,11,112,213,14,15,16])) (.cond (.t 66) .skip (.exit 2))) (.block 3 (.af (z q157 6)))
abbrev l157_1:CC:=.seq (.seq (.aR (bB q157 13 [0,1,2,3,4,5,6,7,108,9,10,11,112,213,14,15])) (.cond (.t 120) .skip (.exit 6))) (.block 7 (.af (z q157 14)))
abbrev l157_0:CC:=.seq (.seq (.aR (bB q157 15 [0,1,2,3,4,5,6,7,108,9,10,11,112,213,14,15,16])) (.cond (.t 139) .skip (.exit 8))) (.block 9 (.af (z q157 16)))
abbrev XD:CC:=.seq (cQ (z q157 17) (cI 144 (.exit 4))) (.seq (.aR (bB q157 18 [0,1,2,3,4,5,6,107,8,9,10,111,12,213,14,815])) (cQ (z q157 19) (.af (z q157 20))))
abbrev l157_2:CC:=.block 5 (.seq (.block 6 (.loop l157_1)) (.seq (.block 8 (.loop l157_0)) XD))
abbrev cf157:CF:=⟨157,false,(cQ (z q157 0) (.seq (.aR (bB q157 1 [0,1,2,3,4,5,6,107,8,9,10,111,12,213,14,815])) (cQ (z q157 2) (.seq (.block 0 (.loop l157_4)) (.seq (.block 2 (.loop l157_3)) (.seq (cQ (z q157 7) (cI 71 (.seq (.aR (bB q157 8 [0,1,2,3,4,5,6,107,8,9,10,111,12,213,14,815])) (cQ (z q157 9) .ret)))) (.seq (.aR (bB q157 10 [0,1,2,3,4,5,6,107,8,9,10,111,12,213,14,815])) (cQ (z q157 11) (cQ (z q157 12) (.seq (.block 4 (.loop l157_2)) (.seq (.aR (bB q157 21 [0,1,2,3,4,5,6,107,8,9,10,111,12,213,14,815])) (cQ (z q157 22) .ret)))))))))))),[.tmp 10,.tmp 11]⟩
abbrev q158:=bG Tryz.f158.eq_1
abbrev cf158:CF:=⟨158,false,(cQ [iK 2 0] (.seq (cQ (z q158 1) (cI 4 (cQ (z q158 2) (.af [iK 2 16])))) (.seq (cQ (z q158 4) (cI 8 (cQ (z q158 5) (.af (z q158 6))))) (cQ [iM 13 2,iM 14 0,iC 15 (ME .u8 14),iC 16 (.AG (.k (S [0,1,2,2,3,3,3,3,4,4,4,4,4,4,4,4,5,5,5,5,5,5,5,5,5,5,5,5,5,5,5,5,6,6,6,6,6,6,6,6,6,6,6,6,6,6,6,6,6,6,6,6,6,6,6,6,6,6,6,6,6,6,6,6,7,7,7,7,7,7,7,7,7,7,7,7,7,7,7,7,7,7,7,7,7,7,7,7,7,7,7,7,7,7,7,7,7,7,7,7,7,7,7,7,7,7,7,7,7,7,7,7,7,7,7,7,7,7,7,7,7,7,7,7,7,7,7,7,8,8,8,8,8,8,8,8,8,8,8,8,8,8,8,8,8,8,8,8,8,8,8,8,8,8,8,8,8,8,8,8,8,8,8,8,8,8,8,8,8,8,8,8,8,8,8,8,8,8,8,8,8,8,8,8,8,8,8,8,8,8,8,8,8,8,8,8,8,8,8,8,8,8,8,8,8,8,8,8,8,8,8,8,8,8,8,8,8,8,8,8,8,8,8,8,8,8,8,8,8,8,8,8,8,8,8,8,8,8,8,8,8,8,8,8,8,8,8,8,8,8,8,8,8,8,8,8])) (.t 15)),iC 17 (ME .i64 16),iC 18 (oA 13 17),iM 2 18] .ret)))),[.tmp 2]⟩
abbrev q159:=bG Tryz.f159.eq_1
abbrev XE:CC:=cQ [iM 19 2,iM 20 0,iC 21 (ME .u8 20),iC 22 (.AG (.k (S [0,1,2,2,3,3,3,3,4,4,4,4,4,4,4,4,5,5,5,5,5,5,5,5,5,5,5,5,5,5,5,5,6,6,6,6,6,6,6,6,6,6,6,6,6,6,6,6,6,6,6,6,6,6,6,6,6,6,6,6,6,6,6,6,7,7,7,7,7,7,7,7,7,7,7,7,7,7,7,7,7,7,7,7,7,7,7,7,7,7,7,7,7,7,7,7,7,7,7,7,7,7,7,7,7,7,7,7,7,7,7,7,7,7,7,7,7,7,7,7,7,7,7,7,7,7,7,7,8,8,8,8,8,8,8,8,8,8,8,8,8,8,8,8,8,8,8,8,8,8,8,8,8,8,8,8,8,8,8,8,8,8,8,8,8,8,8,8,8,8,8,8,8,8,8,8,8,8,8,8,8,8,8,8,8,8,8,8,8,8,8,8,8,8,8,8,8,8,8,8,8,8,8,8,8,8,8,8,8,8,8,8,8,8,8,8,8,8,8,8,8,8,8,8,8,8,8,8,8,8,8,8,8,8,8,8,8,8,8,8,8,8,8,8,8,8,8,8,8,8,8,8,8,8,8,8])) (.t 21)),iC 23 (ME .i64 22),iC 24 (oA 19 23),iM 2 24] .ret
abbrev Q6:CC:=.seq (cQ (z q159 7) (cI 14 (cQ (z q159 8) (.af (z q159 9))))) XE
abbrev Q7:CC:=.seq (cQ (z q159 4) (cI 8 (cQ (z q159 5) (.af (z q159 6))))) Q6
abbrev cf159:CF:=⟨159,false,(cQ [iK 2 0] (.seq (cQ (z q159 1) (cI 4 (cQ (z q159 2) (.af [iK 2 32])))) Q7)),[.tmp 2]⟩
abbrev cf160:CF:=⟨160,false,zc Tryz.f160.eq_1,[.tmp 4]⟩
abbrev q162:=bG Tryz.f162.eq_1
abbrev l162_0:CC:=cQ (z q162 36) (.seq (.cond (.t 102) .skip (.exit 3)) (.seq (.block 4 (cQ (z q162 37) (cQ (z q162 38) (.seq (.block 5 (cQ (z q162 39) (.cond (.t 106) (cQ (z q162 40) (.exit 4)) (cQ (z q162 41) (.cond (.t 112) (.af (z q162 42)) (cQ (z q162 43) (.cond (.t 121) (.af (z q162 44)) (cQ (z q162 45) .ret)))))))) (.seq (cQ (z q162 46) (cI 137 (cQ (z q162 47) .ret))) (.seq (cQ (z q162 48) (cI 141 (cQ (z q162 49) .ret))) (cQ (z q162 50) (cQ (z q162 51) (.seq (cQ (z q162 52) (cI 159 (cQ (z q162 53) .ret))) (.af (z q162 54))))))))))) (.af (z q162 55))))
abbrev cf162:CF:=⟨162,false,(cQ (z q162 0) (.seq (cQ (z q162 1) (cI 19 (cQ (z q162 2) .ret))) (cQ (z q162 3) (cQ (z q162 4) (.seq (.block 0 (cQ (z q162 5) (.cond (.t 25) .skip (cQ (z q162 6) (.cond (.t 32) (cQ [iK 1 10] (cQ (z q162 8) (cI 37 (.block 1 (cQ (z q162 9) (.cond (.t 40) (cQ [iK 1 2] (.af (z q162 11))) (cQ (z q162 12) (.cond (.t 52) (cQ [iK 1 8] (.af (z q162 14))) (cQ (z q162 15) (.cond (.t 64) (cQ [iK 1 16] (.af (z q162 17))) (cQ [iK 1 8] (.af (z q162 19))))))))))))) (cQ (z q162 20) .ret)))))) (.seq (cQ (z q162 21) (.cond (.t 77) (.af [iK 2 64]) (cQ (z q162 23) (cI 83 (cQ (z q162 24) .ret))))) (cQ (z q162 25) (.seq (cQ [iM 85 1] (.block 2 (cQ (z q162 27) (.cond (.t 90) (.af (z q162 28)) (cQ (z q162 29) (.cond (.t 92) (.af (z q162 30)) (.af (z q162 31)))))))) (cQ (z q162 32) (cQ (z q162 33) (cQ (z q162 34) (.seq (cQ (z q162 35) (.block 3 (.loop l162_0))) (.seq (cQ (z q162 56) (cI 169 (cQ (z q162 57) .ret))) (cQ (z q162 58) .ret)))))))))))))),[.tmp 6,.tmp 7]⟩
abbrev q163:=bG Tryz.f163.eq_1
abbrev cf163:CF:=⟨163,false,(cQ (z q163 0) (.seq (.aR (bB q163 1 [0,1,703,202,4,805,6])) .ret)),[.tmp 4]⟩
abbrev q164:=bG Tryz.f164.eq_1
abbrev cf164:CF:=⟨164,false,(cQ (z q164 0) (.seq (.aR (bB q164 1 [0,1,703,202,4,805,6])) .ret)),[.tmp 4]⟩
abbrev cf167:CF:=⟨167,false,zc Tryz.f167.eq_1,[.tmp 4,.tmp 5,.tmp 6]⟩
abbrev cf169:CF:=⟨169,false,zc Tryz.f169.eq_1,[.cell 6 true 4]⟩
abbrev cf170:CF:=⟨170,false,zc Tryz.f170.eq_1,[.cell 6 true 2]⟩
abbrev q171:=bG Tryz.f171.eq_1
abbrev r171_6:List CI:=(z q171 6)
abbrev r171_7:List CI:=(z q171 7)
abbrev r171_8:List CI:=(z q171 8)
abbrev r171_9:List CI:=(z q171 9)
abbrev r171_10:List CI:=(z q171 10)
abbrev r171_11:List CI:=(z q171 11)
abbrev r171_12:List DI:=(bB q171 12 [100,701,1302,203,804,1405])
abbrev cf171:CF:=⟨171,false,(.seq (.af (z q171 0)) (.seq (.seq (.af (z q171 1)) (.cond (.t 9) (.seq (.af (z q171 2)) (.seq (.seq (.af (z q171 3)) (.cond (.t 16) (.seq (.aR (bB q171 4 [100,701,1302,203,804,1405])) .ret) .skip)) (.af (z q171 5)))) .skip)) (.seq (.af r171_6) (.seq (.seq (.af r171_7) (.cond (.t 28) (.af r171_8) .skip)) (.seq (.af r171_9) (.seq (.seq (.af r171_10) (.cond (.t 38) (.af r171_11) .skip)) (.seq (.aR r171_12) .ret))))))),[.cell 6 true 2,.cell 6 true 3,.cell 6 true 4]⟩
abbrev cf172:CF:=⟨172,false,zc Tryz.f172.eq_1,[.cell 6 true 2]⟩
abbrev cf173:CF:=⟨173,false,zc Tryz.f173.eq_1,[.tmp 2]⟩
abbrev q174:=bG Tryz.f174.eq_1
abbrev cf174:CF:=⟨174,false,(cQ (z q174 0) (cQ (z q174 1) (.seq (cQ (z q174 2) (cQ (z q174 3) (cI 12 (cQ (z q174 4) (.seq (cQ (z q174 5) (cI 28 (.seq (.aR (bB q174 6 [700,101,2,103,4,105,6,107,208,809,1410])) .ret))) (cQ (z q174 7) .ret)))))) (.seq (cQ (z q174 8) (cI 50 (cQ (z q174 9) (cQ (z q174 10) (cQ (z q174 11) .ret))))) (cQ (z q174 12) (cQ (z q174 13) (cQ (z q174 14) .ret))))))),[.cell 6 true 2]⟩
abbrev q175:=bG Tryz.f175.eq_1
abbrev cf175:CF:=⟨175,false,(cQ (z q175 0) (cQ (z q175 1) (cQ (z q175 2) (.seq (.aR (bB q175 3 [0,1,1302,3,104,6,205,807,1408,2009])) .ret)))),[.cell 6 true 4]⟩
abbrev cf176:CF:=⟨176,false,zc Tryz.f176.eq_1,[.tmp 2]⟩
abbrev q177:=bG Tryz.f177.eq_1
abbrev r177_1:List CI:=(z q177 1)
abbrev r177_2:List CI:=(z q177 2)
abbrev r177_3:List CI:=(z q177 3)
abbrev l177_0:CC:=.seq (cQ r177_1 (.cond (.t 5) .skip (.exit 0))) (.block 1 (.af r177_2))
abbrev cf177:CF:=⟨177,false,(cQ (z q177 0) (.seq (.block 0 (.loop l177_0)) (cQ r177_3 .ret))),[.tmp 2]⟩
abbrev cf178:CF:=⟨178,false,zc Tryz.f178.eq_1,[.tmp 2]⟩
abbrev q179:=bG Tryz.f179.eq_1
abbrev XF:CC:=.seq (.seq (.aR (bB q179 5 [0,1,2,3,4,5,106,7,8,9,10,11,112,213,14,15])) (cI 58 .ret)) (.seq (.aR (bB q179 6 [0,1,2,3,4,5,6,7,8,9,10,11,12,113,14,15,16,17,18,119,20,221,22,823])) (.af (z q179 7)))
abbrev Q9:CC:=.block 1 (cQ (z q179 1) (.seq (cQ (z q179 2) (cI 18 (.exit 0))) (.seq (.seq (.aR (bB q179 3 [0,1,2,3,4,5,6,7,8,9,10,111,12,13,14,15,16,17,118,219,20,21])) (cI 40 (.af (z q179 4)))) XF)))
abbrev l179_0:CC:=Q9
abbrev cf179:CF:=⟨179,false,(cQ (z q179 0) (.block 0 (.loop l179_0))),[]⟩
abbrev cf180:CF:=⟨180,false,zc Tryz.f180.eq_1,[.tmp 2]⟩
abbrev q181:=bG Tryz.f181.eq_1
abbrev cf181:CF:=⟨181,false,(cQ (z q181 0) (.seq (.aR (bB q181 1 [0,1,102,3,4,105,6,7,8,209])) (.seq (.aR (bB q181 2 [0,1,102,3,4,105,6,7,8,209])) (.seq (.aR (bB q181 3 [0,1,102,3,4,105,6,7,8,209])) (cQ (z q181 4) .ret))))),[.tmp 2]⟩
abbrev cf182:CF:=⟨182,false,zc Tryz.f182.eq_1,[.tmp 8]⟩
abbrev cf183:CF:=⟨183,false,zc Tryz.f183.eq_1,[.tmp 12]⟩
abbrev cf187:CF:=⟨187,false,zc Tryz.f187.eq_1,[.tmp 2]⟩
abbrev q191:=bG Tryz.f191.eq_1
abbrev XG:CC:=cQ (z q191 22) (.seq (cQ (z q191 23) (cI 107 (cQ (z q191 24) .ret))) (cQ (z q191 25) (cQ (z q191 26) (cI 121 (cQ (z q191 27) .ret)))))
abbrev Ra:CC:=.seq (cQ (z q191 18) (cI 88 (cQ (z q191 19) (cQ [iM 96 18] (cI 96 (cQ (z q191 21) .ret)))))) XG
abbrev XH:CC:=cQ [iC 23 (.alloc 270 (List.replicate 800 (.u8 0)++[(.i 0),(.i 0),(.bool false),(.bool false)]))] (.seq (cQ (z q191 29) (cI 129 (cQ (z q191 30) .ret))) (cQ (z q191 31) (cQ (z q191 32) (.seq (cQ [iM 138 25] (cI 138 (.af (z q191 34)))) (cQ (z q191 35) .ret)))))
abbrev cf191:CF:=⟨191,false,(cQ (z q191 0) (.seq (cQ (z q191 1) (cQ [iM 32 7] (cI 32 (cQ (z q191 3) .ret)))) (cQ (z q191 4) (.seq (cQ (z q191 5) (cI 46 (cQ (z q191 6) .ret))) (.seq (cQ [iM 49 12] (cI 49 (cQ (z q191 8) (cQ (z q191 9) .ret)))) (.seq (cQ (z q191 10) (cI 64 (cQ (z q191 11) (.seq (cQ (z q191 12) (cI 69 (cQ (z q191 13) .ret))) (.seq (cQ (z q191 14) (cI 75 (cQ (z q191 15) .ret))) (.seq (cQ (z q191 16) (cI 82 (cQ (z q191 17) .ret))) Ra)))))) XH)))))),[.tmp 2,.tmp 3,.tmp 4]⟩
abbrev cf192:CF:=⟨192,false,zc Tryz.f192.eq_1,[.cell 6 true 2]⟩
abbrev q193:=bG Tryz.f193.eq_1
abbrev cf193:CF:=⟨193,false,(cQ (z q193 0) (.seq (.aR (bB q193 1 [700,101,202,803,1404])) .ret)),[.cell 6 true 1]⟩
abbrev cf194:CF:=⟨194,false,zc Tryz.f194.eq_1,[.tmp 2]⟩
abbrev q195:=bG Tryz.f195.eq_1
abbrev cf195:CF:=⟨195,false,(.af (z q195 0)),[]⟩
abbrev cf196:CF:=⟨196,false,zc Tryz.f196.eq_1,[.cell 6 true 2]⟩
abbrev q197:=bG Tryz.f197.eq_1
abbrev cf197:CF:=⟨197,false,(cQ (z q197 0) (.seq (.seq (.aR (bB q197 1 [0,1,2,3,104,5,6,7,108,209,10])) (cI 22 (cQ (z q197 2) (cQ (z q197 3) .ret)))) (cQ (z q197 4) .ret))),[.tmp 10,.tmp 11]⟩
abbrev q201:=bG Tryz.f201.eq_1
abbrev r201_50:List CI:=(z q201 50)
abbrev r201_57:List CI:=(z q201 57)
abbrev r201_58:List CI:=(z q201 58)
abbrev r201_59:List CI:=(z q201 59)
abbrev r201_60:=[iK 19 1]
abbrev r201_61:List CI:=(z q201 61)
abbrev r201_62:List CI:=(z q201 62)
abbrev r201_63:List CI:=(z q201 63)
abbrev r201_64:List CI:=(z q201 64)
abbrev r201_65:List CI:=(z q201 65)
abbrev r201_66:List CI:=(z q201 66)
abbrev r201_76:List CI:=(z q201 76)
abbrev Rb:CC:=.seq (cQ (z q201 36) (.cond (.t 96) (cQ (z q201 37) (cQ (z q201 38) (.af (z q201 39)))) (cQ (z q201 40) (cI 108 (.af [iB 5 true]))))) (.exit 2)
abbrev Jq:CC:=.seq (cQ (z q201 23) (.cond (.t 60) .skip (.exit 1))) (.seq (.block 2 (.seq (cQ (z q201 24) (.block 3 (cQ (z q201 25) (.cond (.t 66) (cQ [iB 9 true] (.exit 2)) (cQ (z q201 27) (.cond (.t 70) (.seq (cQ [iM 74 13] (cI 74 (.exit 1))) (cQ (z q201 29) (cQ (z q201 30) (.exit 2)))) (cQ (z q201 31) (.cond (.t 76) (cQ (z q201 32) (.seq (cQ (z q201 33) (cI 89 (cQ (z q201 34) (.exit 2)))) (cQ (z q201 35) Rb))) (cQ (z q201 42) (cI 109 (cQ (z q201 43) (cQ (z q201 44) (.seq (cQ (z q201 45) (.cond (.t 127) (cQ (z q201 46) (cQ (z q201 47) (.af (z q201 48)))) (.af [iB 5 true]))) (.exit 2)))))))))))))) (.exit 1))) (.af r201_50))
abbrev l201_1:CC:=Jq
abbrev Rd:CC:=.seq (cQ (z q201 69) (.cond (.t 216) .skip (.exit 5))) (.seq (.block 6 (.seq (cQ (z q201 70) (cI 222 (cQ [iB 9 true] (.exit 6)))) (cQ (z q201 72) (cI 224 (.af (z q201 73)))))) (.af (z q201 74)))
abbrev l201_0:CC:=Rd
abbrev Re:CC:=.seq (cQ (z q201 67) (cI 194 .ret)) (cQ [iK 20 0] (.seq (.block 5 (.loop l201_0)) (.af (z q201 75))))
abbrev XI:CC:=.seq (cQ (z q201 77) (cI 241 (.af (z q201 78)))) (.seq (cQ (z q201 79) (cI 252 .ret)) (cQ [iB 8 true] .ret))
abbrev Rf:CC:=.seq (cQ r201_57 (.cond (.t 161) (cQ r201_58 (.seq (cQ r201_59 (cI 167 .ret)) (cQ r201_60 (.seq (cQ r201_61 (.block 4 (cQ r201_62 (.cond (.t 171) (.af r201_63) (cQ r201_64 (cI 175 (cQ r201_65 (.af r201_66)))))))) Re)))) (cQ r201_76 (cI 239 .ret)))) XI
abbrev Rg:CC:=cQ (z q201 18) (cQ (z q201 19) (cQ [iK 15 0] (cQ [iK 16 0] (cQ [iK 17 0] (.seq (.label 0) (.seq (.block 1 (.loop l201_1)) (.seq (cQ (z q201 51) (cI 140 .ret)) (.seq (cQ (z q201 52) (cI 142 (.af (z q201 53)))) (.seq (cQ (z q201 54) (cI 145 (cQ (z q201 55) (.af (z q201 56))))) Rf)))))))))
abbrev Rh:CC:=.seq (cQ (z q201 12) (cI 54 (cQ (z q201 13) (cQ [iK 11 16] (cQ (z q201 15) (cQ (z q201 16) (.af [iB 6 true]))))))) Rg
abbrev cf201:CF:=⟨201,false,(cQ (z q201 0) (.scope (cQ (z q201 1) (.seq (cQ (z q201 2) (cI 24 .ret)) (.seq (cQ (z q201 3) (.block 0 (cQ (z q201 4) (.cond (.t 28) (.af (z q201 5)) (cQ (z q201 6) (cI 32 (cQ (z q201 7) (.af (z q201 8))))))))) (cQ (z q201 9) (cQ [iK 11 19] (cQ (z q201 11) Rh)))))))),[.tmp 2,.tmp 3,.tmp 4,.tmp 5,.tmp 6,.tmp 7,.tmp 8]⟩
abbrev q207:=bG Tryz.f207.eq_1
abbrev r207_24:List DI:=(bB q207 24 [0,1,2,3,104,5,6,7,8,9,10,211])
abbrev r207_25:List CI:=(z q207 25)
abbrev r207_28:List CI:=(z q207 28)
abbrev Jr:CC:=.seq (cQ (z q207 13) (.cond (.t 37) .skip (.exit 1))) (.seq (.block 2 (.seq (.block 3 (cQ (z q207 14) (.cond (.t 40) (.exit 2) (cQ (z q207 15) (.cond (.t 45) (.seq (cQ [iM 50 6] (cI 50 .ret)) (cQ [iB 6 true] (cQ (z q207 18) (.exit 2)))) (cQ (z q207 19) (cI 58 (cQ [iB 7 true] (.seq (cQ (z q207 21) (cI 79 (cQ (z q207 22) (.exit 2)))) (.seq (cQ (z q207 23) (.cond (.t 91) (.seq (.aR r207_24) (.af r207_25)) (cQ (z q207 26) (cI 113 (.af (z q207 27)))))) (.exit 2))))))))))) (.exit 1))) (.af r207_28))
abbrev l207_1:CC:=Jr
abbrev Ri:CC:=.seq (cQ (z q207 44) (.cond (.t 193) .skip (.exit 5))) (.seq (.block 6 (.seq (cQ (z q207 45) (cI 199 (.exit 6))) (cQ (z q207 46) (cI 201 (.af (z q207 47)))))) (.af (z q207 48)))
abbrev l207_0:CC:=Ri
abbrev Rj:CC:=.seq (cQ (z q207 42) (cI 171 .ret)) (cQ [iK 9 0] (.seq (.block 5 (.loop l207_0)) (.af (z q207 49))))
abbrev XJ:CC:=.seq (cQ (z q207 50) (cI 223 .ret)) (cQ [iB 4 true] .ret)
abbrev Rk:CC:=.seq (cQ (z q207 32) (cI 138 (cQ (z q207 33) (.seq (cQ (z q207 34) (cI 144 .ret)) (cQ [iK 8 1] (.seq (cQ (z q207 36) (.block 4 (cQ (z q207 37) (.cond (.t 148) (.af (z q207 38)) (cQ (z q207 39) (cI 152 (cQ (z q207 40) (.af [iK 8 (-1)])))))))) Rj)))))) XJ
abbrev Rl:CC:=.seq (cQ (z q207 29) (cI 118 .ret)) (.seq (cQ (z q207 30) (cI 120 (.af (z q207 31)))) Rk)
abbrev cf207:CF:=⟨207,false,(cQ (z q207 0) (cQ [iK 5 0] (cQ (z q207 2) (cQ (z q207 3) (.seq (cQ (z q207 4) (cI 19 .ret)) (.seq (cQ (z q207 5) (.block 0 (cQ (z q207 6) (.cond (.t 23) (.af (z q207 7)) (cQ (z q207 8) (cI 27 (cQ (z q207 9) (.af (z q207 10))))))))) (cQ (z q207 11) (cQ (z q207 12) (.seq (.block 1 (.loop l207_1)) Rl))))))))),[.tmp 4]⟩
abbrev q208:=bG Tryz.f208.eq_1
abbrev r208_1:=[iK 6 0]
abbrev r208_2:List CI:=(z q208 2)
abbrev r208_3:List CI:=(z q208 3)
abbrev r208_4:List CI:=(z q208 4)
abbrev r208_5:List CI:=(z q208 5)
abbrev r208_6:List CI:=(z q208 6)
abbrev r208_7:List CI:=(z q208 7)
abbrev r208_8:List CI:=(z q208 8)
abbrev r208_9:List CI:=(z q208 9)
abbrev r208_10:=[iK 6 0]
abbrev r208_13:List DI:=(bB q208 13 [0,1,2,4903,4904,4905,6])
abbrev r208_15:List DI:=(bB q208 15 [5500,1,2,3,5504,5,5506,7])
abbrev r208_20:List DI:=(bB q208 20 [0,1,2,5503,4,5505,5506,7])
abbrev r208_21:=[iK 9 27]
abbrev r208_22:List DI:=(bB q208 22 [6100,1,2,3,6104,5,6,6107,8])
abbrev r208_25:List CI:=(z q208 25)
abbrev r208_26:List CI:=(z q208 26)
abbrev r208_27:List CI:=(z q208 27)
abbrev r208_28:List CI:=(z q208 28)
abbrev r208_29:List CI:=(z q208 29)
abbrev r208_30:List DI:=(bB q208 30 [0,1,2,3,8504,5,6,7,8,8509,10,11,12])
abbrev r208_36:List DI:=(bB q208 36 [0,1,2,3,8504,5,6,7,8,8509,10,11,12])
abbrev r208_37:List CI:=(z q208 37)
abbrev r208_38:List CI:=(z q208 38)
abbrev r208_39:List CI:=(z q208 39)
abbrev r208_40:List DI:=(bB q208 40 [0,1,2,7903,4,5,6,7,8,7909,10,11])
abbrev r208_41:=[iB 5 true]
abbrev r208_42:List CI:=(z q208 42)
abbrev r208_43:List DI:=(bB q208 43 [0,1,2,3,4,13905,6,7,8,9,13910,11,12,13,14,15,16,17,13918,19,20,21])
abbrev r208_44:List CI:=(z q208 44)
abbrev r208_45:List DI:=(bB q208 45 [0,1,2,3,8504,5,6,7,8,8509,10,11,12])
abbrev r208_46:List CI:=(z q208 46)
abbrev XK:CC:=cQ (z q208 16) (.af (z q208 17))
abbrev Js:CC:=.seq (cQ (z q208 11) (.cond (.t 39) .skip (.exit 0))) (.block 1 (cQ [iK 8 0] (.seq (.seq (.aR r208_13) (.cond (.t 46) (.af [iK 8 27]) (.aR r208_15))) XK)))
abbrev l208_1:CC:=Js
abbrev XL:CC:=cQ (z q208 23) (.af (z q208 24))
abbrev Jt:CC:=.seq (cQ (z q208 18) (.cond (.t 80) .skip (.exit 2))) (.block 3 (cQ [iK 9 0] (.seq (.seq (.aR r208_20) (.cond (.t 88) (.af r208_21) (.aR r208_22))) XL)))
abbrev l208_0:CC:=Jt
abbrev MJ:CC:=cQ r208_42 (.seq (.aR r208_43) (.seq (cQ r208_44 (cI 228 (.aR r208_45))) (cQ r208_46 .ret)))
abbrev XM:CC:=cQ r208_39 (.seq (.aR r208_40) (cQ r208_41 (.seq (.label 0) MJ)))
abbrev ML:CC:=.seq (cQ r208_37 (cI 180 (.af r208_38))) (.seq (.goto 0) (.seq (.label 1) XM))
abbrev Rm:CC:=cQ (z q208 31) (cQ (z q208 32) (.seq (cQ (z q208 33) (cI 155 (cQ (z q208 34) (cQ (z q208 35) (.seq (.aR r208_36) (cI 172 (.goto 1))))))) ML))
abbrev MM:CC:=.seq (.seq (.aR r208_30) (cI 138 (.goto 1))) Rm
abbrev Ju:CC:=cQ r208_1 (cQ r208_2 (.seq (cQ r208_3 (cI 16 (cQ r208_4 (cQ r208_5 (.goto 0))))) (.seq (cQ r208_6 (cI 25 (.goto 1))) (.seq (cQ r208_7 (cI 30 (cQ r208_8 (cQ r208_9 (.goto 0))))) (cQ r208_10 (.seq (.block 0 (.loop l208_1)) (.seq (.block 2 (.loop l208_0)) (cQ r208_25 (.seq (cQ r208_26 (cI 111 (cQ r208_27 (cQ r208_28 (.af r208_29))))) MM)))))))))
abbrev cf208:CF:=⟨208,false,(cQ (z q208 0) (.scope Ju)),[.tmp 4,.tmp 5]⟩
abbrev cf209:CF:=⟨209,false,zc Tryz.f209.eq_1,[.tmp 2]⟩
abbrev q211:=bG Tryz.f211.eq_1
abbrev XN:CC:=.seq (cQ (z q211 11) (cI 43 .ret)) (cQ (z q211 12) .ret)
abbrev cf211:CF:=⟨211,false,(cQ (z q211 0) (.seq (cQ (z q211 1) (cI 12 .ret)) (cQ (z q211 2) (.seq (cQ [iM 15 2] (cI 15 (.af (z q211 4)))) (.seq (.block 0 (cQ (z q211 5) (.cond (.t 18) (cQ (z q211 6) .ret) (cQ (z q211 7) (.cond (.t 22) (.seq (cQ (z q211 8) (cI 30 (cQ (z q211 9) (.af [iK 1 22])))) XN) (cQ (z q211 13) (cI 50 (cQ (z q211 14) .ret)))))))) .ret))))),[.tmp 6,.tmp 7]⟩
abbrev q212:=bG Tryz.f212.eq_1
abbrev XO:CC:=cQ (z q212 8) (cQ (z q212 9) (cQ (z q212 10) (cQ (z q212 11) (cQ (z q212 12) .ret))))
abbrev Rn:CC:=.seq (cQ (z q212 6) (cI 32 (cQ (z q212 7) .ret))) XO
abbrev Ro:CC:=cQ (z q212 3) (cQ (z q212 4) (cQ (z q212 5) Rn))
abbrev cf212:CF:=⟨212,false,(cQ (z q212 0) (cQ (z q212 1) (cQ (z q212 2) Ro))),[.tmp 6,.tmp 7]⟩
abbrev cf217:CF:=⟨217,false,zc Tryz.f217.eq_1,[.tmp 2]⟩
abbrev cf218:CF:=⟨218,false,zc Tryz.f218.eq_1,[]⟩
abbrev q219:=bG Tryz.f219.eq_1
abbrev r219_7:List DI:=(bB q219 7 [0,1,2,3,4,5,6,207,8,9])
abbrev Rp:CC:=.seq (cQ (z q219 3) (cI 30 (cQ (z q219 4) .ret))) (cQ (z q219 5) (cQ (z q219 6) (.seq (.aR r219_7) .ret)))
abbrev cf219:CF:=⟨219,false,(cQ (z q219 0) (cQ (z q219 1) (cQ (z q219 2) Rp))),[.tmp 4]⟩
abbrev cf220:CF:=⟨220,false,zc Tryz.f220.eq_1,[.tmp 2]⟩
abbrev cf221:CF:=⟨221,false,zc Tryz.f221.eq_1,[.tmp 2]⟩
abbrev cf223:CF:=⟨223,false,zc Tryz.f223.eq_1,[.tmp 2]⟩
abbrev q224:=bG Tryz.f224.eq_1
abbrev r224_10:List CI:=(z q224 10)
abbrev XP:CC:=.seq (cQ (z q224 2) (.cond (.t 14) .skip (.exit 1))) (.block 2 (cQ (z q224 3) (.af (z q224 4))))
abbrev l224_1:CC:=XP
abbrev Jv:CC:=.seq (cQ (z q224 7) (.cond (.t 27) .skip (.exit 3))) (.block 4 (cQ (z q224 8) (.af (z q224 9))))
abbrev l224_0:CC:=Jv
abbrev cf224:CF:=⟨224,false,(.block 0 (cQ (z q224 0) (.cond (.t 4) .skip (cQ (z q224 1) (.cond (.t 10) (.seq (.block 1 (.loop l224_1)) (.af (z q224 5))) (cQ (z q224 6) (cI 23 (.seq (.block 3 (.loop l224_0)) (.af r224_10))))))))),[]⟩
abbrev q225:=bG Tryz.f225.eq_1
abbrev MN:CC:=.seq (cQ (z q225 6) (.cond (.t 23) .skip (.exit 0))) (.seq (.block 1 (.af (z q225 7))) (.af (z q225 8)))
abbrev l225_1:CC:=MN
abbrev MO:CC:=.seq (cQ (z q225 9) (.cond (.t 42) .skip (.exit 2))) (.seq (.block 3 (.af (z q225 10))) (.af (z q225 11)))
abbrev l225_0:CC:=MO
abbrev XQ:CC:=.seq (cQ (z q225 12) (cI 52 (.af (z q225 13)))) (cQ (z q225 14) .ret)
abbrev cf225:CF:=⟨225,false,(cQ (z q225 0) (.seq (cQ (z q225 1) (cI 9 (cQ (z q225 2) .ret))) (cQ [iK 3 0] (cQ (z q225 4) (.seq (cQ [iK 3 0] (.block 0 (.loop l225_1))) (.seq (.block 2 (.loop l225_0)) XQ)))))),[.tmp 2]⟩
abbrev cf226:CF:=⟨226,false,zc Tryz.f226.eq_1,[.tmp 4,.tmp 5]⟩
abbrev cf231:CF:=⟨231,false,zc Tryz.f231.eq_1,[.tmp 4,.tmp 5]⟩
abbrev q232:=bG Tryz.f232.eq_1
abbrev r232_1:List DI:=(bB q232 1 [0,1,2,3,4,5,106,107,108,9,10,11,112,213])
abbrev Rq:CC:=.seq (cQ (z q232 7) (.cond (.t 46) .skip (.exit 0))) (.seq (.block 1 (cQ (z q232 8) (cQ (z q232 9) (cQ (z q232 10) (cQ (z q232 11) (.seq (cQ (z q232 12) (.cond (.t 70) (.af (z q232 13)) (cQ (z q232 14) (cI 80 (.af (z q232 15)))))) (.af (z q232 16)))))))) (.af (z q232 17)))
abbrev l232_1:CC:=Rq
abbrev Rr:CC:=.seq (cQ (z q232 18) (.cond (.t 86) .skip (.exit 2))) (.block 3 (cQ (z q232 19) (cQ (z q232 20) (cQ (z q232 21) (.seq (cQ (z q232 22) (.cond (.t 96) (.af (z q232 23)) (cQ (z q232 24) (cI 106 (.af (z q232 25)))))) (.af (z q232 26)))))))
abbrev l232_0:CC:=Rr
abbrev XR:CC:=cQ (z q232 30) (.af (z q232 31))
abbrev Rs:CC:=cQ (z q232 27) (.seq (cQ (z q232 28) (cI 123 (.af (z q232 29)))) XR)
abbrev Rt:CC:=cQ (z q232 3) (cQ (z q232 4) (cQ (z q232 5) (.seq (cQ (z q232 6) (.block 0 (.loop l232_1))) (.seq (.block 2 (.loop l232_0)) Rs))))
abbrev cf232:CF:=⟨232,false,(cQ (z q232 0) (.seq (.seq (.aR r232_1) (cI 30 (.af (z q232 2)))) Rt)),[]⟩
abbrev q233:=bG Tryz.f233.eq_1
abbrev MP:CC:=.seq (cQ (z q233 7) (.cond (.t 32) .skip (.exit 2))) (.block 3 (cQ (z q233 8) (.af (z q233 9))))
abbrev l233_2:CC:=MP
abbrev AU:CC:=.seq (cQ (z q233 3) (.cond (.t 15) .skip (.exit 0))) (.seq (.block 1 (.seq (cQ (z q233 4) (cI 23 (.seq (cQ (z q233 5) (cI 25 (cQ (z q233 6) .ret))) (.seq (.block 2 (.loop l233_2)) (.exit 0))))) (cQ (z q233 10) (.af (z q233 11))))) (.af (z q233 12)))
abbrev l233_3:CC:=AU
abbrev Ru:CC:=.seq (cQ (z q233 15) (.cond (.t 66) .skip (.exit 4))) (.seq (.block 5 (cQ (z q233 16) (cQ (z q233 17) (cQ (z q233 18) (cQ (z q233 19) (cQ (z q233 20) (.af (z q233 21)))))))) (.af (z q233 22)))
abbrev l233_1:CC:=Ru
abbrev Rv:CC:=.seq (cQ (z q233 23) (.cond (.t 98) .skip (.exit 6))) (.block 7 (cQ (z q233 24) (cQ (z q233 25) (.seq (cQ (z q233 26) (.cond (.t 106) (cQ (z q233 27) (.af (z q233 28))) (cQ (z q233 29) (cI 118 (.af (z q233 30)))))) (.af (z q233 31))))))
abbrev l233_0:CC:=Rv
abbrev XS:CC:=cQ (z q233 32) (.af (z q233 33))
abbrev Rw:CC:=cQ (z q233 13) (cQ (z q233 14) (.seq (.block 4 (.loop l233_1)) (.seq (.block 6 (.loop l233_0)) XS)))
abbrev cf233:CF:=⟨233,false,(cQ [iK 4 0] (cQ [iK 5 0] (cQ (z q233 2) (.seq (.block 0 (.loop l233_3)) Rw)))),[]⟩
abbrev cf234:CF:=⟨234,false,zc Tryz.f234.eq_1,[.tmp 4]⟩
abbrev q238:=bG Tryz.f238.eq_1
abbrev r238_5:List DI:=(bB q238 5 [0,1,2,5503,4,5,6,7])
abbrev r238_6:List DI:=(bB q238 6 [0,1,2,6103,4,5,6,7,8])
abbrev Jw:CC:=.seq (cQ (z q238 2) (.cond (.t 9) .skip (.exit 0))) (.seq (.block 1 (.seq (cQ (z q238 3) (cI 15 (cQ (z q238 4) .ret))) (.seq (.aR r238_5) (cI 23 (.seq (.aR r238_6) .ret))))) (.af (z q238 7)))
abbrev l238_0:CC:=Jw
abbrev XT:CC:=cQ (z q238 8) .ret
abbrev cf238:CF:=⟨238,false,(cQ (z q238 0) (.seq (cQ [iK 5 0] (.block 0 (.loop l238_0))) XT)),[.tmp 4]⟩
abbrev q239:=bG Tryz.f239.eq_1
abbrev r239_0:List DI:=(bB q239 0 [0,1,2,11503,4,5,6,7,8,9,11510,11,12,13,14,11515,16,17])
abbrev Jx:CC:=.seq (.seq (.aR r239_0) (.cond (.t 19) .skip (.exit 0))) (.block 1 (.af (z q239 1)))
abbrev l239_0:CC:=Jx
abbrev XU:CC:=cQ (z q239 2) (cI 31 (.af (z q239 3)))
abbrev cf239:CF:=⟨239,false,(.seq (.block 0 (.loop l239_0)) XU),[]⟩
structure aA(T:aM->Option CF):Prop where
 t3:T ⟨3⟩=some cf3
 t4:T ⟨4⟩=some cf4
 t5:T ⟨5⟩=some cf5
 t6:T ⟨6⟩=some cf6
 t7:T ⟨7⟩=some cf7
 t8:T ⟨8⟩=some cf8
 t9:T ⟨9⟩=some cf9
 t10:T ⟨10⟩=some cf10
 t11:T ⟨11⟩=some cf11
 t12:T ⟨12⟩=some cf12
 t13:T ⟨13⟩=some cf13
 t14:T ⟨14⟩=some cf14
 t15:T ⟨15⟩=some cf15
 t16:T ⟨16⟩=some cf16
 t17:T ⟨17⟩=some cf17
 t18:T ⟨18⟩=some cf18
 t19:T ⟨19⟩=some cf19
 t20:T ⟨20⟩=some cf20
 t21:T ⟨21⟩=some cf21
 t22:T ⟨22⟩=some cf22
 t23:T ⟨23⟩=some cf23
 t24:T ⟨24⟩=some cf24
 t25:T ⟨25⟩=some cf25
 t26:T ⟨26⟩=some cf26
 t27:T ⟨27⟩=some cf27
 t28:T ⟨28⟩=some cf28
 t29:T ⟨29⟩=some cf29
 t30:T ⟨30⟩=some cf30
 t31:T ⟨31⟩=some cf31
 t32:T ⟨32⟩=some cf32
 t33:T ⟨33⟩=some cf33
 t34:T ⟨34⟩=some cf34
 t35:T ⟨35⟩=some cf35
 t36:T ⟨36⟩=some cf36
 t37:T ⟨37⟩=some cf37
 t38:T ⟨38⟩=some cf38
 t39:T ⟨39⟩=some cf39
 t40:T ⟨40⟩=some cf40
 t42:T ⟨42⟩=some cf42
 t43:T ⟨43⟩=some cf43
 t44:T ⟨44⟩=some cf44
 t45:T ⟨45⟩=some cf45
 t46:T ⟨46⟩=some cf46
 t47:T ⟨47⟩=some cf47
 t48:T ⟨48⟩=some cf48
 t49:T ⟨49⟩=some cf49
 t50:T ⟨50⟩=some cf50
 t51:T ⟨51⟩=some cf51
 t52:T ⟨52⟩=some cf52
 t53:T ⟨53⟩=some cf53
 t54:T ⟨54⟩=some cf54
 t55:T ⟨55⟩=some cf55
 t56:T ⟨56⟩=some cf56
 t57:T ⟨57⟩=some cf57
 t58:T ⟨58⟩=some cf58
 t59:T ⟨59⟩=some cf59
 t60:T ⟨60⟩=some cf60
 t61:T ⟨61⟩=some cf61
 t62:T ⟨62⟩=some cf62
 t63:T ⟨63⟩=some cf63
 t64:T ⟨64⟩=some cf64
 t65:T ⟨65⟩=some cf65
 t66:T ⟨66⟩=some cf66
 t67:T ⟨67⟩=some cf67
 t68:T ⟨68⟩=some cf68
 t69:T ⟨69⟩=some cf69
 t70:T ⟨70⟩=some cf70
 t73:T ⟨73⟩=some cf73
 t74:T ⟨74⟩=some cf74
 t75:T ⟨75⟩=some cf75
 t76:T ⟨76⟩=some cf76
 t77:T ⟨77⟩=some cf77
 t78:T ⟨78⟩=some cf78
 t79:T ⟨79⟩=some cf79
 t80:T ⟨80⟩=some cf80
 t81:T ⟨81⟩=some cf81
 t82:T ⟨82⟩=some cf82
 t83:T ⟨83⟩=some cf83
 t84:T ⟨84⟩=some cf84
 t85:T ⟨85⟩=some cf85
 t86:T ⟨86⟩=some cf86
 t87:T ⟨87⟩=some cf87
 t88:T ⟨88⟩=some cf88
 t89:T ⟨89⟩=some cf89
 t90:T ⟨90⟩=some cf90
 t91:T ⟨91⟩=some cf91
 t92:T ⟨92⟩=some cf92
 t93:T ⟨93⟩=some cf93
 t94:T ⟨94⟩=some cf94
 t95:T ⟨95⟩=some cf95
 t96:T ⟨96⟩=some cf96
 t97:T ⟨97⟩=some cf97
 t98:T ⟨98⟩=some cf98
 t99:T ⟨99⟩=some cf99
 t100:T ⟨100⟩=some cf100
 t101:T ⟨101⟩=some cf101
 t106:T ⟨106⟩=some cf106
 t108:T ⟨108⟩=some cf108
 t109:T ⟨109⟩=some cf109
 t110:T ⟨110⟩=some cf110
 t111:T ⟨111⟩=some cf111
 t112:T ⟨112⟩=some cf112
 t113:T ⟨113⟩=some cf113
 t114:T ⟨114⟩=some cf114
 t115:T ⟨115⟩=some cf115
 t116:T ⟨116⟩=some cf116
 t117:T ⟨117⟩=some cf117
 t118:T ⟨118⟩=some cf118
 t119:T ⟨119⟩=some cf119
 t120:T ⟨120⟩=some cf120
 t121:T ⟨121⟩=some cf121
 t122:T ⟨122⟩=some cf122
 t123:T ⟨123⟩=some cf123
 t124:T ⟨124⟩=some cf124
 t125:T ⟨125⟩=some cf125
 t126:T ⟨126⟩=some cf126
 t127:T ⟨127⟩=some cf127
 t128:T ⟨128⟩=some cf128
 t133:T ⟨133⟩=some cf133
 t134:T ⟨134⟩=some cf134
 t136:T ⟨136⟩=some cf136
 t137:T ⟨137⟩=some cf137
 t138:T ⟨138⟩=some cf138
 t139:T ⟨139⟩=some cf139
 t140:T ⟨140⟩=some cf140
 t141:T ⟨141⟩=some cf141
 t142:T ⟨142⟩=some cf142
 t143:T ⟨143⟩=some cf143
 t144:T ⟨144⟩=some cf144
 t145:T ⟨145⟩=some cf145
 t146:T ⟨146⟩=some cf146
 t147:T ⟨147⟩=some cf147
 t148:T ⟨148⟩=some cf148
 t149:T ⟨149⟩=some cf149
 t150:T ⟨150⟩=some cf150
 t151:T ⟨151⟩=some cf151
 t152:T ⟨152⟩=some cf152
 t153:T ⟨153⟩=some cf153
 t154:T ⟨154⟩=some cf154
 t155:T ⟨155⟩=some cf155
 t156:T ⟨156⟩=some cf156
 t157:T ⟨157⟩=some cf157
 t158:T ⟨158⟩=some cf158
 t159:T ⟨159⟩=some cf159
 t160:T ⟨160⟩=some cf160
 t162:T ⟨162⟩=some cf162
 t163:T ⟨163⟩=some cf163
 t164:T ⟨164⟩=some cf164
 t167:T ⟨167⟩=some cf167
 t169:T ⟨169⟩=some cf169
 t170:T ⟨170⟩=some cf170
 t171:T ⟨171⟩=some cf171
 t172:T ⟨172⟩=some cf172
 t173:T ⟨173⟩=some cf173
 t174:T ⟨174⟩=some cf174
 t175:T ⟨175⟩=some cf175
 t176:T ⟨176⟩=some cf176
 t177:T ⟨177⟩=some cf177
 t178:T ⟨178⟩=some cf178
 t179:T ⟨179⟩=some cf179
 t180:T ⟨180⟩=some cf180
 t181:T ⟨181⟩=some cf181
 t182:T ⟨182⟩=some cf182
 t183:T ⟨183⟩=some cf183
 t187:T ⟨187⟩=some cf187
 t191:T ⟨191⟩=some cf191
 t192:T ⟨192⟩=some cf192
 t193:T ⟨193⟩=some cf193
 t194:T ⟨194⟩=some cf194
 t195:T ⟨195⟩=some cf195
 t196:T ⟨196⟩=some cf196
 t197:T ⟨197⟩=some cf197
 t201:T ⟨201⟩=some cf201
 t207:T ⟨207⟩=some cf207
 t208:T ⟨208⟩=some cf208
 t209:T ⟨209⟩=some cf209
 t211:T ⟨211⟩=some cf211
 t212:T ⟨212⟩=some cf212
 t217:T ⟨217⟩=some cf217
 t218:T ⟨218⟩=some cf218
 t219:T ⟨219⟩=some cf219
 t220:T ⟨220⟩=some cf220
 t221:T ⟨221⟩=some cf221
 t223:T ⟨223⟩=some cf223
 t224:T ⟨224⟩=some cf224
 t225:T ⟨225⟩=some cf225
 t226:T ⟨226⟩=some cf226
 t231:T ⟨231⟩=some cf231
 t232:T ⟨232⟩=some cf232
 t233:T ⟨233⟩=some cf233
 t234:T ⟨234⟩=some cf234
 t238:T ⟨238⟩=some cf238
 t239:T ⟨239⟩=some cf239
abbrev cf185:CF:=⟨185,false,zc Tryz.f185.eq_1,[.tmp 2]⟩
abbrev cf200:CF:=⟨200,false,zc Tryz.f200.eq_1,[.tmp 2,.tmp 3,.tmp 4]⟩
structure uU(T:aM->Option CF):Prop where
 h:aA T
 t185:T ⟨185⟩=some cf185
 t200:T ⟨200⟩=some cf200
end
section
open Go
structure aH where
 dom:Nat->Prop
 aL:Nat->Nat
 sh:Nat->Nat
 sz:Nat->Nat
 cB:Nat->Obj
 prog:Program
structure aH.le(φ ψ:aH):Prop where
 dom:∀i,φ.dom i->ψ.dom i
 aL:∀i,φ.dom i->ψ.aL i=φ.aL i
 sh:∀i,φ.dom i->ψ.sh i=φ.sh i
 sz:∀i,φ.dom i->ψ.sz i=φ.sz i
 cB:∀i,φ.dom i->ψ.cB i=φ.cB i
 prog:ψ.prog=φ.prog
theorem aH.le.refl(φ:aH):φ.le φ:=⟨λ_ h=>h,λ_ _=>rfl,λ_ _=>rfl,λ_ _=>rfl,λ_ _=>rfl,rfl⟩
theorem aH.le.trans{φ ψ χ:aH}(h:φ.le ψ)(g:ψ.le χ):φ.le χ:=
 ⟨λi d=>g.dom i (h.dom i d),λi d=>(g.aL i (h.dom i d)).trans (h.aL i d),λi d=>(g.sh i (h.dom i d)).trans (h.sh i d),λi d=>(g.sz i (h.dom i d)).trans (h.sz i d),λi d=>(g.cB i (h.dom i d)).trans (h.cB i d),g.prog.trans h.prog⟩
def kR(l n:Nat)(s:ByteArray):Prop:=s.data.toList.map (·.toNat)=hO l n/\n<256^l
mutual
def aj(φ:aH):AV->Value->Prop
 |.any,_=>True
 |.bool b,v=>v=.bool b
 |.i n,v=>v=.int .i64 n
 |.u8 n,v=>v=.int .u8 n
 |.int k n,v=>v=.int k n
 |.bN k b,v=>v=.float k b
 |.str l n,v=>∃s,v=.string s/\kR l n s
 |.ptr i o,v=>φ.dom i/\v=.pointer (some ⟨φ.aL i,φ.sh i+o,none⟩)
 |.gJ,v=>v=.pointer none
 |.slice i off rw len cap ex,v=>φ.dom i/\∃a c,v=.slice (some a) len c/\len<=cap/\cap<=c/\(ex=true->c=cap)/\
  (c≠0->a=⟨φ.aL i,φ.sh i+off,none⟩/\φ.sh i+off+c*rw<=φ.sz i)
 |.bx,v=>v=.slice none 0 0
 |.map i,v=>φ.dom i/\v=.map (some (φ.aL i))
 |.kQ,v=>v=.map none
 |.func f first cap,v=>∃fs cs,v=.func (.func f.n) fs cs/\cz φ first fs.toList/\cz φ cap cs.toList
 |.qg,v=>v=.nilFunc
 |.iface t x,v=>∃y,v=.iface t y/\aj φ x y
 |.ji,v=>v=.nilIface
 |.agg l,v=>∃cs,v=.agg cs/\cz φ l cs.toList/\∀c∈cs.toList,c.oneCell'=true
 |.bA l,v=>∃cs,v=.tuple cs/\cz φ l cs.toList
 |.Dl,v=>∃n,v=.int .i64 n
 |.ge m,v=>∃n,v=.int .i64 n/\m<=n
 |.le m,v=>∃n,v=.int .i64 n/\n<=m
def cz(φ:aH):List AV->List Value->Prop
 |[],vs=>vs=[]
 |x::l,vs=>∃v r,vs=v::r/\aj φ x v/\cz φ l r
end
mutual
theorem nS{φ ψ:aH}(h:φ.le ψ):∀(x:AV)(v:Value),aj φ x v->aj ψ x v
 |.any,_,_=>by simp only[aj]
 |.bool _,_,g=>by simpa only[aj] using g
 |.i _,_,g=>by simpa only[aj] using g
 |.u8 _,_,g=>by simpa only[aj] using g
 |.int _ _,_,g=>by simpa only[aj] using g
 |.bN _ _,_,g=>by simpa only[aj] using g
 |.str _ _,_,g=>by simpa only[aj] using g
 |.ptr i o,v,g=>by simp only[aj] at g⊢;obtain⟨d,rfl⟩:=g;exact⟨h.dom i d,by rw[h.aL i d,h.sh i d]⟩
 |.gJ,_,g=>by simpa only[aj] using g
 |.slice i off rw len cap ex,v,g=>by simp only[aj] at g⊢;obtain⟨d,a,c,rfl,h1,h2,h3,h4⟩:=g;refine⟨h.dom i d,a,c,rfl,h1,h2,h3,λhc=>?_⟩;rw[h.aL i d,h.sh i d,h.sz i d];exact h4 hc
 |.bx,_,g=>by simpa only[aj] using g
 |.map i,v,g=>by simp only[aj] at g⊢;obtain⟨d,rfl⟩:=g;exact⟨h.dom i d,by rw[h.aL i d]⟩
 |.kQ,_,g=>by simpa only[aj] using g
 |.func f a b,v,g=>by simp only[aj] at g⊢;obtain⟨fs,cs,rfl,g1,g2⟩:=g;exact⟨fs,cs,rfl,Gm h a _ g1,Gm h b _ g2⟩
 |.qg,_,g=>by simpa only[aj] using g
 |.iface t x,v,g=>by simp only[aj] at g⊢;obtain⟨y,rfl,g1⟩:=g;exact⟨y,rfl,nS h x y g1⟩
 |.ji,_,g=>by simpa only[aj] using g
 |.agg l,v,g=>by simp only[aj] at g⊢;obtain⟨cs,rfl,g1,g2⟩:=g;exact⟨cs,rfl,Gm h l _ g1,g2⟩
 |.bA l,v,g=>by simp only[aj] at g⊢;obtain⟨cs,rfl,g1⟩:=g;exact⟨cs,rfl,Gm h l _ g1⟩
 |.Dl,_,g=>by simpa only[aj] using g
 |.ge _,_,g=>by simpa only[aj] using g
 |.le _,_,g=>by simpa only[aj] using g
theorem Gm{φ ψ:aH}(h:φ.le ψ):∀(l:List AV)(vs:List Value),cz φ l vs->cz ψ l vs
 |[],_,g=>by simpa only[cz] using g
 |x::l,_,g=>by simp only[cz] at g⊢;obtain⟨v,r,rfl,g1,g2⟩:=g;exact⟨v,r,rfl,nS h x v g1,Gm h l r g2⟩
end
theorem sJ{φ:aH}:cz φ [] []:=by simp only[cz]
theorem qS{φ:aH}{x:AV}{l:List AV}{v:Value}{r:List Value}:cz φ (x::l) (v::r) <-> aj φ x v/\cz φ l r:=by simp only[cz];constructor;rintro⟨v',r',h,h1,h2⟩;cases h;exact⟨h1,h2⟩;rintro⟨h1,h2⟩;exact⟨v,r,rfl,h1,h2⟩
theorem tP{φ:aH}:∀{l:List AV}{vs:List Value},cz φ l vs->vs.length=l.length
 |[],_,h=>by simp only[cz] at h;subst h;rfl
 |x::l,vs,h=>by simp only[cz] at h;obtain⟨v,r,rfl,_,h2⟩:=h;simp[tP h2]
theorem XV{φ:aH}:∀{l:List AV}{vs:List Value}{m:List AV}{ws:List Value},cz φ l vs->cz φ m ws->cz φ (l++m) (vs++ws)
 |[],_,_,_,h,g=>by simp only[cz] at h;subst h;simpa using g
 |x::l,vs,m,ws,h,g=>by simp only[cz] at h;obtain⟨v,r,rfl,h1,h2⟩:=h;exact qS.2 ⟨h1,XV h2 g⟩
theorem tQ{φ:aH}:∀{l:List AV}{vs:List Value},cz φ l vs->∀(j:Nat)(a:AV),l[j]? =some a->∃v,vs[j]? =some v/\aj φ a v
 |[],_,_,j,a,h=>by simp at h
 |x::l,vs,h,j,a,ha=>by
  simp only[cz] at h;obtain⟨v,r,rfl,h1,h2⟩:=h;cases j with
  |zero=>simp at ha;subst ha;exact⟨v,by simp,h1⟩
  |succ j=>simp at ha;obtain⟨u,hu,hd⟩:=tQ h2 j a ha;exact⟨u,by simpa using hu,hd⟩
theorem Gn{φ:aH}:∀{l:List AV}{vs:List Value},vs.length=l.length->(∀(j:Nat)(a:AV),l[j]? =some a->∃v,vs[j]? =some v/\aj φ a v)->cz φ l vs
 |[],vs,h,_=>by cases vs with|nil=>exact sJ|cons=>simp at h
 |x::l,vs,h,g=>by
  cases vs with
  |nil=>simp at h
  |cons v r=>
   refine qS.2 ⟨?_,Gn qba λj a ha=>?_⟩;obtain⟨u,hu,hd⟩:=g 0 x zm;simp at hu;subst hu;exact hd;obtain⟨u,hu,hd⟩:=g (j+1) a (by simpa using ha);exact⟨u,by simpa using hu,hd⟩
theorem XW{α:Type}(l r:List α):fF l r=l++r:=by
 induction l with
 |nil=>rfl
 |cons x l ih=>simp[fF,ih]
theorem tR{α:Type}(l:List α):gk l=l.length:=by
 induction l with
 |nil=>rfl
 |cons x l ih=>simp[gk,ih]
theorem Gp{α:Type}:∀(n:Nat)(l:List α),kH n l=l.drop n
 |0,l=>by cases l<;>rfl
 |_+1,[]=>rfl
 |n+1,_::r=>Gp n r
theorem Gq{α:Type}:∀(n:Nat)(l m:List α),gK n l=some m->m=l.take n/\n<=l.length
 |0,l,m,h=>by cases l<;>simp only[gK,atU] at h<;>subst h<;>simp
 |_+1,[],m,h=>by simp[gK] at h
 |n+1,x::r,m,h=>by simp only[gK] at h;split at h;rename_i l hl;cases h;obtain⟨h1,h2⟩:=Gq n r l hl;subst h1;exact⟨by simp,by simpa using h2⟩;cases h
theorem Rx{α:Type}:∀(n:Nat)(l:List α),FN n l=l[n]?
 |n,[]=>by cases n<;>rfl
 |0,_::_=>rfl
 |n+1,_::r=>by simpa[FN] using Rx n r
theorem XX{α:Type}:∀(l r m:List α),BQ l r=some m->l.length<=r.length/\m=l++r.drop l.length
 |[],r,m,h=>by cases r<;>(simp only[BQ,atU] at h;subst h;simp)
 |_::_,[],m,h=>by simp[BQ] at h
 |x::l,y::r,m,h=>by simp only[BQ] at h;split at h;rename_i k hk;cases h;obtain⟨h1,h2⟩:=XX l r k hk;subst h2;exact⟨by simpa using h1,by simp⟩;cases h
theorem MQ{α:Type}:∀(n:Nat)(l r m:List α),mK n l r=some m->n+l.length<=r.length/\m=r.take n++(l++r.drop (n+l.length))
 |0,l,r,m,h=>by simp only[mK] at h;obtain⟨h1,h2⟩:=XX l r m h;exact⟨by simpa using h1,by simpa using h2⟩
 |n+1,l,[],m,h=>by simp[mK] at h
 |n+1,l,y::r,m,h=>by simp only[mK] at h;split at h;rename_i k hk;cases h;obtain⟨h1,h2⟩:=MQ n l r k hk;subst h2;refine⟨by simp;omega,?_⟩;rw[show n+1+l.length=(n+l.length)+1 from by omega];simp;cases h
theorem Jy{a b:Nat}(h:a≠b):Nat.beq a b=false:=by
 cases hb:Nat.beq a b with
 |false=>rfl
 |true=>exact absurd (at7 hb) h
theorem Hp.tS(h:Hp)(i j:Nat)(o:AO):(h.set i o).get j=if j=i then o else h.get j:=by
 unfold Hp.set Hp.get;simp only
 by_cases e:j=i
 subst e;simp;rw[atS e,Jy e];rfl
theorem Hp.B8(h:Hp)(o:AO)(j:Nat):(h.push o).get j=if j=h.nx then o else h.get j:=by
 unfold Hp.push Hp.get;simp only
 by_cases e:j=h.nx
 subst e;simp;rw[atS e,Jy e];rfl
theorem Hp.Ry{h:Hp}{i:Nat}(n:jN (h.get i)=false):i<h.nx:=by refine Nat.lt_of_not_le λc=>?_;have:=h.new i c;unfold Hp.get at n;rw[this] at n;cases n
theorem Hp.tT{h:Hp}{i:Nat}{o:AO}(hi:i<h.nx):(h.set i o).nx=h.nx:=Nat.max_eq_left hi
theorem Hp.fresh(h:Hp):jN (h.get h.nx)=true:=by unfold Hp.get;rw[h.new _ zl];rfl
theorem Gr(t:N3 (List AV))(k j:Nat)(r:List AV)(_:k<1152921504606846976)(_:j<1152921504606846976):dY (cx t k r) j=if j=k then r else dY t j:=by
 unfold dY cx
 by_cases e:j=k
 subst e;simp;rw[atS e,Jy e];rfl
def AO.count:AO->Nat
 |.one _ l=>l.length
 |.rows _ rw cnt _ _=>cnt*rw
 |_=>0
def AO.cell:AO->Nat->Option AV
 |.one _ l,j=>l[j]?
 |.rows _ rw cnt _ t,j=>if j<cnt*rw then(dY t (j/rw))[j% rw]? else none
 |_,_=>none
def AO.fz:AO->Nat
 |.rows _ _ _ fz _=>fz
 |_=>0
def AO.el:AO->Nat
 |.one el _=>el
 |.rows el _ _ _ _=>el
 |_=>0
def AO.ig:AO->Bool
 |.one _ _|.rows ..=>true
 |_=>false
def AO.DO:AO->Bool
 |.one _ _=>true
 |_=>false
def AO.wf:AO->Prop
 |.rows _ rw cnt _ t=>0<rw/\cnt<=1152921504606846976/\∀k,k<cnt->(dY t k).length=rw
 |_=>True
theorem AW{k cnt rw j:Nat}(hk:k<cnt)(hj:j<rw):k*rw+j<cnt*rw:=by have:(k+1)*rw<=cnt*rw:=at4 rw hk;rw[auC,avz] at this;omega
theorem Rz{el rw cnt fz:Nat}{t:N3 (List AV)}(dX:0<rw){k j:Nat}(hk:k<cnt)(hj:j<rw):
 (AO.rows el rw cnt fz t).cell (k*rw+j)=(dY t k)[j]? :=by
 simp only[AO.cell,atV (AW hk hj)];have h1:(k*rw+j)/rw=k:=by rw[auB,axa dX,avY hj,aud]
 have h2:(k*rw+j)% rw=j:=by rw[auB,awG,avy hj]
 rw[h1,h2]
theorem aoN{o:AO}(hw:o.wf)(hc:o.ig=true){j:Nat}(hj:j<o.count):∃a,o.cell j=some a:=by
 cases o with
 |one el l=>
  have eY:j<l.length:=hj;exact⟨l[j],by simp only[AO.cell];exact atT eY⟩
 |rows el rw cnt fz t=>
  obtain⟨h1,h2,h3⟩:=hw;simp only[AO.count] at hj;have hk:j/rw<cnt:=auw qap;have hm:j% rw<rw:=avn _ h1;refine⟨(dY t (j/rw))[j% rw]'(by rw[h3 _ hk];exact hm),?_⟩;simp only[AO.cell,atV hj];exact atT _
 |_=>cases hc
theorem XY{t:N3 (List AV)}{rw cnt:Nat}(h:∀k,k<cnt->(dY t k).length=rw):∀(n k:Nat),k+n<=cnt->
 (xL t n k).length=n*rw/\∀a j,a<n->j<rw->(xL t n k)[a*rw+j]? =(dY t (k+a))[j]?
 |0,k,_=>⟨by simp[xL],λa j ha=>absurd ha (avm _)⟩
 |n+1,k,hk=>by
  obtain⟨h1,h2⟩:=XY h n (k+1) zo;have hl:=h k zo;simp only[xL,XW];refine⟨by rw[auk,hl,Nat.succ_eq_add_one,h1,auC];omega,λa j ha hj=>?_⟩;cases a with
  |zero=>rw[awN,aue,aun (by rw[hl];exact hj)];rfl
  |succ a=>
   rw[auq (by rw[hl,auC];omega),hl];have:=h2 a j zo hj;rw[show(a+1)*rw+j- rw=a*rw+j from by rw[auC];omega,show k+(a+1)=k+1+a from by omega];exact this
theorem je{a b:Nat}:Nat.ble a b=true <-> a<=b:=⟨au1,awz⟩
theorem beq_iff{a b:Nat}:Nat.beq a b=true <-> a=b:=⟨at7,λh=>h▸av1 a⟩
theorem RA(a b:Nat):Nat.div a b=a/b:=rfl
theorem RB(a b:Nat):Nat.mod a b=a% b:=rfl
theorem uV(a b:Nat):Nat.add a b=a+b:=rfl
theorem B9(a b:Nat):Nat.mul a b=a*b:=rfl
theorem aoO(a b:Nat):Nat.sub a b=a- b:=rfl
theorem AX(a:Nat):Nat.succ a=a+1:=rfl
theorem qt{α:Type}{c:Bool}{x:Option α}{y:α}(h:cond c x none=some y):c=true/\x=some y:=by
 cases c with
 |true=>exact⟨rfl,h⟩
 |false=>cases h
theorem afa{o:AO}(hw:o.wf)(nT:o.ig=true){off n:Nat}{l:List AV}(h:cellsOf o off n=some l):
 l.length=n/\(0<n->off+n<=o.count)/\∀j,j<n->l[j]? =o.cell (off+j):=by
 cases o with
 |one el r=>
  simp only[cellsOf,Gp] at h;obtain⟨h1,h2⟩:=Gq _ _ _ h;subst h1;have dA:n<=r.length- off:=by simpa using h2
  refine⟨by simp;omega,λhn=>by simp only[AO.count];omega,λj hj=>?_⟩;simp only[AO.cell];rw[auE hj,auF]
 |rows el rw cnt fz t=>
  obtain⟨dX,qT,zw⟩:=hw;simp only[cellsOf,RA,RB,uV,AX] at h;cases hc:(Nat.ble (off% rw+n) rw&&Nat.ble (off/rw+1) cnt) with
  |true=>
   rw[hc] at h;simp only[cond,Gp] at h;obtain⟨h1,h2⟩:=Gq _ _ _ h;simp only[atW,je] at hc;obtain⟨c1,c2⟩:=hc;have c1':off% rw+n<=rw:=c1;have c2':off/rw<cnt:=c2;have rQ:off=off/rw*rw+off% rw:=by rw[auB];exact(awH off rw).symm
   have bz:=zw _ c2';subst h1;have dA:n<=(dY t (off/rw)).length- off% rw:=by simpa using h2
   refine⟨by simp[bz];omega,λhn=>?_,λj hj=>?_⟩;have:=AW (rw:=rw) c2' (show off% rw+n- 1<rw by omega);simp only[AO.count];omega;rw[auE hj,auF];have:=Rz (el:=el) (fz:=fz) (t:=t) dX c2' (show off% rw+j<rw by omega);rw[show off+j=off/rw*rw+(off% rw+j) from by omega,this]
  |false=>
   rw[hc] at h;simp only[cond] at h;obtain⟨eZ,h⟩:=qt h;obtain⟨h1,h2⟩:=Gq _ _ _ h;simp only[atW,je,beq_iff] at eZ;obtain⟨⟨c1,c2⟩,c3⟩:=eZ;have c1':off% rw=0:=c1;have c2':n% rw=0:=c2;have c3':off/rw+n/rw<=cnt:=c3;have rQ:off/rw*rw=off:=avZ (avF c1');have hn:n/rw*rw=n:=avZ (avF c2');obtain⟨j1,j2⟩:=XY zw (n/rw) (off/rw) c3';subst h1;have kL:(xL t (n/rw) (off/rw)).length=n:=by rw[j1,hn]
   refine⟨by simp;exact awI (avp kL.symm),λmO=>?_,λj hj=>?_⟩;have:=at4 rw c3';rw[auC,rQ,hn] at this;simpa only[AO.count] using this;rw[auE hj];have hk:j/rw<n/rw:=auw (by rw[auB,hn];exact hj);have hm:j% rw<rw:=avn _ dX;have hjj:j/rw*rw+j% rw=j:=by rw[auB];exact awH j rw
   have e1:=j2 (j/rw) (j% rw) hk hm;rw[hjj] at e1;have e2:=Rz (el:=el) (fz:=fz) (t:=t) dX (show off/rw+j/rw<cnt by omega) hm;rw[show(off/rw+j/rw)*rw+j% rw=off+j from by rw[auC,rQ];omega] at e2;rw[e2];exact e1
 |_=>cases nT
theorem MR{rw:Nat}:∀(n:Nat)(l:List AV)(rs:List (List AV)),uO rw n l=some rs->
 rs.length=n/\n*rw<=l.length/\∀k r,rs[k]? =some r->r.length=rw/\∀j,j<rw->r[j]? =l[k*rw+j]?
 |0,l,rs,h=>by simp only[uO,atU] at h;subst h;simp
 |n+1,l,rs,h=>by
  simp only[uO] at h;split at h;rename_i r hr;split at h;rename_i rs' gO;cases h;obtain⟨t1,t2⟩:=Gq _ _ _ hr;rw[Gp] at gO;obtain⟨i1,i2,i3⟩:=MR n _ _ gO;simp only[auf] at i2;refine⟨by simp[i1],by rw[auC];omega,λk r' hk=>?_⟩;cases k with
  |zero=>
   simp at hk;subst hk;subst t1;exact⟨by simp;omega,λj hj=>by rw[auE hj,awN,aue]⟩
  |succ k=>
   simp at hk;obtain⟨g1,g2⟩:=i3 k r' hk;refine⟨g1,λj hj=>?_⟩;rw[g2 j hj,auF];congr 1;rw[auC];omega
  cases h;cases h
theorem Jz:∀(rs:List (List AV))(t:N3 (List AV))(k:Nat),k+rs.length<=1152921504606846976->∀j,j<1152921504606846976->
 dY (jy t k rs) j=if k<=j/\j<k+rs.length then rs.getD (j- k) [] else dY t j
 |[],t,k,_,j,_=>by simp[jy];intro h1 h2;omega
 |r::rs,t,k,hk,j,hj=>by
  simp only[atX] at hk;simp only[jy];rw[Jz rs (cx t k r) (k+1) zo j hj,Gr t k j r zo hj]
  by_cases h1:j=k
  subst h1;rw[atS zo,atV rfl,atV zm];simp
  by_cases h2:k+1<=j/\j<k+1+rs.length
  rw[atV h2,atV zn];obtain⟨m,hm⟩:∃m,j- k=m+1:=⟨j- k- 1,by omega⟩;rw[hm,show j- (k+1)=m from by omega];simp;rw[atS h2,atS h1,atS zn]
theorem afb{t:N3 (List AV)}{rw cnt:Nat}(h:∀k,k<cnt->(dY t k).length=rw) (rs:List (List AV)) (k:Nat) (hk:k+rs.length<=1152921504606846976) (hc:cnt<=1152921504606846976)
 (gO:∀r∈rs,r.length=rw):∀j,j<cnt->(dY (jy t k rs) j).length=rw:=by
 intro j hj;rw[Jz rs t k hk j zo];split;rename_i hh;rw[aub,atT zo];exact gO _ (auy _);exact h j hj
theorem zx{rw j:Nat}:j/rw*rw+j% rw=j:=by rw[auB];exact awH j rw
structure RC(o:AO)(off:Nat)(l:List AV)(o':AO):Prop where
 wf:o'.wf
 cells:o'.ig=true
 count:o'.count=o.count
 fz:o'.fz=o.fz
 el:o'.el=o.el
 room:0<l.length->off+l.length<=o.count
 XZ:o.fz<=off
 cell:∀j,o'.cell j=if off<=j/\j<off+l.length then l[j- off]? else o.cell j
 one:o'.DO=o.DO
theorem RD{o:AO}(hw:o.wf){off:Nat}{l:List AV}{o':AO}(h:setCells o off l=some o'):RC o off l o':=by
 cases o with
 |one el r=>
  simp only[setCells] at h;split at h;rename_i r' hr;cases h;obtain⟨h1,h2⟩:=MQ _ _ _ _ hr;subst h2;have bz:(r.take off++(l++r.drop (off+l.length))).length=r.length:=by simp;omega
  refine⟨auW,rfl,bz,rfl,rfl,λ_=>h1,auz _,λj=>?_,rfl⟩;simp only[AO.cell]
  by_cases c1:j<off
  rw[atS zo,aun zn,auE c1];rw[auq zn];have e:(r.take off).length=off:=by simp;omega
  rw[e]
  by_cases c2:j<off+l.length
  rw[atV zo,aun zo];rw[atS zo,auq zo,auF];congr 1;omega;cases h
 |rows el rw cnt fz t=>
  obtain⟨dX,qT,zw⟩:=hw;simp only[setCells,RA,RB,uV,AX,tR] at h;cases hc:(Nat.ble (off% rw+l.length) rw&&Nat.ble (off/rw+1) cnt&&Nat.ble fz off) with
  |true=>
   rw[hc] at h;simp only[cond] at h;simp only[atW,je] at hc;obtain⟨⟨c1,c2⟩,c3⟩:=hc;have c2':off/rw<cnt:=c2;have bz:=zw _ c2';split at h;rename_i r' hr;cases h;obtain⟨h1,h2⟩:=MQ _ _ _ _ hr;rw[bz] at h1;have fV:r'.length=rw:=by subst h2;simp[bz];omega
   have kz:∀k,k<cnt->(dY (cx t (off/rw) r') k).length=rw:=λk hk=>by rw[Gr _ _ _ _ zo zo];split;exact fV;exact zw k hk
   refine⟨⟨dX,qT,kz⟩,rfl,rfl,rfl,rfl,λhp=>?_,c3,λj=>?_,rfl⟩;have:=AW (rw:=rw) c2' (show off% rw+l.length- 1<rw by omega);have e:=zx (rw:=rw) (j:=off);simp only[AO.count];omega
   by_cases hj:j<cnt*rw
   simp only[AO.cell,atV hj];have hk:j/rw<cnt:=auw qap;have hm:j% rw<rw:=avn _ dX;rw[Gr _ _ _ _ zo zo];have ej:=zx (rw:=rw) (j:=j);have eo:=zx (rw:=rw) (j:=off)
   by_cases sK:j/rw=off/rw
   rw[atV sK,sK];rw[sK] at ej;subst h2
   by_cases g1:j% rw<off% rw
   rw[atS zo,aun (by simp[bz];omega),auE g1];have e:((dY t (off/rw)).take (off% rw)).length=off% rw:=by simp[bz];omega
   rw[auq zo,e]
   by_cases g2:j% rw<off% rw+l.length
   rw[atV zo,aun zo];congr 1;omega;rw[atS zo,auq zo,auF];congr 1;omega;rw[atS sK,atS];rintro⟨g1,g2⟩;apply sK;have a1:off/rw<=j/rw:=axi g1;have a2:j/rw<=off/rw:=by
    have:j<(off/rw+1)*rw:=by rw[auC];omega
    exact Nat.le_of_lt_succ (auw (by rw[auB];exact this))
   omega;simp only[AO.cell,atS hj]
   by_cases hl:0<l.length
   have:=AW (rw:=rw) c2' (show off% rw+l.length- 1<rw by omega);have e:=zx (rw:=rw) (j:=off);rw[atS zo];rw[atS zo];cases h
  |false=>
   rw[hc] at h;simp only[cond] at h;obtain⟨eZ,h⟩:=qt h;simp only[atW,je,beq_iff] at eZ;obtain⟨⟨⟨c1,c2⟩,c3⟩,c4⟩:=eZ;split at h;rename_i rs hr;cases h;obtain⟨k1,k2,k3⟩:=MR _ _ _ hr;have ho:off/rw*rw=off:=avZ (avF c1);have hn:l.length/rw*rw=l.length:=avZ (avF c2);have gO:∀r∈rs,r.length=rw:=λr hr=>by obtain⟨k,hk⟩:=aum hr;exact(k3 k r hk).1
   refine⟨⟨dX,qT,afb zw rs _ zo qT gO⟩,rfl,rfl,rfl,rfl,λhp=>?_,c4,λj=>?_,rfl⟩;have:=at4 rw c3;rw[auC,ho,hn] at this;simpa only[AO.count] using this
   by_cases hj:j<cnt*rw
   simp only[AO.cell,atV hj];have hk:j/rw<cnt:=auw qap;have hm:j% rw<rw:=avn _ dX;rw[Jz rs t _ zo _ zo,k1];have ej:=zx (rw:=rw) (j:=j)
   by_cases hh:off/rw<=j/rw/\j/rw<off/rw+l.length/rw
   obtain⟨m,zy⟩:∃m,j/rw=off/rw+m:=⟨j/rw- off/rw,by omega⟩;have RE:m<rs.length:=zo;have e3:=k3 m rs[m] (atT RE);rw[atV hh,atV];rw[zy,Nat.add_sub_cancel_left,aub,atT RE,avo,e3.2 _ hm];congr 1;rw[zy,auC,ho] at ej;omega;have a1:=at4 rw hh.1;have a2:=AW (rw:=rw) hh.2 hm;rw[auC,ho,hn] at a2;omega;rw[atS hh,atS];rintro⟨g1,g2⟩;apply hh;refine⟨axi g1,auw ?_⟩;rw[auB,auC,ho,hn];exact g2;simp only[AO.cell,atS hj];have:=at4 rw c3;rw[auC,ho,hn] at this;rw[atS zo];cases h
 |_=>simp[setCells] at h
theorem X0(t:N3 (List AV)):∀(n k:Nat),(dw t n k).length=n/\∀j,j<n->(dw t n k)[j]? =some (dY t (k+j))
 |0,k=>⟨rfl,λj h=>absurd h (avm _)⟩
 |n+1,k=>by
  obtain⟨h1,h2⟩:=X0 t n (k+1);refine⟨by simp[dw,h1],λj hj=>?_⟩;cases j with
  |zero=>simp[dw]
  |succ j=>simp[dw];rw[h2 j zo];congr 2;omega
structure nj(rs:List (List AV))(rw n:Nat)(c:Nat->Option AV):Prop where
 len:rs.length=n
 row:∀r∈rs,r.length=rw
 cell:∀k j,k<n->j<rw->(rs.getD k [])[j]? =c (k*rw+j)
theorem X1{o:AO}(hw:o.wf){off rw n:Nat}{rs:List (List AV)}(h:kZ o off rw n=some rs):
 nj rs rw n (λj=>o.cell (off+j))/\(0<n*rw->off+n*rw<=o.count):=by
 cases o with
 |one el l=>
  simp only[kZ,Gp] at h;obtain⟨h1,h2,h3⟩:=MR _ _ _ h;simp only[auf] at h2;refine⟨⟨h1,λr hr=>?_,λk j hk hj=>?_⟩,λhp=>by simp only[AO.count];omega⟩;obtain⟨k,hk⟩:=aum hr;exact(h3 k r hk).1;have uW:k<rs.length:=zo;rw[aub,atT uW,avo,(h3 k _ (atT uW)).2 j hj,auF];rfl
 |rows el nN cnt fz t=>
  obtain⟨dX,qT,zw⟩:=hw;simp only[kZ,RA,RB,uV] at h;obtain⟨hc,h⟩:=qt h;cases h;simp only[atW,je,beq_iff] at hc;obtain⟨⟨c1,c2⟩,c3⟩:=hc;subst c1;have ho:off/rw*rw=off:=avZ (avF c2);obtain⟨r1,r2⟩:=X0 t n (off/rw);refine⟨⟨r1,λr hr=>?_,λk j hk hj=>?_⟩,λhp=>?_⟩;obtain⟨k,hk⟩:=aum hr;have X2:k<n:=by rw[<-r1];exact(at0.1 hk).1
  rw[r2 k X2] at hk;cases hk;exact zw _ zo;rw[aub,r2 k hk,avo];have:=Rz (el:=el) (fz:=fz) (t:=t) dX (show off/rw+k<cnt by omega) hj;rw[<-this];congr 1;rw[auC,ho];omega;have:=at4 rw c3;rw[auC,ho] at this;simpa only[AO.count] using this
 |_=>simp[kZ] at h
theorem Gs{el rw n:Nat}{rs:List (List AV)}{c:Nat->Option AV}(dX:0<rw)(hn:n<=1152921504606846976)(h:nj rs rw n c):
 (jJ el rw n rs).wf/\∀j,j<n*rw->(jJ el rw n rs).cell j=c j:=by
 have key:∀k,k<n->dY (jy fG 0 rs) k=rs.getD k []:=λk hk=>by rw[Jz rs fG 0 qbh k zo,atV qbh,axL]
 refine⟨⟨dX,hn,λk hk=>?_⟩,λj hj=>?_⟩;rw[key k hk,aub,atT qbh];exact h.row _ (auy _);have hk:j/rw<n:=auw qap;have hm:j% rw<rw:=avn _ dX;simp only[jJ,AO.cell,atV hj];rw[key _ hk,h.cell _ _ hk hm,zx]
end
end Yv
