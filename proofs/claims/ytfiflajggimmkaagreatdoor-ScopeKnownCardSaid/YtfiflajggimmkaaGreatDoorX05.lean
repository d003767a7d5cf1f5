/- A part of the proof of 'ScopeKnownCardSaid': the compiled functions, the answers found by evaluation, and what follows of them. There is no further condition. -/
import Derived.Test.YtfiflajggimmkaaGreatDoorX04
namespace Xv.Sk
open Xv
set_option maxRecDepth 100000
def cf74 : CF := ⟨74, true, (.seq (.reg [
  ⟨some (.p2 .d0 .d4), (.mv (.k (.i (.ofNat 0)))), none⟩]) (.seq (.reg [
  ⟨some (.p2 .d0 .d14), (.mv (.t (.p2 .d0 .d1))), none⟩,
  ⟨some (.p2 .d0 .d15), (.len 0 (.t (.p2 .d0 .d14))), none⟩,
  ⟨some (.p2 .d0 .d5), (.mv (.t (.p2 .d0 .d15))), none⟩]) (.seq (.block 0 (.seq (.reg [
  ⟨some (.p2 .d1 .d1), (.mv (.t (.p2 .d0 .d5))), none⟩,
  ⟨some (.p2 .d1 .d2), (.eql (.cell (.int .i64)) (.t (.p2 .d1 .d1)) (.k (.i (.ofNat 0)))), none⟩,
  ⟨some (.p2 .d1 .d3), (.mv (.t (.p2 .d1 .d2))), none⟩,
  ⟨some (.p2 .d1 .d4), (.mv (.t (.p2 .d0 .d1))), some ((.p2 .d1 .d3), false)⟩,
  ⟨some (.p2 .d1 .d5), (.mv (.t (.p2 .d0 .d0))), some ((.p2 .d1 .d3), false)⟩,
  ⟨some (.p2 .d1 .d6), (.eql (.cell .str) (.t (.p2 .d1 .d4)) (.t (.p2 .d1 .d5))), some ((.p2 .d1 .d3), false)⟩,
  ⟨some (.p2 .d1 .d7), (.pick (.t (.p2 .d1 .d3)) (.k (.bool true)) (.t (.p2 .d1 .d6))), none⟩,
  ⟨some (.p2 .d1 .d0), (.mv (.t (.p2 .d1 .d7))), none⟩]) (.cond (.t (.p2 .d1 .d0)) (.seq (.reg [
  ⟨some (.p2 .d0 .d4), (.mv (.k (.i (.ofNat 0)))), none⟩]) .ret) (.seq (.reg [
  ⟨some (.p2 .d1 .d9), (.mv (.t (.p2 .d0 .d5))), none⟩,
  ⟨some (.p2 .d1 .d10), (.eql (.cell (.int .i64)) (.t (.p2 .d1 .d9)) (.k (.i (.ofNat 1)))), none⟩,
  ⟨some (.p2 .d1 .d8), (.mv (.t (.p2 .d1 .d10))), none⟩]) (.cond (.t (.p2 .d1 .d8)) (.seq (.reg [
  ⟨some (.p2 .d1 .d11), (.mv (.t (.p2 .d0 .d0))), none⟩,
  ⟨some (.p2 .d1 .d12), (.mv (.t (.p2 .d0 .d1))), none⟩,
  ⟨some (.p2 .d1 .d13), (.ixs (.t (.p2 .d1 .d12)) (.k (.i (.ofNat 0)))), none⟩,
  ⟨some (.p2 .d1 .d14), (.call ⟨79, .d0, .d4, .d15⟩ [(.t (.p2 .d1 .d11)), (.t (.p2 .d1 .d13))]), none⟩,
  ⟨some (.p2 .d0 .d4), (.mv (.t (.p2 .d1 .d14))), none⟩]) .ret) (.seq (.reg [
  ⟨some (.p2 .d2 .d0), (.mv (.t (.p2 .d0 .d5))), none⟩,
  ⟨some (.p2 .d2 .d1), (.mv (.t (.p2 .d0 .d0))), none⟩,
  ⟨some (.p2 .d2 .d2), (.len 0 (.t (.p2 .d2 .d1))), none⟩,
  ⟨some (.p2 .d2 .d3), (.geq (.t (.p2 .d2 .d0)) (.t (.p2 .d2 .d2))), none⟩,
  ⟨some (.p2 .d1 .d15), (.mv (.t (.p2 .d2 .d3))), none⟩]) (.cond (.t (.p2 .d1 .d15)) (.seq (.reg [
  ⟨some (.p2 .d0 .d4), (.mv (.k (.i (.negSucc 0)))), none⟩]) .ret) (.seq (.reg [
  ⟨some (.p2 .d2 .d5), (.mv (.t (.p2 .d0 .d5))), none⟩,
  ⟨some (.p2 .d2 .d6), (.ld1 (.k (.ptr ⟨.d15, .d0, .d0, .d0⟩ 0))), none⟩,
  ⟨some (.p2 .d2 .d7), (.leq (.t (.p2 .d2 .d5)) (.t (.p2 .d2 .d6))), none⟩,
  ⟨some (.p2 .d2 .d8), (.mv (.t (.p2 .d2 .d7))), none⟩,
  ⟨some (.p2 .d2 .d9), (.mv (.t (.p2 .d0 .d0))), some ((.p2 .d2 .d8), true)⟩,
  ⟨some (.p2 .d2 .d10), (.len 0 (.t (.p2 .d2 .d9))), some ((.p2 .d2 .d8), true)⟩,
  ⟨some (.p2 .d2 .d11), (.leq (.t (.p2 .d2 .d10)) (.k (.i (.ofNat 64)))), some ((.p2 .d2 .d8), true)⟩,
  ⟨some (.p2 .d2 .d12), (.pick (.t (.p2 .d2 .d8)) (.t (.p2 .d2 .d11)) (.k (.bool false))), none⟩,
  ⟨some (.p2 .d2 .d4), (.mv (.t (.p2 .d2 .d12))), none⟩]) (.cond (.t (.p2 .d2 .d4)) (.seq (.reg [
  ⟨some (.p2 .d2 .d13), (.mv (.t (.p2 .d0 .d0))), none⟩,
  ⟨some (.p2 .d2 .d14), (.mv (.t (.p2 .d0 .d1))), none⟩,
  ⟨some (.p2 .d2 .d15), (.extc .none [(.t (.p2 .d2 .d13)), (.t (.p2 .d2 .d14))]), none⟩,
  ⟨some (.p2 .d0 .d4), (.mv (.t (.p2 .d2 .d15))), none⟩]) .ret) .skip))))))))) (.seq (.reg [
  ⟨some (.p2 .d3 .d0), (.mv (.t (.p2 .d0 .d1))), none⟩,
  ⟨some (.p2 .d3 .d1), (.ixs (.t (.p2 .d3 .d0)) (.k (.i (.ofNat 0)))), none⟩,
  ⟨some (.p2 .d0 .d6), (.mv (.t (.p2 .d3 .d1))), none⟩]) (.seq (.reg [
  ⟨some (.p2 .d3 .d2), (.mv (.t (.p2 .d0 .d1))), none⟩,
  ⟨some (.p2 .d3 .d3), (.ixs (.t (.p2 .d3 .d2)) (.k (.i (.ofNat 1)))), none⟩,
  ⟨some (.p2 .d0 .d7), (.mv (.t (.p2 .d3 .d3))), none⟩]) (.seq (.reg [
  ⟨some (.p2 .d0 .d8), (.mv (.k (.i (.ofNat 0)))), none⟩]) (.seq (.reg [
  ⟨some (.p2 .d3 .d4), (.mv (.t (.p2 .d0 .d0))), none⟩,
  ⟨some (.p2 .d3 .d5), (.len 0 (.t (.p2 .d3 .d4))), none⟩,
  ⟨some (.p2 .d3 .d6), (.mv (.t (.p2 .d0 .d5))), none⟩,
  ⟨some (.p2 .d3 .d7), (.sub (.t (.p2 .d3 .d5)) (.t (.p2 .d3 .d6))), none⟩,
  ⟨some (.p2 .d3 .d8), (.add (.t (.p2 .d3 .d7)) (.k (.i (.ofNat 1)))), none⟩,
  ⟨some (.p2 .d0 .d9), (.mv (.t (.p2 .d3 .d8))), none⟩]) (.seq (.reg [
  ⟨some (.p2 .d0 .d10), (.mv (.k (.i (.ofNat 0)))), none⟩]) (.seq (.block 1 (.loop (.seq (.seq (.reg [
  ⟨some (.p2 .d3 .d9), (.mv (.t (.p2 .d0 .d8))), none⟩,
  ⟨some (.p2 .d3 .d10), (.mv (.t (.p2 .d0 .d9))), none⟩,
  ⟨some (.p2 .d3 .d11), (.lss (.t (.p2 .d3 .d9)) (.t (.p2 .d3 .d10))), none⟩]) (.cond (.t (.p2 .d3 .d11)) .skip (.exit 1))) (.block 2 (.seq (.seq (.reg [
  ⟨some (.p2 .d3 .d12), (.mv (.t (.p2 .d0 .d0))), none⟩,
  ⟨some (.p2 .d3 .d13), (.mv (.t (.p2 .d0 .d8))), none⟩,
  ⟨some (.p2 .d3 .d14), (.ixs (.t (.p2 .d3 .d12)) (.t (.p2 .d3 .d13))), none⟩,
  ⟨some (.p2 .d3 .d15), (.mv (.t (.p2 .d0 .d6))), none⟩,
  ⟨some (.p2 .d4 .d0), (.neq (.cell (.int .u8)) (.t (.p2 .d3 .d14)) (.t (.p2 .d3 .d15))), none⟩]) (.cond (.t (.p2 .d4 .d0)) (.seq (.reg [
  ⟨some (.p2 .d4 .d1), (.mv (.t (.p2 .d0 .d0))), none⟩,
  ⟨some (.p2 .d4 .d2), (.mv (.t (.p2 .d0 .d8))), none⟩,
  ⟨some (.p2 .d4 .d3), (.add (.t (.p2 .d4 .d2)) (.k (.i (.ofNat 1)))), none⟩,
  ⟨some (.p2 .d4 .d4), (.mv (.t (.p2 .d0 .d9))), none⟩,
  ⟨some (.p2 .d4 .d5), (.slStr (.t (.p2 .d4 .d1)) (some (.t (.p2 .d4 .d3))) (some (.t (.p2 .d4 .d4)))), none⟩,
  ⟨some (.p2 .d4 .d6), (.mv (.t (.p2 .d0 .d6))), none⟩,
  ⟨some (.p2 .d4 .d7), (.call ⟨79, .d0, .d4, .d15⟩ [(.t (.p2 .d4 .d5)), (.t (.p2 .d4 .d6))]), none⟩,
  ⟨some (.p2 .d0 .d11), (.mv (.t (.p2 .d4 .d7))), none⟩]) (.seq (.seq (.reg [
  ⟨some (.p2 .d4 .d8), (.mv (.t (.p2 .d0 .d11))), none⟩,
  ⟨some (.p2 .d4 .d9), (.lss (.t (.p2 .d4 .d8)) (.k (.i (.ofNat 0)))), none⟩]) (.cond (.t (.p2 .d4 .d9)) (.seq (.reg [
  ⟨some (.p2 .d0 .d4), (.mv (.k (.i (.negSucc 0)))), none⟩]) .ret) .skip)) (.reg [
  ⟨some (.p2 .d4 .d10), (.mv (.t (.p2 .d0 .d8))), none⟩,
  ⟨some (.p2 .d4 .d11), (.mv (.t (.p2 .d0 .d11))), none⟩,
  ⟨some (.p2 .d4 .d12), (.add (.t (.p2 .d4 .d11)) (.k (.i (.ofNat 1)))), none⟩,
  ⟨some (.p2 .d4 .d13), (.add (.t (.p2 .d4 .d10)) (.t (.p2 .d4 .d12))), none⟩,
  ⟨some (.p2 .d0 .d8), (.mv (.t (.p2 .d4 .d13))), none⟩]))) .skip)) (.seq (.seq (.reg [
  ⟨some (.p2 .d4 .d14), (.mv (.t (.p2 .d0 .d0))), none⟩,
  ⟨some (.p2 .d4 .d15), (.mv (.t (.p2 .d0 .d8))), none⟩,
  ⟨some (.p2 .d5 .d0), (.add (.t (.p2 .d4 .d15)) (.k (.i (.ofNat 1)))), none⟩,
  ⟨some (.p2 .d5 .d1), (.ixs (.t (.p2 .d4 .d14)) (.t (.p2 .d5 .d0))), none⟩,
  ⟨some (.p2 .d5 .d2), (.mv (.t (.p2 .d0 .d7))), none⟩,
  ⟨some (.p2 .d5 .d3), (.eql (.cell (.int .u8)) (.t (.p2 .d5 .d1)) (.t (.p2 .d5 .d2))), none⟩,
  ⟨some (.p2 .d5 .d4), (.mv (.t (.p2 .d5 .d3))), none⟩,
  ⟨some (.p2 .d5 .d5), (.mv (.t (.p2 .d0 .d0))), some ((.p2 .d5 .d4), true)⟩,
  ⟨some (.p2 .d5 .d6), (.mv (.t (.p2 .d0 .d8))), some ((.p2 .d5 .d4), true)⟩,
  ⟨some (.p2 .d5 .d7), (.mv (.t (.p2 .d0 .d8))), some ((.p2 .d5 .d4), true)⟩,
  ⟨some (.p2 .d5 .d8), (.mv (.t (.p2 .d0 .d5))), some ((.p2 .d5 .d4), true)⟩,
  ⟨some (.p2 .d5 .d9), (.add (.t (.p2 .d5 .d7)) (.t (.p2 .d5 .d8))), some ((.p2 .d5 .d4), true)⟩,
  ⟨some (.p2 .d5 .d10), (.slStr (.t (.p2 .d5 .d5)) (some (.t (.p2 .d5 .d6))) (some (.t (.p2 .d5 .d9)))), some ((.p2 .d5 .d4), true)⟩,
  ⟨some (.p2 .d5 .d11), (.mv (.t (.p2 .d0 .d1))), some ((.p2 .d5 .d4), true)⟩,
  ⟨some (.p2 .d5 .d12), (.eql (.cell .str) (.t (.p2 .d5 .d10)) (.t (.p2 .d5 .d11))), some ((.p2 .d5 .d4), true)⟩,
  ⟨some (.p2 .d5 .d13), (.pick (.t (.p2 .d5 .d4)) (.t (.p2 .d5 .d12)) (.k (.bool false))), none⟩]) (.cond (.t (.p2 .d5 .d13)) (.seq (.reg [
  ⟨some (.p2 .d5 .d14), (.mv (.t (.p2 .d0 .d8))), none⟩,
  ⟨some (.p2 .d0 .d4), (.mv (.t (.p2 .d5 .d14))), none⟩]) .ret) .skip)) (.seq (.reg [
  ⟨some (.p2 .d5 .d15), (.mv (.t (.p2 .d0 .d8))), none⟩,
  ⟨some (.p2 .d6 .d0), (.add (.t (.p2 .d5 .d15)) (.k (.i (.ofNat 1)))), none⟩,
  ⟨some (.p2 .d0 .d8), (.mv (.t (.p2 .d6 .d0))), none⟩]) (.seq (.reg [
  ⟨some (.p2 .d6 .d1), (.mv (.t (.p2 .d0 .d10))), none⟩,
  ⟨some (.p2 .d6 .d2), (.add (.t (.p2 .d6 .d1)) (.k (.i (.ofNat 1)))), none⟩,
  ⟨some (.p2 .d0 .d10), (.mv (.t (.p2 .d6 .d2))), none⟩]) (.seq (.reg [
  ⟨some (.p2 .d6 .d3), (.mv (.t (.p2 .d0 .d5))), none⟩,
  ⟨some (.p2 .d6 .d4), (.ld1 (.k (.ptr ⟨.d15, .d0, .d0, .d0⟩ 0))), none⟩,
  ⟨some (.p2 .d6 .d5), (.leq (.t (.p2 .d6 .d3)) (.t (.p2 .d6 .d4))), none⟩,
  ⟨some (.p2 .d6 .d6), (.mv (.t (.p2 .d6 .d5))), none⟩,
  ⟨some (.p2 .d6 .d7), (.mv (.t (.p2 .d0 .d10))), some ((.p2 .d6 .d6), true)⟩,
  ⟨some (.p2 .d6 .d8), (.mv (.t (.p2 .d0 .d8))), some ((.p2 .d6 .d6), true)⟩,
  ⟨some (.p2 .d6 .d9), (.call ⟨105, .d0, .d6, .d9⟩ [(.t (.p2 .d6 .d8))]), some ((.p2 .d6 .d6), true)⟩,
  ⟨some (.p2 .d6 .d10), (.gtr (.t (.p2 .d6 .d7)) (.t (.p2 .d6 .d9))), some ((.p2 .d6 .d6), true)⟩,
  ⟨some (.p2 .d6 .d11), (.pick (.t (.p2 .d6 .d6)) (.t (.p2 .d6 .d10)) (.k (.bool false))), none⟩]) (.cond (.t (.p2 .d6 .d11)) (.seq (.reg [
  ⟨some (.p2 .d6 .d12), (.mv (.t (.p2 .d0 .d0))), none⟩,
  ⟨some (.p2 .d6 .d13), (.mv (.t (.p2 .d0 .d8))), none⟩,
  ⟨some (.p2 .d6 .d14), (.slStr (.t (.p2 .d6 .d12)) (some (.t (.p2 .d6 .d13))) none), none⟩,
  ⟨some (.p2 .d6 .d15), (.mv (.t (.p2 .d0 .d1))), none⟩,
  ⟨some (.p2 .d7 .d0), (.extc .none [(.t (.p2 .d6 .d14)), (.t (.p2 .d6 .d15))]), none⟩,
  ⟨some (.p2 .d0 .d12), (.mv (.t (.p2 .d7 .d0))), none⟩]) (.seq (.seq (.reg [
  ⟨some (.p2 .d7 .d1), (.mv (.t (.p2 .d0 .d12))), none⟩,
  ⟨some (.p2 .d7 .d2), (.geq (.t (.p2 .d7 .d1)) (.k (.i (.ofNat 0)))), none⟩]) (.cond (.t (.p2 .d7 .d2)) (.seq (.reg [
  ⟨some (.p2 .d7 .d3), (.mv (.t (.p2 .d0 .d12))), none⟩,
  ⟨some (.p2 .d7 .d4), (.mv (.t (.p2 .d0 .d8))), none⟩,
  ⟨some (.p2 .d7 .d5), (.add (.t (.p2 .d7 .d3)) (.t (.p2 .d7 .d4))), none⟩,
  ⟨some (.p2 .d0 .d4), (.mv (.t (.p2 .d7 .d5))), none⟩]) .ret) .skip)) (.seq (.reg [
  ⟨some (.p2 .d0 .d4), (.mv (.k (.i (.negSucc 0)))), none⟩]) .ret))) (.seq (.reg [
  ⟨some (.p2 .d7 .d6), (.mv (.t (.p2 .d0 .d5))), none⟩,
  ⟨some (.p2 .d7 .d7), (.ld1 (.k (.ptr ⟨.d15, .d0, .d0, .d0⟩ 0))), none⟩,
  ⟨some (.p2 .d7 .d8), (.gtr (.t (.p2 .d7 .d6)) (.t (.p2 .d7 .d7))), none⟩,
  ⟨some (.p2 .d7 .d9), (.mv (.t (.p2 .d7 .d8))), none⟩,
  ⟨some (.p2 .d7 .d10), (.mv (.t (.p2 .d0 .d10))), some ((.p2 .d7 .d9), true)⟩,
  ⟨some (.p2 .d7 .d11), (.mv (.t (.p2 .d0 .d8))), some ((.p2 .d7 .d9), true)⟩,
  ⟨some (.p2 .d7 .d12), (.shr (.t (.p2 .d7 .d11)) (.k (.int .u64 (.ofNat 4)))), some ((.p2 .d7 .d9), true)⟩,
  ⟨some (.p2 .d7 .d13), (.add (.k (.i (.ofNat 4))) (.t (.p2 .d7 .d12))), some ((.p2 .d7 .d9), true)⟩,
  ⟨some (.p2 .d7 .d14), (.geq (.t (.p2 .d7 .d10)) (.t (.p2 .d7 .d13))), some ((.p2 .d7 .d9), true)⟩,
  ⟨some (.p2 .d7 .d15), (.pick (.t (.p2 .d7 .d9)) (.t (.p2 .d7 .d14)) (.k (.bool false))), none⟩,
  ⟨some (.p2 .d8 .d0), (.mv (.t (.p2 .d7 .d15))), none⟩,
  ⟨some (.p2 .d8 .d1), (.mv (.t (.p2 .d0 .d8))), some ((.p2 .d8 .d0), true)⟩,
  ⟨some (.p2 .d8 .d2), (.mv (.t (.p2 .d0 .d9))), some ((.p2 .d8 .d0), true)⟩,
  ⟨some (.p2 .d8 .d3), (.lss (.t (.p2 .d8 .d1)) (.t (.p2 .d8 .d2))), some ((.p2 .d8 .d0), true)⟩,
  ⟨some (.p2 .d8 .d4), (.pick (.t (.p2 .d8 .d0)) (.t (.p2 .d8 .d3)) (.k (.bool false))), none⟩]) (.cond (.t (.p2 .d8 .d4)) (.seq (.reg [
  ⟨some (.p2 .d8 .d5), (.mv (.t (.p2 .d0 .d0))), none⟩,
  ⟨some (.p2 .d8 .d6), (.mv (.t (.p2 .d0 .d8))), none⟩,
  ⟨some (.p2 .d8 .d7), (.slStr (.t (.p2 .d8 .d5)) (some (.t (.p2 .d8 .d6))) none), none⟩,
  ⟨some (.p2 .d8 .d8), (.mv (.t (.p2 .d0 .d1))), none⟩,
  ⟨some (.p2 .d8 .d9), (.call ⟨106, .d0, .d6, .d10⟩ [(.t (.p2 .d8 .d7)), (.t (.p2 .d8 .d8))]), none⟩,
  ⟨some (.p2 .d0 .d13), (.mv (.t (.p2 .d8 .d9))), none⟩]) (.seq (.seq (.reg [
  ⟨some (.p2 .d8 .d10), (.mv (.t (.p2 .d0 .d13))), none⟩,
  ⟨some (.p2 .d8 .d11), (.lss (.t (.p2 .d8 .d10)) (.k (.i (.ofNat 0)))), none⟩]) (.cond (.t (.p2 .d8 .d11)) (.seq (.reg [
  ⟨some (.p2 .d0 .d4), (.mv (.k (.i (.negSucc 0)))), none⟩]) .ret) .skip)) (.seq (.reg [
  ⟨some (.p2 .d8 .d12), (.mv (.t (.p2 .d0 .d8))), none⟩,
  ⟨some (.p2 .d8 .d13), (.mv (.t (.p2 .d0 .d13))), none⟩,
  ⟨some (.p2 .d8 .d14), (.add (.t (.p2 .d8 .d12)) (.t (.p2 .d8 .d13))), none⟩,
  ⟨some (.p2 .d0 .d4), (.mv (.t (.p2 .d8 .d14))), none⟩]) .ret))) .skip)))))))))))) (.seq (.reg [
  ⟨some (.p2 .d0 .d4), (.mv (.k (.i (.negSucc 0)))), none⟩]) .ret)))))))))), [.tmp (.p2 .d0 .d4)]⟩
def cf75 : CF := ⟨75, true, (.seq (.reg [
  ⟨some (.p2 .d0 .d4), (.mv (.k (.bool false))), none⟩]) (.seq (.reg [
  ⟨some (.p2 .d0 .d5), (.mv (.t (.p2 .d0 .d0))), none⟩,
  ⟨some (.p2 .d0 .d6), (.len 0 (.t (.p2 .d0 .d5))), none⟩,
  ⟨some (.p2 .d0 .d7), (.mv (.t (.p2 .d0 .d1))), none⟩,
  ⟨some (.p2 .d0 .d8), (.len 0 (.t (.p2 .d0 .d7))), none⟩,
  ⟨some (.p2 .d0 .d9), (.geq (.t (.p2 .d0 .d6)) (.t (.p2 .d0 .d8))), none⟩,
  ⟨some (.p2 .d0 .d10), (.mv (.t (.p2 .d0 .d9))), none⟩,
  ⟨some (.p2 .d0 .d11), (.mv (.t (.p2 .d0 .d0))), some ((.p2 .d0 .d10), true)⟩,
  ⟨some (.p2 .d0 .d12), (.mv (.t (.p2 .d0 .d0))), some ((.p2 .d0 .d10), true)⟩,
  ⟨some (.p2 .d0 .d13), (.len 0 (.t (.p2 .d0 .d12))), some ((.p2 .d0 .d10), true)⟩,
  ⟨some (.p2 .d0 .d14), (.mv (.t (.p2 .d0 .d1))), some ((.p2 .d0 .d10), true)⟩,
  ⟨some (.p2 .d0 .d15), (.len 0 (.t (.p2 .d0 .d14))), some ((.p2 .d0 .d10), true)⟩,
  ⟨some (.p2 .d1 .d0), (.sub (.t (.p2 .d0 .d13)) (.t (.p2 .d0 .d15))), some ((.p2 .d0 .d10), true)⟩,
  ⟨some (.p2 .d1 .d1), (.slStr (.t (.p2 .d0 .d11)) (some (.t (.p2 .d1 .d0))) none), some ((.p2 .d0 .d10), true)⟩,
  ⟨some (.p2 .d1 .d2), (.mv (.t (.p2 .d0 .d1))), some ((.p2 .d0 .d10), true)⟩,
  ⟨some (.p2 .d1 .d3), (.eql (.cell .str) (.t (.p2 .d1 .d1)) (.t (.p2 .d1 .d2))), some ((.p2 .d0 .d10), true)⟩,
  ⟨some (.p2 .d1 .d4), (.pick (.t (.p2 .d0 .d10)) (.t (.p2 .d1 .d3)) (.k (.bool false))), none⟩,
  ⟨some (.p2 .d0 .d4), (.mv (.t (.p2 .d1 .d4))), none⟩]) .ret)), [.tmp (.p2 .d0 .d4)]⟩
def cf78 : CF := ⟨78, true, (.seq (.reg [
  ⟨some (.p2 .d0 .d2), (.mv (.k (.int .i32 (.ofNat 0)))), none⟩,
  ⟨some (.p2 .d0 .d3), (.mv (.k (.i (.ofNat 0)))), none⟩]) (.seq (.seq (.reg [
  ⟨some (.p2 .d0 .d4), (.mv (.t (.p2 .d0 .d0))), none⟩,
  ⟨some (.p2 .d0 .d5), (.neq (.cell .str) (.t (.p2 .d0 .d4)) (.k (.str 0 0))), none⟩,
  ⟨some (.p2 .d0 .d6), (.mv (.t (.p2 .d0 .d5))), none⟩,
  ⟨some (.p2 .d0 .d7), (.mv (.t (.p2 .d0 .d0))), some ((.p2 .d0 .d6), true)⟩,
  ⟨some (.p2 .d0 .d8), (.ixs (.t (.p2 .d0 .d7)) (.k (.i (.ofNat 0)))), some ((.p2 .d0 .d6), true)⟩,
  ⟨some (.p2 .d0 .d9), (.lss (.t (.p2 .d0 .d8)) (.k (.u8 128))), some ((.p2 .d0 .d6), true)⟩,
  ⟨some (.p2 .d0 .d10), (.pick (.t (.p2 .d0 .d6)) (.t (.p2 .d0 .d9)) (.k (.bool false))), none⟩]) (.cond (.t (.p2 .d0 .d10)) (.seq (.reg [
  ⟨some (.p2 .d0 .d11), (.mv (.t (.p2 .d0 .d0))), none⟩,
  ⟨some (.p2 .d0 .d12), (.ixs (.t (.p2 .d0 .d11)) (.k (.i (.ofNat 0)))), none⟩,
  ⟨some (.p2 .d0 .d13), (.cint .i32 (.t (.p2 .d0 .d12))), none⟩,
  ⟨some (.p2 .d0 .d2), (.mv (.t (.p2 .d0 .d13))), none⟩,
  ⟨some (.p2 .d0 .d3), (.mv (.k (.i (.ofNat 1)))), none⟩]) .ret) (.reg [
  ⟨some (.p2 .d0 .d15), (.mv (.t (.p2 .d0 .d0))), none⟩,
  ⟨some (.p2 .d1 .d0), (.call ⟨108, .d0, .d6, .d12⟩ [(.t (.p2 .d0 .d15))]), none⟩,
  ⟨some (.p2 .d0 .d14), (.mv (.t (.p2 .d1 .d0))), none⟩,
  ⟨some (.p2 .d1 .d1), (.ext (.t (.p2 .d0 .d14)) 0), none⟩,
  ⟨some (.p2 .d1 .d2), (.ext (.t (.p2 .d0 .d14)) 1), none⟩,
  ⟨some (.p2 .d0 .d2), (.mv (.t (.p2 .d1 .d1))), none⟩,
  ⟨some (.p2 .d0 .d3), (.mv (.t (.p2 .d1 .d2))), none⟩]))) .ret)), [.tmp (.p2 .d0 .d2), .tmp (.p2 .d0 .d3)]⟩
def cf79 : CF := ⟨79, true, (.seq (.reg [
  ⟨some (.p2 .d0 .d4), (.mv (.k (.i (.ofNat 0)))), none⟩]) (.seq (.reg [
  ⟨some (.p2 .d0 .d5), (.mv (.t (.p2 .d0 .d0))), none⟩,
  ⟨some (.p2 .d0 .d6), (.mv (.t (.p2 .d0 .d1))), none⟩,
  ⟨some (.p2 .d0 .d7), (.extc .idxByteStr [(.t (.p2 .d0 .d5)), (.t (.p2 .d0 .d6))]), none⟩,
  ⟨some (.p2 .d0 .d4), (.mv (.t (.p2 .d0 .d7))), none⟩]) .ret)), [.tmp (.p2 .d0 .d4)]⟩
def cf80 : CF := ⟨80, true, (.seq (.reg [
  ⟨some (.p2 .d0 .d2), (.mv (.k (.i (.ofNat 0)))), none⟩]) (.seq (.seq (.reg [
  ⟨some (.p2 .d0 .d3), (.mv (.t (.p2 .d0 .d0))), none⟩,
  ⟨some (.p2 .d0 .d4), (.eql (.cell .str) (.t (.p2 .d0 .d3)) (.k (.str 0 0))), none⟩,
  ⟨some (.p2 .d0 .d5), (.mv (.t (.p2 .d0 .d4))), none⟩,
  ⟨some (.p2 .d0 .d6), (.mv (.t (.p2 .d0 .d0))), some ((.p2 .d0 .d5), false)⟩,
  ⟨some (.p2 .d0 .d7), (.ixs (.t (.p2 .d0 .d6)) (.k (.i (.ofNat 0)))), some ((.p2 .d0 .d5), false)⟩,
  ⟨some (.p2 .d0 .d8), (.call ⟨51, .d0, .d3, .d3⟩ [(.k (.str 53 16157843656543206341400046713952968888398790991856301506895559764951313024109301289348083826905017653640330611322940812530238017)), (.t (.p2 .d0 .d7))]), some ((.p2 .d0 .d5), false)⟩,
  ⟨some (.p2 .d0 .d9), (.lss (.t (.p2 .d0 .d8)) (.k (.i (.ofNat 0)))), some ((.p2 .d0 .d5), false)⟩,
  ⟨some (.p2 .d0 .d10), (.pick (.t (.p2 .d0 .d5)) (.k (.bool true)) (.t (.p2 .d0 .d9))), none⟩]) (.cond (.t (.p2 .d0 .d10)) (.seq (.reg [
  ⟨some (.p2 .d0 .d2), (.mv (.k (.i (.ofNat 0)))), none⟩]) .ret) .skip)) (.seq (.reg [
  ⟨some (.p2 .d0 .d11), (.mv (.t (.p2 .d0 .d0))), none⟩,
  ⟨some (.p2 .d0 .d12), (.len 0 (.t (.p2 .d0 .d11))), none⟩,
  ⟨some (.p2 .d0 .d13), (.mv (.t (.p2 .d0 .d0))), none⟩,
  ⟨some (.p2 .d0 .d14), (.call ⟨110, .d0, .d6, .d14⟩ [(.t (.p2 .d0 .d13)), (.k (.str 63 11706379785045758016460556960253145095770499060899962359169258093980610824843989617873854766953088234131706554366822462920482075081893450113044812350017))]), none⟩,
  ⟨some (.p2 .d0 .d15), (.len 0 (.t (.p2 .d0 .d14))), none⟩,
  ⟨some (.p2 .d1 .d0), (.sub (.t (.p2 .d0 .d12)) (.t (.p2 .d0 .d15))), none⟩,
  ⟨some (.p2 .d0 .d2), (.mv (.t (.p2 .d1 .d0))), none⟩]) .ret))), [.tmp (.p2 .d0 .d2)]⟩
def cf81 : CF := ⟨81, true, (.seq (.reg [
  ⟨some (.p2 .d0 .d2), (.mv (.k (.bool false))), none⟩]) (.seq (.reg [
  ⟨some (.p2 .d0 .d3), (.call ⟨111, .d0, .d6, .d15⟩ []), none⟩,
  ⟨some (.p2 .d0 .d4), (.mv (.t (.p2 .d0 .d0))), none⟩,
  ⟨some (.p2 .d0 .d5), (.call ⟨35, .d0, .d2, .d3⟩ [(.t (.p2 .d0 .d3)), (.t (.p2 .d0 .d4))]), none⟩,
  ⟨some (.p2 .d0 .d2), (.mv (.t (.p2 .d0 .d5))), none⟩]) .ret)), [.tmp (.p2 .d0 .d2)]⟩
def cf82 : CF := ⟨82, true, (.seq (.reg [
  ⟨some (.p2 .d0 .d2), (.mv (.k (.bool false))), none⟩]) (.seq (.reg [
  ⟨some (.p2 .d0 .d3), (.mv (.t (.p2 .d0 .d0))), none⟩,
  ⟨some (.p2 .d0 .d4), (.neq (.cell .str) (.t (.p2 .d0 .d3)) (.k (.str 0 0))), none⟩,
  ⟨some (.p2 .d0 .d5), (.mv (.t (.p2 .d0 .d4))), none⟩,
  ⟨some (.p2 .d0 .d6), (.mv (.t (.p2 .d0 .d0))), some ((.p2 .d0 .d5), true)⟩,
  ⟨some (.p2 .d0 .d7), (.call ⟨80, .d0, .d5, .d0⟩ [(.t (.p2 .d0 .d6))]), some ((.p2 .d0 .d5), true)⟩,
  ⟨some (.p2 .d0 .d8), (.mv (.t (.p2 .d0 .d0))), some ((.p2 .d0 .d5), true)⟩,
  ⟨some (.p2 .d0 .d9), (.len 0 (.t (.p2 .d0 .d8))), some ((.p2 .d0 .d5), true)⟩,
  ⟨some (.p2 .d0 .d10), (.eql (.cell (.int .i64)) (.t (.p2 .d0 .d7)) (.t (.p2 .d0 .d9))), some ((.p2 .d0 .d5), true)⟩,
  ⟨some (.p2 .d0 .d11), (.pick (.t (.p2 .d0 .d5)) (.t (.p2 .d0 .d10)) (.k (.bool false))), none⟩,
  ⟨some (.p2 .d0 .d12), (.mv (.t (.p2 .d0 .d11))), none⟩,
  ⟨some (.p2 .d0 .d13), (.mv (.t (.p2 .d0 .d0))), some ((.p2 .d0 .d12), true)⟩,
  ⟨some (.p2 .d0 .d14), (.len 0 (.t (.p2 .d0 .d13))), some ((.p2 .d0 .d12), true)⟩,
  ⟨some (.p2 .d0 .d15), (.leq (.t (.p2 .d0 .d14)) (.k (.i (.ofNat 40)))), some ((.p2 .d0 .d12), true)⟩,
  ⟨some (.p2 .d1 .d0), (.pick (.t (.p2 .d0 .d12)) (.t (.p2 .d0 .d15)) (.k (.bool false))), none⟩,
  ⟨some (.p2 .d1 .d1), (.mv (.t (.p2 .d1 .d0))), none⟩,
  ⟨some (.p2 .d1 .d2), (.mv (.t (.p2 .d0 .d0))), some ((.p2 .d1 .d1), true)⟩,
  ⟨some (.p2 .d1 .d3), (.neq (.cell .str) (.t (.p2 .d1 .d2)) (.k (.str 1 95))), some ((.p2 .d1 .d1), true)⟩,
  ⟨some (.p2 .d1 .d4), (.pick (.t (.p2 .d1 .d1)) (.t (.p2 .d1 .d3)) (.k (.bool false))), none⟩,
  ⟨some (.p2 .d1 .d5), (.mv (.t (.p2 .d1 .d4))), none⟩,
  ⟨some (.p2 .d1 .d6), (.mv (.t (.p2 .d0 .d0))), some ((.p2 .d1 .d5), true)⟩,
  ⟨some (.p2 .d1 .d7), (.call ⟨81, .d0, .d5, .d1⟩ [(.t (.p2 .d1 .d6))]), some ((.p2 .d1 .d5), true)⟩,
  ⟨some (.p2 .d1 .d8), (.not (.t (.p2 .d1 .d7))), some ((.p2 .d1 .d5), true)⟩,
  ⟨some (.p2 .d1 .d9), (.pick (.t (.p2 .d1 .d5)) (.t (.p2 .d1 .d8)) (.k (.bool false))), none⟩,
  ⟨some (.p2 .d0 .d2), (.mv (.t (.p2 .d1 .d9))), none⟩]) .ret)), [.tmp (.p2 .d0 .d2)]⟩
def cf83 : CF := ⟨83, true, (.seq (.reg [
  ⟨some (.p2 .d0 .d2), (.mv (.k (.i (.ofNat 0)))), none⟩,
  ⟨some (.p2 .d0 .d3), (.mv (.k (.i (.ofNat 0)))), none⟩]) (.seq (.reg [
  ⟨some (.p2 .d0 .d9), (.mv (.t (.p2 .d0 .d0))), none⟩,
  ⟨some (.p2 .d0 .d10), (.call ⟨112, .d0, .d7, .d0⟩ [(.t (.p2 .d0 .d9))]), none⟩,
  ⟨some (.p2 .d0 .d4), (.mv (.t (.p2 .d0 .d10))), none⟩]) (.seq (.seq (.reg [
  ⟨some (.p2 .d0 .d11), (.mv (.t (.p2 .d0 .d4))), none⟩,
  ⟨some (.p2 .d0 .d12), (.eql (.cell (.int .i64)) (.t (.p2 .d0 .d11)) (.k (.i (.ofNat 0)))), none⟩,
  ⟨some (.p2 .d0 .d13), (.mv (.t (.p2 .d0 .d12))), none⟩,
  ⟨some (.p2 .d0 .d14), (.mv (.t (.p2 .d0 .d0))), some ((.p2 .d0 .d13), false)⟩,
  ⟨some (.p2 .d0 .d15), (.mv (.t (.p2 .d0 .d4))), some ((.p2 .d0 .d13), false)⟩,
  ⟨some (.p2 .d1 .d0), (.slStr (.t (.p2 .d0 .d14)) (some (.t (.p2 .d0 .d15))) none), some ((.p2 .d0 .d13), false)⟩,
  ⟨some (.p2 .d1 .d1), (.call ⟨52, .d0, .d3, .d4⟩ [(.t (.p2 .d1 .d0)), (.k (.str 1 46))]), some ((.p2 .d0 .d13), false)⟩,
  ⟨some (.p2 .d1 .d2), (.not (.t (.p2 .d1 .d1))), some ((.p2 .d0 .d13), false)⟩,
  ⟨some (.p2 .d1 .d3), (.pick (.t (.p2 .d0 .d13)) (.k (.bool true)) (.t (.p2 .d1 .d2))), none⟩,
  ⟨some (.p2 .d1 .d4), (.mv (.t (.p2 .d1 .d3))), none⟩,
  ⟨some (.p2 .d1 .d5), (.mv (.t (.p2 .d0 .d0))), some ((.p2 .d1 .d4), false)⟩,
  ⟨some (.p2 .d1 .d6), (.mv (.t (.p2 .d0 .d4))), some ((.p2 .d1 .d4), false)⟩,
  ⟨some (.p2 .d1 .d7), (.add (.t (.p2 .d1 .d6)) (.k (.i (.ofNat 1)))), some ((.p2 .d1 .d4), false)⟩,
  ⟨some (.p2 .d1 .d8), (.slStr (.t (.p2 .d1 .d5)) (some (.t (.p2 .d1 .d7))) none), some ((.p2 .d1 .d4), false)⟩,
  ⟨some (.p2 .d1 .d9), (.call ⟨112, .d0, .d7, .d0⟩ [(.t (.p2 .d1 .d8))]), some ((.p2 .d1 .d4), false)⟩,
  ⟨some (.p2 .d1 .d10), (.eql (.cell (.int .i64)) (.t (.p2 .d1 .d9)) (.k (.i (.ofNat 0)))), some ((.p2 .d1 .d4), false)⟩,
  ⟨some (.p2 .d1 .d11), (.pick (.t (.p2 .d1 .d4)) (.k (.bool true)) (.t (.p2 .d1 .d10))), none⟩]) (.cond (.t (.p2 .d1 .d11)) (.seq (.reg [
  ⟨some (.p2 .d1 .d12), (.mv (.t (.p2 .d0 .d4))), none⟩,
  ⟨some (.p2 .d0 .d2), (.mv (.k (.i (.ofNat 3)))), none⟩,
  ⟨some (.p2 .d0 .d3), (.mv (.t (.p2 .d1 .d12))), none⟩]) .ret) .skip)) (.seq (.reg [
  ⟨some (.p2 .d1 .d13), (.mv (.t (.p2 .d0 .d4))), none⟩,
  ⟨some (.p2 .d1 .d14), (.mv (.t (.p2 .d0 .d0))), none⟩,
  ⟨some (.p2 .d1 .d15), (.mv (.t (.p2 .d0 .d4))), none⟩,
  ⟨some (.p2 .d2 .d0), (.add (.t (.p2 .d1 .d15)) (.k (.i (.ofNat 1)))), none⟩,
  ⟨some (.p2 .d2 .d1), (.slStr (.t (.p2 .d1 .d14)) (some (.t (.p2 .d2 .d0))) none), none⟩,
  ⟨some (.p2 .d2 .d2), (.call ⟨112, .d0, .d7, .d0⟩ [(.t (.p2 .d2 .d1))]), none⟩,
  ⟨some (.p2 .d2 .d3), (.add (.k (.i (.ofNat 1))) (.t (.p2 .d2 .d2))), none⟩,
  ⟨some (.p2 .d2 .d4), (.add (.t (.p2 .d1 .d13)) (.t (.p2 .d2 .d3))), none⟩,
  ⟨some (.p2 .d0 .d4), (.mv (.t (.p2 .d2 .d4))), none⟩]) (.seq (.seq (.reg [
  ⟨some (.p2 .d2 .d6), (.mv (.t (.p2 .d0 .d0))), none⟩,
  ⟨some (.p2 .d2 .d7), (.mv (.t (.p2 .d0 .d4))), none⟩,
  ⟨some (.p2 .d2 .d8), (.slStr (.t (.p2 .d2 .d6)) (some (.t (.p2 .d2 .d7))) none), none⟩,
  ⟨some (.p2 .d2 .d9), (.call ⟨24, .d0, .d1, .d8⟩ [(.t (.p2 .d2 .d8)), (.k (.str 1 101))]), none⟩,
  ⟨some (.p2 .d2 .d5), (.mv (.t (.p2 .d2 .d9))), none⟩,
  ⟨some (.p2 .d2 .d10), (.ext (.t (.p2 .d2 .d5)) 0), none⟩,
  ⟨some (.p2 .d2 .d11), (.ext (.t (.p2 .d2 .d5)) 1), none⟩,
  ⟨some (.p2 .d0 .d5), (.mv (.t (.p2 .d2 .d10))), none⟩,
  ⟨some (.p2 .d0 .d6), (.mv (.t (.p2 .d2 .d11))), none⟩]) (.seq (.reg [
  ⟨some (.p2 .d2 .d12), (.mv (.t (.p2 .d0 .d6))), none⟩]) (.cond (.t (.p2 .d2 .d12)) (.seq (.reg [
  ⟨some (.p2 .d2 .d13), (.mv (.t (.p2 .d0 .d5))), none⟩,
  ⟨some (.p2 .d0 .d7), (.mv (.t (.p2 .d2 .d13))), none⟩]) (.seq (.seq (.reg [
  ⟨some (.p2 .d2 .d14), (.mv (.t (.p2 .d0 .d7))), none⟩,
  ⟨some (.p2 .d2 .d15), (.neq (.cell .str) (.t (.p2 .d2 .d14)) (.k (.str 0 0))), none⟩,
  ⟨some (.p2 .d3 .d0), (.mv (.t (.p2 .d2 .d15))), none⟩,
  ⟨some (.p2 .d3 .d1), (.mv (.t (.p2 .d0 .d7))), some ((.p2 .d3 .d0), true)⟩,
  ⟨some (.p2 .d3 .d2), (.ixs (.t (.p2 .d3 .d1)) (.k (.i (.ofNat 0)))), some ((.p2 .d3 .d0), true)⟩,
  ⟨some (.p2 .d3 .d3), (.eql (.cell (.int .u8)) (.t (.p2 .d3 .d2)) (.k (.u8 43))), some ((.p2 .d3 .d0), true)⟩,
  ⟨some (.p2 .d3 .d4), (.mv (.t (.p2 .d3 .d3))), some ((.p2 .d3 .d0), true)⟩,
  ⟨some (.p2 .d3 .d5), (.mv (.t (.p2 .d0 .d7))), some ((.p2 .d3 .d4), false)⟩,
  ⟨some (.p2 .d3 .d6), (.ixs (.t (.p2 .d3 .d5)) (.k (.i (.ofNat 0)))), some ((.p2 .d3 .d4), false)⟩,
  ⟨some (.p2 .d3 .d7), (.eql (.cell (.int .u8)) (.t (.p2 .d3 .d6)) (.k (.u8 45))), some ((.p2 .d3 .d4), false)⟩,
  ⟨some (.p2 .d3 .d8), (.pick (.t (.p2 .d3 .d4)) (.k (.bool true)) (.t (.p2 .d3 .d7))), some ((.p2 .d3 .d0), true)⟩,
  ⟨some (.p2 .d3 .d9), (.pick (.t (.p2 .d3 .d0)) (.t (.p2 .d3 .d8)) (.k (.bool false))), none⟩]) (.cond (.t (.p2 .d3 .d9)) (.reg [
  ⟨some (.p2 .d3 .d10), (.mv (.t (.p2 .d0 .d7))), none⟩,
  ⟨some (.p2 .d3 .d11), (.slStr (.t (.p2 .d3 .d10)) (some (.k (.i (.ofNat 1)))) none), none⟩,
  ⟨some (.p2 .d0 .d7), (.mv (.t (.p2 .d3 .d11))), none⟩]) .skip)) (.seq (.reg [
  ⟨some (.p2 .d3 .d12), (.mv (.t (.p2 .d0 .d7))), none⟩,
  ⟨some (.p2 .d3 .d13), (.call ⟨112, .d0, .d7, .d0⟩ [(.t (.p2 .d3 .d12))]), none⟩,
  ⟨some (.p2 .d0 .d8), (.mv (.t (.p2 .d3 .d13))), none⟩]) (.seq (.reg [
  ⟨some (.p2 .d3 .d14), (.mv (.t (.p2 .d0 .d8))), none⟩,
  ⟨some (.p2 .d3 .d15), (.gtr (.t (.p2 .d3 .d14)) (.k (.i (.ofNat 0)))), none⟩]) (.cond (.t (.p2 .d3 .d15)) (.reg [
  ⟨some (.p2 .d4 .d0), (.mv (.t (.p2 .d0 .d4))), none⟩,
  ⟨some (.p2 .d4 .d1), (.mv (.t (.p2 .d0 .d5))), none⟩,
  ⟨some (.p2 .d4 .d2), (.len 0 (.t (.p2 .d4 .d1))), none⟩,
  ⟨some (.p2 .d4 .d3), (.add (.k (.i (.ofNat 1))) (.t (.p2 .d4 .d2))), none⟩,
  ⟨some (.p2 .d4 .d4), (.mv (.t (.p2 .d0 .d7))), none⟩,
  ⟨some (.p2 .d4 .d5), (.len 0 (.t (.p2 .d4 .d4))), none⟩,
  ⟨some (.p2 .d4 .d6), (.sub (.t (.p2 .d4 .d3)) (.t (.p2 .d4 .d5))), none⟩,
  ⟨some (.p2 .d4 .d7), (.mv (.t (.p2 .d0 .d8))), none⟩,
  ⟨some (.p2 .d4 .d8), (.add (.t (.p2 .d4 .d6)) (.t (.p2 .d4 .d7))), none⟩,
  ⟨some (.p2 .d4 .d9), (.add (.t (.p2 .d4 .d0)) (.t (.p2 .d4 .d8))), none⟩,
  ⟨some (.p2 .d0 .d4), (.mv (.t (.p2 .d4 .d9))), none⟩]) .skip))))) .skip))) (.seq (.reg [
  ⟨some (.p2 .d4 .d10), (.mv (.t (.p2 .d0 .d4))), none⟩,
  ⟨some (.p2 .d0 .d2), (.mv (.k (.i (.ofNat 4)))), none⟩,
  ⟨some (.p2 .d0 .d3), (.mv (.t (.p2 .d4 .d10))), none⟩]) .ret)))))), [.tmp (.p2 .d0 .d2), .tmp (.p2 .d0 .d3)]⟩
def cf84 : CF := ⟨84, true, (.seq (.reg [
  ⟨some (.p2 .d0 .d2), (.mv (.k (.i (.ofNat 0)))), none⟩,
  ⟨some (.p2 .d0 .d3), (.mv (.k (.i (.ofNat 0)))), none⟩]) (.seq (.seq (.reg [
  ⟨some (.p2 .d0 .d6), (.mv (.t (.p2 .d0 .d0))), none⟩,
  ⟨some (.p2 .d0 .d7), (.call ⟨113, .d0, .d7, .d1⟩ [(.t (.p2 .d0 .d6))]), none⟩,
  ⟨some (.p2 .d0 .d8), (.not (.t (.p2 .d0 .d7))), none⟩]) (.cond (.t (.p2 .d0 .d8)) (.seq (.reg [
  ⟨some (.p2 .d0 .d2), (.mv (.k (.i (.ofNat 0)))), none⟩,
  ⟨some (.p2 .d0 .d3), (.mv (.k (.i (.ofNat 4)))), none⟩]) .ret) .skip)) (.seq (.reg [
  ⟨some (.p2 .d0 .d10), (.mv (.t (.p2 .d0 .d0))), none⟩,
  ⟨some (.p2 .d0 .d11), (.call ⟨114, .d0, .d7, .d2⟩ [(.t (.p2 .d0 .d10)), (.k (.i (.ofNat 10))), (.k (.i (.ofNat 64)))]), none⟩,
  ⟨some (.p2 .d0 .d9), (.mv (.t (.p2 .d0 .d11))), none⟩,
  ⟨some (.p2 .d0 .d12), (.ext (.t (.p2 .d0 .d9)) 0), none⟩,
  ⟨some (.p2 .d0 .d13), (.ext (.t (.p2 .d0 .d9)) 1), none⟩,
  ⟨some (.p2 .d0 .d4), (.mv (.t (.p2 .d0 .d12))), none⟩,
  ⟨some (.p2 .d0 .d5), (.mv (.t (.p2 .d0 .d13))), none⟩]) (.seq (.seq (.reg [
  ⟨some (.p2 .d0 .d14), (.mv (.t (.p2 .d0 .d5))), none⟩,
  ⟨some (.p2 .d0 .d15), (.neq .iface (.t (.p2 .d0 .d14)) (.k .nili)), none⟩]) (.cond (.t (.p2 .d0 .d15)) (.seq (.reg [
  ⟨some (.p2 .d0 .d2), (.mv (.k (.i (.ofNat 0)))), none⟩,
  ⟨some (.p2 .d0 .d3), (.mv (.k (.i (.ofNat 3)))), none⟩]) .ret) .skip)) (.seq (.reg [
  ⟨some (.p2 .d1 .d0), (.mv (.t (.p2 .d0 .d4))), none⟩,
  ⟨some (.p2 .d0 .d2), (.mv (.t (.p2 .d1 .d0))), none⟩,
  ⟨some (.p2 .d0 .d3), (.mv (.k (.i (.ofNat 0)))), none⟩]) .ret))))), [.tmp (.p2 .d0 .d2), .tmp (.p2 .d0 .d3)]⟩
def cf86 : CF := ⟨86, true, (.seq (.reg [
  ⟨some (.p2 .d0 .d2), (.mv (.k (.str 0 0))), none⟩,
  ⟨some (.p2 .d0 .d3), (.mv (.k (.i (.ofNat 0)))), none⟩]) (.seq (.seq (.reg [
  ⟨some (.p2 .d0 .d9), (.mv (.t (.p2 .d0 .d0))), none⟩,
  ⟨some (.p2 .d0 .d10), (.eql (.cell .str) (.t (.p2 .d0 .d9)) (.k (.str 0 0))), none⟩,
  ⟨some (.p2 .d0 .d11), (.mv (.t (.p2 .d0 .d10))), none⟩,
  ⟨some (.p2 .d0 .d12), (.mv (.t (.p2 .d0 .d0))), some ((.p2 .d0 .d11), false)⟩,
  ⟨some (.p2 .d0 .d13), (.ixs (.t (.p2 .d0 .d12)) (.k (.i (.ofNat 0)))), some ((.p2 .d0 .d11), false)⟩,
  ⟨some (.p2 .d0 .d14), (.neq (.cell (.int .u8)) (.t (.p2 .d0 .d13)) (.k (.u8 34))), some ((.p2 .d0 .d11), false)⟩,
  ⟨some (.p2 .d0 .d15), (.pick (.t (.p2 .d0 .d11)) (.k (.bool true)) (.t (.p2 .d0 .d14))), none⟩]) (.cond (.t (.p2 .d0 .d15)) (.seq (.reg [
  ⟨some (.p2 .d0 .d2), (.mv (.k (.str 0 0))), none⟩,
  ⟨some (.p2 .d0 .d3), (.mv (.k (.i (.ofNat 0)))), none⟩]) .ret) .skip)) (.seq (.reg [
  ⟨some (.p2 .d0 .d4), (.alloc 164 [.nilp, .nils]), none⟩]) (.seq (.seq (.reg [
  ⟨some (.p2 .d0 .d5), (.mv (.k (.i (.ofNat 1)))), none⟩]) (.block 0 (.loop (.seq (.seq (.reg [
  ⟨some (.p2 .d1 .d0), (.mv (.t (.p2 .d0 .d5))), none⟩,
  ⟨some (.p2 .d1 .d1), (.mv (.t (.p2 .d0 .d0))), none⟩,
  ⟨some (.p2 .d1 .d2), (.len 0 (.t (.p2 .d1 .d1))), none⟩,
  ⟨some (.p2 .d1 .d3), (.lss (.t (.p2 .d1 .d0)) (.t (.p2 .d1 .d2))), none⟩]) (.cond (.t (.p2 .d1 .d3)) .skip (.exit 0))) (.seq (.block 1 (.seq (.reg [
  ⟨some (.p2 .d1 .d6), (.mv (.t (.p2 .d0 .d0))), none⟩,
  ⟨some (.p2 .d1 .d7), (.mv (.t (.p2 .d0 .d5))), none⟩,
  ⟨some (.p2 .d1 .d8), (.ixs (.t (.p2 .d1 .d6)) (.t (.p2 .d1 .d7))), none⟩,
  ⟨some (.p2 .d0 .d6), (.mv (.t (.p2 .d1 .d8))), none⟩]) (.seq (.block 2 (.seq (.reg [
  ⟨some (.p2 .d1 .d10), (.mv (.t (.p2 .d0 .d6))), none⟩,
  ⟨some (.p2 .d1 .d11), (.eql (.cell (.int .u8)) (.t (.p2 .d1 .d10)) (.k (.u8 34))), none⟩,
  ⟨some (.p2 .d1 .d9), (.mv (.t (.p2 .d1 .d11))), none⟩]) (.cond (.t (.p2 .d1 .d9)) (.seq (.reg [
  ⟨some (.p2 .d1 .d12), (.call ⟨117, .d0, .d7, .d5⟩ [(.t (.p2 .d0 .d4))]), none⟩,
  ⟨some (.p2 .d1 .d13), (.mv (.t (.p2 .d0 .d5))), none⟩,
  ⟨some (.p2 .d1 .d14), (.add (.t (.p2 .d1 .d13)) (.k (.i (.ofNat 1)))), none⟩,
  ⟨some (.p2 .d0 .d2), (.mv (.t (.p2 .d1 .d12))), none⟩,
  ⟨some (.p2 .d0 .d3), (.mv (.t (.p2 .d1 .d14))), none⟩]) .ret) (.seq (.reg [
  ⟨some (.p2 .d2 .d0), (.mv (.t (.p2 .d0 .d6))), none⟩,
  ⟨some (.p2 .d2 .d1), (.lss (.t (.p2 .d2 .d0)) (.k (.u8 32))), none⟩,
  ⟨some (.p2 .d2 .d2), (.mv (.t (.p2 .d2 .d1))), none⟩,
  ⟨some (.p2 .d2 .d3), (.mv (.t (.p2 .d0 .d6))), some ((.p2 .d2 .d2), false)⟩,
  ⟨some (.p2 .d2 .d4), (.eql (.cell (.int .u8)) (.t (.p2 .d2 .d3)) (.k (.u8 127))), some ((.p2 .d2 .d2), false)⟩,
  ⟨some (.p2 .d2 .d5), (.pick (.t (.p2 .d2 .d2)) (.k (.bool true)) (.t (.p2 .d2 .d4))), none⟩,
  ⟨some (.p2 .d1 .d15), (.mv (.t (.p2 .d2 .d5))), none⟩]) (.cond (.t (.p2 .d1 .d15)) (.seq (.reg [
  ⟨some (.p2 .d0 .d2), (.mv (.k (.str 0 0))), none⟩,
  ⟨some (.p2 .d0 .d3), (.mv (.k (.i (.ofNat 0)))), none⟩]) .ret) (.seq (.reg [
  ⟨some (.p2 .d2 .d7), (.mv (.t (.p2 .d0 .d6))), none⟩,
  ⟨some (.p2 .d2 .d8), (.eql (.cell (.int .u8)) (.t (.p2 .d2 .d7)) (.k (.u8 92))), none⟩,
  ⟨some (.p2 .d2 .d6), (.mv (.t (.p2 .d2 .d8))), none⟩]) (.cond (.t (.p2 .d2 .d6)) (.seq (.reg [
  ⟨some (.p2 .d2 .d10), (.mv (.t (.p2 .d0 .d0))), none⟩,
  ⟨some (.p2 .d2 .d11), (.mv (.t (.p2 .d0 .d5))), none⟩,
  ⟨some (.p2 .d2 .d12), (.add (.t (.p2 .d2 .d11)) (.k (.i (.ofNat 1)))), none⟩,
  ⟨some (.p2 .d2 .d13), (.slStr (.t (.p2 .d2 .d10)) (some (.t (.p2 .d2 .d12))) none), none⟩,
  ⟨some (.p2 .d2 .d14), (.call ⟨118, .d0, .d7, .d6⟩ [(.t (.p2 .d2 .d13))]), none⟩,
  ⟨some (.p2 .d2 .d9), (.mv (.t (.p2 .d2 .d14))), none⟩,
  ⟨some (.p2 .d2 .d15), (.ext (.t (.p2 .d2 .d9)) 0), none⟩,
  ⟨some (.p2 .d3 .d0), (.ext (.t (.p2 .d2 .d9)) 1), none⟩,
  ⟨some (.p2 .d0 .d7), (.mv (.t (.p2 .d2 .d15))), none⟩,
  ⟨some (.p2 .d0 .d8), (.mv (.t (.p2 .d3 .d0))), none⟩]) (.seq (.seq (.reg [
  ⟨some (.p2 .d3 .d1), (.mv (.t (.p2 .d0 .d8))), none⟩,
  ⟨some (.p2 .d3 .d2), (.eql (.cell (.int .i64)) (.t (.p2 .d3 .d1)) (.k (.i (.ofNat 0)))), none⟩]) (.cond (.t (.p2 .d3 .d2)) (.seq (.reg [
  ⟨some (.p2 .d0 .d2), (.mv (.k (.str 0 0))), none⟩,
  ⟨some (.p2 .d0 .d3), (.mv (.k (.i (.ofNat 0)))), none⟩]) .ret) .skip)) (.seq (.reg [
  ⟨some (.p2 .d3 .d3), (.mv (.t (.p2 .d0 .d7))), none⟩,
  ⟨some (.p2 .d0 .d6), (.mv (.t (.p2 .d3 .d3))), none⟩]) (.reg [
  ⟨some (.p2 .d3 .d4), (.mv (.t (.p2 .d0 .d5))), none⟩,
  ⟨some (.p2 .d3 .d5), (.mv (.t (.p2 .d0 .d8))), none⟩,
  ⟨some (.p2 .d3 .d6), (.add (.t (.p2 .d3 .d4)) (.t (.p2 .d3 .d5))), none⟩,
  ⟨some (.p2 .d0 .d5), (.mv (.t (.p2 .d3 .d6))), none⟩])))) .skip))))))) (.reg [
  ⟨some (.p2 .d3 .d7), (.mv (.t (.p2 .d0 .d6))), none⟩,
  ⟨some (.p2 .d3 .d8), (.call ⟨119, .d0, .d7, .d7⟩ [(.t (.p2 .d0 .d4)), (.t (.p2 .d3 .d7))]), none⟩])))) (.reg [
  ⟨some (.p2 .d1 .d4), (.mv (.t (.p2 .d0 .d5))), none⟩,
  ⟨some (.p2 .d1 .d5), (.add (.t (.p2 .d1 .d4)) (.k (.i (.ofNat 1)))), none⟩,
  ⟨some (.p2 .d0 .d5), (.mv (.t (.p2 .d1 .d5))), none⟩])))))) (.seq (.reg [
  ⟨some (.p2 .d0 .d2), (.mv (.k (.str 0 0))), none⟩,
  ⟨some (.p2 .d0 .d3), (.mv (.k (.i (.ofNat 0)))), none⟩]) .ret))))), [.tmp (.p2 .d0 .d2), .tmp (.p2 .d0 .d3)]⟩
def cf87 : CF := ⟨87, true, (.seq (.reg [
  ⟨some (.p2 .d0 .d2), (.mv (.k (.i (.ofNat 0)))), none⟩]) (.scope (.seq (.reg [
  ⟨some (.p2 .d0 .d3), (.mv (.k (.i (.ofNat 2)))), none⟩]) (.seq .skip (.seq (.block 0 (.loop (.seq (.seq (.reg [
  ⟨some (.p2 .d0 .d6), (.mv (.t (.p2 .d0 .d3))), none⟩,
  ⟨some (.p2 .d0 .d7), (.gtr (.t (.p2 .d0 .d6)) (.k (.i (.ofNat 0)))), none⟩]) (.cond (.t (.p2 .d0 .d7)) .skip (.exit 0))) (.seq (.block 1 (.seq (.reg [
  ⟨some (.p2 .d0 .d10), (.call ⟨46, .d0, .d2, .d14⟩ [(.k (.str 52 38424343451614119781736989432702876688438978010071729573896829520310084750687285382168931224512636659299708396230804926119229))]), none⟩,
  ⟨some (.p2 .d0 .d11), (.len 1 (.t (.p2 .d0 .d10))), none⟩,
  ⟨some (.p2 .d0 .d12), (.mv (.k (.i (.ofNat 0)))), none⟩]) (.block 2 (.loop (.seq (.reg [
  ⟨some (.p2 .d0 .d13), (.lss (.t (.p2 .d0 .d12)) (.t (.p2 .d0 .d11))), none⟩]) (.seq (.cond (.t (.p2 .d0 .d13)) .skip (.exit 2)) (.seq (.block 3 (.seq (.reg [
  ⟨some (.p2 .d0 .d14), (.ia 1 (.t (.p2 .d0 .d10)) (.t (.p2 .d0 .d12))), none⟩,
  ⟨some (.p2 .d0 .d15), (.ld1 (.t (.p2 .d0 .d14))), none⟩,
  ⟨some (.p2 .d0 .d5), (.mv (.t (.p2 .d0 .d15))), none⟩]) (.seq (.reg [
  ⟨some (.p2 .d1 .d0), (.mv (.t (.p2 .d0 .d5))), none⟩,
  ⟨some (.p2 .d1 .d1), (.len 0 (.t (.p2 .d1 .d0))), none⟩,
  ⟨some (.p2 .d1 .d2), (.mv (.t (.p2 .d0 .d3))), none⟩,
  ⟨some (.p2 .d1 .d3), (.eql (.cell (.int .i64)) (.t (.p2 .d1 .d1)) (.t (.p2 .d1 .d2))), none⟩,
  ⟨some (.p2 .d1 .d4), (.mv (.t (.p2 .d1 .d3))), none⟩,
  ⟨some (.p2 .d1 .d5), (.mv (.t (.p2 .d0 .d0))), some ((.p2 .d1 .d4), true)⟩,
  ⟨some (.p2 .d1 .d6), (.mv (.t (.p2 .d0 .d5))), some ((.p2 .d1 .d4), true)⟩,
  ⟨some (.p2 .d1 .d7), (.call ⟨52, .d0, .d3, .d4⟩ [(.t (.p2 .d1 .d5)), (.t (.p2 .d1 .d6))]), some ((.p2 .d1 .d4), true)⟩,
  ⟨some (.p2 .d1 .d8), (.pick (.t (.p2 .d1 .d4)) (.t (.p2 .d1 .d7)) (.k (.bool false))), none⟩]) (.cond (.t (.p2 .d1 .d8)) (.exit 0) .skip)))) (.reg [
  ⟨some (.p2 .d1 .d9), (.add (.t (.p2 .d0 .d12)) (.k (.i (.ofNat 1)))), none⟩,
  ⟨some (.p2 .d0 .d12), (.mv (.t (.p2 .d1 .d9))), none⟩])))))))) (.reg [
  ⟨some (.p2 .d0 .d8), (.mv (.t (.p2 .d0 .d3))), none⟩,
  ⟨some (.p2 .d0 .d9), (.sub (.t (.p2 .d0 .d8)) (.k (.i (.ofNat 1)))), none⟩,
  ⟨some (.p2 .d0 .d3), (.mv (.t (.p2 .d0 .d9))), none⟩]))))) (.seq (.reg [
  ⟨some (.p2 .d1 .d10), (.mv (.t (.p2 .d0 .d3))), none⟩,
  ⟨some (.p2 .d0 .d2), (.mv (.t (.p2 .d1 .d10))), none⟩]) .ret)))))), [.tmp (.p2 .d0 .d2)]⟩
def cf88 : CF := ⟨88, true, (.reg [
  ⟨some (.p2 .d0 .d4), (.mv (.t (.p2 .d0 .d0))), none⟩,
  ⟨some (.p2 .d0 .d5), (.call ⟨90, .d0, .d5, .d10⟩ [(.t (.p2 .d0 .d4))]), none⟩,
  ⟨some (.p2 .d0 .d6), (.fld (.t (.p2 .d0 .d5)) 2 1 false), none⟩,
  ⟨some (.p2 .d0 .d7), (.mv (.t (.p2 .d0 .d1))), none⟩,
  ⟨some (.p2 .d0 .d8), (.build [(.i (.ofNat 0)), (.i (.ofNat 0))] [(0, 1, (.t (.p2 .d0 .d6))), (1, 1, (.t (.p2 .d0 .d7)))]), none⟩,
  ⟨some (.p2 .d0 .d9), (.mki 77 (.t (.p2 .d0 .d8))), none⟩,
  ⟨none, (.panic (.t (.p2 .d0 .d9))), none⟩]), []⟩
def cf89 : CF := ⟨89, true, (.seq (.reg [
  ⟨some (.p2 .d0 .d2), (.alloc 80 [(.i (.ofNat 0)), (.str 0 0), (.i (.ofNat 0)), (.i (.ofNat 0))]), none⟩]) (.seq (.reg [
  ⟨some (.p2 .d0 .d3), (.mv (.t (.p2 .d0 .d0))), none⟩,
  ⟨some (.p2 .d0 .d4), (.nilc (.t (.p2 .d0 .d3))), none⟩,
  ⟨some (.p2 .d0 .d5), (.fa (.t (.p2 .d0 .d4)) 1), none⟩,
  ⟨some (.p2 .d0 .d6), (.ld1 (.t (.p2 .d0 .d5))), none⟩,
  ⟨some (.p2 .d0 .d7), (.add (.t (.p2 .d0 .d6)) (.k (.i (.ofNat 1)))), none⟩,
  ⟨some (.p2 .d0 .d8), (.nilc (.t (.p2 .d0 .d3))), none⟩,
  ⟨some (.p2 .d0 .d9), (.fa (.t (.p2 .d0 .d8)) 1), none⟩,
  ⟨none, (.st 1 (.t (.p2 .d0 .d9)) (.t (.p2 .d0 .d7))), none⟩]) (.seq (.dreg [
  ⟨0, ⟨some (.p2 .d0 .d10), (.mv (.t (.p2 .d0 .d0))), none⟩, .pur, 0⟩,
  ⟨1, ⟨some (.p2 .d0 .d11), (.nilc (.t (.p2 .d0 .d10))), none⟩, .pur, 0⟩,
  ⟨2, ⟨some (.p2 .d0 .d12), (.fa (.t (.p2 .d0 .d11)) 0), none⟩, .pur, 0⟩,
  ⟨3, ⟨some (.p2 .d0 .d13), (.ld1 (.t (.p2 .d0 .d12))), none⟩, .rd, 0⟩,
  ⟨4, ⟨some (.p2 .d0 .d14), (.mv (.t (.p2 .d0 .d0))), none⟩, .pur, 0⟩,
  ⟨5, ⟨some (.p2 .d0 .d15), (.nilc (.t (.p2 .d0 .d14))), none⟩, .pur, 0⟩,
  ⟨6, ⟨some (.p2 .d1 .d0), (.fa (.t (.p2 .d0 .d15)) 1), none⟩, .pur, 0⟩,
  ⟨7, ⟨some (.p2 .d1 .d1), (.ld1 (.t (.p2 .d1 .d0))), none⟩, .rd, 0⟩,
  ⟨8, ⟨some (.p2 .d1 .d2), (.sub (.t (.p2 .d1 .d1)) (.k (.i (.ofNat 1)))), none⟩, .pur, 0⟩,
  ⟨9, ⟨some (.p2 .d1 .d3), (.ia 4 (.t (.p2 .d0 .d13)) (.t (.p2 .d1 .d2))), none⟩, .pur, 0⟩,
  ⟨10, ⟨some (.p2 .d1 .d4), (.ldn 4 (.t (.p2 .d1 .d3))), none⟩, .rd, 0⟩,
  ⟨11, ⟨none, (.st 4 (.t (.p2 .d0 .d2)) (.t (.p2 .d1 .d4))), none⟩, .ev, 0⟩]) .ret))), [.cell 4 true (.p2 .d0 .d2)]⟩
def cf90 : CF := ⟨90, true, (.seq (.reg [
  ⟨some (.p2 .d0 .d2), (.alloc 80 [(.i (.ofNat 0)), (.str 0 0), (.i (.ofNat 0)), (.i (.ofNat 0))]), none⟩]) (.seq (.dreg [
  ⟨0, ⟨some (.p2 .d0 .d3), (.mv (.t (.p2 .d0 .d0))), none⟩, .pur, 0⟩,
  ⟨1, ⟨some (.p2 .d0 .d4), (.nilc (.t (.p2 .d0 .d3))), none⟩, .pur, 0⟩,
  ⟨2, ⟨some (.p2 .d0 .d5), (.fa (.t (.p2 .d0 .d4)) 0), none⟩, .pur, 0⟩,
  ⟨3, ⟨some (.p2 .d0 .d6), (.ld1 (.t (.p2 .d0 .d5))), none⟩, .rd, 0⟩,
  ⟨4, ⟨some (.p2 .d0 .d7), (.mv (.t (.p2 .d0 .d0))), none⟩, .pur, 0⟩,
  ⟨5, ⟨some (.p2 .d0 .d8), (.nilc (.t (.p2 .d0 .d7))), none⟩, .pur, 0⟩,
  ⟨6, ⟨some (.p2 .d0 .d9), (.fa (.t (.p2 .d0 .d8)) 1), none⟩, .pur, 0⟩,
  ⟨7, ⟨some (.p2 .d0 .d10), (.ld1 (.t (.p2 .d0 .d9))), none⟩, .rd, 0⟩,
  ⟨8, ⟨some (.p2 .d0 .d11), (.ia 4 (.t (.p2 .d0 .d6)) (.t (.p2 .d0 .d10))), none⟩, .pur, 0⟩,
  ⟨9, ⟨some (.p2 .d0 .d12), (.ldn 4 (.t (.p2 .d0 .d11))), none⟩, .rd, 0⟩,
  ⟨10, ⟨none, (.st 4 (.t (.p2 .d0 .d2)) (.t (.p2 .d0 .d12))), none⟩, .ev, 0⟩]) .ret)), [.cell 4 true (.p2 .d0 .d2)]⟩
def cf91 : CF := ⟨91, true, (.seq (.reg [
  ⟨some (.p2 .d0 .d2), (.mv (.k (.str 0 0))), none⟩,
  ⟨some (.p2 .d0 .d3), (.mv (.k (.i (.ofNat 0)))), none⟩]) (.seq (.reg [
  ⟨some (.p2 .d0 .d7), (.mv (.t (.p2 .d0 .d0))), none⟩,
  ⟨some (.p2 .d0 .d8), (.call ⟨86, .d0, .d5, .d6⟩ [(.t (.p2 .d0 .d7))]), none⟩,
  ⟨some (.p2 .d0 .d6), (.mv (.t (.p2 .d0 .d8))), none⟩,
  ⟨some (.p2 .d0 .d9), (.ext (.t (.p2 .d0 .d6)) 0), none⟩,
  ⟨some (.p2 .d0 .d10), (.ext (.t (.p2 .d0 .d6)) 1), none⟩,
  ⟨some (.p2 .d0 .d4), (.mv (.t (.p2 .d0 .d9))), none⟩,
  ⟨some (.p2 .d0 .d5), (.mv (.t (.p2 .d0 .d10))), none⟩]) (.seq (.block 0 (.seq (.reg [
  ⟨some (.p2 .d0 .d12), (.mv (.t (.p2 .d0 .d5))), none⟩,
  ⟨some (.p2 .d0 .d13), (.eql (.cell (.int .i64)) (.t (.p2 .d0 .d12)) (.k (.i (.ofNat 0)))), none⟩,
  ⟨some (.p2 .d0 .d14), (.mv (.t (.p2 .d0 .d13))), none⟩,
  ⟨some (.p2 .d0 .d15), (.mv (.t (.p2 .d0 .d5))), some ((.p2 .d0 .d14), false)⟩,
  ⟨some (.p2 .d1 .d0), (.mv (.t (.p2 .d0 .d0))), some ((.p2 .d0 .d14), false)⟩,
  ⟨some (.p2 .d1 .d1), (.len 0 (.t (.p2 .d1 .d0))), some ((.p2 .d0 .d14), false)⟩,
  ⟨some (.p2 .d1 .d2), (.neq (.cell (.int .i64)) (.t (.p2 .d0 .d15)) (.t (.p2 .d1 .d1))), some ((.p2 .d0 .d14), false)⟩,
  ⟨some (.p2 .d1 .d3), (.pick (.t (.p2 .d0 .d14)) (.k (.bool true)) (.t (.p2 .d1 .d2))), none⟩,
  ⟨some (.p2 .d1 .d4), (.mv (.t (.p2 .d1 .d3))), none⟩,
  ⟨some (.p2 .d1 .d5), (.mv (.t (.p2 .d0 .d0))), some ((.p2 .d1 .d4), false)⟩,
  ⟨some (.p2 .d1 .d6), (.call ⟨120, .d0, .d7, .d8⟩ [(.t (.p2 .d1 .d5))]), some ((.p2 .d1 .d4), false)⟩,
  ⟨some (.p2 .d1 .d7), (.not (.t (.p2 .d1 .d6))), some ((.p2 .d1 .d4), false)⟩,
  ⟨some (.p2 .d1 .d8), (.pick (.t (.p2 .d1 .d4)) (.k (.bool true)) (.t (.p2 .d1 .d7))), none⟩,
  ⟨some (.p2 .d0 .d11), (.mv (.t (.p2 .d1 .d8))), none⟩]) (.cond (.t (.p2 .d0 .d11)) (.seq (.reg [
  ⟨some (.p2 .d0 .d2), (.mv (.k (.str 0 0))), none⟩,
  ⟨some (.p2 .d0 .d3), (.mv (.k (.i (.ofNat 4)))), none⟩]) .ret) (.seq (.reg [
  ⟨some (.p2 .d1 .d10), (.mv (.t (.p2 .d0 .d4))), none⟩,
  ⟨some (.p2 .d1 .d11), (.len 0 (.t (.p2 .d1 .d10))), none⟩,
  ⟨some (.p2 .d1 .d12), (.gtr (.t (.p2 .d1 .d11)) (.k (.i (.ofNat 4096)))), none⟩,
  ⟨some (.p2 .d1 .d9), (.mv (.t (.p2 .d1 .d12))), none⟩]) (.cond (.t (.p2 .d1 .d9)) (.seq (.reg [
  ⟨some (.p2 .d0 .d2), (.mv (.k (.str 0 0))), none⟩,
  ⟨some (.p2 .d0 .d3), (.mv (.k (.i (.ofNat 3)))), none⟩]) .ret) .skip))))) (.seq (.reg [
  ⟨some (.p2 .d1 .d13), (.mv (.t (.p2 .d0 .d4))), none⟩,
  ⟨some (.p2 .d0 .d2), (.mv (.t (.p2 .d1 .d13))), none⟩,
  ⟨some (.p2 .d0 .d3), (.mv (.k (.i (.ofNat 0)))), none⟩]) .ret)))), [.tmp (.p2 .d0 .d2), .tmp (.p2 .d0 .d3)]⟩
def cf92 : CF := ⟨92, true, (.seq (.reg [
  ⟨some (.p2 .d0 .d12), (.alloc 43 [(.i (.ofNat 0)), (.i (.ofNat 0)), (.i (.ofNat 0)), (.i (.ofNat 0)), (.str 0 0), .nils]), none⟩]) (.seq (.dreg [
  ⟨0, ⟨some (.p2 .d0 .d13), (.mv (.t (.p2 .d0 .d1))), none⟩, .pur, 0⟩,
  ⟨1, ⟨some (.p2 .d0 .d14), (.mv (.t (.p2 .d0 .d2))), none⟩, .pur, 0⟩,
  ⟨2, ⟨some (.p2 .d0 .d15), (.mv (.t (.p2 .d0 .d0))), none⟩, .pur, 0⟩,
  ⟨3, ⟨some (.p2 .d1 .d0), (.nilc (.t (.p2 .d0 .d15))), none⟩, .pur, 0⟩,
  ⟨4, ⟨some (.p2 .d1 .d1), (.fa (.t (.p2 .d1 .d0)) 0), none⟩, .pur, 0⟩,
  ⟨5, ⟨some (.p2 .d1 .d2), (.ld1 (.t (.p2 .d1 .d1))), none⟩, .rd, 0⟩,
  ⟨6, ⟨some (.p2 .d1 .d3), (.mv (.t (.p2 .d0 .d0))), none⟩, .pur, 0⟩,
  ⟨7, ⟨some (.p2 .d1 .d4), (.nilc (.t (.p2 .d1 .d3))), none⟩, .pur, 0⟩,
  ⟨8, ⟨some (.p2 .d1 .d5), (.fa (.t (.p2 .d1 .d4)) 1), none⟩, .pur, 0⟩,
  ⟨9, ⟨some (.p2 .d1 .d6), (.ld1 (.t (.p2 .d1 .d5))), none⟩, .rd, 0⟩,
  ⟨10, ⟨some (.p2 .d1 .d7), (.sub (.t (.p2 .d1 .d6)) (.k (.i (.ofNat 1)))), none⟩, .pur, 0⟩,
  ⟨11, ⟨some (.p2 .d1 .d8), (.ia 4 (.t (.p2 .d1 .d2)) (.t (.p2 .d1 .d7))), none⟩, .pur, 0⟩,
  ⟨12, ⟨some (.p2 .d1 .d9), (.fa (.t (.p2 .d1 .d8)) 3), none⟩, .pur, 0⟩,
  ⟨13, ⟨some (.p2 .d1 .d10), (.ld1 (.t (.p2 .d1 .d9))), none⟩, .rd, 0⟩,
  ⟨14, ⟨some (.p2 .d1 .d11), (.mv (.t (.p2 .d0 .d3))), none⟩, .pur, 0⟩,
  ⟨15, ⟨some (.p2 .d1 .d12), (.mv (.t (.p2 .d0 .d4))), none⟩, .pur, 0⟩,
  ⟨16, ⟨some (.p2 .d1 .d13), (.mv (.t (.p2 .d0 .d5))), none⟩, .pur, 0⟩,
  ⟨17, ⟨some (.p2 .d1 .d14), (.build [(.i (.ofNat 0)), (.i (.ofNat 0)), (.i (.ofNat 0)), (.i (.ofNat 0)), (.str 0 0), .nils] [(0, 1, (.t (.p2 .d0 .d13))), (1, 1, (.t (.p2 .d0 .d14))), (2, 1, (.t (.p2 .d1 .d10))), (3, 1, (.t (.p2 .d1 .d11))), (4, 1, (.t (.p2 .d1 .d12))), (5, 1, (.t (.p2 .d1 .d13)))]), none⟩, .pur, 0⟩,
  ⟨18, ⟨none, (.st 6 (.t (.p2 .d0 .d12)) (.t (.p2 .d1 .d14))), none⟩, .ev, 0⟩]) .ret)), [.cell 6 true (.p2 .d0 .d12)]⟩
def cf93 : CF := ⟨93, true, (.seq (.reg [
  ⟨some (.p2 .d0 .d5), (.box 78 1 (.t (.p2 .d0 .d0))), none⟩,
  ⟨some (.p2 .d0 .d7), (.box 9 1 (.t (.p2 .d0 .d2))), none⟩,
  ⟨some (.p2 .d0 .d8), (.box 1 1 (.t (.p2 .d0 .d3))), none⟩,
  ⟨some (.p2 .d0 .d9), (.box 103 1 (.t (.p2 .d0 .d4))), none⟩,
  ⟨some (.p2 .d0 .d10), (.mv (.k .nils)), none⟩]) (.seq (.reg [
  ⟨some (.p2 .d0 .d11), (.alloc 41 [.nils]), none⟩]) (.seq (.reg [
  ⟨some (.p2 .d0 .d12), (.ld1 (.t (.p2 .d0 .d5))), none⟩,
  ⟨some (.p2 .d0 .d13), (.mv (.t (.p2 .d0 .d1))), none⟩,
  ⟨some (.p2 .d0 .d14), (.ld1 (.t (.p2 .d0 .d7))), none⟩,
  ⟨some (.p2 .d0 .d15), (.mkf ⟨122, .d0, .d7, .d10⟩ [] [(.t (.p2 .d0 .d5)), (.t (.p2 .d0 .d7)), (.t (.p2 .d0 .d11)), (.t (.p2 .d0 .d9)), (.t (.p2 .d0 .d8))]), none⟩,
  ⟨some (.p2 .d1 .d0), (.call ⟨121, .d0, .d7, .d9⟩ [(.t (.p2 .d0 .d12)), (.t (.p2 .d0 .d13)), (.t (.p2 .d0 .d14)), (.t (.p2 .d0 .d15))]), none⟩]) (.seq (.reg [
  ⟨some (.p2 .d1 .d1), (.ld1 (.t (.p2 .d0 .d11))), none⟩,
  ⟨some (.p2 .d0 .d10), (.mv (.t (.p2 .d1 .d1))), none⟩]) .ret)))), [.tmp (.p2 .d0 .d10)]⟩
def cf94 : CF := ⟨94, true, (.seq (.reg [
  ⟨some (.p2 .d0 .d2), (.box 78 1 (.t (.p2 .d0 .d0))), none⟩,
  ⟨some (.p2 .d0 .d3), (.box 3 1 (.t (.p2 .d0 .d1))), none⟩,
  ⟨some (.p2 .d0 .d4), (.mv (.k .nilf)), none⟩]) (.seq (.reg [
  ⟨some (.p2 .d0 .d5), (.mkf ⟨123, .d0, .d7, .d11⟩ [] [(.t (.p2 .d0 .d2)), (.t (.p2 .d0 .d3))]), none⟩,
  ⟨some (.p2 .d0 .d4), (.mv (.t (.p2 .d0 .d5))), none⟩]) .ret)), [.tmp (.p2 .d0 .d4)]⟩
def cf95 : CF := ⟨95, true, (.seq (.reg [
  ⟨some (.p2 .d0 .d1), (.box 78 1 (.t (.p2 .d0 .d0))), none⟩,
  ⟨some (.p2 .d0 .d2), (.alloc 43 [(.i (.ofNat 0)), (.i (.ofNat 0)), (.i (.ofNat 0)), (.i (.ofNat 0)), (.str 0 0), .nils]), none⟩]) (.seq (.reg [
  ⟨some (.p2 .d0 .d3), (.alloc 43 [(.i (.ofNat 0)), (.i (.ofNat 0)), (.i (.ofNat 0)), (.i (.ofNat 0)), (.str 0 0), .nils]), none⟩]) (.seq (.reg [
  ⟨some (.p2 .d0 .d4), (.ld1 (.t (.p2 .d0 .d1))), none⟩,
  ⟨some (.p2 .d0 .d5), (.mkf ⟨124, .d0, .d7, .d12⟩ [] [(.t (.p2 .d0 .d1)), (.t (.p2 .d0 .d3))]), none⟩,
  ⟨some (.p2 .d0 .d6), (.call ⟨121, .d0, .d7, .d9⟩ [(.t (.p2 .d0 .d4)), (.k (.str 1 40)), (.k (.str 1 41)), (.t (.p2 .d0 .d5))]), none⟩]) (.seq (.reg [
  ⟨some (.p2 .d0 .d7), (.ldn 6 (.t (.p2 .d0 .d3))), none⟩,
  ⟨none, (.st 6 (.t (.p2 .d0 .d2)) (.t (.p2 .d0 .d7))), none⟩]) .ret)))), [.cell 6 true (.p2 .d0 .d2)]⟩
def cf96 : CF := ⟨96, true, (.seq (.reg [
  ⟨some (.p2 .d0 .d2), (.box 78 1 (.t (.p2 .d0 .d0))), none⟩,
  ⟨some (.p2 .d0 .d3), (.box 9 1 (.t (.p2 .d0 .d1))), none⟩,
  ⟨some (.p2 .d0 .d4), (.mv (.k .nilf)), none⟩]) (.seq (.reg [
  ⟨some (.p2 .d0 .d5), (.mkf ⟨125, .d0, .d7, .d13⟩ [] [(.t (.p2 .d0 .d2)), (.t (.p2 .d0 .d3))]), none⟩,
  ⟨some (.p2 .d0 .d4), (.mv (.t (.p2 .d0 .d5))), none⟩]) .ret)), [.tmp (.p2 .d0 .d4)]⟩
def cf97 : CF := ⟨97, true, (.seq (.reg [
  ⟨some (.p2 .d0 .d2), (.alloc 43 [(.i (.ofNat 0)), (.i (.ofNat 0)), (.i (.ofNat 0)), (.i (.ofNat 0)), (.str 0 0), .nils]), none⟩]) (.seq (.reg [
  ⟨some (.p2 .d0 .d7), (.mv (.t (.p2 .d0 .d0))), none⟩,
  ⟨some (.p2 .d0 .d8), (.call ⟨90, .d0, .d5, .d10⟩ [(.t (.p2 .d0 .d7))]), none⟩,
  ⟨some (.p2 .d0 .d9), (.fld (.t (.p2 .d0 .d8)) 2 1 false), none⟩,
  ⟨some (.p2 .d0 .d3), (.mv (.t (.p2 .d0 .d9))), none⟩]) (.seq (.seq (.reg [
  ⟨some (.p2 .d0 .d10), (.mv (.t (.p2 .d0 .d0))), none⟩,
  ⟨some (.p2 .d0 .d11), (.bslice 9 1 4 [(.str 0 0)] [(0, (.k (.str 3 7630441))), (1, (.k (.str 4 1819242338))), (2, (.k (.str 6 113723913172083))), (3, (.k (.str 7 14696572267752550)))]), none⟩,
  ⟨some (.p2 .d0 .d12), (.call ⟨57, .d0, .d3, .d9⟩ [(.t (.p2 .d0 .d10)), (.t (.p2 .d0 .d11))]), none⟩]) (.cond (.t (.p2 .d0 .d12)) (.seq (.reg [
  ⟨some (.p2 .d0 .d13), (.mv (.t (.p2 .d0 .d0))), none⟩,
  ⟨some (.p2 .d0 .d14), (.call ⟨89, .d0, .d5, .d9⟩ [(.t (.p2 .d0 .d13))]), none⟩,
  ⟨some (.p2 .d0 .d4), (.alloc 80 [(.i (.ofNat 0)), (.str 0 0), (.i (.ofNat 0)), (.i (.ofNat 0))]), none⟩,
  ⟨none, (.st 4 (.t (.p2 .d0 .d4)) (.t (.p2 .d0 .d14))), none⟩]) (.seq (.reg [
  ⟨some (.p2 .d0 .d15), (.mv (.t (.p2 .d0 .d0))), none⟩,
  ⟨some (.p2 .d1 .d0), (.mv (.t (.p2 .d0 .d3))), none⟩,
  ⟨some (.p2 .d1 .d1), (.mv (.t (.p2 .d0 .d3))), none⟩,
  ⟨some (.p2 .d1 .d2), (.fa (.t (.p2 .d0 .d4)) 1), none⟩,
  ⟨some (.p2 .d1 .d3), (.ld1 (.t (.p2 .d1 .d2))), none⟩,
  ⟨some (.p2 .d1 .d4), (.call ⟨92, .d0, .d5, .d12⟩ [(.t (.p2 .d0 .d15)), (.k (.i (.ofNat 8))), (.t (.p2 .d1 .d0)), (.t (.p2 .d1 .d1)), (.t (.p2 .d1 .d3)), (.k .nils)]), none⟩,
  ⟨none, (.st 6 (.t (.p2 .d0 .d2)) (.t (.p2 .d1 .d4))), none⟩]) .ret)) .skip)) (.seq (.reg [
  ⟨some (.p2 .d1 .d5), (.mv (.t (.p2 .d0 .d0))), none⟩,
  ⟨some (.p2 .d1 .d6), (.call ⟨55, .d0, .d3, .d7⟩ [(.t (.p2 .d1 .d5)), (.k (.i (.ofNat 1)))]), none⟩,
  ⟨some (.p2 .d0 .d5), (.alloc 80 [(.i (.ofNat 0)), (.str 0 0), (.i (.ofNat 0)), (.i (.ofNat 0))]), none⟩,
  ⟨none, (.st 4 (.t (.p2 .d0 .d5)) (.t (.p2 .d1 .d6))), none⟩]) (.seq (.seq (.reg [
  ⟨some (.p2 .d1 .d7), (.mv (.t (.p2 .d0 .d0))), none⟩,
  ⟨some (.p2 .d1 .d8), (.bslice 9 1 1 [(.str 0 0)] [(0, (.k (.str 1 46)))]), none⟩,
  ⟨some (.p2 .d1 .d9), (.call ⟨57, .d0, .d3, .d9⟩ [(.t (.p2 .d1 .d7)), (.t (.p2 .d1 .d8))]), none⟩,
  ⟨some (.p2 .d1 .d10), (.not (.t (.p2 .d1 .d9))), none⟩]) (.cond (.t (.p2 .d1 .d10)) (.seq (.reg [
  ⟨some (.p2 .d1 .d11), (.mv (.t (.p2 .d0 .d0))), none⟩,
  ⟨some (.p2 .d1 .d12), (.mv (.t (.p2 .d0 .d3))), none⟩,
  ⟨some (.p2 .d1 .d13), (.mv (.t (.p2 .d0 .d3))), none⟩,
  ⟨some (.p2 .d1 .d14), (.fa (.t (.p2 .d0 .d5)) 1), none⟩,
  ⟨some (.p2 .d1 .d15), (.ld1 (.t (.p2 .d1 .d14))), none⟩,
  ⟨some (.p2 .d2 .d0), (.call ⟨92, .d0, .d5, .d12⟩ [(.t (.p2 .d1 .d11)), (.k (.i (.ofNat 8))), (.t (.p2 .d1 .d12)), (.t (.p2 .d1 .d13)), (.t (.p2 .d1 .d15)), (.k .nils)]), none⟩,
  ⟨none, (.st 6 (.t (.p2 .d0 .d2)) (.t (.p2 .d2 .d0))), none⟩]) .ret) .skip)) (.seq (.reg [
  ⟨some (.p2 .d2 .d1), (.mv (.t (.p2 .d0 .d0))), none⟩,
  ⟨some (.p2 .d2 .d2), (.mv (.t (.p2 .d0 .d3))), none⟩,
  ⟨some (.p2 .d2 .d3), (.mv (.t (.p2 .d0 .d3))), none⟩,
  ⟨some (.p2 .d2 .d4), (.fa (.t (.p2 .d0 .d5)) 1), none⟩,
  ⟨some (.p2 .d2 .d5), (.ld1 (.t (.p2 .d2 .d4))), none⟩,
  ⟨some (.p2 .d2 .d6), (.call ⟨92, .d0, .d5, .d12⟩ [(.t (.p2 .d2 .d1)), (.k (.i (.ofNat 25))), (.t (.p2 .d2 .d2)), (.t (.p2 .d2 .d3)), (.t (.p2 .d2 .d5)), (.k .nils)]), none⟩,
  ⟨some (.p2 .d0 .d6), (.alloc 43 [(.i (.ofNat 0)), (.i (.ofNat 0)), (.i (.ofNat 0)), (.i (.ofNat 0)), (.str 0 0), .nils]), none⟩,
  ⟨none, (.st 6 (.t (.p2 .d0 .d6)) (.t (.p2 .d2 .d6))), none⟩]) (.seq (.reg [
  ⟨some (.p2 .d2 .d7), (.mv (.t (.p2 .d0 .d0))), none⟩,
  ⟨some (.p2 .d2 .d8), (.call ⟨89, .d0, .d5, .d9⟩ [(.t (.p2 .d2 .d7))]), none⟩]) (.seq (.reg [
  ⟨some (.p2 .d2 .d9), (.mv (.t (.p2 .d0 .d0))), none⟩,
  ⟨some (.p2 .d2 .d10), (.call ⟨55, .d0, .d3, .d7⟩ [(.t (.p2 .d2 .d9)), (.k (.i (.ofNat 1)))]), none⟩,
  ⟨none, (.st 4 (.t (.p2 .d0 .d5)) (.t (.p2 .d2 .d10))), none⟩]) (.seq (.reg [
  ⟨some (.p2 .d2 .d11), (.mv (.t (.p2 .d0 .d0))), none⟩,
  ⟨some (.p2 .d2 .d12), (.mv (.t (.p2 .d0 .d3))), none⟩,
  ⟨some (.p2 .d2 .d13), (.fa (.t (.p2 .d0 .d5)) 2), none⟩,
  ⟨some (.p2 .d2 .d14), (.ld1 (.t (.p2 .d2 .d13))), none⟩,
  ⟨some (.p2 .d2 .d15), (.fa (.t (.p2 .d0 .d5)) 1), none⟩,
  ⟨some (.p2 .d3 .d0), (.ld1 (.t (.p2 .d2 .d15))), none⟩,
  ⟨some (.p2 .d3 .d1), (.ldn 6 (.t (.p2 .d0 .d6))), none⟩,
  ⟨some (.p2 .d3 .d2), (.bslice 43 6 1 [(.i (.ofNat 0)), (.i (.ofNat 0)), (.i (.ofNat 0)), (.i (.ofNat 0)), (.str 0 0), .nils] [(0, (.t (.p2 .d3 .d1)))]), none⟩,
  ⟨some (.p2 .d3 .d3), (.call ⟨92, .d0, .d5, .d12⟩ [(.t (.p2 .d2 .d11)), (.k (.i (.ofNat 9))), (.t (.p2 .d2 .d12)), (.t (.p2 .d2 .d14)), (.t (.p2 .d3 .d0)), (.t (.p2 .d3 .d2))]), none⟩,
  ⟨none, (.st 6 (.t (.p2 .d0 .d2)) (.t (.p2 .d3 .d3))), none⟩]) .ret))))))))), [.cell 6 true (.p2 .d0 .d2)]⟩
def cf98 : CF := ⟨98, true, (.seq (.reg [
  ⟨some (.p2 .d0 .d2), (.alloc 43 [(.i (.ofNat 0)), (.i (.ofNat 0)), (.i (.ofNat 0)), (.i (.ofNat 0)), (.str 0 0), .nils]), none⟩]) (.seq (.reg [
  ⟨some (.p2 .d0 .d5), (.mv (.t (.p2 .d0 .d0))), none⟩,
  ⟨some (.p2 .d0 .d6), (.call ⟨90, .d0, .d5, .d10⟩ [(.t (.p2 .d0 .d5))]), none⟩,
  ⟨some (.p2 .d0 .d7), (.fld (.t (.p2 .d0 .d6)) 2 1 false), none⟩,
  ⟨some (.p2 .d0 .d3), (.mv (.t (.p2 .d0 .d7))), none⟩]) (.seq (.reg [
  ⟨some (.p2 .d0 .d8), (.mv (.t (.p2 .d0 .d0))), none⟩,
  ⟨some (.p2 .d0 .d9), (.mv (.t (.p2 .d0 .d0))), none⟩,
  ⟨some (.p2 .d0 .d10), (.mkf ⟨56, .d0, .d3, .d8⟩ [(.t (.p2 .d0 .d9))] []), none⟩,
  ⟨some (.p2 .d0 .d11), (.mv (.t (.p2 .d0 .d0))), none⟩,
  ⟨some (.p2 .d0 .d12), (.mkf ⟨126, .d0, .d7, .d14⟩ [(.t (.p2 .d0 .d11))] []), none⟩,
  ⟨some (.p2 .d0 .d13), (.call ⟨93, .d0, .d5, .d13⟩ [(.t (.p2 .d0 .d8)), (.k (.str 1 123)), (.k (.str 1 125)), (.t (.p2 .d0 .d10)), (.t (.p2 .d0 .d12))]), none⟩,
  ⟨some (.p2 .d0 .d4), (.mv (.t (.p2 .d0 .d13))), none⟩]) (.seq (.reg [
  ⟨some (.p2 .d0 .d14), (.mv (.t (.p2 .d0 .d0))), none⟩,
  ⟨some (.p2 .d0 .d15), (.mv (.t (.p2 .d0 .d3))), none⟩,
  ⟨some (.p2 .d1 .d0), (.mv (.t (.p2 .d0 .d3))), none⟩,
  ⟨some (.p2 .d1 .d1), (.mv (.t (.p2 .d0 .d4))), none⟩,
  ⟨some (.p2 .d1 .d2), (.call ⟨92, .d0, .d5, .d12⟩ [(.t (.p2 .d0 .d14)), (.k (.i (.ofNat 10))), (.t (.p2 .d0 .d15)), (.t (.p2 .d1 .d0)), (.k (.str 0 0)), (.t (.p2 .d1 .d1))]), none⟩,
  ⟨none, (.st 6 (.t (.p2 .d0 .d2)) (.t (.p2 .d1 .d2))), none⟩]) .ret)))), [.cell 6 true (.p2 .d0 .d2)]⟩
def cf99 : CF := ⟨99, true, (.seq (.reg [
  ⟨some (.p2 .d0 .d2), (.mv (.k (.bool false))), none⟩]) (.seq (.reg [
  ⟨some (.p2 .d0 .d3), (.mv (.t (.p2 .d0 .d0))), none⟩,
  ⟨some (.p2 .d0 .d4), (.mv (.t (.p2 .d0 .d0))), none⟩,
  ⟨some (.p2 .d0 .d5), (.neq (.cell (.int .i64)) (.t (.p2 .d0 .d3)) (.t (.p2 .d0 .d4))), none⟩,
  ⟨some (.p2 .d0 .d2), (.mv (.t (.p2 .d0 .d5))), none⟩]) .ret)), [.tmp (.p2 .d0 .d2)]⟩
def cf100 : CF := ⟨100, true, (.seq (.reg [
  ⟨some (.p2 .d0 .d2), (.mv (.k (.bool false))), none⟩]) (.seq (.reg [
  ⟨some (.p2 .d0 .d3), (.mv (.t (.p2 .d0 .d0))), none⟩,
  ⟨some (.p2 .d0 .d4), (.mv (.t (.p2 .d0 .d0))), none⟩,
  ⟨some (.p2 .d0 .d5), (.neq (.cell (.int .i64)) (.t (.p2 .d0 .d3)) (.t (.p2 .d0 .d4))), none⟩,
  ⟨some (.p2 .d0 .d2), (.mv (.t (.p2 .d0 .d5))), none⟩]) .ret)), [.tmp (.p2 .d0 .d2)]⟩
def cf101 : CF := ⟨101, true, (.seq (.reg [
  ⟨some (.p2 .d0 .d5), (.mv (.t (.p2 .d0 .d0))), none⟩,
  ⟨some (.p2 .d0 .d6), (.len 1 (.t (.p2 .d0 .d5))), none⟩,
  ⟨some (.p2 .d0 .d4), (.mv (.t (.p2 .d0 .d6))), none⟩]) (.reg [
  ⟨some (.p2 .d0 .d7), (.mv (.t (.p2 .d0 .d0))), none⟩,
  ⟨some (.p2 .d0 .d8), (.mv (.t (.p2 .d0 .d4))), none⟩,
  ⟨some (.p2 .d0 .d9), (.mv (.t (.p2 .d0 .d4))), none⟩,
  ⟨some (.p2 .d0 .d10), (.cint .u64 (.t (.p2 .d0 .d9))), none⟩,
  ⟨some (.p2 .d0 .d11), (.call ⟨128, .d0, .d8, .d0⟩ [(.t (.p2 .d0 .d10))]), none⟩,
  ⟨some (.p2 .d0 .d12), (.mv (.t (.p2 .d0 .d1))), none⟩,
  ⟨some (.p2 .d0 .d13), (.call ⟨127, .d0, .d7, .d15⟩ [(.t (.p2 .d0 .d7)), (.k (.i (.ofNat 0))), (.t (.p2 .d0 .d8)), (.t (.p2 .d0 .d11)), (.t (.p2 .d0 .d12))]), none⟩])), []⟩
def cf102 : CF := ⟨102, true, (.seq (.reg [
  ⟨some (.p2 .d0 .d2), (.box 35 5 (.t (.p2 .d0 .d0))), none⟩,
  ⟨some (.p2 .d0 .d3), (.box 35 5 (.t (.p2 .d0 .d1))), none⟩,
  ⟨some (.p2 .d0 .d4), (.mv (.k (.i (.ofNat 0)))), none⟩]) (.seq (.dreg [
  ⟨0, ⟨some (.p2 .d0 .d5), (.fa (.t (.p2 .d0 .d2)) 2), none⟩, .pur, 0⟩,
  ⟨1, ⟨some (.p2 .d0 .d6), (.ld1 (.t (.p2 .d0 .d5))), none⟩, .rd, 0⟩,
  ⟨2, ⟨some (.p2 .d0 .d7), (.fa (.t (.p2 .d0 .d3)) 2), none⟩, .pur, 0⟩,
  ⟨3, ⟨some (.p2 .d0 .d8), (.ld1 (.t (.p2 .d0 .d7))), none⟩, .rd, 0⟩,
  ⟨5, ⟨some (.p2 .d0 .d10), (.fa (.t (.p2 .d0 .d2)) 3), none⟩, .pur, 0⟩,
  ⟨6, ⟨some (.p2 .d0 .d11), (.ld1 (.t (.p2 .d0 .d10))), none⟩, .rd, 1⟩,
  ⟨7, ⟨some (.p2 .d0 .d12), (.fa (.t (.p2 .d0 .d3)) 3), none⟩, .pur, 0⟩,
  ⟨8, ⟨some (.p2 .d0 .d13), (.ld1 (.t (.p2 .d0 .d12))), none⟩, .rd, 1⟩,
  ⟨4, ⟨some (.p2 .d0 .d9), (.call ⟨62, .d0, .d3, .d14⟩ [(.t (.p2 .d0 .d6)), (.t (.p2 .d0 .d8))]), none⟩, .ev, 0⟩,
  ⟨9, ⟨some (.p2 .d0 .d14), (.call ⟨62, .d0, .d3, .d14⟩ [(.t (.p2 .d0 .d11)), (.t (.p2 .d0 .d13))]), none⟩, .ev, 1⟩,
  ⟨10, ⟨some (.p2 .d0 .d15), (.bslice 3 1 2 [(.i (.ofNat 0))] [(0, (.t (.p2 .d0 .d9))), (1, (.t (.p2 .d0 .d14)))]), none⟩, .ev, 2⟩,
  ⟨11, ⟨some (.p2 .d1 .d0), (.call ⟨61, .d0, .d3, .d13⟩ [(.t (.p2 .d0 .d15))]), none⟩, .ev, 3⟩,
  ⟨12, ⟨some (.p2 .d0 .d4), (.mv (.t (.p2 .d1 .d0))), none⟩, .pur, 0⟩]) .ret)), [.tmp (.p2 .d0 .d4)]⟩
def cf103 : CF := ⟨103, true, (.seq (.reg [
  ⟨some (.p2 .d0 .d4), (.alloc 35 [(.i (.ofNat 0)), (.str 0 0), (.i (.ofNat 0)), (.i (.ofNat 0)), (.str 0 0)]), none⟩,
  ⟨some (.p2 .d0 .d5), (.mv (.k (.bool false))), none⟩]) (.seq (.block 0 (.loop (.seq (.seq (.reg [
  ⟨some (.p2 .d0 .d8), (.mv (.t (.p2 .d0 .d0))), none⟩,
  ⟨some (.p2 .d0 .d9), (.neq .ptr (.t (.p2 .d0 .d8)) (.k .nilp)), none⟩]) (.cond (.t (.p2 .d0 .d9)) .skip (.exit 0))) (.seq (.block 1 (.seq (.reg [
  ⟨some (.p2 .d0 .d15), (.mv (.t (.p2 .d0 .d0))), none⟩,
  ⟨some (.p2 .d1 .d0), (.nilc (.t (.p2 .d0 .d15))), none⟩,
  ⟨some (.p2 .d1 .d1), (.fa (.t (.p2 .d1 .d0)) 1), none⟩,
  ⟨some (.p2 .d1 .d2), (.ld1 (.t (.p2 .d1 .d1))), none⟩,
  ⟨some (.p2 .d1 .d3), (.mv (.t (.p2 .d0 .d1))), none⟩,
  ⟨some (.p2 .d1 .d4), (.lkp (.cell .str) (.agg [(.i (.ofNat 0)), (.str 0 0), (.i (.ofNat 0)), (.i (.ofNat 0)), (.str 0 0)]) (.t (.p2 .d1 .d2)) (.t (.p2 .d1 .d3)) true), none⟩,
  ⟨some (.p2 .d0 .d14), (.mv (.t (.p2 .d1 .d4))), none⟩,
  ⟨some (.p2 .d1 .d5), (.ext (.t (.p2 .d0 .d14)) 0), none⟩,
  ⟨some (.p2 .d1 .d6), (.ext (.t (.p2 .d0 .d14)) 1), none⟩,
  ⟨some (.p2 .d0 .d6), (.alloc 35 [(.i (.ofNat 0)), (.str 0 0), (.i (.ofNat 0)), (.i (.ofNat 0)), (.str 0 0)]), none⟩,
  ⟨none, (.st 5 (.t (.p2 .d0 .d6)) (.t (.p2 .d1 .d5))), none⟩,
  ⟨some (.p2 .d0 .d7), (.mv (.t (.p2 .d1 .d6))), none⟩]) (.seq (.reg [
  ⟨some (.p2 .d1 .d7), (.mv (.t (.p2 .d0 .d7))), none⟩]) (.cond (.t (.p2 .d1 .d7)) (.seq (.reg [
  ⟨some (.p2 .d1 .d8), (.ldn 5 (.t (.p2 .d0 .d6))), none⟩,
  ⟨none, (.st 5 (.t (.p2 .d0 .d4)) (.t (.p2 .d1 .d8))), none⟩,
  ⟨some (.p2 .d0 .d5), (.mv (.k (.bool true))), none⟩]) .ret) .skip)))) (.reg [
  ⟨some (.p2 .d0 .d10), (.mv (.t (.p2 .d0 .d0))), none⟩,
  ⟨some (.p2 .d0 .d11), (.nilc (.t (.p2 .d0 .d10))), none⟩,
  ⟨some (.p2 .d0 .d12), (.fa (.t (.p2 .d0 .d11)) 0), none⟩,
  ⟨some (.p2 .d0 .d13), (.ld1 (.t (.p2 .d0 .d12))), none⟩,
  ⟨some (.p2 .d0 .d0), (.mv (.t (.p2 .d0 .d13))), none⟩]))))) (.seq (.reg [
  ⟨some (.p2 .d1 .d9), (.build [(.i (.ofNat 0)), (.str 0 0), (.i (.ofNat 0)), (.i (.ofNat 0)), (.str 0 0)] []), none⟩,
  ⟨none, (.st 5 (.t (.p2 .d0 .d4)) (.t (.p2 .d1 .d9))), none⟩,
  ⟨some (.p2 .d0 .d5), (.mv (.k (.bool false))), none⟩]) .ret))), [.cell 5 true (.p2 .d0 .d4), .tmp (.p2 .d0 .d5)]⟩
def cf110 : CF := ⟨110, true, (.seq (.reg [
  ⟨some (.p2 .d0 .d4), (.mv (.k (.str 0 0))), none⟩]) (.seq (.seq (.reg [
  ⟨some (.p2 .d0 .d7), (.mv (.t (.p2 .d0 .d0))), none⟩,
  ⟨some (.p2 .d0 .d8), (.eql (.cell .str) (.t (.p2 .d0 .d7)) (.k (.str 0 0))), none⟩,
  ⟨some (.p2 .d0 .d9), (.mv (.t (.p2 .d0 .d8))), none⟩,
  ⟨some (.p2 .d0 .d10), (.mv (.t (.p2 .d0 .d1))), some ((.p2 .d0 .d9), false)⟩,
  ⟨some (.p2 .d0 .d11), (.eql (.cell .str) (.t (.p2 .d0 .d10)) (.k (.str 0 0))), some ((.p2 .d0 .d9), false)⟩,
  ⟨some (.p2 .d0 .d12), (.pick (.t (.p2 .d0 .d9)) (.k (.bool true)) (.t (.p2 .d0 .d11))), none⟩]) (.cond (.t (.p2 .d0 .d12)) (.seq (.reg [
  ⟨some (.p2 .d0 .d13), (.mv (.t (.p2 .d0 .d0))), none⟩,
  ⟨some (.p2 .d0 .d4), (.mv (.t (.p2 .d0 .d13))), none⟩]) .ret) .skip)) (.seq (.seq (.reg [
  ⟨some (.p2 .d0 .d14), (.mv (.t (.p2 .d0 .d1))), none⟩,
  ⟨some (.p2 .d0 .d15), (.len 0 (.t (.p2 .d0 .d14))), none⟩,
  ⟨some (.p2 .d1 .d0), (.eql (.cell (.int .i64)) (.t (.p2 .d0 .d15)) (.k (.i (.ofNat 1)))), none⟩,
  ⟨some (.p2 .d1 .d1), (.mv (.t (.p2 .d1 .d0))), none⟩,
  ⟨some (.p2 .d1 .d2), (.mv (.t (.p2 .d0 .d1))), some ((.p2 .d1 .d1), true)⟩,
  ⟨some (.p2 .d1 .d3), (.ixs (.t (.p2 .d1 .d2)) (.k (.i (.ofNat 0)))), some ((.p2 .d1 .d1), true)⟩,
  ⟨some (.p2 .d1 .d4), (.lss (.t (.p2 .d1 .d3)) (.k (.u8 128))), some ((.p2 .d1 .d1), true)⟩,
  ⟨some (.p2 .d1 .d5), (.pick (.t (.p2 .d1 .d1)) (.t (.p2 .d1 .d4)) (.k (.bool false))), none⟩]) (.cond (.t (.p2 .d1 .d5)) (.seq (.reg [
  ⟨some (.p2 .d1 .d6), (.mv (.t (.p2 .d0 .d0))), none⟩,
  ⟨some (.p2 .d1 .d7), (.mv (.t (.p2 .d0 .d1))), none⟩,
  ⟨some (.p2 .d1 .d8), (.ixs (.t (.p2 .d1 .d7)) (.k (.i (.ofNat 0)))), none⟩,
  ⟨some (.p2 .d1 .d9), (.call ⟨132, .d0, .d8, .d4⟩ [(.t (.p2 .d1 .d6)), (.t (.p2 .d1 .d8))]), none⟩,
  ⟨some (.p2 .d0 .d4), (.mv (.t (.p2 .d1 .d9))), none⟩]) .ret) .skip)) (.seq (.seq (.reg [
  ⟨some (.p2 .d1 .d11), (.mv (.t (.p2 .d0 .d1))), none⟩,
  ⟨some (.p2 .d1 .d12), (.call ⟨133, .d0, .d8, .d5⟩ [(.t (.p2 .d1 .d11))]), none⟩,
  ⟨some (.p2 .d1 .d10), (.mv (.t (.p2 .d1 .d12))), none⟩,
  ⟨some (.p2 .d1 .d13), (.ext (.t (.p2 .d1 .d10)) 0), none⟩,
  ⟨some (.p2 .d1 .d14), (.ext (.t (.p2 .d1 .d10)) 1), none⟩,
  ⟨some (.p2 .d0 .d5), (.allocR 190 1 256 [[(.bool false)], [(.bool false)], [(.bool false)], [(.bool false)], [(.bool false)], [(.bool false)], [(.bool false)], [(.bool false)], [(.bool false)], [(.bool false)], [(.bool false)], [(.bool false)], [(.bool false)], [(.bool false)], [(.bool false)], [(.bool false)], [(.bool false)], [(.bool false)], [(.bool false)], [(.bool false)], [(.bool false)], [(.bool false)], [(.bool false)], [(.bool false)], [(.bool false)], [(.bool false)], [(.bool false)], [(.bool false)], [(.bool false)], [(.bool false)], [(.bool false)], [(.bool false)], [(.bool false)], [(.bool false)], [(.bool false)], [(.bool false)], [(.bool false)], [(.bool false)], [(.bool false)], [(.bool false)], [(.bool false)], [(.bool false)], [(.bool false)], [(.bool false)], [(.bool false)], [(.bool false)], [(.bool false)], [(.bool false)], [(.bool false)], [(.bool false)], [(.bool false)], [(.bool false)], [(.bool false)], [(.bool false)], [(.bool false)], [(.bool false)], [(.bool false)], [(.bool false)], [(.bool false)], [(.bool false)], [(.bool false)], [(.bool false)], [(.bool false)], [(.bool false)], [(.bool false)], [(.bool false)], [(.bool false)], [(.bool false)], [(.bool false)], [(.bool false)], [(.bool false)], [(.bool false)], [(.bool false)], [(.bool false)], [(.bool false)], [(.bool false)], [(.bool false)], [(.bool false)], [(.bool false)], [(.bool false)], [(.bool false)], [(.bool false)], [(.bool false)], [(.bool false)], [(.bool false)], [(.bool false)], [(.bool false)], [(.bool false)], [(.bool false)], [(.bool false)], [(.bool false)], [(.bool false)], [(.bool false)], [(.bool false)], [(.bool false)], [(.bool false)], [(.bool false)], [(.bool false)], [(.bool false)], [(.bool false)], [(.bool false)], [(.bool false)], [(.bool false)], [(.bool false)], [(.bool false)], [(.bool false)], [(.bool false)], [(.bool false)], [(.bool false)], [(.bool false)], [(.bool false)], [(.bool false)], [(.bool false)], [(.bool false)], [(.bool false)], [(.bool false)], [(.bool false)], [(.bool false)], [(.bool false)], [(.bool false)], [(.bool false)], [(.bool false)], [(.bool false)], [(.bool false)], [(.bool false)], [(.bool false)], [(.bool false)], [(.bool false)], [(.bool false)], [(.bool false)], [(.bool false)], [(.bool false)], [(.bool false)], [(.bool false)], [(.bool false)], [(.bool false)], [(.bool false)], [(.bool false)], [(.bool false)], [(.bool false)], [(.bool false)], [(.bool false)], [(.bool false)], [(.bool false)], [(.bool false)], [(.bool false)], [(.bool false)], [(.bool false)], [(.bool false)], [(.bool false)], [(.bool false)], [(.bool false)], [(.bool false)], [(.bool false)], [(.bool false)], [(.bool false)], [(.bool false)], [(.bool false)], [(.bool false)], [(.bool false)], [(.bool false)], [(.bool false)], [(.bool false)], [(.bool false)], [(.bool false)], [(.bool false)], [(.bool false)], [(.bool false)], [(.bool false)], [(.bool false)], [(.bool false)], [(.bool false)], [(.bool false)], [(.bool false)], [(.bool false)], [(.bool false)], [(.bool false)], [(.bool false)], [(.bool false)], [(.bool false)], [(.bool false)], [(.bool false)], [(.bool false)], [(.bool false)], [(.bool false)], [(.bool false)], [(.bool false)], [(.bool false)], [(.bool false)], [(.bool false)], [(.bool false)], [(.bool false)], [(.bool false)], [(.bool false)], [(.bool false)], [(.bool false)], [(.bool false)], [(.bool false)], [(.bool false)], [(.bool false)], [(.bool false)], [(.bool false)], [(.bool false)], [(.bool false)], [(.bool false)], [(.bool false)], [(.bool false)], [(.bool false)], [(.bool false)], [(.bool false)], [(.bool false)], [(.bool false)], [(.bool false)], [(.bool false)], [(.bool false)], [(.bool false)], [(.bool false)], [(.bool false)], [(.bool false)], [(.bool false)], [(.bool false)], [(.bool false)], [(.bool false)], [(.bool false)], [(.bool false)], [(.bool false)], [(.bool false)], [(.bool false)], [(.bool false)], [(.bool false)], [(.bool false)], [(.bool false)], [(.bool false)], [(.bool false)], [(.bool false)], [(.bool false)], [(.bool false)], [(.bool false)], [(.bool false)], [(.bool false)], [(.bool false)], [(.bool false)], [(.bool false)], [(.bool false)], [(.bool false)], [(.bool false)], [(.bool false)], [(.bool false)], [(.bool false)], [(.bool false)], [(.bool false)], [(.bool false)], [(.bool false)], [(.bool false)], [(.bool false)], [(.bool false)]]), none⟩,
  ⟨none, (.st 256 (.t (.p2 .d0 .d5)) (.t (.p2 .d1 .d13))), none⟩,
  ⟨some (.p2 .d0 .d6), (.mv (.t (.p2 .d1 .d14))), none⟩]) (.seq (.reg [
  ⟨some (.p2 .d1 .d15), (.mv (.t (.p2 .d0 .d6))), none⟩]) (.cond (.t (.p2 .d1 .d15)) (.seq (.reg [
  ⟨some (.p2 .d2 .d0), (.mv (.t (.p2 .d0 .d0))), none⟩,
  ⟨some (.p2 .d2 .d1), (.call ⟨134, .d0, .d8, .d6⟩ [(.t (.p2 .d2 .d0)), (.t (.p2 .d0 .d5))]), none⟩,
  ⟨some (.p2 .d0 .d4), (.mv (.t (.p2 .d2 .d1))), none⟩]) .ret) .skip))) (.seq (.reg [
  ⟨some (.p2 .d2 .d2), (.mv (.t (.p2 .d0 .d0))), none⟩,
  ⟨some (.p2 .d2 .d3), (.mv (.t (.p2 .d0 .d1))), none⟩,
  ⟨some (.p2 .d2 .d4), (.call ⟨135, .d0, .d8, .d7⟩ [(.t (.p2 .d2 .d2)), (.t (.p2 .d2 .d3))]), none⟩,
  ⟨some (.p2 .d0 .d4), (.mv (.t (.p2 .d2 .d4))), none⟩]) .ret))))), [.tmp (.p2 .d0 .d4)]⟩
def cf111 : CF := ⟨111, true, (.seq (.reg [
  ⟨some (.p2 .d0 .d0), (.mv (.k .nils)), none⟩]) (.seq (.reg [
  ⟨some (.p2 .d0 .d1), (.bslice 9 1 21 [(.str 0 0)] [(0, (.k (.str 5 461195539042))), (1, (.k (.str 8 7310870969309884259))), (2, (.k (.str 4 1702063205))), (3, (.k (.str 5 435728179558))), (4, (.k (.str 7 14696572267752550))), (5, (.k (.str 3 7499622))), (6, (.k (.str 4 1668183398))), (7, (.k (.str 2 26217))), (8, (.k (.str 6 128034844732777))), (9, (.k (.str 3 7630441))), (10, (.k (.str 4 1819242338))), (11, (.k (.str 6 113723913172083))), (12, (.k (.str 3 7234924))), (13, (.k (.str 7 28542640758940016))), (14, (.k (.str 5 426970603888))), (15, (.k (.str 5 500068610672))), (16, (.k (.str 6 121437875889522))), (17, (.k (.str 6 127970521019507))), (18, (.k (.str 4 1702195828))), (19, (.k (.str 4 1701869940))), (20, (.k (.str 3 7496054)))]), none⟩,
  ⟨some (.p2 .d0 .d0), (.mv (.t (.p2 .d0 .d1))), none⟩]) .ret)), [.tmp (.p2 .d0 .d0)]⟩
def cf112 : CF := ⟨112, true, (.seq (.reg [
  ⟨some (.p2 .d0 .d2), (.mv (.k (.i (.ofNat 0)))), none⟩]) (.seq (.reg [
  ⟨some (.p2 .d0 .d3), (.mv (.t (.p2 .d0 .d0))), none⟩,
  ⟨some (.p2 .d0 .d4), (.len 0 (.t (.p2 .d0 .d3))), none⟩,
  ⟨some (.p2 .d0 .d5), (.mv (.t (.p2 .d0 .d0))), none⟩,
  ⟨some (.p2 .d0 .d6), (.call ⟨110, .d0, .d6, .d14⟩ [(.t (.p2 .d0 .d5)), (.k (.str 10 270211885617516653982000))]), none⟩,
  ⟨some (.p2 .d0 .d7), (.len 0 (.t (.p2 .d0 .d6))), none⟩,
  ⟨some (.p2 .d0 .d8), (.sub (.t (.p2 .d0 .d4)) (.t (.p2 .d0 .d7))), none⟩,
  ⟨some (.p2 .d0 .d2), (.mv (.t (.p2 .d0 .d8))), none⟩]) .ret)), [.tmp (.p2 .d0 .d2)]⟩
def cf113 : CF := ⟨113, true, (.seq (.reg [
  ⟨some (.p2 .d0 .d2), (.mv (.k (.bool false))), none⟩]) (.seq (.reg [
  ⟨some (.p2 .d0 .d3), (.mv (.t (.p2 .d0 .d0))), none⟩,
  ⟨some (.p2 .d0 .d4), (.neq (.cell .str) (.t (.p2 .d0 .d3)) (.k (.str 0 0))), none⟩,
  ⟨some (.p2 .d0 .d5), (.mv (.t (.p2 .d0 .d4))), none⟩,
  ⟨some (.p2 .d0 .d6), (.mv (.t (.p2 .d0 .d0))), some ((.p2 .d0 .d5), true)⟩,
  ⟨some (.p2 .d0 .d7), (.call ⟨136, .d0, .d8, .d8⟩ [(.t (.p2 .d0 .d6))]), some ((.p2 .d0 .d5), true)⟩,
  ⟨some (.p2 .d0 .d8), (.mv (.t (.p2 .d0 .d0))), some ((.p2 .d0 .d5), true)⟩,
  ⟨some (.p2 .d0 .d9), (.len 0 (.t (.p2 .d0 .d8))), some ((.p2 .d0 .d5), true)⟩,
  ⟨some (.p2 .d0 .d10), (.eql (.cell (.int .i64)) (.t (.p2 .d0 .d7)) (.t (.p2 .d0 .d9))), some ((.p2 .d0 .d5), true)⟩,
  ⟨some (.p2 .d0 .d11), (.pick (.t (.p2 .d0 .d5)) (.t (.p2 .d0 .d10)) (.k (.bool false))), none⟩,
  ⟨some (.p2 .d0 .d12), (.mv (.t (.p2 .d0 .d11))), none⟩,
  ⟨some (.p2 .d0 .d13), (.mv (.t (.p2 .d0 .d0))), some ((.p2 .d0 .d12), true)⟩,
  ⟨some (.p2 .d0 .d14), (.len 0 (.t (.p2 .d0 .d13))), some ((.p2 .d0 .d12), true)⟩,
  ⟨some (.p2 .d0 .d15), (.eql (.cell (.int .i64)) (.t (.p2 .d0 .d14)) (.k (.i (.ofNat 1)))), some ((.p2 .d0 .d12), true)⟩,
  ⟨some (.p2 .d1 .d0), (.mv (.t (.p2 .d0 .d15))), some ((.p2 .d0 .d12), true)⟩,
  ⟨some (.p2 .d1 .d1), (.mv (.t (.p2 .d0 .d0))), some ((.p2 .d1 .d0), false)⟩,
  ⟨some (.p2 .d1 .d2), (.ixs (.t (.p2 .d1 .d1)) (.k (.i (.ofNat 0)))), some ((.p2 .d1 .d0), false)⟩,
  ⟨some (.p2 .d1 .d3), (.neq (.cell (.int .u8)) (.t (.p2 .d1 .d2)) (.k (.u8 48))), some ((.p2 .d1 .d0), false)⟩,
  ⟨some (.p2 .d1 .d4), (.pick (.t (.p2 .d1 .d0)) (.k (.bool true)) (.t (.p2 .d1 .d3))), some ((.p2 .d0 .d12), true)⟩,
  ⟨some (.p2 .d1 .d5), (.pick (.t (.p2 .d0 .d12)) (.t (.p2 .d1 .d4)) (.k (.bool false))), none⟩,
  ⟨some (.p2 .d0 .d2), (.mv (.t (.p2 .d1 .d5))), none⟩]) .ret)), [.tmp (.p2 .d0 .d2)]⟩
def cf114 : CF := ⟨114, true, (.seq (.reg [
  ⟨some (.p2 .d0 .d6), (.mv (.k (.i (.ofNat 0)))), none⟩,
  ⟨some (.p2 .d0 .d7), (.mv (.k .nili)), none⟩]) (.seq (.reg [
  ⟨some (.p2 .d0 .d10), (.mv (.t (.p2 .d0 .d0))), none⟩,
  ⟨some (.p2 .d0 .d11), (.mv (.t (.p2 .d0 .d1))), none⟩,
  ⟨some (.p2 .d0 .d12), (.mv (.t (.p2 .d0 .d2))), none⟩,
  ⟨some (.p2 .d0 .d13), (.call ⟨137, .d0, .d8, .d9⟩ [(.t (.p2 .d0 .d10)), (.t (.p2 .d0 .d11)), (.t (.p2 .d0 .d12))]), none⟩,
  ⟨some (.p2 .d0 .d9), (.mv (.t (.p2 .d0 .d13))), none⟩,
  ⟨some (.p2 .d0 .d14), (.ext (.t (.p2 .d0 .d9)) 0), none⟩,
  ⟨some (.p2 .d0 .d15), (.ext (.t (.p2 .d0 .d9)) 1), none⟩,
  ⟨some (.p2 .d0 .d8), (.mv (.t (.p2 .d0 .d14))), none⟩,
  ⟨some (.p2 .d0 .d7), (.mv (.t (.p2 .d0 .d15))), none⟩]) (.seq (.seq (.reg [
  ⟨some (.p2 .d1 .d0), (.mv (.t (.p2 .d0 .d7))), none⟩,
  ⟨some (.p2 .d1 .d1), (.neq .iface (.t (.p2 .d1 .d0)) (.k .nili)), none⟩]) (.cond (.t (.p2 .d1 .d1)) (.seq (.reg [
  ⟨some (.p2 .d1 .d2), (.mv (.t (.p2 .d0 .d8))), none⟩,
  ⟨some (.p2 .d1 .d3), (.mv (.t (.p2 .d0 .d0))), none⟩,
  ⟨some (.p2 .d1 .d4), (.mv (.t (.p2 .d0 .d1))), none⟩,
  ⟨some (.p2 .d1 .d5), (.mv (.t (.p2 .d0 .d2))), none⟩,
  ⟨some (.p2 .d1 .d6), (.mv (.t (.p2 .d0 .d7))), none⟩,
  ⟨some (.p2 .d1 .d7), (.call ⟨138, .d0, .d8, .d10⟩ [(.k (.str 8 8389723855915213136)), (.t (.p2 .d1 .d3)), (.t (.p2 .d1 .d4)), (.t (.p2 .d1 .d5)), (.t (.p2 .d1 .d6))]), none⟩,
  ⟨some (.p2 .d0 .d6), (.mv (.t (.p2 .d1 .d2))), none⟩,
  ⟨some (.p2 .d0 .d7), (.mv (.t (.p2 .d1 .d7))), none⟩]) .ret) .skip)) (.seq (.reg [
  ⟨some (.p2 .d1 .d8), (.mv (.t (.p2 .d0 .d8))), none⟩,
  ⟨some (.p2 .d0 .d6), (.mv (.t (.p2 .d1 .d8))), none⟩,
  ⟨some (.p2 .d0 .d7), (.mv (.k .nili)), none⟩]) .ret)))), [.tmp (.p2 .d0 .d6), .tmp (.p2 .d0 .d7)]⟩
def cf117 : CF := ⟨117, true, (.seq (.reg [
  ⟨some (.p2 .d0 .d2), (.mv (.k (.str 0 0))), none⟩]) (.seq (.dreg [
  ⟨0, ⟨some (.p2 .d0 .d3), (.mv (.t (.p2 .d0 .d0))), none⟩, .pur, 0⟩,
  ⟨1, ⟨some (.p2 .d0 .d4), (.nilc (.t (.p2 .d0 .d3))), none⟩, .pur, 0⟩,
  ⟨2, ⟨some (.p2 .d0 .d5), (.fa (.t (.p2 .d0 .d4)) 1), none⟩, .pur, 0⟩,
  ⟨3, ⟨some (.p2 .d0 .d6), (.ld1 (.t (.p2 .d0 .d5))), none⟩, .rd, 0⟩,
  ⟨4, ⟨some (.p2 .d0 .d7), (.usd (.t (.p2 .d0 .d6))), none⟩, .pur, 0⟩,
  ⟨5, ⟨some (.p2 .d0 .d8), (.mv (.t (.p2 .d0 .d0))), none⟩, .pur, 0⟩,
  ⟨6, ⟨some (.p2 .d0 .d9), (.nilc (.t (.p2 .d0 .d8))), none⟩, .pur, 0⟩,
  ⟨7, ⟨some (.p2 .d0 .d10), (.fa (.t (.p2 .d0 .d9)) 1), none⟩, .pur, 0⟩,
  ⟨8, ⟨some (.p2 .d0 .d11), (.ld1 (.t (.p2 .d0 .d10))), none⟩, .rd, 0⟩,
  ⟨9, ⟨some (.p2 .d0 .d12), (.len 1 (.t (.p2 .d0 .d11))), none⟩, .rd, 0⟩,
  ⟨10, ⟨some (.p2 .d0 .d13), (.ustr 5 (.t (.p2 .d0 .d7)) (.t (.p2 .d0 .d12))), none⟩, .ev, 0⟩,
  ⟨11, ⟨some (.p2 .d0 .d2), (.mv (.t (.p2 .d0 .d13))), none⟩, .pur, 0⟩]) .ret)), [.tmp (.p2 .d0 .d2)]⟩
def cf119 : CF := ⟨119, true, (.seq (.reg [
  ⟨some (.p2 .d0 .d4), (.mv (.k .nili)), none⟩]) (.seq (.reg [
  ⟨some (.p2 .d0 .d5), (.mv (.t (.p2 .d0 .d0))), none⟩,
  ⟨some (.p2 .d0 .d6), (.call ⟨140, .d0, .d8, .d12⟩ [(.t (.p2 .d0 .d5))]), none⟩]) (.seq (.reg [
  ⟨some (.p2 .d0 .d7), (.mv (.t (.p2 .d0 .d0))), none⟩,
  ⟨some (.p2 .d0 .d8), (.mv (.t (.p2 .d0 .d0))), none⟩,
  ⟨some (.p2 .d0 .d9), (.nilc (.t (.p2 .d0 .d8))), none⟩,
  ⟨some (.p2 .d0 .d10), (.fa (.t (.p2 .d0 .d9)) 1), none⟩,
  ⟨some (.p2 .d0 .d11), (.ld1 (.t (.p2 .d0 .d10))), none⟩,
  ⟨some (.p2 .d0 .d12), (.mv (.t (.p2 .d0 .d1))), none⟩,
  ⟨some (.p2 .d0 .d13), (.bslice 5 1 1 [(.u8 0)] [(0, (.t (.p2 .d0 .d12)))]), none⟩,
  ⟨some (.p2 .d0 .d14), (.append 5 1 1 (.t (.p2 .d0 .d11)) (.t (.p2 .d0 .d13))), none⟩,
  ⟨some (.p2 .d0 .d15), (.nilc (.t (.p2 .d0 .d7))), none⟩,
  ⟨some (.p2 .d1 .d0), (.fa (.t (.p2 .d0 .d15)) 1), none⟩,
  ⟨none, (.st 1 (.t (.p2 .d1 .d0)) (.t (.p2 .d0 .d14))), none⟩]) (.seq (.reg [
  ⟨some (.p2 .d0 .d4), (.mv (.k .nili)), none⟩]) .ret)))), [.tmp (.p2 .d0 .d4)]⟩
def cf120 : CF := ⟨120, true, (.seq (.reg [
  ⟨some (.p2 .d0 .d2), (.mv (.k (.bool false))), none⟩]) (.seq (.block 0 (.loop (.seq (.seq (.reg [
  ⟨some (.p2 .d0 .d7), (.mv (.t (.p2 .d0 .d0))), none⟩,
  ⟨some (.p2 .d0 .d8), (.len 0 (.t (.p2 .d0 .d7))), none⟩,
  ⟨some (.p2 .d0 .d9), (.gtr (.t (.p2 .d0 .d8)) (.k (.i (.ofNat 0)))), none⟩]) (.cond (.t (.p2 .d0 .d9)) .skip (.exit 0))) (.block 1 (.seq (.reg [
  ⟨some (.p2 .d0 .d10), (.mv (.t (.p2 .d0 .d0))), none⟩,
  ⟨some (.p2 .d0 .d11), (.ixs (.t (.p2 .d0 .d10)) (.k (.i (.ofNat 0)))), none⟩,
  ⟨some (.p2 .d0 .d3), (.mv (.t (.p2 .d0 .d11))), none⟩]) (.seq (.seq (.reg [
  ⟨some (.p2 .d0 .d12), (.mv (.t (.p2 .d0 .d3))), none⟩,
  ⟨some (.p2 .d0 .d13), (.lss (.t (.p2 .d0 .d12)) (.k (.u8 128))), none⟩]) (.cond (.t (.p2 .d0 .d13)) (.seq (.reg [
  ⟨some (.p2 .d0 .d14), (.mv (.t (.p2 .d0 .d0))), none⟩,
  ⟨some (.p2 .d0 .d15), (.slStr (.t (.p2 .d0 .d14)) (some (.k (.i (.ofNat 1)))) none), none⟩,
  ⟨some (.p2 .d0 .d0), (.mv (.t (.p2 .d0 .d15))), none⟩]) (.seq (.seq (.reg [
  ⟨some (.p2 .d1 .d0), (.mv (.t (.p2 .d0 .d0))), none⟩,
  ⟨some (.p2 .d1 .d1), (.len 0 (.t (.p2 .d1 .d0))), none⟩,
  ⟨some (.p2 .d1 .d2), (.gtr (.t (.p2 .d1 .d1)) (.k (.i (.ofNat 8)))), none⟩,
  ⟨some (.p2 .d1 .d3), (.mv (.t (.p2 .d1 .d2))), none⟩,
  ⟨some (.p2 .d1 .d4), (.mv (.t (.p2 .d0 .d0))), some ((.p2 .d1 .d3), true)⟩,
  ⟨some (.p2 .d1 .d5), (.call ⟨141, .d0, .d8, .d13⟩ [(.t (.p2 .d1 .d4))]), some ((.p2 .d1 .d3), true)⟩,
  ⟨some (.p2 .d1 .d6), (.and (.t (.p2 .d1 .d5)) (.k (.int .u64 (.ofNat 9259542123273814144)))), some ((.p2 .d1 .d3), true)⟩,
  ⟨some (.p2 .d1 .d7), (.eql (.cell (.int .u64)) (.t (.p2 .d1 .d6)) (.k (.int .u64 (.ofNat 0)))), some ((.p2 .d1 .d3), true)⟩,
  ⟨some (.p2 .d1 .d8), (.pick (.t (.p2 .d1 .d3)) (.t (.p2 .d1 .d7)) (.k (.bool false))), none⟩]) (.cond (.t (.p2 .d1 .d8)) (.seq (.reg [
  ⟨some (.p2 .d1 .d9), (.mv (.t (.p2 .d0 .d0))), none⟩,
  ⟨some (.p2 .d1 .d10), (.slStr (.t (.p2 .d1 .d9)) (some (.k (.i (.ofNat 8)))) none), none⟩,
  ⟨some (.p2 .d0 .d0), (.mv (.t (.p2 .d1 .d10))), none⟩]) (.seq (.dreg [
  ⟨0, ⟨some (.p2 .d1 .d11), (.mv (.t (.p2 .d0 .d0))), none⟩, .pur, 0⟩,
  ⟨1, ⟨some (.p2 .d1 .d12), (.len 0 (.t (.p2 .d1 .d11))), none⟩, .rd, 0⟩,
  ⟨2, ⟨some (.p2 .d1 .d13), (.gtr (.t (.p2 .d1 .d12)) (.k (.i (.ofNat 16)))), none⟩, .pur, 0⟩,
  ⟨3, ⟨some (.p2 .d1 .d14), (.mv (.t (.p2 .d1 .d13))), none⟩, .pur, 0⟩,
  ⟨4, ⟨some (.p2 .d1 .d15), (.mv (.t (.p2 .d0 .d0))), some ((.p2 .d1 .d14), true)⟩, .pur, 0⟩,
  ⟨6, ⟨some (.p2 .d2 .d1), (.mv (.t (.p2 .d0 .d0))), some ((.p2 .d1 .d14), true)⟩, .pur, 0⟩,
  ⟨7, ⟨some (.p2 .d2 .d2), (.slStr (.t (.p2 .d2 .d1)) (some (.k (.i (.ofNat 8)))) none), some ((.p2 .d1 .d14), true)⟩, .pur, 0⟩,
  ⟨5, ⟨some (.p2 .d2 .d0), (.call ⟨141, .d0, .d8, .d13⟩ [(.t (.p2 .d1 .d15))]), some ((.p2 .d1 .d14), true)⟩, .ev, 0⟩,
  ⟨8, ⟨some (.p2 .d2 .d3), (.call ⟨141, .d0, .d8, .d13⟩ [(.t (.p2 .d2 .d2))]), some ((.p2 .d1 .d14), true)⟩, .ev, 1⟩,
  ⟨9, ⟨some (.p2 .d2 .d4), (.or (.t (.p2 .d2 .d0)) (.t (.p2 .d2 .d3))), some ((.p2 .d1 .d14), true)⟩, .pur, 0⟩,
  ⟨10, ⟨some (.p2 .d2 .d5), (.and (.t (.p2 .d2 .d4)) (.k (.int .u64 (.ofNat 9259542123273814144)))), some ((.p2 .d1 .d14), true)⟩, .pur, 0⟩,
  ⟨11, ⟨some (.p2 .d2 .d6), (.eql (.cell (.int .u64)) (.t (.p2 .d2 .d5)) (.k (.int .u64 (.ofNat 0)))), some ((.p2 .d1 .d14), true)⟩, .pur, 0⟩,
  ⟨12, ⟨some (.p2 .d2 .d7), (.pick (.t (.p2 .d1 .d14)) (.t (.p2 .d2 .d6)) (.k (.bool false))), none⟩, .pur, 0⟩]) (.cond (.t (.p2 .d2 .d7)) (.seq (.reg [
  ⟨some (.p2 .d2 .d8), (.mv (.t (.p2 .d0 .d0))), none⟩,
  ⟨some (.p2 .d2 .d9), (.slStr (.t (.p2 .d2 .d8)) (some (.k (.i (.ofNat 16)))) none), none⟩,
  ⟨some (.p2 .d0 .d0), (.mv (.t (.p2 .d2 .d9))), none⟩]) (.block 2 (.loop (.seq (.seq (.dreg [
  ⟨0, ⟨some (.p2 .d2 .d10), (.mv (.t (.p2 .d0 .d0))), none⟩, .pur, 0⟩,
  ⟨1, ⟨some (.p2 .d2 .d11), (.len 0 (.t (.p2 .d2 .d10))), none⟩, .rd, 0⟩,
  ⟨2, ⟨some (.p2 .d2 .d12), (.gtr (.t (.p2 .d2 .d11)) (.k (.i (.ofNat 32)))), none⟩, .pur, 0⟩,
  ⟨3, ⟨some (.p2 .d2 .d13), (.mv (.t (.p2 .d2 .d12))), none⟩, .pur, 0⟩,
  ⟨4, ⟨some (.p2 .d2 .d14), (.mv (.t (.p2 .d0 .d0))), some ((.p2 .d2 .d13), true)⟩, .pur, 0⟩,
  ⟨6, ⟨some (.p2 .d3 .d0), (.mv (.t (.p2 .d0 .d0))), some ((.p2 .d2 .d13), true)⟩, .pur, 0⟩,
  ⟨7, ⟨some (.p2 .d3 .d1), (.slStr (.t (.p2 .d3 .d0)) (some (.k (.i (.ofNat 8)))) none), some ((.p2 .d2 .d13), true)⟩, .pur, 0⟩,
  ⟨10, ⟨some (.p2 .d3 .d4), (.mv (.t (.p2 .d0 .d0))), some ((.p2 .d2 .d13), true)⟩, .pur, 0⟩,
  ⟨11, ⟨some (.p2 .d3 .d5), (.slStr (.t (.p2 .d3 .d4)) (some (.k (.i (.ofNat 16)))) none), some ((.p2 .d2 .d13), true)⟩, .pur, 0⟩,
  ⟨13, ⟨some (.p2 .d3 .d7), (.mv (.t (.p2 .d0 .d0))), some ((.p2 .d2 .d13), true)⟩, .pur, 0⟩,
  ⟨14, ⟨some (.p2 .d3 .d8), (.slStr (.t (.p2 .d3 .d7)) (some (.k (.i (.ofNat 24)))) none), some ((.p2 .d2 .d13), true)⟩, .pur, 0⟩,
  ⟨5, ⟨some (.p2 .d2 .d15), (.call ⟨141, .d0, .d8, .d13⟩ [(.t (.p2 .d2 .d14))]), some ((.p2 .d2 .d13), true)⟩, .ev, 0⟩,
  ⟨8, ⟨some (.p2 .d3 .d2), (.call ⟨141, .d0, .d8, .d13⟩ [(.t (.p2 .d3 .d1))]), some ((.p2 .d2 .d13), true)⟩, .ev, 1⟩,
  ⟨9, ⟨some (.p2 .d3 .d3), (.or (.t (.p2 .d2 .d15)) (.t (.p2 .d3 .d2))), some ((.p2 .d2 .d13), true)⟩, .pur, 0⟩,
  ⟨12, ⟨some (.p2 .d3 .d6), (.call ⟨141, .d0, .d8, .d13⟩ [(.t (.p2 .d3 .d5))]), some ((.p2 .d2 .d13), true)⟩, .ev, 2⟩,
  ⟨15, ⟨some (.p2 .d3 .d9), (.call ⟨141, .d0, .d8, .d13⟩ [(.t (.p2 .d3 .d8))]), some ((.p2 .d2 .d13), true)⟩, .ev, 3⟩,
  ⟨16, ⟨some (.p2 .d3 .d10), (.or (.t (.p2 .d3 .d6)) (.t (.p2 .d3 .d9))), some ((.p2 .d2 .d13), true)⟩, .pur, 0⟩,
  ⟨17, ⟨some (.p2 .d3 .d11), (.or (.t (.p2 .d3 .d3)) (.t (.p2 .d3 .d10))), some ((.p2 .d2 .d13), true)⟩, .pur, 0⟩,
  ⟨18, ⟨some (.p2 .d3 .d12), (.and (.t (.p2 .d3 .d11)) (.k (.int .u64 (.ofNat 9259542123273814144)))), some ((.p2 .d2 .d13), true)⟩, .pur, 0⟩,
  ⟨19, ⟨some (.p2 .d3 .d13), (.eql (.cell (.int .u64)) (.t (.p2 .d3 .d12)) (.k (.int .u64 (.ofNat 0)))), some ((.p2 .d2 .d13), true)⟩, .pur, 0⟩,
  ⟨20, ⟨some (.p2 .d3 .d14), (.pick (.t (.p2 .d2 .d13)) (.t (.p2 .d3 .d13)) (.k (.bool false))), none⟩, .pur, 0⟩]) (.cond (.t (.p2 .d3 .d14)) .skip (.exit 2))) (.block 3 (.reg [
  ⟨some (.p2 .d3 .d15), (.mv (.t (.p2 .d0 .d0))), none⟩,
  ⟨some (.p2 .d4 .d0), (.slStr (.t (.p2 .d3 .d15)) (some (.k (.i (.ofNat 32)))) none), none⟩,
  ⟨some (.p2 .d0 .d0), (.mv (.t (.p2 .d4 .d0))), none⟩])))))) .skip))) .skip)) (.exit 1))) .skip)) (.seq (.reg [
  ⟨some (.p2 .d4 .d1), (.mv (.t (.p2 .d0 .d3))), none⟩,
  ⟨some (.p2 .d4 .d2), (.iaArr 1 256 (.k (.ptr ⟨.d15, .d0, .d0, .d3⟩ 0)) (.t (.p2 .d4 .d1))), none⟩,
  ⟨some (.p2 .d4 .d3), (.ld1 (.t (.p2 .d4 .d2))), none⟩,
  ⟨some (.p2 .d0 .d4), (.mv (.t (.p2 .d4 .d3))), none⟩]) (.seq (.reg [
  ⟨some (.p2 .d4 .d4), (.mv (.t (.p2 .d0 .d4))), none⟩,
  ⟨some (.p2 .d4 .d5), (.and (.t (.p2 .d4 .d4)) (.k (.u8 7))), none⟩,
  ⟨some (.p2 .d4 .d6), (.cint .i64 (.t (.p2 .d4 .d5))), none⟩,
  ⟨some (.p2 .d0 .d5), (.mv (.t (.p2 .d4 .d6))), none⟩]) (.seq (.reg [
  ⟨some (.p2 .d4 .d7), (.mv (.t (.p2 .d0 .d4))), none⟩,
  ⟨some (.p2 .d4 .d8), (.shr (.t (.p2 .d4 .d7)) (.k (.int .u64 (.ofNat 4)))), none⟩,
  ⟨some (.p2 .d4 .d9), (.iaArr 2 16 (.k (.ptr ⟨.d15, .d0, .d0, .d4⟩ 0)) (.t (.p2 .d4 .d8))), none⟩,
  ⟨some (.p2 .d4 .d10), (.ldn 2 (.t (.p2 .d4 .d9))), none⟩,
  ⟨some (.p2 .d0 .d6), (.alloc 186 [(.u8 0), (.u8 0)]), none⟩,
  ⟨none, (.st 2 (.t (.p2 .d0 .d6)) (.t (.p2 .d4 .d10))), none⟩]) (.seq (.reg [
  ⟨some (.p2 .d4 .d11), (.mv (.t (.p2 .d0 .d5))), none⟩]) (.block 4 (.seq (.reg [
  ⟨some (.p2 .d4 .d13), (.eql (.cell (.int .i64)) (.t (.p2 .d4 .d11)) (.k (.i (.ofNat 2)))), none⟩,
  ⟨some (.p2 .d4 .d12), (.mv (.t (.p2 .d4 .d13))), none⟩]) (.cond (.t (.p2 .d4 .d12)) (.seq (.seq (.dreg [
  ⟨0, ⟨some (.p2 .d4 .d14), (.mv (.t (.p2 .d0 .d0))), none⟩, .pur, 0⟩,
  ⟨1, ⟨some (.p2 .d4 .d15), (.len 0 (.t (.p2 .d4 .d14))), none⟩, .rd, 18⟩,
  ⟨2, ⟨some (.p2 .d5 .d0), (.lss (.t (.p2 .d4 .d15)) (.k (.i (.ofNat 2)))), none⟩, .pur, 0⟩,
  ⟨3, ⟨some (.p2 .d5 .d1), (.mv (.t (.p2 .d5 .d0))), none⟩, .pur, 0⟩,
  ⟨4, ⟨some (.p2 .d5 .d2), (.mv (.t (.p2 .d0 .d0))), some ((.p2 .d5 .d1), false)⟩, .pur, 0⟩,
  ⟨5, ⟨some (.p2 .d5 .d3), (.ixs (.t (.p2 .d5 .d2)) (.k (.i (.ofNat 1)))), some ((.p2 .d5 .d1), false)⟩, .pur, 0⟩,
  ⟨6, ⟨some (.p2 .d5 .d4), (.fa (.t (.p2 .d0 .d6)) 0), some ((.p2 .d5 .d1), false)⟩, .pur, 0⟩,
  ⟨7, ⟨some (.p2 .d5 .d5), (.ld1 (.t (.p2 .d5 .d4))), some ((.p2 .d5 .d1), false)⟩, .rd, 18⟩,
  ⟨8, ⟨some (.p2 .d5 .d6), (.lss (.t (.p2 .d5 .d3)) (.t (.p2 .d5 .d5))), some ((.p2 .d5 .d1), false)⟩, .pur, 0⟩,
  ⟨9, ⟨some (.p2 .d5 .d7), (.pick (.t (.p2 .d5 .d1)) (.k (.bool true)) (.t (.p2 .d5 .d6))), none⟩, .pur, 0⟩,
  ⟨10, ⟨some (.p2 .d5 .d8), (.mv (.t (.p2 .d5 .d7))), none⟩, .pur, 0⟩,
  ⟨11, ⟨some (.p2 .d5 .d9), (.fa (.t (.p2 .d0 .d6)) 1), some ((.p2 .d5 .d8), false)⟩, .pur, 0⟩,
  ⟨12, ⟨some (.p2 .d5 .d10), (.ld1 (.t (.p2 .d5 .d9))), some ((.p2 .d5 .d8), false)⟩, .rd, 18⟩,
  ⟨13, ⟨some (.p2 .d5 .d11), (.mv (.t (.p2 .d0 .d0))), some ((.p2 .d5 .d8), false)⟩, .pur, 0⟩,
  ⟨14, ⟨some (.p2 .d5 .d12), (.ixs (.t (.p2 .d5 .d11)) (.k (.i (.ofNat 1)))), some ((.p2 .d5 .d8), false)⟩, .pur, 0⟩,
  ⟨15, ⟨some (.p2 .d5 .d13), (.lss (.t (.p2 .d5 .d10)) (.t (.p2 .d5 .d12))), some ((.p2 .d5 .d8), false)⟩, .pur, 0⟩,
  ⟨16, ⟨some (.p2 .d5 .d14), (.pick (.t (.p2 .d5 .d8)) (.k (.bool true)) (.t (.p2 .d5 .d13))), none⟩, .pur, 0⟩]) (.cond (.t (.p2 .d5 .d14)) (.seq (.reg [
  ⟨some (.p2 .d0 .d2), (.mv (.k (.bool false))), none⟩]) .ret) .skip)) (.reg [
  ⟨some (.p2 .d5 .d15), (.mv (.t (.p2 .d0 .d0))), none⟩,
  ⟨some (.p2 .d6 .d0), (.slStr (.t (.p2 .d5 .d15)) (some (.k (.i (.ofNat 2)))) none), none⟩,
  ⟨some (.p2 .d0 .d0), (.mv (.t (.p2 .d6 .d0))), none⟩])) (.seq (.reg [
  ⟨some (.p2 .d6 .d2), (.eql (.cell (.int .i64)) (.t (.p2 .d4 .d11)) (.k (.i (.ofNat 3)))), none⟩,
  ⟨some (.p2 .d6 .d1), (.mv (.t (.p2 .d6 .d2))), none⟩]) (.cond (.t (.p2 .d6 .d1)) (.seq (.seq (.dreg [
  ⟨0, ⟨some (.p2 .d6 .d3), (.mv (.t (.p2 .d0 .d0))), none⟩, .pur, 0⟩,
  ⟨1, ⟨some (.p2 .d6 .d4), (.len 0 (.t (.p2 .d6 .d3))), none⟩, .rd, 28⟩,
  ⟨2, ⟨some (.p2 .d6 .d5), (.lss (.t (.p2 .d6 .d4)) (.k (.i (.ofNat 3)))), none⟩, .pur, 0⟩,
  ⟨3, ⟨some (.p2 .d6 .d6), (.mv (.t (.p2 .d6 .d5))), none⟩, .pur, 0⟩,
  ⟨4, ⟨some (.p2 .d6 .d7), (.mv (.t (.p2 .d0 .d0))), some ((.p2 .d6 .d6), false)⟩, .pur, 0⟩,
  ⟨5, ⟨some (.p2 .d6 .d8), (.ixs (.t (.p2 .d6 .d7)) (.k (.i (.ofNat 1)))), some ((.p2 .d6 .d6), false)⟩, .pur, 0⟩,
  ⟨6, ⟨some (.p2 .d6 .d9), (.fa (.t (.p2 .d0 .d6)) 0), some ((.p2 .d6 .d6), false)⟩, .pur, 0⟩,
  ⟨7, ⟨some (.p2 .d6 .d10), (.ld1 (.t (.p2 .d6 .d9))), some ((.p2 .d6 .d6), false)⟩, .rd, 28⟩,
  ⟨8, ⟨some (.p2 .d6 .d11), (.lss (.t (.p2 .d6 .d8)) (.t (.p2 .d6 .d10))), some ((.p2 .d6 .d6), false)⟩, .pur, 0⟩,
  ⟨9, ⟨some (.p2 .d6 .d12), (.pick (.t (.p2 .d6 .d6)) (.k (.bool true)) (.t (.p2 .d6 .d11))), none⟩, .pur, 0⟩,
  ⟨10, ⟨some (.p2 .d6 .d13), (.mv (.t (.p2 .d6 .d12))), none⟩, .pur, 0⟩,
  ⟨11, ⟨some (.p2 .d6 .d14), (.fa (.t (.p2 .d0 .d6)) 1), some ((.p2 .d6 .d13), false)⟩, .pur, 0⟩,
  ⟨12, ⟨some (.p2 .d6 .d15), (.ld1 (.t (.p2 .d6 .d14))), some ((.p2 .d6 .d13), false)⟩, .rd, 28⟩,
  ⟨13, ⟨some (.p2 .d7 .d0), (.mv (.t (.p2 .d0 .d0))), some ((.p2 .d6 .d13), false)⟩, .pur, 0⟩,
  ⟨14, ⟨some (.p2 .d7 .d1), (.ixs (.t (.p2 .d7 .d0)) (.k (.i (.ofNat 1)))), some ((.p2 .d6 .d13), false)⟩, .pur, 0⟩,
  ⟨15, ⟨some (.p2 .d7 .d2), (.lss (.t (.p2 .d6 .d15)) (.t (.p2 .d7 .d1))), some ((.p2 .d6 .d13), false)⟩, .pur, 0⟩,
  ⟨16, ⟨some (.p2 .d7 .d3), (.pick (.t (.p2 .d6 .d13)) (.k (.bool true)) (.t (.p2 .d7 .d2))), none⟩, .pur, 0⟩,
  ⟨17, ⟨some (.p2 .d7 .d4), (.mv (.t (.p2 .d7 .d3))), none⟩, .pur, 0⟩,
  ⟨18, ⟨some (.p2 .d7 .d5), (.mv (.t (.p2 .d0 .d0))), some ((.p2 .d7 .d4), false)⟩, .pur, 0⟩,
  ⟨19, ⟨some (.p2 .d7 .d6), (.ixs (.t (.p2 .d7 .d5)) (.k (.i (.ofNat 2)))), some ((.p2 .d7 .d4), false)⟩, .pur, 0⟩,
  ⟨20, ⟨some (.p2 .d7 .d7), (.lss (.t (.p2 .d7 .d6)) (.k (.u8 128))), some ((.p2 .d7 .d4), false)⟩, .pur, 0⟩,
  ⟨21, ⟨some (.p2 .d7 .d8), (.pick (.t (.p2 .d7 .d4)) (.k (.bool true)) (.t (.p2 .d7 .d7))), none⟩, .pur, 0⟩,
  ⟨22, ⟨some (.p2 .d7 .d9), (.mv (.t (.p2 .d7 .d8))), none⟩, .pur, 0⟩,
  ⟨23, ⟨some (.p2 .d7 .d10), (.mv (.t (.p2 .d0 .d0))), some ((.p2 .d7 .d9), false)⟩, .pur, 0⟩,
  ⟨24, ⟨some (.p2 .d7 .d11), (.ixs (.t (.p2 .d7 .d10)) (.k (.i (.ofNat 2)))), some ((.p2 .d7 .d9), false)⟩, .pur, 0⟩,
  ⟨25, ⟨some (.p2 .d7 .d12), (.lss (.k (.u8 191)) (.t (.p2 .d7 .d11))), some ((.p2 .d7 .d9), false)⟩, .pur, 0⟩,
  ⟨26, ⟨some (.p2 .d7 .d13), (.pick (.t (.p2 .d7 .d9)) (.k (.bool true)) (.t (.p2 .d7 .d12))), none⟩, .pur, 0⟩]) (.cond (.t (.p2 .d7 .d13)) (.seq (.reg [
  ⟨some (.p2 .d0 .d2), (.mv (.k (.bool false))), none⟩]) .ret) .skip)) (.reg [
  ⟨some (.p2 .d7 .d14), (.mv (.t (.p2 .d0 .d0))), none⟩,
  ⟨some (.p2 .d7 .d15), (.slStr (.t (.p2 .d7 .d14)) (some (.k (.i (.ofNat 3)))) none), none⟩,
  ⟨some (.p2 .d0 .d0), (.mv (.t (.p2 .d7 .d15))), none⟩])) (.seq (.reg [
  ⟨some (.p2 .d8 .d1), (.eql (.cell (.int .i64)) (.t (.p2 .d4 .d11)) (.k (.i (.ofNat 4)))), none⟩,
  ⟨some (.p2 .d8 .d0), (.mv (.t (.p2 .d8 .d1))), none⟩]) (.cond (.t (.p2 .d8 .d0)) (.seq (.seq (.dreg [
  ⟨0, ⟨some (.p2 .d8 .d2), (.mv (.t (.p2 .d0 .d0))), none⟩, .pur, 0⟩,
  ⟨1, ⟨some (.p2 .d8 .d3), (.len 0 (.t (.p2 .d8 .d2))), none⟩, .rd, 38⟩,
  ⟨2, ⟨some (.p2 .d8 .d4), (.lss (.t (.p2 .d8 .d3)) (.k (.i (.ofNat 4)))), none⟩, .pur, 0⟩,
  ⟨3, ⟨some (.p2 .d8 .d5), (.mv (.t (.p2 .d8 .d4))), none⟩, .pur, 0⟩,
  ⟨4, ⟨some (.p2 .d8 .d6), (.mv (.t (.p2 .d0 .d0))), some ((.p2 .d8 .d5), false)⟩, .pur, 0⟩,
  ⟨5, ⟨some (.p2 .d8 .d7), (.ixs (.t (.p2 .d8 .d6)) (.k (.i (.ofNat 1)))), some ((.p2 .d8 .d5), false)⟩, .pur, 0⟩,
  ⟨6, ⟨some (.p2 .d8 .d8), (.fa (.t (.p2 .d0 .d6)) 0), some ((.p2 .d8 .d5), false)⟩, .pur, 0⟩,
  ⟨7, ⟨some (.p2 .d8 .d9), (.ld1 (.t (.p2 .d8 .d8))), some ((.p2 .d8 .d5), false)⟩, .rd, 38⟩,
  ⟨8, ⟨some (.p2 .d8 .d10), (.lss (.t (.p2 .d8 .d7)) (.t (.p2 .d8 .d9))), some ((.p2 .d8 .d5), false)⟩, .pur, 0⟩,
  ⟨9, ⟨some (.p2 .d8 .d11), (.pick (.t (.p2 .d8 .d5)) (.k (.bool true)) (.t (.p2 .d8 .d10))), none⟩, .pur, 0⟩,
  ⟨10, ⟨some (.p2 .d8 .d12), (.mv (.t (.p2 .d8 .d11))), none⟩, .pur, 0⟩,
  ⟨11, ⟨some (.p2 .d8 .d13), (.fa (.t (.p2 .d0 .d6)) 1), some ((.p2 .d8 .d12), false)⟩, .pur, 0⟩,
  ⟨12, ⟨some (.p2 .d8 .d14), (.ld1 (.t (.p2 .d8 .d13))), some ((.p2 .d8 .d12), false)⟩, .rd, 38⟩,
  ⟨13, ⟨some (.p2 .d8 .d15), (.mv (.t (.p2 .d0 .d0))), some ((.p2 .d8 .d12), false)⟩, .pur, 0⟩,
  ⟨14, ⟨some (.p2 .d9 .d0), (.ixs (.t (.p2 .d8 .d15)) (.k (.i (.ofNat 1)))), some ((.p2 .d8 .d12), false)⟩, .pur, 0⟩,
  ⟨15, ⟨some (.p2 .d9 .d1), (.lss (.t (.p2 .d8 .d14)) (.t (.p2 .d9 .d0))), some ((.p2 .d8 .d12), false)⟩, .pur, 0⟩,
  ⟨16, ⟨some (.p2 .d9 .d2), (.pick (.t (.p2 .d8 .d12)) (.k (.bool true)) (.t (.p2 .d9 .d1))), none⟩, .pur, 0⟩,
  ⟨17, ⟨some (.p2 .d9 .d3), (.mv (.t (.p2 .d9 .d2))), none⟩, .pur, 0⟩,
  ⟨18, ⟨some (.p2 .d9 .d4), (.mv (.t (.p2 .d0 .d0))), some ((.p2 .d9 .d3), false)⟩, .pur, 0⟩,
  ⟨19, ⟨some (.p2 .d9 .d5), (.ixs (.t (.p2 .d9 .d4)) (.k (.i (.ofNat 2)))), some ((.p2 .d9 .d3), false)⟩, .pur, 0⟩,
  ⟨20, ⟨some (.p2 .d9 .d6), (.lss (.t (.p2 .d9 .d5)) (.k (.u8 128))), some ((.p2 .d9 .d3), false)⟩, .pur, 0⟩,
  ⟨21, ⟨some (.p2 .d9 .d7), (.pick (.t (.p2 .d9 .d3)) (.k (.bool true)) (.t (.p2 .d9 .d6))), none⟩, .pur, 0⟩,
  ⟨22, ⟨some (.p2 .d9 .d8), (.mv (.t (.p2 .d9 .d7))), none⟩, .pur, 0⟩,
  ⟨23, ⟨some (.p2 .d9 .d9), (.mv (.t (.p2 .d0 .d0))), some ((.p2 .d9 .d8), false)⟩, .pur, 0⟩,
  ⟨24, ⟨some (.p2 .d9 .d10), (.ixs (.t (.p2 .d9 .d9)) (.k (.i (.ofNat 2)))), some ((.p2 .d9 .d8), false)⟩, .pur, 0⟩,
  ⟨25, ⟨some (.p2 .d9 .d11), (.lss (.k (.u8 191)) (.t (.p2 .d9 .d10))), some ((.p2 .d9 .d8), false)⟩, .pur, 0⟩,
  ⟨26, ⟨some (.p2 .d9 .d12), (.pick (.t (.p2 .d9 .d8)) (.k (.bool true)) (.t (.p2 .d9 .d11))), none⟩, .pur, 0⟩,
  ⟨27, ⟨some (.p2 .d9 .d13), (.mv (.t (.p2 .d9 .d12))), none⟩, .pur, 0⟩,
  ⟨28, ⟨some (.p2 .d9 .d14), (.mv (.t (.p2 .d0 .d0))), some ((.p2 .d9 .d13), false)⟩, .pur, 0⟩,
  ⟨29, ⟨some (.p2 .d9 .d15), (.ixs (.t (.p2 .d9 .d14)) (.k (.i (.ofNat 3)))), some ((.p2 .d9 .d13), false)⟩, .pur, 0⟩,
  ⟨30, ⟨some (.p2 .d10 .d0), (.lss (.t (.p2 .d9 .d15)) (.k (.u8 128))), some ((.p2 .d9 .d13), false)⟩, .pur, 0⟩,
  ⟨31, ⟨some (.p2 .d10 .d1), (.pick (.t (.p2 .d9 .d13)) (.k (.bool true)) (.t (.p2 .d10 .d0))), none⟩, .pur, 0⟩,
  ⟨32, ⟨some (.p2 .d10 .d2), (.mv (.t (.p2 .d10 .d1))), none⟩, .pur, 0⟩,
  ⟨33, ⟨some (.p2 .d10 .d3), (.mv (.t (.p2 .d0 .d0))), some ((.p2 .d10 .d2), false)⟩, .pur, 0⟩,
  ⟨34, ⟨some (.p2 .d10 .d4), (.ixs (.t (.p2 .d10 .d3)) (.k (.i (.ofNat 3)))), some ((.p2 .d10 .d2), false)⟩, .pur, 0⟩,
  ⟨35, ⟨some (.p2 .d10 .d5), (.lss (.k (.u8 191)) (.t (.p2 .d10 .d4))), some ((.p2 .d10 .d2), false)⟩, .pur, 0⟩,
  ⟨36, ⟨some (.p2 .d10 .d6), (.pick (.t (.p2 .d10 .d2)) (.k (.bool true)) (.t (.p2 .d10 .d5))), none⟩, .pur, 0⟩]) (.cond (.t (.p2 .d10 .d6)) (.seq (.reg [
  ⟨some (.p2 .d0 .d2), (.mv (.k (.bool false))), none⟩]) .ret) .skip)) (.reg [
  ⟨some (.p2 .d10 .d7), (.mv (.t (.p2 .d0 .d0))), none⟩,
  ⟨some (.p2 .d10 .d8), (.slStr (.t (.p2 .d10 .d7)) (some (.k (.i (.ofNat 4)))) none), none⟩,
  ⟨some (.p2 .d0 .d0), (.mv (.t (.p2 .d10 .d8))), none⟩])) (.seq (.reg [
  ⟨some (.p2 .d0 .d2), (.mv (.k (.bool false))), none⟩]) .ret)))))))))))))))))) (.seq (.reg [
  ⟨some (.p2 .d0 .d2), (.mv (.k (.bool true))), none⟩]) .ret))), [.tmp (.p2 .d0 .d2)]⟩
def cf121 : CF := ⟨121, true, (.seq (.seq (.reg [
  ⟨some (.p2 .d0 .d9), (.mv (.t (.p2 .d0 .d0))), none⟩,
  ⟨some (.p2 .d0 .d10), (.mv (.t (.p2 .d0 .d1))), none⟩,
  ⟨some (.p2 .d0 .d11), (.bslice 9 1 1 [(.str 0 0)] [(0, (.t (.p2 .d0 .d10)))]), none⟩,
  ⟨some (.p2 .d0 .d12), (.call ⟨57, .d0, .d3, .d9⟩ [(.t (.p2 .d0 .d9)), (.t (.p2 .d0 .d11))]), none⟩,
  ⟨some (.p2 .d0 .d13), (.mv (.t (.p2 .d0 .d12))), none⟩,
  ⟨some (.p2 .d0 .d14), (.mv (.t (.p2 .d0 .d0))), some ((.p2 .d0 .d13), true)⟩,
  ⟨some (.p2 .d0 .d15), (.nilc (.t (.p2 .d0 .d14))), some ((.p2 .d0 .d13), true)⟩,
  ⟨some (.p2 .d1 .d0), (.fa (.t (.p2 .d0 .d15)) 2), some ((.p2 .d0 .d13), true)⟩,
  ⟨some (.p2 .d1 .d1), (.ld1 (.t (.p2 .d1 .d0))), some ((.p2 .d0 .d13), true)⟩,
  ⟨some (.p2 .d1 .d2), (.eql (.cell (.int .i64)) (.t (.p2 .d1 .d1)) (.k (.i (.ofNat 128)))), some ((.p2 .d0 .d13), true)⟩,
  ⟨some (.p2 .d1 .d3), (.pick (.t (.p2 .d0 .d13)) (.t (.p2 .d1 .d2)) (.k (.bool false))), none⟩]) (.cond (.t (.p2 .d1 .d3)) (.reg [
  ⟨some (.p2 .d1 .d4), (.mv (.t (.p2 .d0 .d0))), none⟩,
  ⟨some (.p2 .d1 .d5), (.call ⟨88, .d0, .d5, .d8⟩ [(.t (.p2 .d1 .d4)), (.k (.i (.ofNat 3)))]), none⟩]) .skip)) (.seq (.reg [
  ⟨some (.p2 .d1 .d6), (.mv (.t (.p2 .d0 .d0))), none⟩,
  ⟨some (.p2 .d1 .d7), (.nilc (.t (.p2 .d1 .d6))), none⟩,
  ⟨some (.p2 .d1 .d8), (.fa (.t (.p2 .d1 .d7)) 3), none⟩,
  ⟨some (.p2 .d1 .d9), (.ld1 (.t (.p2 .d1 .d8))), none⟩,
  ⟨some (.p2 .d0 .d8), (.mv (.t (.p2 .d1 .d9))), none⟩]) (.seq (.reg [
  ⟨some (.p2 .d1 .d10), (.mv (.t (.p2 .d0 .d0))), none⟩,
  ⟨some (.p2 .d1 .d11), (.mv (.t (.p2 .d0 .d1))), none⟩,
  ⟨some (.p2 .d1 .d12), (.call ⟨54, .d0, .d3, .d6⟩ [(.t (.p2 .d1 .d10)), (.t (.p2 .d1 .d11))]), none⟩]) (.seq (.reg [
  ⟨some (.p2 .d1 .d13), (.mv (.t (.p2 .d0 .d0))), none⟩,
  ⟨some (.p2 .d1 .d14), (.nilc (.t (.p2 .d1 .d13))), none⟩,
  ⟨some (.p2 .d1 .d15), (.fa (.t (.p2 .d1 .d14)) 2), none⟩,
  ⟨some (.p2 .d2 .d0), (.ld1 (.t (.p2 .d1 .d15))), none⟩,
  ⟨some (.p2 .d2 .d1), (.add (.t (.p2 .d2 .d0)) (.k (.i (.ofNat 1)))), none⟩,
  ⟨some (.p2 .d2 .d2), (.nilc (.t (.p2 .d1 .d13))), none⟩,
  ⟨some (.p2 .d2 .d3), (.fa (.t (.p2 .d2 .d2)) 2), none⟩,
  ⟨none, (.st 1 (.t (.p2 .d2 .d3)) (.t (.p2 .d2 .d1))), none⟩]) (.seq (.reg [
  ⟨some (.p2 .d2 .d4), (.mv (.t (.p2 .d0 .d0))), none⟩,
  ⟨some (.p2 .d2 .d5), (.nilc (.t (.p2 .d2 .d4))), none⟩,
  ⟨some (.p2 .d2 .d6), (.fa (.t (.p2 .d2 .d5)) 3), none⟩,
  ⟨none, (.st 1 (.t (.p2 .d2 .d6)) (.k (.bool false))), none⟩]) (.seq (.reg [
  ⟨some (.p2 .d2 .d7), (.mv (.t (.p2 .d0 .d3))), none⟩,
  ⟨some (.p2 .d2 .d8), (.callv (.t (.p2 .d2 .d7)) []), none⟩]) (.seq (.reg [
  ⟨some (.p2 .d2 .d9), (.mv (.t (.p2 .d0 .d0))), none⟩,
  ⟨some (.p2 .d2 .d10), (.mv (.t (.p2 .d0 .d2))), none⟩,
  ⟨some (.p2 .d2 .d11), (.call ⟨54, .d0, .d3, .d6⟩ [(.t (.p2 .d2 .d9)), (.t (.p2 .d2 .d10))]), none⟩]) (.seq (.reg [
  ⟨some (.p2 .d2 .d12), (.mv (.t (.p2 .d0 .d0))), none⟩,
  ⟨some (.p2 .d2 .d13), (.nilc (.t (.p2 .d2 .d12))), none⟩,
  ⟨some (.p2 .d2 .d14), (.fa (.t (.p2 .d2 .d13)) 2), none⟩,
  ⟨some (.p2 .d2 .d15), (.ld1 (.t (.p2 .d2 .d14))), none⟩,
  ⟨some (.p2 .d3 .d0), (.sub (.t (.p2 .d2 .d15)) (.k (.i (.ofNat 1)))), none⟩,
  ⟨some (.p2 .d3 .d1), (.nilc (.t (.p2 .d2 .d12))), none⟩,
  ⟨some (.p2 .d3 .d2), (.fa (.t (.p2 .d3 .d1)) 2), none⟩,
  ⟨none, (.st 1 (.t (.p2 .d3 .d2)) (.t (.p2 .d3 .d0))), none⟩]) (.reg [
  ⟨some (.p2 .d3 .d3), (.mv (.t (.p2 .d0 .d0))), none⟩,
  ⟨some (.p2 .d3 .d4), (.mv (.t (.p2 .d0 .d8))), none⟩,
  ⟨some (.p2 .d3 .d5), (.nilc (.t (.p2 .d3 .d3))), none⟩,
  ⟨some (.p2 .d3 .d6), (.fa (.t (.p2 .d3 .d5)) 3), none⟩,
  ⟨none, (.st 1 (.t (.p2 .d3 .d6)) (.t (.p2 .d3 .d4))), none⟩]))))))))), []⟩
def cf122 : CF := ⟨122, true, (.block 0 (.loop (.seq (.seq (.reg [
  ⟨some (.p2 .d0 .d5), (.ld1 (.t (.p2 .d0 .d0))), none⟩,
  ⟨some (.p2 .d0 .d6), (.ld1 (.t (.p2 .d0 .d1))), none⟩,
  ⟨some (.p2 .d0 .d7), (.bslice 9 1 1 [(.str 0 0)] [(0, (.t (.p2 .d0 .d6)))]), none⟩,
  ⟨some (.p2 .d0 .d8), (.call ⟨57, .d0, .d3, .d9⟩ [(.t (.p2 .d0 .d5)), (.t (.p2 .d0 .d7))]), none⟩,
  ⟨some (.p2 .d0 .d9), (.not (.t (.p2 .d0 .d8))), none⟩]) (.cond (.t (.p2 .d0 .d9)) .skip (.exit 0))) (.block 1 (.seq (.dreg [
  ⟨0, ⟨some (.p2 .d0 .d10), (.ld1 (.t (.p2 .d0 .d2))), none⟩, .rd, 2⟩,
  ⟨1, ⟨some (.p2 .d0 .d11), (.ld1 (.t (.p2 .d0 .d3))), none⟩, .rd, 0⟩,
  ⟨3, ⟨some (.p2 .d0 .d13), (.len 1 (.t (.p2 .d0 .d10))), none⟩, .rd, 2⟩,
  ⟨2, ⟨some (.p2 .d0 .d12), (.callv (.t (.p2 .d0 .d11)) []), none⟩, .ev, 0⟩,
  ⟨4, ⟨some (.p2 .d0 .d14), (.bslice 43 6 1 [(.i (.ofNat 0)), (.i (.ofNat 0)), (.i (.ofNat 0)), (.i (.ofNat 0)), (.str 0 0), .nils] [(0, (.k (.agg [(.i (.ofNat 0)), (.i (.ofNat 0)), (.i (.ofNat 0)), (.i (.ofNat 0)), (.str 0 0), .nils])))]), none⟩, .late, 1⟩,
  ⟨5, ⟨some (.p2 .d0 .d15), (.append 43 6 72 (.t (.p2 .d0 .d10)) (.t (.p2 .d0 .d14))), none⟩, .ev, 2⟩,
  ⟨6, ⟨some (.p2 .d1 .d0), (.ia 6 (.t (.p2 .d0 .d15)) (.t (.p2 .d0 .d13))), none⟩, .pur, 0⟩,
  ⟨7, ⟨none, (.st 6 (.t (.p2 .d1 .d0)) (.t (.p2 .d0 .d12))), none⟩, .fst, 3⟩,
  ⟨8, ⟨none, (.st 1 (.t (.p2 .d0 .d2)) (.t (.p2 .d0 .d15))), none⟩, .snd, 3⟩]) (.seq (.seq (.reg [
  ⟨some (.p2 .d1 .d1), (.ld1 (.t (.p2 .d0 .d0))), none⟩,
  ⟨some (.p2 .d1 .d2), (.ld1 (.t (.p2 .d0 .d1))), none⟩,
  ⟨some (.p2 .d1 .d3), (.bslice 9 1 1 [(.str 0 0)] [(0, (.t (.p2 .d1 .d2)))]), none⟩,
  ⟨some (.p2 .d1 .d4), (.call ⟨57, .d0, .d3, .d9⟩ [(.t (.p2 .d1 .d1)), (.t (.p2 .d1 .d3))]), none⟩]) (.cond (.t (.p2 .d1 .d4)) .ret .skip)) (.reg [
  ⟨some (.p2 .d1 .d5), (.ld1 (.t (.p2 .d0 .d4))), none⟩,
  ⟨some (.p2 .d1 .d6), (.callv (.t (.p2 .d1 .d5)) []), none⟩]))))))), []⟩
def cf123 : CF := ⟨123, true, (.seq (.reg [
  ⟨some (.p2 .d0 .d2), (.alloc 43 [(.i (.ofNat 0)), (.i (.ofNat 0)), (.i (.ofNat 0)), (.i (.ofNat 0)), (.str 0 0), .nils]), none⟩]) (.seq (.reg [
  ⟨some (.p2 .d0 .d5), (.ld1 (.t (.p2 .d0 .d0))), none⟩,
  ⟨some (.p2 .d0 .d6), (.call ⟨55, .d0, .d3, .d7⟩ [(.t (.p2 .d0 .d5)), (.k (.i (.ofNat 1)))]), none⟩,
  ⟨some (.p2 .d0 .d3), (.alloc 80 [(.i (.ofNat 0)), (.str 0 0), (.i (.ofNat 0)), (.i (.ofNat 0))]), none⟩,
  ⟨none, (.st 4 (.t (.p2 .d0 .d3)) (.t (.p2 .d0 .d6))), none⟩]) (.seq (.reg [
  ⟨some (.p2 .d0 .d7), (.ld1 (.t (.p2 .d0 .d0))), none⟩,
  ⟨some (.p2 .d0 .d8), (.call ⟨97, .d0, .d6, .d1⟩ [(.t (.p2 .d0 .d7))]), none⟩,
  ⟨some (.p2 .d0 .d4), (.alloc 43 [(.i (.ofNat 0)), (.i (.ofNat 0)), (.i (.ofNat 0)), (.i (.ofNat 0)), (.str 0 0), .nils]), none⟩,
  ⟨none, (.st 6 (.t (.p2 .d0 .d4)) (.t (.p2 .d0 .d8))), none⟩]) (.seq (.reg [
  ⟨some (.p2 .d0 .d9), (.ld1 (.t (.p2 .d0 .d0))), none⟩,
  ⟨some (.p2 .d0 .d10), (.ld1 (.t (.p2 .d0 .d1))), none⟩,
  ⟨some (.p2 .d0 .d11), (.fa (.t (.p2 .d0 .d3)) 2), none⟩,
  ⟨some (.p2 .d0 .d12), (.ld1 (.t (.p2 .d0 .d11))), none⟩,
  ⟨some (.p2 .d0 .d13), (.fa (.t (.p2 .d0 .d3)) 2), none⟩,
  ⟨some (.p2 .d0 .d14), (.ld1 (.t (.p2 .d0 .d13))), none⟩,
  ⟨some (.p2 .d0 .d15), (.fa (.t (.p2 .d0 .d3)) 1), none⟩,
  ⟨some (.p2 .d1 .d0), (.ld1 (.t (.p2 .d0 .d15))), none⟩,
  ⟨some (.p2 .d1 .d1), (.ldn 6 (.t (.p2 .d0 .d4))), none⟩,
  ⟨some (.p2 .d1 .d2), (.bslice 43 6 1 [(.i (.ofNat 0)), (.i (.ofNat 0)), (.i (.ofNat 0)), (.i (.ofNat 0)), (.str 0 0), .nils] [(0, (.t (.p2 .d1 .d1)))]), none⟩,
  ⟨some (.p2 .d1 .d3), (.call ⟨92, .d0, .d5, .d12⟩ [(.t (.p2 .d0 .d9)), (.t (.p2 .d0 .d10)), (.t (.p2 .d0 .d12)), (.t (.p2 .d0 .d14)), (.t (.p2 .d1 .d0)), (.t (.p2 .d1 .d2))]), none⟩,
  ⟨none, (.st 6 (.t (.p2 .d0 .d2)) (.t (.p2 .d1 .d3))), none⟩]) .ret)))), [.cell 6 true (.p2 .d0 .d2)]⟩
def cf124 : CF := ⟨124, true, (.seq (.reg [
  ⟨some (.p2 .d0 .d5), (.ld1 (.t (.p2 .d0 .d0))), none⟩,
  ⟨some (.p2 .d0 .d6), (.call ⟨55, .d0, .d3, .d7⟩ [(.t (.p2 .d0 .d5)), (.k (.i (.ofNat 1)))]), none⟩,
  ⟨some (.p2 .d0 .d2), (.alloc 80 [(.i (.ofNat 0)), (.str 0 0), (.i (.ofNat 0)), (.i (.ofNat 0))]), none⟩,
  ⟨none, (.st 4 (.t (.p2 .d0 .d2)) (.t (.p2 .d0 .d6))), none⟩]) (.seq (.reg [
  ⟨some (.p2 .d0 .d7), (.ld1 (.t (.p2 .d0 .d0))), none⟩,
  ⟨some (.p2 .d0 .d8), (.call ⟨55, .d0, .d3, .d7⟩ [(.t (.p2 .d0 .d7)), (.k (.i (.ofNat 1)))]), none⟩,
  ⟨some (.p2 .d0 .d3), (.alloc 80 [(.i (.ofNat 0)), (.str 0 0), (.i (.ofNat 0)), (.i (.ofNat 0))]), none⟩,
  ⟨none, (.st 4 (.t (.p2 .d0 .d3)) (.t (.p2 .d0 .d8))), none⟩]) (.seq (.reg [
  ⟨some (.p2 .d0 .d9), (.ld1 (.t (.p2 .d0 .d0))), none⟩,
  ⟨some (.p2 .d0 .d10), (.fa (.t (.p2 .d0 .d3)) 2), none⟩,
  ⟨some (.p2 .d0 .d11), (.ld1 (.t (.p2 .d0 .d10))), none⟩,
  ⟨some (.p2 .d0 .d12), (.fa (.t (.p2 .d0 .d3)) 2), none⟩,
  ⟨some (.p2 .d0 .d13), (.ld1 (.t (.p2 .d0 .d12))), none⟩,
  ⟨some (.p2 .d0 .d14), (.fa (.t (.p2 .d0 .d3)) 1), none⟩,
  ⟨some (.p2 .d0 .d15), (.ld1 (.t (.p2 .d0 .d14))), none⟩,
  ⟨some (.p2 .d1 .d0), (.call ⟨92, .d0, .d5, .d12⟩ [(.t (.p2 .d0 .d9)), (.k (.i (.ofNat 8))), (.t (.p2 .d0 .d11)), (.t (.p2 .d0 .d13)), (.t (.p2 .d0 .d15)), (.k .nils)]), none⟩,
  ⟨some (.p2 .d0 .d4), (.alloc 43 [(.i (.ofNat 0)), (.i (.ofNat 0)), (.i (.ofNat 0)), (.i (.ofNat 0)), (.str 0 0), .nils]), none⟩,
  ⟨none, (.st 6 (.t (.p2 .d0 .d4)) (.t (.p2 .d1 .d0))), none⟩]) (.reg [
  ⟨some (.p2 .d1 .d1), (.ld1 (.t (.p2 .d0 .d0))), none⟩,
  ⟨some (.p2 .d1 .d2), (.fa (.t (.p2 .d0 .d2)) 2), none⟩,
  ⟨some (.p2 .d1 .d3), (.ld1 (.t (.p2 .d1 .d2))), none⟩,
  ⟨some (.p2 .d1 .d4), (.fa (.t (.p2 .d0 .d2)) 2), none⟩,
  ⟨some (.p2 .d1 .d5), (.ld1 (.t (.p2 .d1 .d4))), none⟩,
  ⟨some (.p2 .d1 .d6), (.fa (.t (.p2 .d0 .d2)) 1), none⟩,
  ⟨some (.p2 .d1 .d7), (.ld1 (.t (.p2 .d1 .d6))), none⟩,
  ⟨some (.p2 .d1 .d8), (.ldn 6 (.t (.p2 .d0 .d4))), none⟩,
  ⟨some (.p2 .d1 .d9), (.bslice 43 6 1 [(.i (.ofNat 0)), (.i (.ofNat 0)), (.i (.ofNat 0)), (.i (.ofNat 0)), (.str 0 0), .nils] [(0, (.t (.p2 .d1 .d8)))]), none⟩,
  ⟨some (.p2 .d1 .d10), (.call ⟨92, .d0, .d5, .d12⟩ [(.t (.p2 .d1 .d1)), (.k (.i (.ofNat 7))), (.t (.p2 .d1 .d3)), (.t (.p2 .d1 .d5)), (.t (.p2 .d1 .d7)), (.t (.p2 .d1 .d9))]), none⟩,
  ⟨none, (.st 6 (.t (.p2 .d0 .d1)) (.t (.p2 .d1 .d10))), none⟩])))), []⟩
def cf125 : CF := ⟨125, true, (.seq (.reg [
  ⟨some (.p2 .d0 .d2), (.ld1 (.t (.p2 .d0 .d0))), none⟩,
  ⟨some (.p2 .d0 .d3), (.call ⟨54, .d0, .d3, .d6⟩ [(.t (.p2 .d0 .d2)), (.k (.str 1 44))]), none⟩]) (.seq (.reg [
  ⟨some (.p2 .d0 .d4), (.ld1 (.t (.p2 .d0 .d0))), none⟩,
  ⟨some (.p2 .d0 .d5), (.ld1 (.t (.p2 .d0 .d1))), none⟩,
  ⟨some (.p2 .d0 .d6), (.bslice 9 1 1 [(.str 0 0)] [(0, (.t (.p2 .d0 .d5)))]), none⟩,
  ⟨some (.p2 .d0 .d7), (.call ⟨57, .d0, .d3, .d9⟩ [(.t (.p2 .d0 .d4)), (.t (.p2 .d0 .d6))]), none⟩]) (.cond (.t (.p2 .d0 .d7)) (.reg [
  ⟨some (.p2 .d0 .d8), (.ld1 (.t (.p2 .d0 .d0))), none⟩,
  ⟨some (.p2 .d0 .d9), (.call ⟨88, .d0, .d5, .d8⟩ [(.t (.p2 .d0 .d8)), (.k (.i (.ofNat 4)))]), none⟩]) .skip))), []⟩
def cf126 : CF := ⟨126, true, (.seq (.reg [
  ⟨some (.p2 .d0 .d2), (.alloc 43 [(.i (.ofNat 0)), (.i (.ofNat 0)), (.i (.ofNat 0)), (.i (.ofNat 0)), (.str 0 0), .nils]), none⟩]) (.seq (.reg [
  ⟨some (.p2 .d0 .d7), (.mv (.t (.p2 .d0 .d0))), none⟩,
  ⟨some (.p2 .d0 .d8), (.call ⟨90, .d0, .d5, .d10⟩ [(.t (.p2 .d0 .d7))]), none⟩,
  ⟨some (.p2 .d0 .d3), (.alloc 80 [(.i (.ofNat 0)), (.str 0 0), (.i (.ofNat 0)), (.i (.ofNat 0))]), none⟩,
  ⟨none, (.st 4 (.t (.p2 .d0 .d3)) (.t (.p2 .d0 .d8))), none⟩]) (.seq (.block 0 (.seq (.reg [
  ⟨some (.p2 .d0 .d10), (.mv (.t (.p2 .d0 .d0))), none⟩,
  ⟨some (.p2 .d0 .d11), (.bslice 9 1 1 [(.str 0 0)] [(0, (.k (.str 1 123)))]), none⟩,
  ⟨some (.p2 .d0 .d12), (.call ⟨57, .d0, .d3, .d9⟩ [(.t (.p2 .d0 .d10)), (.t (.p2 .d0 .d11))]), none⟩,
  ⟨some (.p2 .d0 .d9), (.mv (.t (.p2 .d0 .d12))), none⟩]) (.cond (.t (.p2 .d0 .d9)) (.seq (.reg [
  ⟨some (.p2 .d0 .d13), (.mv (.t (.p2 .d0 .d0))), none⟩,
  ⟨some (.p2 .d0 .d14), (.call ⟨98, .d0, .d6, .d2⟩ [(.t (.p2 .d0 .d13))]), none⟩,
  ⟨none, (.st 6 (.t (.p2 .d0 .d2)) (.t (.p2 .d0 .d14))), none⟩]) .ret) (.seq (.reg [
  ⟨some (.p2 .d1 .d0), (.mv (.t (.p2 .d0 .d0))), none⟩,
  ⟨some (.p2 .d1 .d1), (.bslice 9 1 1 [(.str 0 0)] [(0, (.k (.str 2 26217)))]), none⟩,
  ⟨some (.p2 .d1 .d2), (.call ⟨57, .d0, .d3, .d9⟩ [(.t (.p2 .d1 .d0)), (.t (.p2 .d1 .d1))]), none⟩,
  ⟨some (.p2 .d0 .d15), (.mv (.t (.p2 .d1 .d2))), none⟩]) (.cond (.t (.p2 .d0 .d15)) (.seq (.reg [
  ⟨some (.p2 .d1 .d3), (.mv (.t (.p2 .d0 .d0))), none⟩,
  ⟨some (.p2 .d1 .d4), (.call ⟨142, .d0, .d8, .d14⟩ [(.t (.p2 .d1 .d3))]), none⟩,
  ⟨none, (.st 6 (.t (.p2 .d0 .d2)) (.t (.p2 .d1 .d4))), none⟩]) .ret) (.seq (.reg [
  ⟨some (.p2 .d1 .d6), (.mv (.t (.p2 .d0 .d0))), none⟩,
  ⟨some (.p2 .d1 .d7), (.bslice 9 1 1 [(.str 0 0)] [(0, (.k (.str 3 7499622)))]), none⟩,
  ⟨some (.p2 .d1 .d8), (.call ⟨57, .d0, .d3, .d9⟩ [(.t (.p2 .d1 .d6)), (.t (.p2 .d1 .d7))]), none⟩,
  ⟨some (.p2 .d1 .d5), (.mv (.t (.p2 .d1 .d8))), none⟩]) (.cond (.t (.p2 .d1 .d5)) (.seq (.reg [
  ⟨some (.p2 .d1 .d9), (.mv (.t (.p2 .d0 .d0))), none⟩,
  ⟨some (.p2 .d1 .d10), (.call ⟨143, .d0, .d8, .d15⟩ [(.t (.p2 .d1 .d9))]), none⟩,
  ⟨none, (.st 6 (.t (.p2 .d0 .d2)) (.t (.p2 .d1 .d10))), none⟩]) .ret) (.seq (.reg [
  ⟨some (.p2 .d1 .d12), (.mv (.t (.p2 .d0 .d0))), none⟩,
  ⟨some (.p2 .d1 .d13), (.bslice 9 1 1 [(.str 0 0)] [(0, (.k (.str 3 7496054)))]), none⟩,
  ⟨some (.p2 .d1 .d14), (.call ⟨57, .d0, .d3, .d9⟩ [(.t (.p2 .d1 .d12)), (.t (.p2 .d1 .d13))]), none⟩,
  ⟨some (.p2 .d1 .d11), (.mv (.t (.p2 .d1 .d14))), none⟩]) (.cond (.t (.p2 .d1 .d11)) (.seq (.reg [
  ⟨some (.p2 .d1 .d15), (.mv (.t (.p2 .d0 .d0))), none⟩,
  ⟨some (.p2 .d2 .d0), (.call ⟨144, .d0, .d9, .d0⟩ [(.t (.p2 .d1 .d15))]), none⟩,
  ⟨none, (.st 6 (.t (.p2 .d0 .d2)) (.t (.p2 .d2 .d0))), none⟩]) .ret) (.seq (.reg [
  ⟨some (.p2 .d2 .d2), (.mv (.t (.p2 .d0 .d0))), none⟩,
  ⟨some (.p2 .d2 .d3), (.bslice 9 1 1 [(.str 0 0)] [(0, (.k (.str 5 461195539042)))]), none⟩,
  ⟨some (.p2 .d2 .d4), (.call ⟨57, .d0, .d3, .d9⟩ [(.t (.p2 .d2 .d2)), (.t (.p2 .d2 .d3))]), none⟩,
  ⟨some (.p2 .d2 .d1), (.mv (.t (.p2 .d2 .d4))), none⟩]) (.cond (.t (.p2 .d2 .d1)) (.seq (.reg [
  ⟨some (.p2 .d2 .d5), (.mv (.t (.p2 .d0 .d0))), none⟩,
  ⟨some (.p2 .d2 .d6), (.call ⟨145, .d0, .d9, .d1⟩ [(.t (.p2 .d2 .d5)), (.k (.i (.ofNat 17)))]), none⟩,
  ⟨none, (.st 6 (.t (.p2 .d0 .d2)) (.t (.p2 .d2 .d6))), none⟩]) .ret) (.seq (.reg [
  ⟨some (.p2 .d2 .d8), (.mv (.t (.p2 .d0 .d0))), none⟩,
  ⟨some (.p2 .d2 .d9), (.bslice 9 1 1 [(.str 0 0)] [(0, (.k (.str 8 7310870969309884259)))]), none⟩,
  ⟨some (.p2 .d2 .d10), (.call ⟨57, .d0, .d3, .d9⟩ [(.t (.p2 .d2 .d8)), (.t (.p2 .d2 .d9))]), none⟩,
  ⟨some (.p2 .d2 .d7), (.mv (.t (.p2 .d2 .d10))), none⟩]) (.cond (.t (.p2 .d2 .d7)) (.seq (.reg [
  ⟨some (.p2 .d2 .d11), (.mv (.t (.p2 .d0 .d0))), none⟩,
  ⟨some (.p2 .d2 .d12), (.call ⟨145, .d0, .d9, .d1⟩ [(.t (.p2 .d2 .d11)), (.k (.i (.ofNat 18)))]), none⟩,
  ⟨none, (.st 6 (.t (.p2 .d0 .d2)) (.t (.p2 .d2 .d12))), none⟩]) .ret) (.seq (.reg [
  ⟨some (.p2 .d2 .d14), (.mv (.t (.p2 .d0 .d0))), none⟩,
  ⟨some (.p2 .d2 .d15), (.call ⟨146, .d0, .d9, .d2⟩ [(.t (.p2 .d2 .d14)), (.k (.str 6 121437875889522))]), none⟩,
  ⟨some (.p2 .d2 .d13), (.mv (.t (.p2 .d2 .d15))), none⟩]) (.cond (.t (.p2 .d2 .d13)) (.seq (.seq (.reg [
  ⟨some (.p2 .d3 .d0), (.mv (.t (.p2 .d0 .d0))), none⟩,
  ⟨some (.p2 .d3 .d1), (.call ⟨90, .d0, .d5, .d10⟩ [(.t (.p2 .d3 .d0))]), none⟩,
  ⟨some (.p2 .d3 .d2), (.fld (.t (.p2 .d3 .d1)) 0 1 false), none⟩,
  ⟨some (.p2 .d3 .d3), (.eql (.cell (.int .i64)) (.t (.p2 .d3 .d2)) (.k (.i (.ofNat 7)))), none⟩,
  ⟨some (.p2 .d3 .d4), (.mv (.t (.p2 .d3 .d3))), none⟩,
  ⟨some (.p2 .d3 .d5), (.mv (.t (.p2 .d0 .d0))), some ((.p2 .d3 .d4), false)⟩,
  ⟨some (.p2 .d3 .d6), (.bslice 9 1 1 [(.str 0 0)] [(0, (.k (.str 1 125)))]), some ((.p2 .d3 .d4), false)⟩,
  ⟨some (.p2 .d3 .d7), (.call ⟨57, .d0, .d3, .d9⟩ [(.t (.p2 .d3 .d5)), (.t (.p2 .d3 .d6))]), some ((.p2 .d3 .d4), false)⟩,
  ⟨some (.p2 .d3 .d8), (.pick (.t (.p2 .d3 .d4)) (.k (.bool true)) (.t (.p2 .d3 .d7))), none⟩]) (.cond (.t (.p2 .d3 .d8)) (.seq (.reg [
  ⟨some (.p2 .d3 .d9), (.mv (.t (.p2 .d0 .d0))), none⟩,
  ⟨some (.p2 .d3 .d10), (.fa (.t (.p2 .d0 .d3)) 2), none⟩,
  ⟨some (.p2 .d3 .d11), (.ld1 (.t (.p2 .d3 .d10))), none⟩,
  ⟨some (.p2 .d3 .d12), (.fa (.t (.p2 .d0 .d3)) 2), none⟩,
  ⟨some (.p2 .d3 .d13), (.ld1 (.t (.p2 .d3 .d12))), none⟩,
  ⟨some (.p2 .d3 .d14), (.call ⟨92, .d0, .d5, .d12⟩ [(.t (.p2 .d3 .d9)), (.k (.i (.ofNat 19))), (.t (.p2 .d3 .d11)), (.t (.p2 .d3 .d13)), (.k (.str 0 0)), (.k .nils)]), none⟩,
  ⟨none, (.st 6 (.t (.p2 .d0 .d2)) (.t (.p2 .d3 .d14))), none⟩]) .ret) .skip)) (.seq (.reg [
  ⟨some (.p2 .d3 .d15), (.mv (.t (.p2 .d0 .d0))), none⟩,
  ⟨some (.p2 .d4 .d0), (.call ⟨147, .d0, .d9, .d3⟩ [(.t (.p2 .d3 .d15)), (.k (.i (.ofNat 0)))]), none⟩,
  ⟨some (.p2 .d0 .d4), (.alloc 43 [(.i (.ofNat 0)), (.i (.ofNat 0)), (.i (.ofNat 0)), (.i (.ofNat 0)), (.str 0 0), .nils]), none⟩,
  ⟨none, (.st 6 (.t (.p2 .d0 .d4)) (.t (.p2 .d4 .d0))), none⟩]) (.seq (.reg [
  ⟨some (.p2 .d4 .d1), (.mv (.t (.p2 .d0 .d0))), none⟩,
  ⟨some (.p2 .d4 .d2), (.fa (.t (.p2 .d0 .d3)) 2), none⟩,
  ⟨some (.p2 .d4 .d3), (.ld1 (.t (.p2 .d4 .d2))), none⟩,
  ⟨some (.p2 .d4 .d4), (.fa (.t (.p2 .d0 .d3)) 2), none⟩,
  ⟨some (.p2 .d4 .d5), (.ld1 (.t (.p2 .d4 .d4))), none⟩,
  ⟨some (.p2 .d4 .d6), (.ldn 6 (.t (.p2 .d0 .d4))), none⟩,
  ⟨some (.p2 .d4 .d7), (.bslice 43 6 1 [(.i (.ofNat 0)), (.i (.ofNat 0)), (.i (.ofNat 0)), (.i (.ofNat 0)), (.str 0 0), .nils] [(0, (.t (.p2 .d4 .d6)))]), none⟩,
  ⟨some (.p2 .d4 .d8), (.call ⟨92, .d0, .d5, .d12⟩ [(.t (.p2 .d4 .d1)), (.k (.i (.ofNat 19))), (.t (.p2 .d4 .d3)), (.t (.p2 .d4 .d5)), (.k (.str 0 0)), (.t (.p2 .d4 .d7))]), none⟩,
  ⟨none, (.st 6 (.t (.p2 .d0 .d2)) (.t (.p2 .d4 .d8))), none⟩]) .ret))) .skip))))))))))))))) (.seq (.reg [
  ⟨some (.p2 .d4 .d9), (.mv (.t (.p2 .d0 .d0))), none⟩,
  ⟨some (.p2 .d4 .d10), (.call ⟨148, .d0, .d9, .d4⟩ [(.t (.p2 .d4 .d9))]), none⟩,
  ⟨some (.p2 .d0 .d5), (.alloc 43 [(.i (.ofNat 0)), (.i (.ofNat 0)), (.i (.ofNat 0)), (.i (.ofNat 0)), (.str 0 0), .nils]), none⟩,
  ⟨none, (.st 6 (.t (.p2 .d0 .d5)) (.t (.p2 .d4 .d10))), none⟩]) (.seq (.seq (.reg [
  ⟨some (.p2 .d4 .d11), (.fa (.t (.p2 .d0 .d5)) 0), none⟩,
  ⟨some (.p2 .d4 .d12), (.ld1 (.t (.p2 .d4 .d11))), none⟩,
  ⟨some (.p2 .d4 .d13), (.eql (.cell (.int .i64)) (.t (.p2 .d4 .d12)) (.k (.i (.ofNat 25)))), none⟩,
  ⟨some (.p2 .d4 .d14), (.mv (.t (.p2 .d4 .d13))), none⟩,
  ⟨some (.p2 .d4 .d15), (.mv (.t (.p2 .d0 .d0))), some ((.p2 .d4 .d14), true)⟩,
  ⟨some (.p2 .d5 .d0), (.call ⟨146, .d0, .d9, .d2⟩ [(.t (.p2 .d4 .d15)), (.k (.str 1 58))]), some ((.p2 .d4 .d14), true)⟩,
  ⟨some (.p2 .d5 .d1), (.pick (.t (.p2 .d4 .d14)) (.t (.p2 .d5 .d0)) (.k (.bool false))), none⟩]) (.cond (.t (.p2 .d5 .d1)) (.seq (.reg [
  ⟨some (.p2 .d5 .d2), (.mv (.t (.p2 .d0 .d0))), none⟩,
  ⟨some (.p2 .d5 .d3), (.call ⟨143, .d0, .d8, .d15⟩ [(.t (.p2 .d5 .d2))]), none⟩,
  ⟨some (.p2 .d0 .d6), (.alloc 43 [(.i (.ofNat 0)), (.i (.ofNat 0)), (.i (.ofNat 0)), (.i (.ofNat 0)), (.str 0 0), .nils]), none⟩,
  ⟨none, (.st 6 (.t (.p2 .d0 .d6)) (.t (.p2 .d5 .d3))), none⟩]) (.seq (.reg [
  ⟨some (.p2 .d5 .d4), (.mv (.t (.p2 .d0 .d0))), none⟩,
  ⟨some (.p2 .d5 .d5), (.fa (.t (.p2 .d0 .d3)) 2), none⟩,
  ⟨some (.p2 .d5 .d6), (.ld1 (.t (.p2 .d5 .d5))), none⟩,
  ⟨some (.p2 .d5 .d7), (.fa (.t (.p2 .d0 .d3)) 2), none⟩,
  ⟨some (.p2 .d5 .d8), (.ld1 (.t (.p2 .d5 .d7))), none⟩,
  ⟨some (.p2 .d5 .d9), (.fa (.t (.p2 .d0 .d5)) 4), none⟩,
  ⟨some (.p2 .d5 .d10), (.ld1 (.t (.p2 .d5 .d9))), none⟩,
  ⟨some (.p2 .d5 .d11), (.ldn 6 (.t (.p2 .d0 .d6))), none⟩,
  ⟨some (.p2 .d5 .d12), (.bslice 43 6 1 [(.i (.ofNat 0)), (.i (.ofNat 0)), (.i (.ofNat 0)), (.i (.ofNat 0)), (.str 0 0), .nils] [(0, (.t (.p2 .d5 .d11)))]), none⟩,
  ⟨some (.p2 .d5 .d13), (.call ⟨92, .d0, .d5, .d12⟩ [(.t (.p2 .d5 .d4)), (.k (.i (.ofNat 16))), (.t (.p2 .d5 .d6)), (.t (.p2 .d5 .d8)), (.t (.p2 .d5 .d10)), (.t (.p2 .d5 .d12))]), none⟩,
  ⟨none, (.st 6 (.t (.p2 .d0 .d2)) (.t (.p2 .d5 .d13))), none⟩]) .ret)) .skip)) (.seq (.reg [
  ⟨some (.p2 .d5 .d14), (.mv (.t (.p2 .d0 .d0))), none⟩,
  ⟨some (.p2 .d5 .d15), (.ldn 6 (.t (.p2 .d0 .d5))), none⟩,
  ⟨some (.p2 .d6 .d0), (.call ⟨149, .d0, .d9, .d5⟩ [(.t (.p2 .d5 .d14)), (.t (.p2 .d5 .d15)), (.k (.bool true))]), none⟩,
  ⟨none, (.st 6 (.t (.p2 .d0 .d2)) (.t (.p2 .d6 .d0))), none⟩]) .ret)))))), [.cell 6 true (.p2 .d0 .d2)]⟩
def cf127 : CF := ⟨127, true, (.seq (.reg [
  ⟨some (.p2 .d0 .d10), (.mv (.k (.bool true))), none⟩]) (.seq (.reg [
  ⟨some (.p2 .d0 .d11), (.mv (.k (.bool true))), none⟩]) (.block 0 (.loop (.block 1 (.seq (.reg [
  ⟨some (.p2 .d1 .d5), (.mv (.t (.p2 .d0 .d2))), none⟩,
  ⟨some (.p2 .d1 .d6), (.mv (.t (.p2 .d0 .d1))), none⟩,
  ⟨some (.p2 .d1 .d7), (.sub (.t (.p2 .d1 .d5)) (.t (.p2 .d1 .d6))), none⟩,
  ⟨some (.p2 .d0 .d12), (.mv (.t (.p2 .d1 .d7))), none⟩]) (.seq (.seq (.reg [
  ⟨some (.p2 .d1 .d8), (.mv (.t (.p2 .d0 .d12))), none⟩,
  ⟨some (.p2 .d1 .d9), (.leq (.t (.p2 .d1 .d8)) (.k (.i (.ofNat 12)))), none⟩]) (.cond (.t (.p2 .d1 .d9)) (.seq (.reg [
  ⟨some (.p2 .d1 .d10), (.mv (.t (.p2 .d0 .d0))), none⟩,
  ⟨some (.p2 .d1 .d11), (.mv (.t (.p2 .d0 .d1))), none⟩,
  ⟨some (.p2 .d1 .d12), (.mv (.t (.p2 .d0 .d2))), none⟩,
  ⟨some (.p2 .d1 .d13), (.mv (.t (.p2 .d0 .d4))), none⟩,
  ⟨some (.p2 .d1 .d14), (.call ⟨150, .d0, .d9, .d6⟩ [(.t (.p2 .d1 .d10)), (.t (.p2 .d1 .d11)), (.t (.p2 .d1 .d12)), (.t (.p2 .d1 .d13))]), none⟩]) .ret) .skip)) (.seq (.seq (.reg [
  ⟨some (.p2 .d1 .d15), (.mv (.t (.p2 .d0 .d3))), none⟩,
  ⟨some (.p2 .d2 .d0), (.eql (.cell (.int .i64)) (.t (.p2 .d1 .d15)) (.k (.i (.ofNat 0)))), none⟩]) (.cond (.t (.p2 .d2 .d0)) (.seq (.reg [
  ⟨some (.p2 .d2 .d1), (.mv (.t (.p2 .d0 .d0))), none⟩,
  ⟨some (.p2 .d2 .d2), (.mv (.t (.p2 .d0 .d1))), none⟩,
  ⟨some (.p2 .d2 .d3), (.mv (.t (.p2 .d0 .d2))), none⟩,
  ⟨some (.p2 .d2 .d4), (.mv (.t (.p2 .d0 .d4))), none⟩,
  ⟨some (.p2 .d2 .d5), (.call ⟨151, .d0, .d9, .d7⟩ [(.t (.p2 .d2 .d1)), (.t (.p2 .d2 .d2)), (.t (.p2 .d2 .d3)), (.t (.p2 .d2 .d4))]), none⟩]) .ret) .skip)) (.seq (.seq (.reg [
  ⟨some (.p2 .d2 .d6), (.mv (.t (.p2 .d0 .d10))), none⟩,
  ⟨some (.p2 .d2 .d7), (.not (.t (.p2 .d2 .d6))), none⟩]) (.cond (.t (.p2 .d2 .d7)) (.seq (.reg [
  ⟨some (.p2 .d2 .d8), (.mv (.t (.p2 .d0 .d0))), none⟩,
  ⟨some (.p2 .d2 .d9), (.mv (.t (.p2 .d0 .d1))), none⟩,
  ⟨some (.p2 .d2 .d10), (.mv (.t (.p2 .d0 .d2))), none⟩,
  ⟨some (.p2 .d2 .d11), (.mv (.t (.p2 .d0 .d4))), none⟩,
  ⟨some (.p2 .d2 .d12), (.call ⟨152, .d0, .d9, .d8⟩ [(.t (.p2 .d2 .d8)), (.t (.p2 .d2 .d9)), (.t (.p2 .d2 .d10)), (.t (.p2 .d2 .d11))]), none⟩]) (.reg [
  ⟨some (.p2 .d2 .d13), (.mv (.t (.p2 .d0 .d3))), none⟩,
  ⟨some (.p2 .d2 .d14), (.sub (.t (.p2 .d2 .d13)) (.k (.i (.ofNat 1)))), none⟩,
  ⟨some (.p2 .d0 .d3), (.mv (.t (.p2 .d2 .d14))), none⟩])) .skip)) (.seq (.reg [
  ⟨some (.p2 .d3 .d0), (.mv (.t (.p2 .d0 .d0))), none⟩,
  ⟨some (.p2 .d3 .d1), (.mv (.t (.p2 .d0 .d1))), none⟩,
  ⟨some (.p2 .d3 .d2), (.mv (.t (.p2 .d0 .d2))), none⟩,
  ⟨some (.p2 .d3 .d3), (.mv (.t (.p2 .d0 .d4))), none⟩,
  ⟨some (.p2 .d3 .d4), (.call ⟨153, .d0, .d9, .d9⟩ [(.t (.p2 .d3 .d0)), (.t (.p2 .d3 .d1)), (.t (.p2 .d3 .d2)), (.t (.p2 .d3 .d3))]), none⟩,
  ⟨some (.p2 .d2 .d15), (.mv (.t (.p2 .d3 .d4))), none⟩,
  ⟨some (.p2 .d3 .d5), (.ext (.t (.p2 .d2 .d15)) 0), none⟩,
  ⟨some (.p2 .d3 .d6), (.ext (.t (.p2 .d2 .d15)) 1), none⟩,
  ⟨some (.p2 .d0 .d13), (.mv (.t (.p2 .d3 .d5))), none⟩,
  ⟨some (.p2 .d0 .d14), (.mv (.t (.p2 .d3 .d6))), none⟩]) (.seq (.seq (.reg [
  ⟨some (.p2 .d3 .d7), (.mv (.t (.p2 .d0 .d14))), none⟩,
  ⟨some (.p2 .d3 .d8), (.eql (.cell (.int .i64)) (.t (.p2 .d3 .d7)) (.k (.i (.ofNat 2)))), none⟩]) (.cond (.t (.p2 .d3 .d8)) (.seq (.reg [
  ⟨some (.p2 .d3 .d9), (.mv (.t (.p2 .d0 .d0))), none⟩,
  ⟨some (.p2 .d3 .d10), (.mv (.t (.p2 .d0 .d1))), none⟩,
  ⟨some (.p2 .d3 .d11), (.mv (.t (.p2 .d0 .d2))), none⟩,
  ⟨some (.p2 .d3 .d12), (.mv (.t (.p2 .d0 .d4))), none⟩,
  ⟨some (.p2 .d3 .d13), (.call ⟨154, .d0, .d9, .d10⟩ [(.t (.p2 .d3 .d9)), (.t (.p2 .d3 .d10)), (.t (.p2 .d3 .d11)), (.t (.p2 .d3 .d12))]), none⟩]) (.seq (.reg [
  ⟨some (.p2 .d3 .d14), (.mv (.t (.p2 .d0 .d2))), none⟩,
  ⟨some (.p2 .d3 .d15), (.sub (.t (.p2 .d3 .d14)) (.k (.i (.ofNat 1)))), none⟩,
  ⟨some (.p2 .d4 .d0), (.mv (.t (.p2 .d0 .d13))), none⟩,
  ⟨some (.p2 .d4 .d1), (.mv (.t (.p2 .d0 .d1))), none⟩,
  ⟨some (.p2 .d4 .d2), (.sub (.t (.p2 .d4 .d0)) (.t (.p2 .d4 .d1))), none⟩,
  ⟨some (.p2 .d4 .d3), (.sub (.t (.p2 .d3 .d15)) (.t (.p2 .d4 .d2))), none⟩,
  ⟨some (.p2 .d0 .d13), (.mv (.t (.p2 .d4 .d3))), none⟩]) (.reg [
  ⟨some (.p2 .d0 .d14), (.mv (.k (.i (.ofNat 1)))), none⟩]))) .skip)) (.seq (.seq (.reg [
  ⟨some (.p2 .d4 .d4), (.mv (.t (.p2 .d0 .d10))), none⟩,
  ⟨some (.p2 .d4 .d5), (.mv (.t (.p2 .d4 .d4))), none⟩,
  ⟨some (.p2 .d4 .d6), (.mv (.t (.p2 .d0 .d11))), some ((.p2 .d4 .d5), true)⟩,
  ⟨some (.p2 .d4 .d7), (.pick (.t (.p2 .d4 .d5)) (.t (.p2 .d4 .d6)) (.k (.bool false))), none⟩,
  ⟨some (.p2 .d4 .d8), (.mv (.t (.p2 .d4 .d7))), none⟩,
  ⟨some (.p2 .d4 .d9), (.mv (.t (.p2 .d0 .d14))), some ((.p2 .d4 .d8), true)⟩,
  ⟨some (.p2 .d4 .d10), (.eql (.cell (.int .i64)) (.t (.p2 .d4 .d9)) (.k (.i (.ofNat 1)))), some ((.p2 .d4 .d8), true)⟩,
  ⟨some (.p2 .d4 .d11), (.pick (.t (.p2 .d4 .d8)) (.t (.p2 .d4 .d10)) (.k (.bool false))), none⟩]) (.cond (.t (.p2 .d4 .d11)) (.seq (.reg [
  ⟨some (.p2 .d4 .d12), (.mv (.t (.p2 .d0 .d0))), none⟩,
  ⟨some (.p2 .d4 .d13), (.mv (.t (.p2 .d0 .d1))), none⟩,
  ⟨some (.p2 .d4 .d14), (.mv (.t (.p2 .d0 .d2))), none⟩,
  ⟨some (.p2 .d4 .d15), (.mv (.t (.p2 .d0 .d4))), none⟩,
  ⟨some (.p2 .d5 .d0), (.call ⟨155, .d0, .d9, .d11⟩ [(.t (.p2 .d4 .d12)), (.t (.p2 .d4 .d13)), (.t (.p2 .d4 .d14)), (.t (.p2 .d4 .d15))]), none⟩]) (.cond (.t (.p2 .d5 .d0)) .ret .skip)) .skip)) (.seq (.seq (.dreg [
  ⟨0, ⟨some (.p2 .d5 .d1), (.mv (.t (.p2 .d0 .d1))), none⟩, .pur, 0⟩,
  ⟨1, ⟨some (.p2 .d5 .d2), (.gtr (.t (.p2 .d5 .d1)) (.k (.i (.ofNat 0)))), none⟩, .pur, 0⟩,
  ⟨2, ⟨some (.p2 .d5 .d3), (.mv (.t (.p2 .d5 .d2))), none⟩, .pur, 0⟩,
  ⟨3, ⟨some (.p2 .d5 .d4), (.mv (.t (.p2 .d0 .d4))), some ((.p2 .d5 .d3), true)⟩, .pur, 0⟩,
  ⟨4, ⟨some (.p2 .d5 .d5), (.mv (.t (.p2 .d0 .d0))), some ((.p2 .d5 .d3), true)⟩, .pur, 0⟩,
  ⟨5, ⟨some (.p2 .d5 .d6), (.mv (.t (.p2 .d0 .d1))), some ((.p2 .d5 .d3), true)⟩, .pur, 0⟩,
  ⟨6, ⟨some (.p2 .d5 .d7), (.sub (.t (.p2 .d5 .d6)) (.k (.i (.ofNat 1)))), some ((.p2 .d5 .d3), true)⟩, .pur, 0⟩,
  ⟨7, ⟨some (.p2 .d5 .d8), (.ia 5 (.t (.p2 .d5 .d5)) (.t (.p2 .d5 .d7))), some ((.p2 .d5 .d3), true)⟩, .pur, 0⟩,
  ⟨8, ⟨some (.p2 .d5 .d9), (.ldn 5 (.t (.p2 .d5 .d8))), some ((.p2 .d5 .d3), true)⟩, .rd, 0⟩,
  ⟨9, ⟨some (.p2 .d5 .d10), (.mv (.t (.p2 .d0 .d0))), some ((.p2 .d5 .d3), true)⟩, .pur, 0⟩,
  ⟨10, ⟨some (.p2 .d5 .d11), (.mv (.t (.p2 .d0 .d13))), some ((.p2 .d5 .d3), true)⟩, .pur, 0⟩,
  ⟨11, ⟨some (.p2 .d5 .d12), (.ia 5 (.t (.p2 .d5 .d10)) (.t (.p2 .d5 .d11))), some ((.p2 .d5 .d3), true)⟩, .pur, 0⟩,
  ⟨12, ⟨some (.p2 .d5 .d13), (.ldn 5 (.t (.p2 .d5 .d12))), some ((.p2 .d5 .d3), true)⟩, .rd, 0⟩,
  ⟨13, ⟨some (.p2 .d5 .d14), (.callv (.t (.p2 .d5 .d4)) [(.t (.p2 .d5 .d9)), (.t (.p2 .d5 .d13))]), some ((.p2 .d5 .d3), true)⟩, .ev, 0⟩,
  ⟨14, ⟨some (.p2 .d5 .d15), (.lss (.t (.p2 .d5 .d14)) (.k (.i (.ofNat 0)))), some ((.p2 .d5 .d3), true)⟩, .pur, 0⟩,
  ⟨15, ⟨some (.p2 .d6 .d0), (.not (.t (.p2 .d5 .d15))), some ((.p2 .d5 .d3), true)⟩, .pur, 0⟩,
  ⟨16, ⟨some (.p2 .d6 .d1), (.pick (.t (.p2 .d5 .d3)) (.t (.p2 .d6 .d0)) (.k (.bool false))), none⟩, .pur, 0⟩]) (.cond (.t (.p2 .d6 .d1)) (.seq (.reg [
  ⟨some (.p2 .d6 .d2), (.mv (.t (.p2 .d0 .d0))), none⟩,
  ⟨some (.p2 .d6 .d3), (.mv (.t (.p2 .d0 .d1))), none⟩,
  ⟨some (.p2 .d6 .d4), (.mv (.t (.p2 .d0 .d2))), none⟩,
  ⟨some (.p2 .d6 .d5), (.mv (.t (.p2 .d0 .d13))), none⟩,
  ⟨some (.p2 .d6 .d6), (.mv (.t (.p2 .d0 .d4))), none⟩,
  ⟨some (.p2 .d6 .d7), (.call ⟨156, .d0, .d9, .d12⟩ [(.t (.p2 .d6 .d2)), (.t (.p2 .d6 .d3)), (.t (.p2 .d6 .d4)), (.t (.p2 .d6 .d5)), (.t (.p2 .d6 .d6))]), none⟩,
  ⟨some (.p2 .d0 .d15), (.mv (.t (.p2 .d6 .d7))), none⟩]) (.seq (.reg [
  ⟨some (.p2 .d6 .d8), (.mv (.t (.p2 .d0 .d15))), none⟩,
  ⟨some (.p2 .d0 .d1), (.mv (.t (.p2 .d6 .d8))), none⟩]) (.exit 1))) .skip)) (.seq (.reg [
  ⟨some (.p2 .d6 .d10), (.mv (.t (.p2 .d0 .d0))), none⟩,
  ⟨some (.p2 .d6 .d11), (.mv (.t (.p2 .d0 .d1))), none⟩,
  ⟨some (.p2 .d6 .d12), (.mv (.t (.p2 .d0 .d2))), none⟩,
  ⟨some (.p2 .d6 .d13), (.mv (.t (.p2 .d0 .d13))), none⟩,
  ⟨some (.p2 .d6 .d14), (.mv (.t (.p2 .d0 .d4))), none⟩,
  ⟨some (.p2 .d6 .d15), (.call ⟨157, .d0, .d9, .d13⟩ [(.t (.p2 .d6 .d10)), (.t (.p2 .d6 .d11)), (.t (.p2 .d6 .d12)), (.t (.p2 .d6 .d13)), (.t (.p2 .d6 .d14))]), none⟩,
  ⟨some (.p2 .d6 .d9), (.mv (.t (.p2 .d6 .d15))), none⟩,
  ⟨some (.p2 .d7 .d0), (.ext (.t (.p2 .d6 .d9)) 0), none⟩,
  ⟨some (.p2 .d7 .d1), (.ext (.t (.p2 .d6 .d9)) 1), none⟩,
  ⟨some (.p2 .d1 .d0), (.mv (.t (.p2 .d7 .d0))), none⟩,
  ⟨some (.p2 .d1 .d1), (.mv (.t (.p2 .d7 .d1))), none⟩]) (.seq (.reg [
  ⟨some (.p2 .d7 .d2), (.mv (.t (.p2 .d1 .d1))), none⟩,
  ⟨some (.p2 .d0 .d11), (.mv (.t (.p2 .d7 .d2))), none⟩]) (.seq (.reg [
  ⟨some (.p2 .d7 .d3), (.mv (.t (.p2 .d1 .d0))), none⟩,
  ⟨some (.p2 .d7 .d4), (.mv (.t (.p2 .d0 .d1))), none⟩,
  ⟨some (.p2 .d7 .d5), (.sub (.t (.p2 .d7 .d3)) (.t (.p2 .d7 .d4))), none⟩,
  ⟨some (.p2 .d7 .d6), (.mv (.t (.p2 .d0 .d2))), none⟩,
  ⟨some (.p2 .d7 .d7), (.mv (.t (.p2 .d1 .d0))), none⟩,
  ⟨some (.p2 .d7 .d8), (.sub (.t (.p2 .d7 .d6)) (.t (.p2 .d7 .d7))), none⟩,
  ⟨some (.p2 .d1 .d2), (.mv (.t (.p2 .d7 .d5))), none⟩,
  ⟨some (.p2 .d1 .d3), (.mv (.t (.p2 .d7 .d8))), none⟩]) (.seq (.reg [
  ⟨some (.p2 .d7 .d9), (.mv (.t (.p2 .d0 .d12))), none⟩,
  ⟨some (.p2 .d7 .d10), (.quo (.t (.p2 .d7 .d9)) (.k (.i (.ofNat 8)))), none⟩,
  ⟨some (.p2 .d1 .d4), (.mv (.t (.p2 .d7 .d10))), none⟩]) (.seq (.reg [
  ⟨some (.p2 .d7 .d11), (.mv (.t (.p2 .d1 .d2))), none⟩,
  ⟨some (.p2 .d7 .d12), (.mv (.t (.p2 .d1 .d3))), none⟩,
  ⟨some (.p2 .d7 .d13), (.lss (.t (.p2 .d7 .d11)) (.t (.p2 .d7 .d12))), none⟩]) (.cond (.t (.p2 .d7 .d13)) (.seq (.reg [
  ⟨some (.p2 .d7 .d14), (.mv (.t (.p2 .d1 .d2))), none⟩,
  ⟨some (.p2 .d7 .d15), (.mv (.t (.p2 .d1 .d4))), none⟩,
  ⟨some (.p2 .d8 .d0), (.geq (.t (.p2 .d7 .d14)) (.t (.p2 .d7 .d15))), none⟩,
  ⟨some (.p2 .d0 .d10), (.mv (.t (.p2 .d8 .d0))), none⟩]) (.seq (.reg [
  ⟨some (.p2 .d8 .d1), (.mv (.t (.p2 .d0 .d0))), none⟩,
  ⟨some (.p2 .d8 .d2), (.mv (.t (.p2 .d0 .d1))), none⟩,
  ⟨some (.p2 .d8 .d3), (.mv (.t (.p2 .d1 .d0))), none⟩,
  ⟨some (.p2 .d8 .d4), (.mv (.t (.p2 .d0 .d3))), none⟩,
  ⟨some (.p2 .d8 .d5), (.mv (.t (.p2 .d0 .d4))), none⟩,
  ⟨some (.p2 .d8 .d6), (.call ⟨127, .d0, .d7, .d15⟩ [(.t (.p2 .d8 .d1)), (.t (.p2 .d8 .d2)), (.t (.p2 .d8 .d3)), (.t (.p2 .d8 .d4)), (.t (.p2 .d8 .d5))]), none⟩]) (.reg [
  ⟨some (.p2 .d8 .d7), (.mv (.t (.p2 .d1 .d0))), none⟩,
  ⟨some (.p2 .d8 .d8), (.add (.t (.p2 .d8 .d7)) (.k (.i (.ofNat 1)))), none⟩,
  ⟨some (.p2 .d0 .d1), (.mv (.t (.p2 .d8 .d8))), none⟩]))) (.seq (.reg [
  ⟨some (.p2 .d8 .d9), (.mv (.t (.p2 .d1 .d3))), none⟩,
  ⟨some (.p2 .d8 .d10), (.mv (.t (.p2 .d1 .d4))), none⟩,
  ⟨some (.p2 .d8 .d11), (.geq (.t (.p2 .d8 .d9)) (.t (.p2 .d8 .d10))), none⟩,
  ⟨some (.p2 .d0 .d10), (.mv (.t (.p2 .d8 .d11))), none⟩]) (.seq (.reg [
  ⟨some (.p2 .d8 .d12), (.mv (.t (.p2 .d0 .d0))), none⟩,
  ⟨some (.p2 .d8 .d13), (.mv (.t (.p2 .d1 .d0))), none⟩,
  ⟨some (.p2 .d8 .d14), (.add (.t (.p2 .d8 .d13)) (.k (.i (.ofNat 1)))), none⟩,
  ⟨some (.p2 .d8 .d15), (.mv (.t (.p2 .d0 .d2))), none⟩,
  ⟨some (.p2 .d9 .d0), (.mv (.t (.p2 .d0 .d3))), none⟩,
  ⟨some (.p2 .d9 .d1), (.mv (.t (.p2 .d0 .d4))), none⟩,
  ⟨some (.p2 .d9 .d2), (.call ⟨127, .d0, .d7, .d15⟩ [(.t (.p2 .d8 .d12)), (.t (.p2 .d8 .d14)), (.t (.p2 .d8 .d15)), (.t (.p2 .d9 .d0)), (.t (.p2 .d9 .d1))]), none⟩]) (.reg [
  ⟨some (.p2 .d9 .d3), (.mv (.t (.p2 .d1 .d0))), none⟩,
  ⟨some (.p2 .d0 .d2), (.mv (.t (.p2 .d9 .d3))), none⟩])))))))))))))))))))))), []⟩
def cf128 : CF := ⟨128, true, (.seq (.reg [
  ⟨some (.p2 .d0 .d2), (.mv (.k (.i (.ofNat 0)))), none⟩]) (.seq (.cond (.k (.bool false)) (.seq (.reg [
  ⟨some (.p2 .d0 .d3), (.mv (.t (.p2 .d0 .d0))), none⟩,
  ⟨some (.p2 .d0 .d4), (.cint .u32 (.t (.p2 .d0 .d3))), none⟩,
  ⟨some (.p2 .d0 .d5), (.call ⟨158, .d0, .d9, .d14⟩ [(.t (.p2 .d0 .d4))]), none⟩,
  ⟨some (.p2 .d0 .d2), (.mv (.t (.p2 .d0 .d5))), none⟩]) .ret) .skip) (.seq (.reg [
  ⟨some (.p2 .d0 .d6), (.mv (.t (.p2 .d0 .d0))), none⟩,
  ⟨some (.p2 .d0 .d7), (.call ⟨159, .d0, .d9, .d15⟩ [(.t (.p2 .d0 .d6))]), none⟩,
  ⟨some (.p2 .d0 .d2), (.mv (.t (.p2 .d0 .d7))), none⟩]) .ret))), [.tmp (.p2 .d0 .d2)]⟩
def cf133 : CF := ⟨133, true, (.seq (.reg [
  ⟨some (.p2 .d0 .d2), (.allocR 190 1 256 [[(.bool false)], [(.bool false)], [(.bool false)], [(.bool false)], [(.bool false)], [(.bool false)], [(.bool false)], [(.bool false)], [(.bool false)], [(.bool false)], [(.bool false)], [(.bool false)], [(.bool false)], [(.bool false)], [(.bool false)], [(.bool false)], [(.bool false)], [(.bool false)], [(.bool false)], [(.bool false)], [(.bool false)], [(.bool false)], [(.bool false)], [(.bool false)], [(.bool false)], [(.bool false)], [(.bool false)], [(.bool false)], [(.bool false)], [(.bool false)], [(.bool false)], [(.bool false)], [(.bool false)], [(.bool false)], [(.bool false)], [(.bool false)], [(.bool false)], [(.bool false)], [(.bool false)], [(.bool false)], [(.bool false)], [(.bool false)], [(.bool false)], [(.bool false)], [(.bool false)], [(.bool false)], [(.bool false)], [(.bool false)], [(.bool false)], [(.bool false)], [(.bool false)], [(.bool false)], [(.bool false)], [(.bool false)], [(.bool false)], [(.bool false)], [(.bool false)], [(.bool false)], [(.bool false)], [(.bool false)], [(.bool false)], [(.bool false)], [(.bool false)], [(.bool false)], [(.bool false)], [(.bool false)], [(.bool false)], [(.bool false)], [(.bool false)], [(.bool false)], [(.bool false)], [(.bool false)], [(.bool false)], [(.bool false)], [(.bool false)], [(.bool false)], [(.bool false)], [(.bool false)], [(.bool false)], [(.bool false)], [(.bool false)], [(.bool false)], [(.bool false)], [(.bool false)], [(.bool false)], [(.bool false)], [(.bool false)], [(.bool false)], [(.bool false)], [(.bool false)], [(.bool false)], [(.bool false)], [(.bool false)], [(.bool false)], [(.bool false)], [(.bool false)], [(.bool false)], [(.bool false)], [(.bool false)], [(.bool false)], [(.bool false)], [(.bool false)], [(.bool false)], [(.bool false)], [(.bool false)], [(.bool false)], [(.bool false)], [(.bool false)], [(.bool false)], [(.bool false)], [(.bool false)], [(.bool false)], [(.bool false)], [(.bool false)], [(.bool false)], [(.bool false)], [(.bool false)], [(.bool false)], [(.bool false)], [(.bool false)], [(.bool false)], [(.bool false)], [(.bool false)], [(.bool false)], [(.bool false)], [(.bool false)], [(.bool false)], [(.bool false)], [(.bool false)], [(.bool false)], [(.bool false)], [(.bool false)], [(.bool false)], [(.bool false)], [(.bool false)], [(.bool false)], [(.bool false)], [(.bool false)], [(.bool false)], [(.bool false)], [(.bool false)], [(.bool false)], [(.bool false)], [(.bool false)], [(.bool false)], [(.bool false)], [(.bool false)], [(.bool false)], [(.bool false)], [(.bool false)], [(.bool false)], [(.bool false)], [(.bool false)], [(.bool false)], [(.bool false)], [(.bool false)], [(.bool false)], [(.bool false)], [(.bool false)], [(.bool false)], [(.bool false)], [(.bool false)], [(.bool false)], [(.bool false)], [(.bool false)], [(.bool false)], [(.bool false)], [(.bool false)], [(.bool false)], [(.bool false)], [(.bool false)], [(.bool false)], [(.bool false)], [(.bool false)], [(.bool false)], [(.bool false)], [(.bool false)], [(.bool false)], [(.bool false)], [(.bool false)], [(.bool false)], [(.bool false)], [(.bool false)], [(.bool false)], [(.bool false)], [(.bool false)], [(.bool false)], [(.bool false)], [(.bool false)], [(.bool false)], [(.bool false)], [(.bool false)], [(.bool false)], [(.bool false)], [(.bool false)], [(.bool false)], [(.bool false)], [(.bool false)], [(.bool false)], [(.bool false)], [(.bool false)], [(.bool false)], [(.bool false)], [(.bool false)], [(.bool false)], [(.bool false)], [(.bool false)], [(.bool false)], [(.bool false)], [(.bool false)], [(.bool false)], [(.bool false)], [(.bool false)], [(.bool false)], [(.bool false)], [(.bool false)], [(.bool false)], [(.bool false)], [(.bool false)], [(.bool false)], [(.bool false)], [(.bool false)], [(.bool false)], [(.bool false)], [(.bool false)], [(.bool false)], [(.bool false)], [(.bool false)], [(.bool false)], [(.bool false)], [(.bool false)], [(.bool false)], [(.bool false)], [(.bool false)], [(.bool false)], [(.bool false)], [(.bool false)], [(.bool false)], [(.bool false)], [(.bool false)], [(.bool false)], [(.bool false)], [(.bool false)], [(.bool false)], [(.bool false)], [(.bool false)], [(.bool false)], [(.bool false)], [(.bool false)], [(.bool false)], [(.bool false)], [(.bool false)], [(.bool false)], [(.bool false)], [(.bool false)], [(.bool false)]]), none⟩,
  ⟨some (.p2 .d0 .d3), (.mv (.k (.bool false))), none⟩]) (.seq (.seq (.reg [
  ⟨some (.p2 .d0 .d4), (.mv (.k (.i (.ofNat 0)))), none⟩]) (.block 0 (.loop (.seq (.seq (.reg [
  ⟨some (.p2 .d0 .d6), (.mv (.t (.p2 .d0 .d4))), none⟩,
  ⟨some (.p2 .d0 .d7), (.mv (.t (.p2 .d0 .d0))), none⟩,
  ⟨some (.p2 .d0 .d8), (.len 0 (.t (.p2 .d0 .d7))), none⟩,
  ⟨some (.p2 .d0 .d9), (.lss (.t (.p2 .d0 .d6)) (.t (.p2 .d0 .d8))), none⟩]) (.cond (.t (.p2 .d0 .d9)) .skip (.exit 0))) (.seq (.block 1 (.seq (.reg [
  ⟨some (.p2 .d0 .d12), (.mv (.t (.p2 .d0 .d0))), none⟩,
  ⟨some (.p2 .d0 .d13), (.mv (.t (.p2 .d0 .d4))), none⟩,
  ⟨some (.p2 .d0 .d14), (.ixs (.t (.p2 .d0 .d12)) (.t (.p2 .d0 .d13))), none⟩,
  ⟨some (.p2 .d0 .d5), (.mv (.t (.p2 .d0 .d14))), none⟩]) (.seq (.seq (.reg [
  ⟨some (.p2 .d0 .d15), (.mv (.t (.p2 .d0 .d5))), none⟩,
  ⟨some (.p2 .d1 .d0), (.geq (.t (.p2 .d0 .d15)) (.k (.u8 128))), none⟩]) (.cond (.t (.p2 .d1 .d0)) (.seq (.reg [
  ⟨some (.p2 .d1 .d1), (.ldn 256 (.t (.p2 .d0 .d2))), none⟩,
  ⟨none, (.st 256 (.t (.p2 .d0 .d2)) (.t (.p2 .d1 .d1))), none⟩,
  ⟨some (.p2 .d0 .d3), (.mv (.k (.bool false))), none⟩]) .ret) .skip)) (.reg [
  ⟨some (.p2 .d1 .d2), (.mv (.t (.p2 .d0 .d5))), none⟩,
  ⟨some (.p2 .d1 .d3), (.iaArr 1 256 (.t (.p2 .d0 .d2)) (.t (.p2 .d1 .d2))), none⟩,
  ⟨none, (.st 1 (.t (.p2 .d1 .d3)) (.k (.bool true))), none⟩])))) (.reg [
  ⟨some (.p2 .d0 .d10), (.mv (.t (.p2 .d0 .d4))), none⟩,
  ⟨some (.p2 .d0 .d11), (.add (.t (.p2 .d0 .d10)) (.k (.i (.ofNat 1)))), none⟩,
  ⟨some (.p2 .d0 .d4), (.mv (.t (.p2 .d0 .d11))), none⟩])))))) (.seq (.reg [
  ⟨some (.p2 .d1 .d4), (.ldn 256 (.t (.p2 .d0 .d2))), none⟩,
  ⟨none, (.st 256 (.t (.p2 .d0 .d2)) (.t (.p2 .d1 .d4))), none⟩,
  ⟨some (.p2 .d0 .d3), (.mv (.k (.bool true))), none⟩]) .ret))), [.cell 256 true (.p2 .d0 .d2), .tmp (.p2 .d0 .d3)]⟩
def cf134 : CF := ⟨134, true, (.seq (.reg [
  ⟨some (.p2 .d0 .d4), (.mv (.k (.str 0 0))), none⟩]) (.seq (.block 0 (.loop (.seq (.seq (.reg [
  ⟨some (.p2 .d0 .d5), (.mv (.t (.p2 .d0 .d0))), none⟩,
  ⟨some (.p2 .d0 .d6), (.len 0 (.t (.p2 .d0 .d5))), none⟩,
  ⟨some (.p2 .d0 .d7), (.gtr (.t (.p2 .d0 .d6)) (.k (.i (.ofNat 0)))), none⟩]) (.cond (.t (.p2 .d0 .d7)) .skip (.exit 0))) (.block 1 (.seq (.seq (.reg [
  ⟨some (.p2 .d0 .d8), (.mv (.t (.p2 .d0 .d1))), none⟩,
  ⟨some (.p2 .d0 .d9), (.mv (.t (.p2 .d0 .d0))), none⟩,
  ⟨some (.p2 .d0 .d10), (.ixs (.t (.p2 .d0 .d9)) (.k (.i (.ofNat 0)))), none⟩,
  ⟨some (.p2 .d0 .d11), (.call ⟨160, .d0, .d10, .d0⟩ [(.t (.p2 .d0 .d8)), (.t (.p2 .d0 .d10))]), none⟩,
  ⟨some (.p2 .d0 .d12), (.not (.t (.p2 .d0 .d11))), none⟩]) (.cond (.t (.p2 .d0 .d12)) (.exit 0) .skip)) (.reg [
  ⟨some (.p2 .d0 .d13), (.mv (.t (.p2 .d0 .d0))), none⟩,
  ⟨some (.p2 .d0 .d14), (.slStr (.t (.p2 .d0 .d13)) (some (.k (.i (.ofNat 1)))) none), none⟩,
  ⟨some (.p2 .d0 .d0), (.mv (.t (.p2 .d0 .d14))), none⟩])))))) (.seq (.reg [
  ⟨some (.p2 .d0 .d15), (.mv (.t (.p2 .d0 .d0))), none⟩,
  ⟨some (.p2 .d0 .d4), (.mv (.t (.p2 .d0 .d15))), none⟩]) .ret))), [.tmp (.p2 .d0 .d4)]⟩
def cf136 : CF := ⟨136, true, (.seq (.reg [
  ⟨some (.p2 .d0 .d2), (.mv (.k (.i (.ofNat 0)))), none⟩]) (.scope (.seq (.reg [
  ⟨some (.p2 .d0 .d3), (.mv (.k (.i (.ofNat 0)))), none⟩]) (.seq .skip (.seq (.block 0 (.loop (.seq (.seq (.reg [
  ⟨some (.p2 .d0 .d5), (.mv (.t (.p2 .d0 .d3))), none⟩,
  ⟨some (.p2 .d0 .d6), (.mv (.t (.p2 .d0 .d0))), none⟩,
  ⟨some (.p2 .d0 .d7), (.len 0 (.t (.p2 .d0 .d6))), none⟩,
  ⟨some (.p2 .d0 .d8), (.lss (.t (.p2 .d0 .d5)) (.t (.p2 .d0 .d7))), none⟩]) (.cond (.t (.p2 .d0 .d8)) .skip (.exit 0))) (.block 1 (.seq (.seq (.reg [
  ⟨some (.p2 .d0 .d9), (.mv (.t (.p2 .d0 .d0))), none⟩,
  ⟨some (.p2 .d0 .d10), (.mv (.t (.p2 .d0 .d3))), none⟩,
  ⟨some (.p2 .d0 .d11), (.ixs (.t (.p2 .d0 .d9)) (.t (.p2 .d0 .d10))), none⟩,
  ⟨some (.p2 .d0 .d4), (.mv (.t (.p2 .d0 .d11))), none⟩]) (.block 2 (.seq (.reg [
  ⟨some (.p2 .d0 .d13), (.mv (.t (.p2 .d0 .d4))), none⟩,
  ⟨some (.p2 .d0 .d14), (.lss (.t (.p2 .d0 .d13)) (.k (.u8 48))), none⟩,
  ⟨some (.p2 .d0 .d15), (.mv (.t (.p2 .d0 .d14))), none⟩,
  ⟨some (.p2 .d1 .d0), (.mv (.t (.p2 .d0 .d4))), some ((.p2 .d0 .d15), false)⟩,
  ⟨some (.p2 .d1 .d1), (.gtr (.t (.p2 .d1 .d0)) (.k (.u8 57))), some ((.p2 .d0 .d15), false)⟩,
  ⟨some (.p2 .d1 .d2), (.pick (.t (.p2 .d0 .d15)) (.k (.bool true)) (.t (.p2 .d1 .d1))), none⟩,
  ⟨some (.p2 .d0 .d12), (.mv (.t (.p2 .d1 .d2))), none⟩]) (.cond (.t (.p2 .d0 .d12)) (.exit 0) .skip)))) (.reg [
  ⟨some (.p2 .d1 .d3), (.mv (.t (.p2 .d0 .d3))), none⟩,
  ⟨some (.p2 .d1 .d4), (.add (.t (.p2 .d1 .d3)) (.k (.i (.ofNat 1)))), none⟩,
  ⟨some (.p2 .d0 .d3), (.mv (.t (.p2 .d1 .d4))), none⟩])))))) (.seq (.reg [
  ⟨some (.p2 .d1 .d5), (.mv (.t (.p2 .d0 .d3))), none⟩,
  ⟨some (.p2 .d0 .d2), (.mv (.t (.p2 .d1 .d5))), none⟩]) .ret)))))), [.tmp (.p2 .d0 .d2)]⟩
def cf137 : CF := ⟨137, true, (.seq (.reg [
  ⟨some (.p2 .d0 .d6), (.mv (.k (.i (.ofNat 0)))), none⟩,
  ⟨some (.p2 .d0 .d7), (.mv (.k .nili)), none⟩]) (.seq (.seq (.reg [
  ⟨some (.p2 .d0 .d12), (.mv (.t (.p2 .d0 .d0))), none⟩,
  ⟨some (.p2 .d0 .d13), (.eql (.cell .str) (.t (.p2 .d0 .d12)) (.k (.str 0 0))), none⟩]) (.cond (.t (.p2 .d0 .d13)) (.seq (.reg [
  ⟨some (.p2 .d0 .d14), (.mki 213 (.k (.i (.ofNat 2)))), none⟩,
  ⟨some (.p2 .d0 .d6), (.mv (.k (.i (.ofNat 0)))), none⟩,
  ⟨some (.p2 .d0 .d7), (.mv (.t (.p2 .d0 .d14))), none⟩]) .ret) .skip)) (.seq (.reg [
  ⟨some (.p2 .d0 .d8), (.mv (.k (.bool false))), none⟩]) (.seq (.seq (.reg [
  ⟨some (.p2 .d0 .d15), (.mv (.t (.p2 .d0 .d0))), none⟩,
  ⟨some (.p2 .d1 .d0), (.ixs (.t (.p2 .d0 .d15)) (.k (.i (.ofNat 0)))), none⟩]) (.block 0 (.seq (.reg [
  ⟨some (.p2 .d1 .d2), (.eql (.cell (.int .u8)) (.t (.p2 .d1 .d0)) (.k (.u8 43))), none⟩,
  ⟨some (.p2 .d1 .d1), (.mv (.t (.p2 .d1 .d2))), none⟩]) (.cond (.t (.p2 .d1 .d1)) (.reg [
  ⟨some (.p2 .d1 .d3), (.mv (.t (.p2 .d0 .d0))), none⟩,
  ⟨some (.p2 .d1 .d4), (.slStr (.t (.p2 .d1 .d3)) (some (.k (.i (.ofNat 1)))) none), none⟩,
  ⟨some (.p2 .d0 .d0), (.mv (.t (.p2 .d1 .d4))), none⟩]) (.seq (.reg [
  ⟨some (.p2 .d1 .d6), (.eql (.cell (.int .u8)) (.t (.p2 .d1 .d0)) (.k (.u8 45))), none⟩,
  ⟨some (.p2 .d1 .d5), (.mv (.t (.p2 .d1 .d6))), none⟩]) (.cond (.t (.p2 .d1 .d5)) (.seq (.reg [
  ⟨some (.p2 .d1 .d7), (.mv (.t (.p2 .d0 .d0))), none⟩,
  ⟨some (.p2 .d1 .d8), (.slStr (.t (.p2 .d1 .d7)) (some (.k (.i (.ofNat 1)))) none), none⟩,
  ⟨some (.p2 .d0 .d0), (.mv (.t (.p2 .d1 .d8))), none⟩]) (.reg [
  ⟨some (.p2 .d0 .d8), (.mv (.k (.bool true))), none⟩])) .skip)))))) (.seq (.reg [
  ⟨some (.p2 .d0 .d9), (.mv (.k (.int .u64 (.ofNat 0)))), none⟩]) (.seq (.reg [
  ⟨some (.p2 .d1 .d10), (.mv (.t (.p2 .d0 .d0))), none⟩,
  ⟨some (.p2 .d1 .d11), (.mv (.t (.p2 .d0 .d1))), none⟩,
  ⟨some (.p2 .d1 .d12), (.mv (.t (.p2 .d0 .d2))), none⟩,
  ⟨some (.p2 .d1 .d13), (.call ⟨162, .d0, .d10, .d2⟩ [(.t (.p2 .d1 .d10)), (.t (.p2 .d1 .d11)), (.t (.p2 .d1 .d12))]), none⟩,
  ⟨some (.p2 .d1 .d9), (.mv (.t (.p2 .d1 .d13))), none⟩,
  ⟨some (.p2 .d1 .d14), (.ext (.t (.p2 .d1 .d9)) 0), none⟩,
  ⟨some (.p2 .d1 .d15), (.ext (.t (.p2 .d1 .d9)) 1), none⟩,
  ⟨some (.p2 .d0 .d9), (.mv (.t (.p2 .d1 .d14))), none⟩,
  ⟨some (.p2 .d0 .d7), (.mv (.t (.p2 .d1 .d15))), none⟩]) (.seq (.seq (.reg [
  ⟨some (.p2 .d2 .d0), (.mv (.t (.p2 .d0 .d7))), none⟩,
  ⟨some (.p2 .d2 .d1), (.neq .iface (.t (.p2 .d2 .d0)) (.k .nili)), none⟩,
  ⟨some (.p2 .d2 .d2), (.mv (.t (.p2 .d2 .d1))), none⟩,
  ⟨some (.p2 .d2 .d3), (.mv (.t (.p2 .d0 .d7))), some ((.p2 .d2 .d2), true)⟩,
  ⟨some (.p2 .d2 .d4), (.mki 213 (.k (.i (.ofNat 1)))), some ((.p2 .d2 .d2), true)⟩,
  ⟨some (.p2 .d2 .d5), (.bad "neq: type"), some ((.p2 .d2 .d2), true)⟩,
  ⟨some (.p2 .d2 .d6), (.pick (.t (.p2 .d2 .d2)) (.t (.p2 .d2 .d5)) (.k (.bool false))), none⟩]) (.cond (.t (.p2 .d2 .d6)) (.seq (.reg [
  ⟨some (.p2 .d2 .d7), (.mv (.t (.p2 .d0 .d7))), none⟩,
  ⟨some (.p2 .d0 .d6), (.mv (.k (.i (.ofNat 0)))), none⟩,
  ⟨some (.p2 .d0 .d7), (.mv (.t (.p2 .d2 .d7))), none⟩]) .ret) .skip)) (.seq (.seq (.reg [
  ⟨some (.p2 .d2 .d8), (.mv (.t (.p2 .d0 .d2))), none⟩,
  ⟨some (.p2 .d2 .d9), (.eql (.cell (.int .i64)) (.t (.p2 .d2 .d8)) (.k (.i (.ofNat 0)))), none⟩]) (.cond (.t (.p2 .d2 .d9)) (.reg [
  ⟨some (.p2 .d0 .d2), (.mv (.k (.i (.ofNat 64)))), none⟩]) .skip)) (.seq (.reg [
  ⟨some (.p2 .d2 .d10), (.mv (.t (.p2 .d0 .d2))), none⟩,
  ⟨some (.p2 .d2 .d11), (.sub (.t (.p2 .d2 .d10)) (.k (.i (.ofNat 1)))), none⟩,
  ⟨some (.p2 .d2 .d12), (.cint .u64 (.t (.p2 .d2 .d11))), none⟩,
  ⟨some (.p2 .d2 .d13), (.shl (.k (.int .u64 (.ofNat 1))) (.t (.p2 .d2 .d12))), none⟩,
  ⟨some (.p2 .d0 .d10), (.mv (.t (.p2 .d2 .d13))), none⟩]) (.seq (.seq (.reg [
  ⟨some (.p2 .d2 .d14), (.mv (.t (.p2 .d0 .d8))), none⟩,
  ⟨some (.p2 .d2 .d15), (.not (.t (.p2 .d2 .d14))), none⟩,
  ⟨some (.p2 .d3 .d0), (.mv (.t (.p2 .d2 .d15))), none⟩,
  ⟨some (.p2 .d3 .d1), (.mv (.t (.p2 .d0 .d9))), some ((.p2 .d3 .d0), true)⟩,
  ⟨some (.p2 .d3 .d2), (.mv (.t (.p2 .d0 .d10))), some ((.p2 .d3 .d0), true)⟩,
  ⟨some (.p2 .d3 .d3), (.geq (.t (.p2 .d3 .d1)) (.t (.p2 .d3 .d2))), some ((.p2 .d3 .d0), true)⟩,
  ⟨some (.p2 .d3 .d4), (.pick (.t (.p2 .d3 .d0)) (.t (.p2 .d3 .d3)) (.k (.bool false))), none⟩]) (.cond (.t (.p2 .d3 .d4)) (.seq (.reg [
  ⟨some (.p2 .d3 .d5), (.mv (.t (.p2 .d0 .d10))), none⟩,
  ⟨some (.p2 .d3 .d6), (.sub (.t (.p2 .d3 .d5)) (.k (.int .u64 (.ofNat 1)))), none⟩,
  ⟨some (.p2 .d3 .d7), (.cint .i64 (.t (.p2 .d3 .d6))), none⟩,
  ⟨some (.p2 .d3 .d8), (.mki 213 (.k (.i (.ofNat 1)))), none⟩,
  ⟨some (.p2 .d0 .d6), (.mv (.t (.p2 .d3 .d7))), none⟩,
  ⟨some (.p2 .d0 .d7), (.mv (.t (.p2 .d3 .d8))), none⟩]) .ret) .skip)) (.seq (.seq (.reg [
  ⟨some (.p2 .d3 .d9), (.mv (.t (.p2 .d0 .d8))), none⟩,
  ⟨some (.p2 .d3 .d10), (.mv (.t (.p2 .d3 .d9))), none⟩,
  ⟨some (.p2 .d3 .d11), (.mv (.t (.p2 .d0 .d9))), some ((.p2 .d3 .d10), true)⟩,
  ⟨some (.p2 .d3 .d12), (.mv (.t (.p2 .d0 .d10))), some ((.p2 .d3 .d10), true)⟩,
  ⟨some (.p2 .d3 .d13), (.gtr (.t (.p2 .d3 .d11)) (.t (.p2 .d3 .d12))), some ((.p2 .d3 .d10), true)⟩,
  ⟨some (.p2 .d3 .d14), (.pick (.t (.p2 .d3 .d10)) (.t (.p2 .d3 .d13)) (.k (.bool false))), none⟩]) (.cond (.t (.p2 .d3 .d14)) (.seq (.reg [
  ⟨some (.p2 .d3 .d15), (.mv (.t (.p2 .d0 .d10))), none⟩,
  ⟨some (.p2 .d4 .d0), (.cint .i64 (.t (.p2 .d3 .d15))), none⟩,
  ⟨some (.p2 .d4 .d1), (.neg (.t (.p2 .d4 .d0))), none⟩,
  ⟨some (.p2 .d4 .d2), (.mki 213 (.k (.i (.ofNat 1)))), none⟩,
  ⟨some (.p2 .d0 .d6), (.mv (.t (.p2 .d4 .d1))), none⟩,
  ⟨some (.p2 .d0 .d7), (.mv (.t (.p2 .d4 .d2))), none⟩]) .ret) .skip)) (.seq (.reg [
  ⟨some (.p2 .d4 .d3), (.mv (.t (.p2 .d0 .d9))), none⟩,
  ⟨some (.p2 .d4 .d4), (.cint .i64 (.t (.p2 .d4 .d3))), none⟩,
  ⟨some (.p2 .d0 .d11), (.mv (.t (.p2 .d4 .d4))), none⟩]) (.seq (.seq (.reg [
  ⟨some (.p2 .d4 .d5), (.mv (.t (.p2 .d0 .d8))), none⟩]) (.cond (.t (.p2 .d4 .d5)) (.reg [
  ⟨some (.p2 .d4 .d6), (.mv (.t (.p2 .d0 .d11))), none⟩,
  ⟨some (.p2 .d4 .d7), (.neg (.t (.p2 .d4 .d6))), none⟩,
  ⟨some (.p2 .d0 .d11), (.mv (.t (.p2 .d4 .d7))), none⟩]) .skip)) (.seq (.reg [
  ⟨some (.p2 .d4 .d8), (.mv (.t (.p2 .d0 .d11))), none⟩,
  ⟨some (.p2 .d0 .d6), (.mv (.t (.p2 .d4 .d8))), none⟩,
  ⟨some (.p2 .d0 .d7), (.mv (.k .nili)), none⟩]) .ret)))))))))))))), [.tmp (.p2 .d0 .d6), .tmp (.p2 .d0 .d7)]⟩
def cf140 : CF := ⟨140, true, (.seq (.reg [
  ⟨some (.p2 .d0 .d2), (.mv (.t (.p2 .d0 .d0))), none⟩,
  ⟨some (.p2 .d0 .d3), (.nilc (.t (.p2 .d0 .d2))), none⟩,
  ⟨some (.p2 .d0 .d4), (.fa (.t (.p2 .d0 .d3)) 0), none⟩,
  ⟨some (.p2 .d0 .d5), (.ld1 (.t (.p2 .d0 .d4))), none⟩,
  ⟨some (.p2 .d0 .d6), (.eql .ptr (.t (.p2 .d0 .d5)) (.k .nilp)), none⟩]) (.cond (.t (.p2 .d0 .d6)) (.reg [
  ⟨some (.p2 .d0 .d7), (.mv (.t (.p2 .d0 .d0))), none⟩,
  ⟨some (.p2 .d0 .d8), (.mv (.t (.p2 .d0 .d0))), none⟩,
  ⟨some (.p2 .d0 .d9), (.uptr 164 2 (.t (.p2 .d0 .d8))), none⟩,
  ⟨some (.p2 .d0 .d10), (.extc .ident [(.t (.p2 .d0 .d9))]), none⟩,
  ⟨some (.p2 .d0 .d11), (.uptr 164 2 (.t (.p2 .d0 .d10))), none⟩,
  ⟨some (.p2 .d0 .d12), (.nilc (.t (.p2 .d0 .d7))), none⟩,
  ⟨some (.p2 .d0 .d13), (.fa (.t (.p2 .d0 .d12)) 0), none⟩,
  ⟨none, (.st 1 (.t (.p2 .d0 .d13)) (.t (.p2 .d0 .d11))), none⟩]) (.seq (.reg [
  ⟨some (.p2 .d0 .d14), (.mv (.t (.p2 .d0 .d0))), none⟩,
  ⟨some (.p2 .d0 .d15), (.nilc (.t (.p2 .d0 .d14))), none⟩,
  ⟨some (.p2 .d1 .d0), (.fa (.t (.p2 .d0 .d15)) 0), none⟩,
  ⟨some (.p2 .d1 .d1), (.ld1 (.t (.p2 .d1 .d0))), none⟩,
  ⟨some (.p2 .d1 .d2), (.mv (.t (.p2 .d0 .d0))), none⟩,
  ⟨some (.p2 .d1 .d3), (.neq .ptr (.t (.p2 .d1 .d1)) (.t (.p2 .d1 .d2))), none⟩]) (.cond (.t (.p2 .d1 .d3)) (.bad "code") .skip)))), []⟩
def cf143 : CF := ⟨143, true, (.seq (.reg [
  ⟨some (.p2 .d0 .d2), (.alloc 43 [(.i (.ofNat 0)), (.i (.ofNat 0)), (.i (.ofNat 0)), (.i (.ofNat 0)), (.str 0 0), .nils]), none⟩]) (.seq (.reg [
  ⟨some (.p2 .d0 .d8), (.mv (.t (.p2 .d0 .d0))), none⟩,
  ⟨some (.p2 .d0 .d9), (.call ⟨54, .d0, .d3, .d6⟩ [(.t (.p2 .d0 .d8)), (.k (.str 3 7499622))]), none⟩,
  ⟨some (.p2 .d0 .d10), (.fld (.t (.p2 .d0 .d9)) 2 1 false), none⟩,
  ⟨some (.p2 .d0 .d3), (.mv (.t (.p2 .d0 .d10))), none⟩]) (.seq (.reg [
  ⟨some (.p2 .d0 .d4), (.alloc 43 [(.i (.ofNat 0)), (.i (.ofNat 0)), (.i (.ofNat 0)), (.i (.ofNat 0)), (.str 0 0), .nils]), none⟩,
  ⟨some (.p2 .d0 .d5), (.alloc 43 [(.i (.ofNat 0)), (.i (.ofNat 0)), (.i (.ofNat 0)), (.i (.ofNat 0)), (.str 0 0), .nils]), none⟩,
  ⟨some (.p2 .d0 .d6), (.alloc 43 [(.i (.ofNat 0)), (.i (.ofNat 0)), (.i (.ofNat 0)), (.i (.ofNat 0)), (.str 0 0), .nils]), none⟩]) (.seq (.seq (.reg [
  ⟨some (.p2 .d0 .d11), (.mv (.t (.p2 .d0 .d0))), none⟩,
  ⟨some (.p2 .d0 .d12), (.bslice 9 1 1 [(.str 0 0)] [(0, (.k (.str 1 123)))]), none⟩,
  ⟨some (.p2 .d0 .d13), (.call ⟨57, .d0, .d3, .d9⟩ [(.t (.p2 .d0 .d11)), (.t (.p2 .d0 .d12))]), none⟩,
  ⟨some (.p2 .d0 .d14), (.not (.t (.p2 .d0 .d13))), none⟩]) (.cond (.t (.p2 .d0 .d14)) (.reg [
  ⟨some (.p2 .d1 .d0), (.mv (.t (.p2 .d0 .d0))), none⟩,
  ⟨some (.p2 .d1 .d1), (.call ⟨171, .d0, .d10, .d11⟩ [(.t (.p2 .d1 .d0))]), none⟩,
  ⟨some (.p2 .d0 .d15), (.mv (.t (.p2 .d1 .d1))), none⟩,
  ⟨some (.p2 .d1 .d2), (.ext (.t (.p2 .d0 .d15)) 0), none⟩,
  ⟨some (.p2 .d1 .d3), (.ext (.t (.p2 .d0 .d15)) 1), none⟩,
  ⟨some (.p2 .d1 .d4), (.ext (.t (.p2 .d0 .d15)) 2), none⟩,
  ⟨none, (.st 6 (.t (.p2 .d0 .d4)) (.t (.p2 .d1 .d2))), none⟩,
  ⟨none, (.st 6 (.t (.p2 .d0 .d5)) (.t (.p2 .d1 .d3))), none⟩,
  ⟨none, (.st 6 (.t (.p2 .d0 .d6)) (.t (.p2 .d1 .d4))), none⟩]) .skip)) (.seq (.reg [
  ⟨some (.p2 .d1 .d5), (.mv (.t (.p2 .d0 .d0))), none⟩,
  ⟨some (.p2 .d1 .d6), (.call ⟨98, .d0, .d6, .d2⟩ [(.t (.p2 .d1 .d5))]), none⟩,
  ⟨some (.p2 .d0 .d7), (.alloc 43 [(.i (.ofNat 0)), (.i (.ofNat 0)), (.i (.ofNat 0)), (.i (.ofNat 0)), (.str 0 0), .nils]), none⟩,
  ⟨none, (.st 6 (.t (.p2 .d0 .d7)) (.t (.p2 .d1 .d6))), none⟩]) (.seq (.reg [
  ⟨some (.p2 .d1 .d7), (.mv (.t (.p2 .d0 .d0))), none⟩,
  ⟨some (.p2 .d1 .d8), (.mv (.t (.p2 .d0 .d3))), none⟩,
  ⟨some (.p2 .d1 .d9), (.mv (.t (.p2 .d0 .d3))), none⟩,
  ⟨some (.p2 .d1 .d10), (.ldn 6 (.t (.p2 .d0 .d4))), none⟩,
  ⟨some (.p2 .d1 .d11), (.ldn 6 (.t (.p2 .d0 .d5))), none⟩,
  ⟨some (.p2 .d1 .d12), (.ldn 6 (.t (.p2 .d0 .d6))), none⟩,
  ⟨some (.p2 .d1 .d13), (.ldn 6 (.t (.p2 .d0 .d7))), none⟩,
  ⟨some (.p2 .d1 .d14), (.bslice 43 6 4 [(.i (.ofNat 0)), (.i (.ofNat 0)), (.i (.ofNat 0)), (.i (.ofNat 0)), (.str 0 0), .nils] [(0, (.t (.p2 .d1 .d10))), (1, (.t (.p2 .d1 .d11))), (2, (.t (.p2 .d1 .d12))), (3, (.t (.p2 .d1 .d13)))]), none⟩,
  ⟨some (.p2 .d1 .d15), (.call ⟨92, .d0, .d5, .d12⟩ [(.t (.p2 .d1 .d7)), (.k (.i (.ofNat 15))), (.t (.p2 .d1 .d8)), (.t (.p2 .d1 .d9)), (.k (.str 0 0)), (.t (.p2 .d1 .d14))]), none⟩,
  ⟨none, (.st 6 (.t (.p2 .d0 .d2)) (.t (.p2 .d1 .d15))), none⟩]) .ret)))))), [.cell 6 true (.p2 .d0 .d2)]⟩
def cf144 : CF := ⟨144, true, (.seq (.reg [
  ⟨some (.p2 .d0 .d2), (.alloc 43 [(.i (.ofNat 0)), (.i (.ofNat 0)), (.i (.ofNat 0)), (.i (.ofNat 0)), (.str 0 0), .nils]), none⟩]) (.seq (.reg [
  ⟨some (.p2 .d0 .d7), (.mv (.t (.p2 .d0 .d0))), none⟩,
  ⟨some (.p2 .d0 .d8), (.call ⟨54, .d0, .d3, .d6⟩ [(.t (.p2 .d0 .d7)), (.k (.str 3 7496054))]), none⟩,
  ⟨some (.p2 .d0 .d9), (.fld (.t (.p2 .d0 .d8)) 2 1 false), none⟩,
  ⟨some (.p2 .d0 .d3), (.mv (.t (.p2 .d0 .d9))), none⟩]) (.seq (.reg [
  ⟨some (.p2 .d0 .d10), (.mv (.t (.p2 .d0 .d0))), none⟩,
  ⟨some (.p2 .d0 .d11), (.call ⟨55, .d0, .d3, .d7⟩ [(.t (.p2 .d0 .d10)), (.k (.i (.ofNat 1)))]), none⟩,
  ⟨some (.p2 .d0 .d4), (.alloc 80 [(.i (.ofNat 0)), (.str 0 0), (.i (.ofNat 0)), (.i (.ofNat 0))]), none⟩,
  ⟨none, (.st 4 (.t (.p2 .d0 .d4)) (.t (.p2 .d0 .d11))), none⟩]) (.seq (.reg [
  ⟨some (.p2 .d0 .d5), (.alloc 43 [(.i (.ofNat 0)), (.i (.ofNat 0)), (.i (.ofNat 0)), (.i (.ofNat 0)), (.str 0 0), .nils]), none⟩,
  ⟨some (.p2 .d0 .d6), (.alloc 43 [(.i (.ofNat 0)), (.i (.ofNat 0)), (.i (.ofNat 0)), (.i (.ofNat 0)), (.str 0 0), .nils]), none⟩]) (.seq (.seq (.reg [
  ⟨some (.p2 .d0 .d12), (.mv (.t (.p2 .d0 .d0))), none⟩,
  ⟨some (.p2 .d0 .d13), (.bslice 9 1 1 [(.str 0 0)] [(0, (.k (.str 1 61)))]), none⟩,
  ⟨some (.p2 .d0 .d14), (.call ⟨57, .d0, .d3, .d9⟩ [(.t (.p2 .d0 .d12)), (.t (.p2 .d0 .d13))]), none⟩,
  ⟨some (.p2 .d0 .d15), (.not (.t (.p2 .d0 .d14))), none⟩]) (.cond (.t (.p2 .d0 .d15)) (.reg [
  ⟨some (.p2 .d1 .d0), (.mv (.t (.p2 .d0 .d0))), none⟩,
  ⟨some (.p2 .d1 .d1), (.call ⟨97, .d0, .d6, .d1⟩ [(.t (.p2 .d1 .d0))]), none⟩,
  ⟨none, (.st 6 (.t (.p2 .d0 .d5)) (.t (.p2 .d1 .d1))), none⟩]) .skip)) (.seq (.seq (.reg [
  ⟨some (.p2 .d1 .d2), (.mv (.t (.p2 .d0 .d0))), none⟩,
  ⟨some (.p2 .d1 .d3), (.call ⟨146, .d0, .d9, .d2⟩ [(.t (.p2 .d1 .d2)), (.k (.str 1 61))]), none⟩]) (.cond (.t (.p2 .d1 .d3)) (.reg [
  ⟨some (.p2 .d1 .d4), (.mv (.t (.p2 .d0 .d0))), none⟩,
  ⟨some (.p2 .d1 .d5), (.call ⟨147, .d0, .d9, .d3⟩ [(.t (.p2 .d1 .d4)), (.k (.i (.ofNat 0)))]), none⟩,
  ⟨none, (.st 6 (.t (.p2 .d0 .d6)) (.t (.p2 .d1 .d5))), none⟩]) .skip)) (.seq (.reg [
  ⟨some (.p2 .d1 .d6), (.mv (.t (.p2 .d0 .d0))), none⟩,
  ⟨some (.p2 .d1 .d7), (.mv (.t (.p2 .d0 .d3))), none⟩,
  ⟨some (.p2 .d1 .d8), (.fa (.t (.p2 .d0 .d4)) 2), none⟩,
  ⟨some (.p2 .d1 .d9), (.ld1 (.t (.p2 .d1 .d8))), none⟩,
  ⟨some (.p2 .d1 .d10), (.fa (.t (.p2 .d0 .d4)) 1), none⟩,
  ⟨some (.p2 .d1 .d11), (.ld1 (.t (.p2 .d1 .d10))), none⟩,
  ⟨some (.p2 .d1 .d12), (.ldn 6 (.t (.p2 .d0 .d5))), none⟩,
  ⟨some (.p2 .d1 .d13), (.ldn 6 (.t (.p2 .d0 .d6))), none⟩,
  ⟨some (.p2 .d1 .d14), (.bslice 43 6 2 [(.i (.ofNat 0)), (.i (.ofNat 0)), (.i (.ofNat 0)), (.i (.ofNat 0)), (.str 0 0), .nils] [(0, (.t (.p2 .d1 .d12))), (1, (.t (.p2 .d1 .d13)))]), none⟩,
  ⟨some (.p2 .d1 .d15), (.call ⟨92, .d0, .d5, .d12⟩ [(.t (.p2 .d1 .d6)), (.k (.i (.ofNat 11))), (.t (.p2 .d1 .d7)), (.t (.p2 .d1 .d9)), (.t (.p2 .d1 .d11)), (.t (.p2 .d1 .d14))]), none⟩,
  ⟨none, (.st 6 (.t (.p2 .d0 .d2)) (.t (.p2 .d1 .d15))), none⟩]) .ret))))))), [.cell 6 true (.p2 .d0 .d2)]⟩
def cf145 : CF := ⟨145, true, (.seq (.reg [
  ⟨some (.p2 .d0 .d4), (.alloc 43 [(.i (.ofNat 0)), (.i (.ofNat 0)), (.i (.ofNat 0)), (.i (.ofNat 0)), (.str 0 0), .nils]), none⟩]) (.seq (.reg [
  ⟨some (.p2 .d0 .d7), (.mv (.t (.p2 .d0 .d0))), none⟩,
  ⟨some (.p2 .d0 .d8), (.call ⟨89, .d0, .d5, .d9⟩ [(.t (.p2 .d0 .d7))]), none⟩,
  ⟨some (.p2 .d0 .d5), (.alloc 80 [(.i (.ofNat 0)), (.str 0 0), (.i (.ofNat 0)), (.i (.ofNat 0))]), none⟩,
  ⟨none, (.st 4 (.t (.p2 .d0 .d5)) (.t (.p2 .d0 .d8))), none⟩]) (.seq (.seq (.reg [
  ⟨some (.p2 .d0 .d9), (.mv (.t (.p2 .d0 .d0))), none⟩,
  ⟨some (.p2 .d0 .d10), (.call ⟨90, .d0, .d5, .d10⟩ [(.t (.p2 .d0 .d9))]), none⟩,
  ⟨some (.p2 .d0 .d11), (.fld (.t (.p2 .d0 .d10)) 0 1 false), none⟩,
  ⟨some (.p2 .d0 .d12), (.neq (.cell (.int .i64)) (.t (.p2 .d0 .d11)) (.k (.i (.ofNat 1)))), none⟩]) (.cond (.t (.p2 .d0 .d12)) (.seq (.reg [
  ⟨some (.p2 .d0 .d13), (.mv (.t (.p2 .d0 .d0))), none⟩,
  ⟨some (.p2 .d0 .d14), (.mv (.t (.p2 .d0 .d1))), none⟩,
  ⟨some (.p2 .d0 .d15), (.fa (.t (.p2 .d0 .d5)) 2), none⟩,
  ⟨some (.p2 .d1 .d0), (.ld1 (.t (.p2 .d0 .d15))), none⟩,
  ⟨some (.p2 .d1 .d1), (.fa (.t (.p2 .d0 .d5)) 2), none⟩,
  ⟨some (.p2 .d1 .d2), (.ld1 (.t (.p2 .d1 .d1))), none⟩,
  ⟨some (.p2 .d1 .d3), (.call ⟨92, .d0, .d5, .d12⟩ [(.t (.p2 .d0 .d13)), (.t (.p2 .d0 .d14)), (.t (.p2 .d1 .d0)), (.t (.p2 .d1 .d2)), (.k (.str 0 0)), (.k .nils)]), none⟩,
  ⟨none, (.st 6 (.t (.p2 .d0 .d4)) (.t (.p2 .d1 .d3))), none⟩]) .ret) .skip)) (.seq (.reg [
  ⟨some (.p2 .d1 .d4), (.mv (.t (.p2 .d0 .d0))), none⟩,
  ⟨some (.p2 .d1 .d5), (.call ⟨89, .d0, .d5, .d9⟩ [(.t (.p2 .d1 .d4))]), none⟩,
  ⟨some (.p2 .d0 .d6), (.alloc 80 [(.i (.ofNat 0)), (.str 0 0), (.i (.ofNat 0)), (.i (.ofNat 0))]), none⟩,
  ⟨none, (.st 4 (.t (.p2 .d0 .d6)) (.t (.p2 .d1 .d5))), none⟩]) (.seq (.reg [
  ⟨some (.p2 .d1 .d6), (.mv (.t (.p2 .d0 .d0))), none⟩,
  ⟨some (.p2 .d1 .d7), (.mv (.t (.p2 .d0 .d1))), none⟩,
  ⟨some (.p2 .d1 .d8), (.fa (.t (.p2 .d0 .d5)) 2), none⟩,
  ⟨some (.p2 .d1 .d9), (.ld1 (.t (.p2 .d1 .d8))), none⟩,
  ⟨some (.p2 .d1 .d10), (.fa (.t (.p2 .d0 .d6)) 2), none⟩,
  ⟨some (.p2 .d1 .d11), (.ld1 (.t (.p2 .d1 .d10))), none⟩,
  ⟨some (.p2 .d1 .d12), (.fa (.t (.p2 .d0 .d6)) 1), none⟩,
  ⟨some (.p2 .d1 .d13), (.ld1 (.t (.p2 .d1 .d12))), none⟩,
  ⟨some (.p2 .d1 .d14), (.call ⟨92, .d0, .d5, .d12⟩ [(.t (.p2 .d1 .d6)), (.t (.p2 .d1 .d7)), (.t (.p2 .d1 .d9)), (.t (.p2 .d1 .d11)), (.t (.p2 .d1 .d13)), (.k .nils)]), none⟩,
  ⟨none, (.st 6 (.t (.p2 .d0 .d4)) (.t (.p2 .d1 .d14))), none⟩]) .ret))))), [.cell 6 true (.p2 .d0 .d4)]⟩
def cf146 : CF := ⟨146, true, (.seq (.reg [
  ⟨some (.p2 .d0 .d4), (.mv (.k (.bool false))), none⟩]) (.seq (.reg [
  ⟨some (.p2 .d0 .d6), (.mv (.t (.p2 .d0 .d0))), none⟩,
  ⟨some (.p2 .d0 .d7), (.mv (.t (.p2 .d0 .d1))), none⟩,
  ⟨some (.p2 .d0 .d8), (.bslice 9 1 1 [(.str 0 0)] [(0, (.t (.p2 .d0 .d7)))]), none⟩,
  ⟨some (.p2 .d0 .d9), (.call ⟨57, .d0, .d3, .d9⟩ [(.t (.p2 .d0 .d6)), (.t (.p2 .d0 .d8))]), none⟩,
  ⟨some (.p2 .d0 .d5), (.mv (.t (.p2 .d0 .d9))), none⟩]) (.seq (.seq (.reg [
  ⟨some (.p2 .d0 .d10), (.mv (.t (.p2 .d0 .d5))), none⟩]) (.cond (.t (.p2 .d0 .d10)) (.reg [
  ⟨some (.p2 .d0 .d11), (.mv (.t (.p2 .d0 .d0))), none⟩,
  ⟨some (.p2 .d0 .d12), (.call ⟨89, .d0, .d5, .d9⟩ [(.t (.p2 .d0 .d11))]), none⟩]) .skip)) (.seq (.reg [
  ⟨some (.p2 .d0 .d13), (.mv (.t (.p2 .d0 .d5))), none⟩,
  ⟨some (.p2 .d0 .d4), (.mv (.t (.p2 .d0 .d13))), none⟩]) .ret)))), [.tmp (.p2 .d0 .d4)]⟩
def cf147 : CF := ⟨147, true, (.seq (.reg [
  ⟨some (.p2 .d0 .d4), (.alloc 43 [(.i (.ofNat 0)), (.i (.ofNat 0)), (.i (.ofNat 0)), (.i (.ofNat 0)), (.str 0 0), .nils]), none⟩]) (.seq (.reg [
  ⟨some (.p2 .d0 .d8), (.mv (.t (.p2 .d0 .d0))), none⟩,
  ⟨some (.p2 .d0 .d9), (.call ⟨172, .d0, .d10, .d12⟩ [(.t (.p2 .d0 .d8))]), none⟩,
  ⟨some (.p2 .d0 .d5), (.alloc 43 [(.i (.ofNat 0)), (.i (.ofNat 0)), (.i (.ofNat 0)), (.i (.ofNat 0)), (.str 0 0), .nils]), none⟩,
  ⟨none, (.st 6 (.t (.p2 .d0 .d5)) (.t (.p2 .d0 .d9))), none⟩]) (.seq (.block 0 (.loop (.seq (.seq (.reg [
  ⟨some (.p2 .d0 .d10), (.mv (.t (.p2 .d0 .d0))), none⟩,
  ⟨some (.p2 .d0 .d11), (.call ⟨90, .d0, .d5, .d10⟩ [(.t (.p2 .d0 .d10))]), none⟩,
  ⟨some (.p2 .d0 .d12), (.call ⟨173, .d0, .d10, .d13⟩ [(.t (.p2 .d0 .d11))]), none⟩,
  ⟨some (.p2 .d0 .d13), (.mv (.t (.p2 .d0 .d1))), none⟩,
  ⟨some (.p2 .d0 .d14), (.gtr (.t (.p2 .d0 .d12)) (.t (.p2 .d0 .d13))), none⟩]) (.cond (.t (.p2 .d0 .d14)) .skip (.exit 0))) (.block 1 (.seq (.reg [
  ⟨some (.p2 .d0 .d15), (.mv (.t (.p2 .d0 .d0))), none⟩,
  ⟨some (.p2 .d1 .d0), (.call ⟨89, .d0, .d5, .d9⟩ [(.t (.p2 .d0 .d15))]), none⟩,
  ⟨some (.p2 .d0 .d6), (.alloc 80 [(.i (.ofNat 0)), (.str 0 0), (.i (.ofNat 0)), (.i (.ofNat 0))]), none⟩,
  ⟨none, (.st 4 (.t (.p2 .d0 .d6)) (.t (.p2 .d1 .d0))), none⟩]) (.seq (.reg [
  ⟨some (.p2 .d1 .d1), (.mv (.t (.p2 .d0 .d0))), none⟩,
  ⟨some (.p2 .d1 .d2), (.ldn 4 (.t (.p2 .d0 .d6))), none⟩,
  ⟨some (.p2 .d1 .d3), (.call ⟨173, .d0, .d10, .d13⟩ [(.t (.p2 .d1 .d2))]), none⟩,
  ⟨some (.p2 .d1 .d4), (.call ⟨147, .d0, .d9, .d3⟩ [(.t (.p2 .d1 .d1)), (.t (.p2 .d1 .d3))]), none⟩,
  ⟨some (.p2 .d0 .d7), (.alloc 43 [(.i (.ofNat 0)), (.i (.ofNat 0)), (.i (.ofNat 0)), (.i (.ofNat 0)), (.str 0 0), .nils]), none⟩,
  ⟨none, (.st 6 (.t (.p2 .d0 .d7)) (.t (.p2 .d1 .d4))), none⟩]) (.reg [
  ⟨some (.p2 .d1 .d5), (.mv (.t (.p2 .d0 .d0))), none⟩,
  ⟨some (.p2 .d1 .d6), (.fa (.t (.p2 .d0 .d5)) 1), none⟩,
  ⟨some (.p2 .d1 .d7), (.ld1 (.t (.p2 .d1 .d6))), none⟩,
  ⟨some (.p2 .d1 .d8), (.fa (.t (.p2 .d0 .d6)) 2), none⟩,
  ⟨some (.p2 .d1 .d9), (.ld1 (.t (.p2 .d1 .d8))), none⟩,
  ⟨some (.p2 .d1 .d10), (.fa (.t (.p2 .d0 .d6)) 1), none⟩,
  ⟨some (.p2 .d1 .d11), (.ld1 (.t (.p2 .d1 .d10))), none⟩,
  ⟨some (.p2 .d1 .d12), (.ldn 6 (.t (.p2 .d0 .d5))), none⟩,
  ⟨some (.p2 .d1 .d13), (.ldn 6 (.t (.p2 .d0 .d7))), none⟩,
  ⟨some (.p2 .d1 .d14), (.bslice 43 6 2 [(.i (.ofNat 0)), (.i (.ofNat 0)), (.i (.ofNat 0)), (.i (.ofNat 0)), (.str 0 0), .nils] [(0, (.t (.p2 .d1 .d12))), (1, (.t (.p2 .d1 .d13)))]), none⟩,
  ⟨some (.p2 .d1 .d15), (.call ⟨92, .d0, .d5, .d12⟩ [(.t (.p2 .d1 .d5)), (.k (.i (.ofNat 31))), (.t (.p2 .d1 .d7)), (.t (.p2 .d1 .d9)), (.t (.p2 .d1 .d11)), (.t (.p2 .d1 .d14))]), none⟩,
  ⟨none, (.st 6 (.t (.p2 .d0 .d5)) (.t (.p2 .d1 .d15))), none⟩]))))))) (.seq (.reg [
  ⟨some (.p2 .d2 .d0), (.ldn 6 (.t (.p2 .d0 .d5))), none⟩,
  ⟨none, (.st 6 (.t (.p2 .d0 .d4)) (.t (.p2 .d2 .d0))), none⟩]) .ret)))), [.cell 6 true (.p2 .d0 .d4)]⟩
def cf148 : CF := ⟨148, true, (.seq (.reg [
  ⟨some (.p2 .d0 .d2), (.alloc 43 [(.i (.ofNat 0)), (.i (.ofNat 0)), (.i (.ofNat 0)), (.i (.ofNat 0)), (.str 0 0), .nils]), none⟩]) (.seq (.reg [
  ⟨some (.p2 .d0 .d8), (.mv (.t (.p2 .d0 .d0))), none⟩,
  ⟨some (.p2 .d0 .d9), (.call ⟨174, .d0, .d10, .d14⟩ [(.t (.p2 .d0 .d8))]), none⟩,
  ⟨some (.p2 .d0 .d3), (.alloc 43 [(.i (.ofNat 0)), (.i (.ofNat 0)), (.i (.ofNat 0)), (.i (.ofNat 0)), (.str 0 0), .nils]), none⟩,
  ⟨none, (.st 6 (.t (.p2 .d0 .d3)) (.t (.p2 .d0 .d9))), none⟩]) (.block 0 (.loop (.block 1 (.block 2 (.seq (.reg [
  ⟨some (.p2 .d0 .d12), (.mv (.t (.p2 .d0 .d0))), none⟩,
  ⟨some (.p2 .d0 .d13), (.bslice 9 1 1 [(.str 0 0)] [(0, (.k (.str 1 46)))]), none⟩,
  ⟨some (.p2 .d0 .d14), (.call ⟨57, .d0, .d3, .d9⟩ [(.t (.p2 .d0 .d12)), (.t (.p2 .d0 .d13))]), none⟩,
  ⟨some (.p2 .d0 .d11), (.mv (.t (.p2 .d0 .d14))), none⟩]) (.cond (.t (.p2 .d0 .d11)) (.seq (.reg [
  ⟨some (.p2 .d0 .d15), (.mv (.t (.p2 .d0 .d0))), none⟩,
  ⟨some (.p2 .d1 .d0), (.call ⟨89, .d0, .d5, .d9⟩ [(.t (.p2 .d0 .d15))]), none⟩]) (.seq (.reg [
  ⟨some (.p2 .d1 .d1), (.mv (.t (.p2 .d0 .d0))), none⟩,
  ⟨some (.p2 .d1 .d2), (.call ⟨55, .d0, .d3, .d7⟩ [(.t (.p2 .d1 .d1)), (.k (.i (.ofNat 1)))]), none⟩,
  ⟨some (.p2 .d0 .d4), (.alloc 80 [(.i (.ofNat 0)), (.str 0 0), (.i (.ofNat 0)), (.i (.ofNat 0))]), none⟩,
  ⟨none, (.st 4 (.t (.p2 .d0 .d4)) (.t (.p2 .d1 .d2))), none⟩]) (.seq (.reg [
  ⟨some (.p2 .d0 .d5), (.mv (.k (.i (.ofNat 26)))), none⟩]) (.seq (.seq (.reg [
  ⟨some (.p2 .d1 .d3), (.fa (.t (.p2 .d0 .d3)) 0), none⟩,
  ⟨some (.p2 .d1 .d4), (.ld1 (.t (.p2 .d1 .d3))), none⟩,
  ⟨some (.p2 .d1 .d5), (.eql (.cell (.int .i64)) (.t (.p2 .d1 .d4)) (.k (.i (.ofNat 25)))), none⟩,
  ⟨some (.p2 .d1 .d6), (.mv (.t (.p2 .d1 .d5))), none⟩,
  ⟨some (.p2 .d1 .d7), (.mv (.t (.p2 .d0 .d0))), some ((.p2 .d1 .d6), true)⟩,
  ⟨some (.p2 .d1 .d8), (.nilc (.t (.p2 .d1 .d7))), some ((.p2 .d1 .d6), true)⟩,
  ⟨some (.p2 .d1 .d9), (.fa (.t (.p2 .d1 .d8)) 3), some ((.p2 .d1 .d6), true)⟩,
  ⟨some (.p2 .d1 .d10), (.ld1 (.t (.p2 .d1 .d9))), some ((.p2 .d1 .d6), true)⟩,
  ⟨some (.p2 .d1 .d11), (.not (.t (.p2 .d1 .d10))), some ((.p2 .d1 .d6), true)⟩,
  ⟨some (.p2 .d1 .d12), (.pick (.t (.p2 .d1 .d6)) (.t (.p2 .d1 .d11)) (.k (.bool false))), none⟩,
  ⟨some (.p2 .d1 .d13), (.mv (.t (.p2 .d1 .d12))), none⟩,
  ⟨some (.p2 .d1 .d14), (.mv (.t (.p2 .d0 .d0))), some ((.p2 .d1 .d13), true)⟩,
  ⟨some (.p2 .d1 .d15), (.bslice 9 1 1 [(.str 0 0)] [(0, (.k (.str 1 123)))]), some ((.p2 .d1 .d13), true)⟩,
  ⟨some (.p2 .d2 .d0), (.call ⟨57, .d0, .d3, .d9⟩ [(.t (.p2 .d1 .d14)), (.t (.p2 .d1 .d15))]), some ((.p2 .d1 .d13), true)⟩,
  ⟨some (.p2 .d2 .d1), (.pick (.t (.p2 .d1 .d13)) (.t (.p2 .d2 .d0)) (.k (.bool false))), none⟩]) (.cond (.t (.p2 .d2 .d1)) (.reg [
  ⟨some (.p2 .d0 .d5), (.mv (.k (.i (.ofNat 9)))), none⟩]) .skip)) (.seq (.reg [
  ⟨some (.p2 .d2 .d2), (.mv (.t (.p2 .d0 .d0))), none⟩,
  ⟨some (.p2 .d2 .d3), (.mv (.t (.p2 .d0 .d5))), none⟩,
  ⟨some (.p2 .d2 .d4), (.fa (.t (.p2 .d0 .d3)) 1), none⟩,
  ⟨some (.p2 .d2 .d5), (.ld1 (.t (.p2 .d2 .d4))), none⟩,
  ⟨some (.p2 .d2 .d6), (.fa (.t (.p2 .d0 .d4)) 2), none⟩,
  ⟨some (.p2 .d2 .d7), (.ld1 (.t (.p2 .d2 .d6))), none⟩,
  ⟨some (.p2 .d2 .d8), (.fa (.t (.p2 .d0 .d4)) 1), none⟩,
  ⟨some (.p2 .d2 .d9), (.ld1 (.t (.p2 .d2 .d8))), none⟩,
  ⟨some (.p2 .d2 .d10), (.ldn 6 (.t (.p2 .d0 .d3))), none⟩,
  ⟨some (.p2 .d2 .d11), (.bslice 43 6 1 [(.i (.ofNat 0)), (.i (.ofNat 0)), (.i (.ofNat 0)), (.i (.ofNat 0)), (.str 0 0), .nils] [(0, (.t (.p2 .d2 .d10)))]), none⟩,
  ⟨some (.p2 .d2 .d12), (.call ⟨92, .d0, .d5, .d12⟩ [(.t (.p2 .d2 .d2)), (.t (.p2 .d2 .d3)), (.t (.p2 .d2 .d5)), (.t (.p2 .d2 .d7)), (.t (.p2 .d2 .d9)), (.t (.p2 .d2 .d11))]), none⟩,
  ⟨none, (.st 6 (.t (.p2 .d0 .d3)) (.t (.p2 .d2 .d12))), none⟩]) (.seq (.reg [
  ⟨some (.p2 .d2 .d13), (.mv (.t (.p2 .d0 .d5))), none⟩,
  ⟨some (.p2 .d2 .d14), (.eql (.cell (.int .i64)) (.t (.p2 .d2 .d13)) (.k (.i (.ofNat 9)))), none⟩]) (.cond (.t (.p2 .d2 .d14)) (.reg [
  ⟨some (.p2 .d2 .d15), (.mv (.t (.p2 .d0 .d0))), none⟩,
  ⟨some (.p2 .d3 .d0), (.ldn 6 (.t (.p2 .d0 .d3))), none⟩,
  ⟨some (.p2 .d3 .d1), (.call ⟨175, .d0, .d10, .d15⟩ [(.t (.p2 .d2 .d15)), (.t (.p2 .d3 .d0))]), none⟩,
  ⟨none, (.st 6 (.t (.p2 .d0 .d3)) (.t (.p2 .d3 .d1))), none⟩]) .skip))))))) (.seq (.reg [
  ⟨some (.p2 .d3 .d3), (.mv (.t (.p2 .d0 .d0))), none⟩,
  ⟨some (.p2 .d3 .d4), (.bslice 9 1 1 [(.str 0 0)] [(0, (.k (.str 1 40)))]), none⟩,
  ⟨some (.p2 .d3 .d5), (.call ⟨57, .d0, .d3, .d9⟩ [(.t (.p2 .d3 .d3)), (.t (.p2 .d3 .d4))]), none⟩,
  ⟨some (.p2 .d3 .d6), (.mv (.t (.p2 .d3 .d5))), none⟩,
  ⟨some (.p2 .d3 .d7), (.fa (.t (.p2 .d0 .d3)) 0), some ((.p2 .d3 .d6), true)⟩,
  ⟨some (.p2 .d3 .d8), (.ld1 (.t (.p2 .d3 .d7))), some ((.p2 .d3 .d6), true)⟩,
  ⟨some (.p2 .d3 .d9), (.eql (.cell (.int .i64)) (.t (.p2 .d3 .d8)) (.k (.i (.ofNat 25)))), some ((.p2 .d3 .d6), true)⟩,
  ⟨some (.p2 .d3 .d10), (.mv (.t (.p2 .d3 .d9))), some ((.p2 .d3 .d6), true)⟩,
  ⟨some (.p2 .d3 .d11), (.fa (.t (.p2 .d0 .d3)) 0), some ((.p2 .d3 .d10), false)⟩,
  ⟨some (.p2 .d3 .d12), (.ld1 (.t (.p2 .d3 .d11))), some ((.p2 .d3 .d10), false)⟩,
  ⟨some (.p2 .d3 .d13), (.eql (.cell (.int .i64)) (.t (.p2 .d3 .d12)) (.k (.i (.ofNat 26)))), some ((.p2 .d3 .d10), false)⟩,
  ⟨some (.p2 .d3 .d14), (.pick (.t (.p2 .d3 .d10)) (.k (.bool true)) (.t (.p2 .d3 .d13))), some ((.p2 .d3 .d6), true)⟩,
  ⟨some (.p2 .d3 .d15), (.pick (.t (.p2 .d3 .d6)) (.t (.p2 .d3 .d14)) (.k (.bool false))), none⟩,
  ⟨some (.p2 .d3 .d2), (.mv (.t (.p2 .d3 .d15))), none⟩]) (.cond (.t (.p2 .d3 .d2)) (.seq (.reg [
  ⟨some (.p2 .d4 .d0), (.mv (.t (.p2 .d0 .d0))), none⟩,
  ⟨some (.p2 .d4 .d1), (.call ⟨90, .d0, .d5, .d10⟩ [(.t (.p2 .d4 .d0))]), none⟩,
  ⟨some (.p2 .d4 .d2), (.fld (.t (.p2 .d4 .d1)) 2 1 false), none⟩,
  ⟨some (.p2 .d0 .d6), (.mv (.t (.p2 .d4 .d2))), none⟩]) (.seq (.reg [
  ⟨some (.p2 .d4 .d3), (.mv (.t (.p2 .d0 .d0))), none⟩,
  ⟨some (.p2 .d4 .d4), (.call ⟨176, .d0, .d11, .d0⟩ [(.t (.p2 .d4 .d3))]), none⟩,
  ⟨some (.p2 .d0 .d7), (.mv (.t (.p2 .d4 .d4))), none⟩]) (.dreg [
  ⟨0, ⟨some (.p2 .d4 .d5), (.mv (.t (.p2 .d0 .d0))), none⟩, .pur, 0⟩,
  ⟨1, ⟨some (.p2 .d4 .d6), (.fa (.t (.p2 .d0 .d3)) 1), none⟩, .pur, 0⟩,
  ⟨2, ⟨some (.p2 .d4 .d7), (.ld1 (.t (.p2 .d4 .d6))), none⟩, .rd, 2⟩,
  ⟨3, ⟨some (.p2 .d4 .d8), (.mv (.t (.p2 .d0 .d6))), none⟩, .pur, 0⟩,
  ⟨4, ⟨some (.p2 .d4 .d9), (.ldn 6 (.t (.p2 .d0 .d3))), none⟩, .rd, 0⟩,
  ⟨6, ⟨some (.p2 .d4 .d11), (.mv (.t (.p2 .d0 .d7))), none⟩, .pur, 0⟩,
  ⟨5, ⟨some (.p2 .d4 .d10), (.bslice 43 6 1 [(.i (.ofNat 0)), (.i (.ofNat 0)), (.i (.ofNat 0)), (.i (.ofNat 0)), (.str 0 0), .nils] [(0, (.t (.p2 .d4 .d9)))]), none⟩, .ev, 0⟩,
  ⟨7, ⟨some (.p2 .d4 .d12), (.append 43 6 72 (.t (.p2 .d4 .d10)) (.t (.p2 .d4 .d11))), none⟩, .ev, 1⟩,
  ⟨8, ⟨some (.p2 .d4 .d13), (.call ⟨92, .d0, .d5, .d12⟩ [(.t (.p2 .d4 .d5)), (.k (.i (.ofNat 27))), (.t (.p2 .d4 .d7)), (.t (.p2 .d4 .d8)), (.k (.str 0 0)), (.t (.p2 .d4 .d12))]), none⟩, .ev, 2⟩,
  ⟨9, ⟨none, (.st 6 (.t (.p2 .d0 .d3)) (.t (.p2 .d4 .d13))), none⟩, .ev, 3⟩]))) (.seq (.reg [
  ⟨some (.p2 .d0 .d10), (.ldn 6 (.t (.p2 .d0 .d3))), none⟩,
  ⟨none, (.st 6 (.t (.p2 .d0 .d2)) (.t (.p2 .d0 .d10))), none⟩]) .ret))))))))))), [.cell 6 true (.p2 .d0 .d2)]⟩
def cf149 : CF := ⟨149, true, (.seq (.reg [
  ⟨some (.p2 .d0 .d4), (.box 43 6 (.t (.p2 .d0 .d1))), none⟩,
  ⟨some (.p2 .d0 .d6), (.alloc 43 [(.i (.ofNat 0)), (.i (.ofNat 0)), (.i (.ofNat 0)), (.i (.ofNat 0)), (.str 0 0), .nils]), none⟩]) (.seq (.reg [
  ⟨some (.p2 .d0 .d10), (.mv (.t (.p2 .d0 .d0))), none⟩,
  ⟨some (.p2 .d0 .d11), (.call ⟨90, .d0, .d5, .d10⟩ [(.t (.p2 .d0 .d10))]), none⟩,
  ⟨some (.p2 .d0 .d7), (.alloc 80 [(.i (.ofNat 0)), (.str 0 0), (.i (.ofNat 0)), (.i (.ofNat 0))]), none⟩,
  ⟨none, (.st 4 (.t (.p2 .d0 .d7)) (.t (.p2 .d0 .d11))), none⟩]) (.seq (.block 0 (.seq (.reg [
  ⟨some (.p2 .d0 .d13), (.mv (.t (.p2 .d0 .d2))), none⟩,
  ⟨some (.p2 .d0 .d14), (.mv (.t (.p2 .d0 .d13))), none⟩,
  ⟨some (.p2 .d0 .d15), (.fa (.t (.p2 .d0 .d4)) 0), some ((.p2 .d0 .d14), true)⟩,
  ⟨some (.p2 .d1 .d0), (.ld1 (.t (.p2 .d0 .d15))), some ((.p2 .d0 .d14), true)⟩,
  ⟨some (.p2 .d1 .d1), (.eql (.cell (.int .i64)) (.t (.p2 .d1 .d0)) (.k (.i (.ofNat 25)))), some ((.p2 .d0 .d14), true)⟩,
  ⟨some (.p2 .d1 .d2), (.pick (.t (.p2 .d0 .d14)) (.t (.p2 .d1 .d1)) (.k (.bool false))), none⟩,
  ⟨some (.p2 .d1 .d3), (.mv (.t (.p2 .d1 .d2))), none⟩,
  ⟨some (.p2 .d1 .d4), (.mv (.t (.p2 .d0 .d0))), some ((.p2 .d1 .d3), true)⟩,
  ⟨some (.p2 .d1 .d5), (.call ⟨146, .d0, .d9, .d2⟩ [(.t (.p2 .d1 .d4)), (.k (.str 2 15674))]), some ((.p2 .d1 .d3), true)⟩,
  ⟨some (.p2 .d1 .d6), (.pick (.t (.p2 .d1 .d3)) (.t (.p2 .d1 .d5)) (.k (.bool false))), none⟩,
  ⟨some (.p2 .d0 .d12), (.mv (.t (.p2 .d1 .d6))), none⟩]) (.cond (.t (.p2 .d0 .d12)) (.seq (.reg [
  ⟨some (.p2 .d1 .d7), (.mv (.t (.p2 .d0 .d0))), none⟩,
  ⟨some (.p2 .d1 .d8), (.call ⟨147, .d0, .d9, .d3⟩ [(.t (.p2 .d1 .d7)), (.k (.i (.ofNat 0)))]), none⟩,
  ⟨some (.p2 .d0 .d8), (.alloc 43 [(.i (.ofNat 0)), (.i (.ofNat 0)), (.i (.ofNat 0)), (.i (.ofNat 0)), (.str 0 0), .nils]), none⟩,
  ⟨none, (.st 6 (.t (.p2 .d0 .d8)) (.t (.p2 .d1 .d8))), none⟩]) (.seq (.reg [
  ⟨some (.p2 .d1 .d9), (.mv (.t (.p2 .d0 .d0))), none⟩,
  ⟨some (.p2 .d1 .d10), (.fa (.t (.p2 .d0 .d4)) 1), none⟩,
  ⟨some (.p2 .d1 .d11), (.ld1 (.t (.p2 .d1 .d10))), none⟩,
  ⟨some (.p2 .d1 .d12), (.fa (.t (.p2 .d0 .d4)) 1), none⟩,
  ⟨some (.p2 .d1 .d13), (.ld1 (.t (.p2 .d1 .d12))), none⟩,
  ⟨some (.p2 .d1 .d14), (.fa (.t (.p2 .d0 .d4)) 4), none⟩,
  ⟨some (.p2 .d1 .d15), (.ld1 (.t (.p2 .d1 .d14))), none⟩,
  ⟨some (.p2 .d2 .d0), (.ldn 6 (.t (.p2 .d0 .d8))), none⟩,
  ⟨some (.p2 .d2 .d1), (.bslice 43 6 1 [(.i (.ofNat 0)), (.i (.ofNat 0)), (.i (.ofNat 0)), (.i (.ofNat 0)), (.str 0 0), .nils] [(0, (.t (.p2 .d2 .d0)))]), none⟩,
  ⟨some (.p2 .d2 .d2), (.call ⟨92, .d0, .d5, .d12⟩ [(.t (.p2 .d1 .d9)), (.k (.i (.ofNat 12))), (.t (.p2 .d1 .d11)), (.t (.p2 .d1 .d13)), (.t (.p2 .d1 .d15)), (.t (.p2 .d2 .d1))]), none⟩,
  ⟨none, (.st 6 (.t (.p2 .d0 .d6)) (.t (.p2 .d2 .d2))), none⟩]) .ret)) (.seq (.reg [
  ⟨some (.p2 .d2 .d4), (.ldn 6 (.t (.p2 .d0 .d4))), none⟩,
  ⟨some (.p2 .d2 .d5), (.call ⟨177, .d0, .d11, .d1⟩ [(.t (.p2 .d2 .d4))]), none⟩,
  ⟨some (.p2 .d2 .d6), (.mv (.t (.p2 .d2 .d5))), none⟩,
  ⟨some (.p2 .d2 .d7), (.mv (.t (.p2 .d0 .d0))), some ((.p2 .d2 .d6), true)⟩,
  ⟨some (.p2 .d2 .d8), (.call ⟨146, .d0, .d9, .d2⟩ [(.t (.p2 .d2 .d7)), (.k (.str 1 61))]), some ((.p2 .d2 .d6), true)⟩,
  ⟨some (.p2 .d2 .d9), (.pick (.t (.p2 .d2 .d6)) (.t (.p2 .d2 .d8)) (.k (.bool false))), none⟩,
  ⟨some (.p2 .d2 .d3), (.mv (.t (.p2 .d2 .d9))), none⟩]) (.cond (.t (.p2 .d2 .d3)) (.seq (.reg [
  ⟨some (.p2 .d2 .d10), (.mv (.t (.p2 .d0 .d0))), none⟩,
  ⟨some (.p2 .d2 .d11), (.call ⟨147, .d0, .d9, .d3⟩ [(.t (.p2 .d2 .d10)), (.k (.i (.ofNat 0)))]), none⟩,
  ⟨some (.p2 .d0 .d9), (.alloc 43 [(.i (.ofNat 0)), (.i (.ofNat 0)), (.i (.ofNat 0)), (.i (.ofNat 0)), (.str 0 0), .nils]), none⟩,
  ⟨none, (.st 6 (.t (.p2 .d0 .d9)) (.t (.p2 .d2 .d11))), none⟩]) (.seq (.reg [
  ⟨some (.p2 .d2 .d12), (.mv (.t (.p2 .d0 .d0))), none⟩,
  ⟨some (.p2 .d2 .d13), (.fa (.t (.p2 .d0 .d4)) 1), none⟩,
  ⟨some (.p2 .d2 .d14), (.ld1 (.t (.p2 .d2 .d13))), none⟩,
  ⟨some (.p2 .d2 .d15), (.fa (.t (.p2 .d0 .d7)) 2), none⟩,
  ⟨some (.p2 .d3 .d0), (.ld1 (.t (.p2 .d2 .d15))), none⟩,
  ⟨some (.p2 .d3 .d1), (.ldn 6 (.t (.p2 .d0 .d4))), none⟩,
  ⟨some (.p2 .d3 .d2), (.ldn 6 (.t (.p2 .d0 .d9))), none⟩,
  ⟨some (.p2 .d3 .d3), (.bslice 43 6 2 [(.i (.ofNat 0)), (.i (.ofNat 0)), (.i (.ofNat 0)), (.i (.ofNat 0)), (.str 0 0), .nils] [(0, (.t (.p2 .d3 .d1))), (1, (.t (.p2 .d3 .d2)))]), none⟩,
  ⟨some (.p2 .d3 .d4), (.call ⟨92, .d0, .d5, .d12⟩ [(.t (.p2 .d2 .d12)), (.k (.i (.ofNat 13))), (.t (.p2 .d2 .d14)), (.t (.p2 .d3 .d0)), (.k (.str 0 0)), (.t (.p2 .d3 .d3))]), none⟩,
  ⟨none, (.st 6 (.t (.p2 .d0 .d6)) (.t (.p2 .d3 .d4))), none⟩]) .ret)) (.seq (.reg [
  ⟨some (.p2 .d3 .d6), (.ldn 6 (.t (.p2 .d0 .d4))), none⟩,
  ⟨some (.p2 .d3 .d7), (.call ⟨178, .d0, .d11, .d2⟩ [(.t (.p2 .d3 .d6))]), none⟩,
  ⟨some (.p2 .d3 .d8), (.not (.t (.p2 .d3 .d7))), none⟩,
  ⟨some (.p2 .d3 .d5), (.mv (.t (.p2 .d3 .d8))), none⟩]) (.cond (.t (.p2 .d3 .d5)) (.reg [
  ⟨some (.p2 .d3 .d9), (.mv (.t (.p2 .d0 .d0))), none⟩,
  ⟨some (.p2 .d3 .d10), (.call ⟨88, .d0, .d5, .d8⟩ [(.t (.p2 .d3 .d9)), (.k (.i (.ofNat 4)))]), none⟩]) .skip))))))) (.seq (.reg [
  ⟨some (.p2 .d3 .d11), (.mv (.t (.p2 .d0 .d0))), none⟩,
  ⟨some (.p2 .d3 .d12), (.fa (.t (.p2 .d0 .d4)) 1), none⟩,
  ⟨some (.p2 .d3 .d13), (.ld1 (.t (.p2 .d3 .d12))), none⟩,
  ⟨some (.p2 .d3 .d14), (.fa (.t (.p2 .d0 .d4)) 1), none⟩,
  ⟨some (.p2 .d3 .d15), (.ld1 (.t (.p2 .d3 .d14))), none⟩,
  ⟨some (.p2 .d4 .d0), (.ldn 6 (.t (.p2 .d0 .d4))), none⟩,
  ⟨some (.p2 .d4 .d1), (.bslice 43 6 1 [(.i (.ofNat 0)), (.i (.ofNat 0)), (.i (.ofNat 0)), (.i (.ofNat 0)), (.str 0 0), .nils] [(0, (.t (.p2 .d4 .d0)))]), none⟩,
  ⟨some (.p2 .d4 .d2), (.call ⟨92, .d0, .d5, .d12⟩ [(.t (.p2 .d3 .d11)), (.k (.i (.ofNat 20))), (.t (.p2 .d3 .d13)), (.t (.p2 .d3 .d15)), (.k (.str 0 0)), (.t (.p2 .d4 .d1))]), none⟩,
  ⟨none, (.st 6 (.t (.p2 .d0 .d6)) (.t (.p2 .d4 .d2))), none⟩]) .ret)))), [.cell 6 true (.p2 .d0 .d6)]⟩
def cf150 : CF := ⟨150, true, (.seq (.reg [
  ⟨some (.p2 .d0 .d10), (.mv (.t (.p2 .d0 .d1))), none⟩,
  ⟨some (.p2 .d0 .d11), (.add (.t (.p2 .d0 .d10)) (.k (.i (.ofNat 1)))), none⟩,
  ⟨some (.p2 .d0 .d8), (.mv (.t (.p2 .d0 .d11))), none⟩]) (.block 0 (.loop (.seq (.seq (.reg [
  ⟨some (.p2 .d0 .d12), (.mv (.t (.p2 .d0 .d8))), none⟩,
  ⟨some (.p2 .d0 .d13), (.mv (.t (.p2 .d0 .d2))), none⟩,
  ⟨some (.p2 .d0 .d14), (.lss (.t (.p2 .d0 .d12)) (.t (.p2 .d0 .d13))), none⟩]) (.cond (.t (.p2 .d0 .d14)) .skip (.exit 0))) (.seq (.block 1 (.seq (.reg [
  ⟨some (.p2 .d1 .d1), (.mv (.t (.p2 .d0 .d8))), none⟩,
  ⟨some (.p2 .d0 .d9), (.mv (.t (.p2 .d1 .d1))), none⟩]) (.block 2 (.loop (.seq (.seq (.dreg [
  ⟨0, ⟨some (.p2 .d1 .d2), (.mv (.t (.p2 .d0 .d9))), none⟩, .pur, 0⟩,
  ⟨1, ⟨some (.p2 .d1 .d3), (.mv (.t (.p2 .d0 .d1))), none⟩, .pur, 0⟩,
  ⟨2, ⟨some (.p2 .d1 .d4), (.gtr (.t (.p2 .d1 .d2)) (.t (.p2 .d1 .d3))), none⟩, .pur, 0⟩,
  ⟨3, ⟨some (.p2 .d1 .d5), (.mv (.t (.p2 .d1 .d4))), none⟩, .pur, 0⟩,
  ⟨4, ⟨some (.p2 .d1 .d6), (.mv (.t (.p2 .d0 .d3))), some ((.p2 .d1 .d5), true)⟩, .pur, 0⟩,
  ⟨5, ⟨some (.p2 .d1 .d7), (.mv (.t (.p2 .d0 .d0))), some ((.p2 .d1 .d5), true)⟩, .pur, 0⟩,
  ⟨6, ⟨some (.p2 .d1 .d8), (.mv (.t (.p2 .d0 .d9))), some ((.p2 .d1 .d5), true)⟩, .pur, 0⟩,
  ⟨7, ⟨some (.p2 .d1 .d9), (.ia 5 (.t (.p2 .d1 .d7)) (.t (.p2 .d1 .d8))), some ((.p2 .d1 .d5), true)⟩, .pur, 0⟩,
  ⟨8, ⟨some (.p2 .d1 .d10), (.ldn 5 (.t (.p2 .d1 .d9))), some ((.p2 .d1 .d5), true)⟩, .rd, 0⟩,
  ⟨9, ⟨some (.p2 .d1 .d11), (.mv (.t (.p2 .d0 .d0))), some ((.p2 .d1 .d5), true)⟩, .pur, 0⟩,
  ⟨10, ⟨some (.p2 .d1 .d12), (.mv (.t (.p2 .d0 .d9))), some ((.p2 .d1 .d5), true)⟩, .pur, 0⟩,
  ⟨11, ⟨some (.p2 .d1 .d13), (.sub (.t (.p2 .d1 .d12)) (.k (.i (.ofNat 1)))), some ((.p2 .d1 .d5), true)⟩, .pur, 0⟩,
  ⟨12, ⟨some (.p2 .d1 .d14), (.ia 5 (.t (.p2 .d1 .d11)) (.t (.p2 .d1 .d13))), some ((.p2 .d1 .d5), true)⟩, .pur, 0⟩,
  ⟨13, ⟨some (.p2 .d1 .d15), (.ldn 5 (.t (.p2 .d1 .d14))), some ((.p2 .d1 .d5), true)⟩, .rd, 0⟩,
  ⟨14, ⟨some (.p2 .d2 .d0), (.callv (.t (.p2 .d1 .d6)) [(.t (.p2 .d1 .d10)), (.t (.p2 .d1 .d15))]), some ((.p2 .d1 .d5), true)⟩, .ev, 0⟩,
  ⟨15, ⟨some (.p2 .d2 .d1), (.lss (.t (.p2 .d2 .d0)) (.k (.i (.ofNat 0)))), some ((.p2 .d1 .d5), true)⟩, .pur, 0⟩,
  ⟨16, ⟨some (.p2 .d2 .d2), (.pick (.t (.p2 .d1 .d5)) (.t (.p2 .d2 .d1)) (.k (.bool false))), none⟩, .pur, 0⟩]) (.cond (.t (.p2 .d2 .d2)) .skip (.exit 2))) (.seq (.block 3 (.dreg [
  ⟨0, ⟨some (.p2 .d2 .d5), (.mv (.t (.p2 .d0 .d0))), none⟩, .pur, 0⟩,
  ⟨1, ⟨some (.p2 .d2 .d6), (.mv (.t (.p2 .d0 .d9))), none⟩, .pur, 0⟩,
  ⟨2, ⟨some (.p2 .d2 .d7), (.mv (.t (.p2 .d0 .d0))), none⟩, .pur, 0⟩,
  ⟨3, ⟨some (.p2 .d2 .d8), (.mv (.t (.p2 .d0 .d9))), none⟩, .pur, 0⟩,
  ⟨4, ⟨some (.p2 .d2 .d9), (.sub (.t (.p2 .d2 .d8)) (.k (.i (.ofNat 1)))), none⟩, .pur, 0⟩,
  ⟨5, ⟨some (.p2 .d2 .d10), (.mv (.t (.p2 .d0 .d0))), none⟩, .pur, 0⟩,
  ⟨6, ⟨some (.p2 .d2 .d11), (.mv (.t (.p2 .d0 .d9))), none⟩, .pur, 0⟩,
  ⟨7, ⟨some (.p2 .d2 .d12), (.sub (.t (.p2 .d2 .d11)) (.k (.i (.ofNat 1)))), none⟩, .pur, 0⟩,
  ⟨8, ⟨some (.p2 .d2 .d13), (.ia 5 (.t (.p2 .d2 .d10)) (.t (.p2 .d2 .d12))), none⟩, .pur, 0⟩,
  ⟨9, ⟨some (.p2 .d2 .d14), (.ldn 5 (.t (.p2 .d2 .d13))), none⟩, .rd, 0⟩,
  ⟨10, ⟨some (.p2 .d2 .d15), (.mv (.t (.p2 .d0 .d0))), none⟩, .pur, 0⟩,
  ⟨11, ⟨some (.p2 .d3 .d0), (.mv (.t (.p2 .d0 .d9))), none⟩, .pur, 0⟩,
  ⟨12, ⟨some (.p2 .d3 .d1), (.ia 5 (.t (.p2 .d2 .d15)) (.t (.p2 .d3 .d0))), none⟩, .pur, 0⟩,
  ⟨13, ⟨some (.p2 .d3 .d2), (.ldn 5 (.t (.p2 .d3 .d1))), none⟩, .rd, 0⟩,
  ⟨14, ⟨some (.p2 .d3 .d3), (.ia 5 (.t (.p2 .d2 .d5)) (.t (.p2 .d2 .d6))), none⟩, .pur, 0⟩,
  ⟨15, ⟨none, (.st 5 (.t (.p2 .d3 .d3)) (.t (.p2 .d2 .d14))), none⟩, .ev, 0⟩,
  ⟨16, ⟨some (.p2 .d3 .d4), (.ia 5 (.t (.p2 .d2 .d7)) (.t (.p2 .d2 .d9))), none⟩, .pur, 0⟩,
  ⟨17, ⟨none, (.st 5 (.t (.p2 .d3 .d4)) (.t (.p2 .d3 .d2))), none⟩, .ev, 1⟩])) (.reg [
  ⟨some (.p2 .d2 .d3), (.mv (.t (.p2 .d0 .d9))), none⟩,
  ⟨some (.p2 .d2 .d4), (.sub (.t (.p2 .d2 .d3)) (.k (.i (.ofNat 1)))), none⟩,
  ⟨some (.p2 .d0 .d9), (.mv (.t (.p2 .d2 .d4))), none⟩]))))))) (.reg [
  ⟨some (.p2 .d0 .d15), (.mv (.t (.p2 .d0 .d8))), none⟩,
  ⟨some (.p2 .d1 .d0), (.add (.t (.p2 .d0 .d15)) (.k (.i (.ofNat 1)))), none⟩,
  ⟨some (.p2 .d0 .d8), (.mv (.t (.p2 .d1 .d0))), none⟩])))))), []⟩
def cf159 : CF := ⟨159, true, (.seq (.reg [
  ⟨some (.p2 .d0 .d2), (.mv (.k (.i (.ofNat 0)))), none⟩]) (.seq (.seq (.reg [
  ⟨some (.p2 .d0 .d3), (.mv (.t (.p2 .d0 .d0))), none⟩,
  ⟨some (.p2 .d0 .d4), (.geq (.t (.p2 .d0 .d3)) (.k (.int .u64 (.ofNat 4294967296)))), none⟩]) (.cond (.t (.p2 .d0 .d4)) (.seq (.reg [
  ⟨some (.p2 .d0 .d5), (.mv (.t (.p2 .d0 .d0))), none⟩,
  ⟨some (.p2 .d0 .d6), (.shr (.t (.p2 .d0 .d5)) (.k (.int .u64 (.ofNat 32)))), none⟩,
  ⟨some (.p2 .d0 .d0), (.mv (.t (.p2 .d0 .d6))), none⟩]) (.reg [
  ⟨some (.p2 .d0 .d2), (.mv (.k (.i (.ofNat 32)))), none⟩])) .skip)) (.seq (.seq (.reg [
  ⟨some (.p2 .d0 .d7), (.mv (.t (.p2 .d0 .d0))), none⟩,
  ⟨some (.p2 .d0 .d8), (.geq (.t (.p2 .d0 .d7)) (.k (.int .u64 (.ofNat 65536)))), none⟩]) (.cond (.t (.p2 .d0 .d8)) (.seq (.reg [
  ⟨some (.p2 .d0 .d9), (.mv (.t (.p2 .d0 .d0))), none⟩,
  ⟨some (.p2 .d0 .d10), (.shr (.t (.p2 .d0 .d9)) (.k (.int .u64 (.ofNat 16)))), none⟩,
  ⟨some (.p2 .d0 .d0), (.mv (.t (.p2 .d0 .d10))), none⟩]) (.reg [
  ⟨some (.p2 .d0 .d11), (.mv (.t (.p2 .d0 .d2))), none⟩,
  ⟨some (.p2 .d0 .d12), (.add (.t (.p2 .d0 .d11)) (.k (.i (.ofNat 16)))), none⟩,
  ⟨some (.p2 .d0 .d2), (.mv (.t (.p2 .d0 .d12))), none⟩])) .skip)) (.seq (.seq (.reg [
  ⟨some (.p2 .d0 .d13), (.mv (.t (.p2 .d0 .d0))), none⟩,
  ⟨some (.p2 .d0 .d14), (.geq (.t (.p2 .d0 .d13)) (.k (.int .u64 (.ofNat 256)))), none⟩]) (.cond (.t (.p2 .d0 .d14)) (.seq (.reg [
  ⟨some (.p2 .d0 .d15), (.mv (.t (.p2 .d0 .d0))), none⟩,
  ⟨some (.p2 .d1 .d0), (.shr (.t (.p2 .d0 .d15)) (.k (.int .u64 (.ofNat 8)))), none⟩,
  ⟨some (.p2 .d0 .d0), (.mv (.t (.p2 .d1 .d0))), none⟩]) (.reg [
  ⟨some (.p2 .d1 .d1), (.mv (.t (.p2 .d0 .d2))), none⟩,
  ⟨some (.p2 .d1 .d2), (.add (.t (.p2 .d1 .d1)) (.k (.i (.ofNat 8)))), none⟩,
  ⟨some (.p2 .d0 .d2), (.mv (.t (.p2 .d1 .d2))), none⟩])) .skip)) (.seq (.reg [
  ⟨some (.p2 .d1 .d3), (.mv (.t (.p2 .d0 .d2))), none⟩,
  ⟨some (.p2 .d1 .d4), (.mv (.t (.p2 .d0 .d0))), none⟩,
  ⟨some (.p2 .d1 .d5), (.cint .u8 (.t (.p2 .d1 .d4))), none⟩,
  ⟨some (.p2 .d1 .d6), (.ixs (.k (.str 256 1013866857139168856493015739252390649739422828853819106890363778118420553376247557433637691341895324351018602695588957474325319502760499485336098898398377509666851054660423406800006203933793007272033180812049178612605246075062580585469430410618860250057463399279570354286669047577758927328864388992123306212451509403152394148136105363817402562688186708175358218852349079190158732807302672745370040257219644697201681238697346923541678507645485296520536209706771857694240900605172937619415410180424934769249448772944216470541052485265558808433676546390051204254346932932316488017972311616136051587427851453983453479168)) (.t (.p2 .d1 .d5))), none⟩,
  ⟨some (.p2 .d1 .d7), (.cint .i64 (.t (.p2 .d1 .d6))), none⟩,
  ⟨some (.p2 .d1 .d8), (.add (.t (.p2 .d1 .d3)) (.t (.p2 .d1 .d7))), none⟩,
  ⟨some (.p2 .d0 .d2), (.mv (.t (.p2 .d1 .d8))), none⟩]) .ret))))), [.tmp (.p2 .d0 .d2)]⟩
def cf160 : CF := ⟨160, true, (.seq (.reg [
  ⟨some (.p2 .d0 .d4), (.mv (.k (.bool false))), none⟩]) (.seq (.reg [
  ⟨some (.p2 .d0 .d5), (.mv (.t (.p2 .d0 .d0))), none⟩,
  ⟨some (.p2 .d0 .d6), (.mv (.t (.p2 .d0 .d1))), none⟩,
  ⟨some (.p2 .d0 .d7), (.nilc (.t (.p2 .d0 .d5))), none⟩,
  ⟨some (.p2 .d0 .d8), (.iaArr 1 256 (.t (.p2 .d0 .d7)) (.t (.p2 .d0 .d6))), none⟩,
  ⟨some (.p2 .d0 .d9), (.ld1 (.t (.p2 .d0 .d8))), none⟩,
  ⟨some (.p2 .d0 .d4), (.mv (.t (.p2 .d0 .d9))), none⟩]) .ret)), [.tmp (.p2 .d0 .d4)]⟩
def cf162 : CF := ⟨162, true, (.seq (.reg [
  ⟨some (.p2 .d0 .d6), (.mv (.k (.int .u64 (.ofNat 0)))), none⟩,
  ⟨some (.p2 .d0 .d7), (.mv (.k .nili)), none⟩]) (.seq (.seq (.reg [
  ⟨some (.p2 .d1 .d2), (.mv (.t (.p2 .d0 .d0))), none⟩,
  ⟨some (.p2 .d1 .d3), (.eql (.cell .str) (.t (.p2 .d1 .d2)) (.k (.str 0 0))), none⟩]) (.cond (.t (.p2 .d1 .d3)) (.seq (.reg [
  ⟨some (.p2 .d1 .d4), (.mki 213 (.k (.i (.ofNat 2)))), none⟩,
  ⟨some (.p2 .d0 .d6), (.mv (.k (.int .u64 (.ofNat 0)))), none⟩,
  ⟨some (.p2 .d0 .d7), (.mv (.t (.p2 .d1 .d4))), none⟩]) .ret) .skip)) (.seq (.reg [
  ⟨some (.p2 .d1 .d5), (.mv (.t (.p2 .d0 .d1))), none⟩,
  ⟨some (.p2 .d1 .d6), (.eql (.cell (.int .i64)) (.t (.p2 .d1 .d5)) (.k (.i (.ofNat 0)))), none⟩,
  ⟨some (.p2 .d0 .d8), (.mv (.t (.p2 .d1 .d6))), none⟩]) (.seq (.reg [
  ⟨some (.p2 .d1 .d7), (.mv (.t (.p2 .d0 .d0))), none⟩,
  ⟨some (.p2 .d0 .d9), (.mv (.t (.p2 .d1 .d7))), none⟩]) (.seq (.block 0 (.seq (.reg [
  ⟨some (.p2 .d1 .d10), (.mv (.t (.p2 .d0 .d1))), none⟩,
  ⟨some (.p2 .d1 .d11), (.leq (.k (.i (.ofNat 2))) (.t (.p2 .d1 .d10))), none⟩,
  ⟨some (.p2 .d1 .d12), (.mv (.t (.p2 .d1 .d11))), none⟩,
  ⟨some (.p2 .d1 .d13), (.mv (.t (.p2 .d0 .d1))), some ((.p2 .d1 .d12), true)⟩,
  ⟨some (.p2 .d1 .d14), (.leq (.t (.p2 .d1 .d13)) (.k (.i (.ofNat 36)))), some ((.p2 .d1 .d12), true)⟩,
  ⟨some (.p2 .d1 .d15), (.pick (.t (.p2 .d1 .d12)) (.t (.p2 .d1 .d14)) (.k (.bool false))), none⟩,
  ⟨some (.p2 .d1 .d9), (.mv (.t (.p2 .d1 .d15))), none⟩]) (.cond (.t (.p2 .d1 .d9)) .skip (.seq (.reg [
  ⟨some (.p2 .d2 .d1), (.mv (.t (.p2 .d0 .d1))), none⟩,
  ⟨some (.p2 .d2 .d2), (.eql (.cell (.int .i64)) (.t (.p2 .d2 .d1)) (.k (.i (.ofNat 0)))), none⟩,
  ⟨some (.p2 .d2 .d0), (.mv (.t (.p2 .d2 .d2))), none⟩]) (.cond (.t (.p2 .d2 .d0)) (.seq (.reg [
  ⟨some (.p2 .d0 .d1), (.mv (.k (.i (.ofNat 10)))), none⟩]) (.seq (.reg [
  ⟨some (.p2 .d2 .d3), (.mv (.t (.p2 .d0 .d0))), none⟩,
  ⟨some (.p2 .d2 .d4), (.ixs (.t (.p2 .d2 .d3)) (.k (.i (.ofNat 0)))), none⟩,
  ⟨some (.p2 .d2 .d5), (.eql (.cell (.int .u8)) (.t (.p2 .d2 .d4)) (.k (.u8 48))), none⟩]) (.cond (.t (.p2 .d2 .d5)) (.block 1 (.seq (.reg [
  ⟨some (.p2 .d2 .d9), (.mv (.t (.p2 .d0 .d0))), none⟩,
  ⟨some (.p2 .d2 .d10), (.len 0 (.t (.p2 .d2 .d9))), none⟩,
  ⟨some (.p2 .d2 .d11), (.geq (.t (.p2 .d2 .d10)) (.k (.i (.ofNat 3)))), none⟩,
  ⟨some (.p2 .d2 .d12), (.mv (.t (.p2 .d2 .d11))), none⟩,
  ⟨some (.p2 .d2 .d13), (.mv (.t (.p2 .d0 .d0))), some ((.p2 .d2 .d12), true)⟩,
  ⟨some (.p2 .d2 .d14), (.ixs (.t (.p2 .d2 .d13)) (.k (.i (.ofNat 1)))), some ((.p2 .d2 .d12), true)⟩,
  ⟨some (.p2 .d2 .d15), (.call ⟨185, .d0, .d11, .d9⟩ [(.t (.p2 .d2 .d14))]), some ((.p2 .d2 .d12), true)⟩,
  ⟨some (.p2 .d3 .d0), (.eql (.cell (.int .u8)) (.t (.p2 .d2 .d15)) (.k (.u8 98))), some ((.p2 .d2 .d12), true)⟩,
  ⟨some (.p2 .d3 .d1), (.pick (.t (.p2 .d2 .d12)) (.t (.p2 .d3 .d0)) (.k (.bool false))), none⟩,
  ⟨some (.p2 .d2 .d8), (.mv (.t (.p2 .d3 .d1))), none⟩]) (.cond (.t (.p2 .d2 .d8)) (.seq (.reg [
  ⟨some (.p2 .d0 .d1), (.mv (.k (.i (.ofNat 2)))), none⟩]) (.reg [
  ⟨some (.p2 .d3 .d2), (.mv (.t (.p2 .d0 .d0))), none⟩,
  ⟨some (.p2 .d3 .d3), (.slStr (.t (.p2 .d3 .d2)) (some (.k (.i (.ofNat 2)))) none), none⟩,
  ⟨some (.p2 .d0 .d0), (.mv (.t (.p2 .d3 .d3))), none⟩])) (.seq (.reg [
  ⟨some (.p2 .d3 .d5), (.mv (.t (.p2 .d0 .d0))), none⟩,
  ⟨some (.p2 .d3 .d6), (.len 0 (.t (.p2 .d3 .d5))), none⟩,
  ⟨some (.p2 .d3 .d7), (.geq (.t (.p2 .d3 .d6)) (.k (.i (.ofNat 3)))), none⟩,
  ⟨some (.p2 .d3 .d8), (.mv (.t (.p2 .d3 .d7))), none⟩,
  ⟨some (.p2 .d3 .d9), (.mv (.t (.p2 .d0 .d0))), some ((.p2 .d3 .d8), true)⟩,
  ⟨some (.p2 .d3 .d10), (.ixs (.t (.p2 .d3 .d9)) (.k (.i (.ofNat 1)))), some ((.p2 .d3 .d8), true)⟩,
  ⟨some (.p2 .d3 .d11), (.call ⟨185, .d0, .d11, .d9⟩ [(.t (.p2 .d3 .d10))]), some ((.p2 .d3 .d8), true)⟩,
  ⟨some (.p2 .d3 .d12), (.eql (.cell (.int .u8)) (.t (.p2 .d3 .d11)) (.k (.u8 111))), some ((.p2 .d3 .d8), true)⟩,
  ⟨some (.p2 .d3 .d13), (.pick (.t (.p2 .d3 .d8)) (.t (.p2 .d3 .d12)) (.k (.bool false))), none⟩,
  ⟨some (.p2 .d3 .d4), (.mv (.t (.p2 .d3 .d13))), none⟩]) (.cond (.t (.p2 .d3 .d4)) (.seq (.reg [
  ⟨some (.p2 .d0 .d1), (.mv (.k (.i (.ofNat 8)))), none⟩]) (.reg [
  ⟨some (.p2 .d3 .d14), (.mv (.t (.p2 .d0 .d0))), none⟩,
  ⟨some (.p2 .d3 .d15), (.slStr (.t (.p2 .d3 .d14)) (some (.k (.i (.ofNat 2)))) none), none⟩,
  ⟨some (.p2 .d0 .d0), (.mv (.t (.p2 .d3 .d15))), none⟩])) (.seq (.reg [
  ⟨some (.p2 .d4 .d1), (.mv (.t (.p2 .d0 .d0))), none⟩,
  ⟨some (.p2 .d4 .d2), (.len 0 (.t (.p2 .d4 .d1))), none⟩,
  ⟨some (.p2 .d4 .d3), (.geq (.t (.p2 .d4 .d2)) (.k (.i (.ofNat 3)))), none⟩,
  ⟨some (.p2 .d4 .d4), (.mv (.t (.p2 .d4 .d3))), none⟩,
  ⟨some (.p2 .d4 .d5), (.mv (.t (.p2 .d0 .d0))), some ((.p2 .d4 .d4), true)⟩,
  ⟨some (.p2 .d4 .d6), (.ixs (.t (.p2 .d4 .d5)) (.k (.i (.ofNat 1)))), some ((.p2 .d4 .d4), true)⟩,
  ⟨some (.p2 .d4 .d7), (.call ⟨185, .d0, .d11, .d9⟩ [(.t (.p2 .d4 .d6))]), some ((.p2 .d4 .d4), true)⟩,
  ⟨some (.p2 .d4 .d8), (.eql (.cell (.int .u8)) (.t (.p2 .d4 .d7)) (.k (.u8 120))), some ((.p2 .d4 .d4), true)⟩,
  ⟨some (.p2 .d4 .d9), (.pick (.t (.p2 .d4 .d4)) (.t (.p2 .d4 .d8)) (.k (.bool false))), none⟩,
  ⟨some (.p2 .d4 .d0), (.mv (.t (.p2 .d4 .d9))), none⟩]) (.cond (.t (.p2 .d4 .d0)) (.seq (.reg [
  ⟨some (.p2 .d0 .d1), (.mv (.k (.i (.ofNat 16)))), none⟩]) (.reg [
  ⟨some (.p2 .d4 .d10), (.mv (.t (.p2 .d0 .d0))), none⟩,
  ⟨some (.p2 .d4 .d11), (.slStr (.t (.p2 .d4 .d10)) (some (.k (.i (.ofNat 2)))) none), none⟩,
  ⟨some (.p2 .d0 .d0), (.mv (.t (.p2 .d4 .d11))), none⟩])) (.seq (.reg [
  ⟨some (.p2 .d0 .d1), (.mv (.k (.i (.ofNat 8)))), none⟩]) (.reg [
  ⟨some (.p2 .d2 .d6), (.mv (.t (.p2 .d0 .d0))), none⟩,
  ⟨some (.p2 .d2 .d7), (.slStr (.t (.p2 .d2 .d6)) (some (.k (.i (.ofNat 1)))) none), none⟩,
  ⟨some (.p2 .d0 .d0), (.mv (.t (.p2 .d2 .d7))), none⟩]))))))))) .skip))) (.seq (.reg [
  ⟨some (.p2 .d1 .d8), (.mki 213 (.k (.i (.ofNat 3)))), none⟩,
  ⟨some (.p2 .d0 .d6), (.mv (.k (.int .u64 (.ofNat 0)))), none⟩,
  ⟨some (.p2 .d0 .d7), (.mv (.t (.p2 .d1 .d8))), none⟩]) .ret)))))) (.seq (.seq (.reg [
  ⟨some (.p2 .d4 .d12), (.mv (.t (.p2 .d0 .d2))), none⟩,
  ⟨some (.p2 .d4 .d13), (.eql (.cell (.int .i64)) (.t (.p2 .d4 .d12)) (.k (.i (.ofNat 0)))), none⟩]) (.cond (.t (.p2 .d4 .d13)) (.reg [
  ⟨some (.p2 .d0 .d2), (.mv (.k (.i (.ofNat 64)))), none⟩]) (.seq (.reg [
  ⟨some (.p2 .d4 .d14), (.mv (.t (.p2 .d0 .d2))), none⟩,
  ⟨some (.p2 .d4 .d15), (.lss (.t (.p2 .d4 .d14)) (.k (.i (.ofNat 0)))), none⟩,
  ⟨some (.p2 .d5 .d0), (.mv (.t (.p2 .d4 .d15))), none⟩,
  ⟨some (.p2 .d5 .d1), (.mv (.t (.p2 .d0 .d2))), some ((.p2 .d5 .d0), false)⟩,
  ⟨some (.p2 .d5 .d2), (.gtr (.t (.p2 .d5 .d1)) (.k (.i (.ofNat 64)))), some ((.p2 .d5 .d0), false)⟩,
  ⟨some (.p2 .d5 .d3), (.pick (.t (.p2 .d5 .d0)) (.k (.bool true)) (.t (.p2 .d5 .d2))), none⟩]) (.cond (.t (.p2 .d5 .d3)) (.seq (.reg [
  ⟨some (.p2 .d5 .d4), (.mki 213 (.k (.i (.ofNat 4)))), none⟩,
  ⟨some (.p2 .d0 .d6), (.mv (.k (.int .u64 (.ofNat 0)))), none⟩,
  ⟨some (.p2 .d0 .d7), (.mv (.t (.p2 .d5 .d4))), none⟩]) .ret) .skip)))) (.seq (.reg [
  ⟨some (.p2 .d0 .d10), (.mv (.k (.int .u64 (.ofNat 0)))), none⟩]) (.seq (.seq (.reg [
  ⟨some (.p2 .d5 .d5), (.mv (.t (.p2 .d0 .d1))), none⟩]) (.block 2 (.seq (.reg [
  ⟨some (.p2 .d5 .d11), (.eql (.cell (.int .i64)) (.t (.p2 .d5 .d5)) (.k (.i (.ofNat 10)))), none⟩,
  ⟨some (.p2 .d5 .d10), (.mv (.t (.p2 .d5 .d11))), none⟩]) (.cond (.t (.p2 .d5 .d10)) (.reg [
  ⟨some (.p2 .d0 .d10), (.mv (.k (.int .u64 (.ofNat 1844674407370955162)))), none⟩]) (.seq (.reg [
  ⟨some (.p2 .d5 .d13), (.eql (.cell (.int .i64)) (.t (.p2 .d5 .d5)) (.k (.i (.ofNat 16)))), none⟩,
  ⟨some (.p2 .d5 .d12), (.mv (.t (.p2 .d5 .d13))), none⟩]) (.cond (.t (.p2 .d5 .d12)) (.reg [
  ⟨some (.p2 .d0 .d10), (.mv (.k (.int .u64 (.ofNat 1152921504606846976)))), none⟩]) (.reg [
  ⟨some (.p2 .d5 .d6), (.mv (.t (.p2 .d0 .d1))), none⟩,
  ⟨some (.p2 .d5 .d7), (.cint .u64 (.t (.p2 .d5 .d6))), none⟩,
  ⟨some (.p2 .d5 .d8), (.quo (.k (.int .u64 (.ofNat 18446744073709551615))) (.t (.p2 .d5 .d7))), none⟩,
  ⟨some (.p2 .d5 .d9), (.add (.t (.p2 .d5 .d8)) (.k (.int .u64 (.ofNat 1)))), none⟩,
  ⟨some (.p2 .d0 .d10), (.mv (.t (.p2 .d5 .d9))), none⟩]))))))) (.seq (.reg [
  ⟨some (.p2 .d5 .d14), (.mv (.t (.p2 .d0 .d2))), none⟩,
  ⟨some (.p2 .d5 .d15), (.cint .u64 (.t (.p2 .d5 .d14))), none⟩,
  ⟨some (.p2 .d6 .d0), (.shl (.k (.int .u64 (.ofNat 1))) (.t (.p2 .d5 .d15))), none⟩,
  ⟨some (.p2 .d6 .d1), (.sub (.t (.p2 .d6 .d0)) (.k (.int .u64 (.ofNat 1)))), none⟩,
  ⟨some (.p2 .d0 .d11), (.mv (.t (.p2 .d6 .d1))), none⟩]) (.seq (.reg [
  ⟨some (.p2 .d0 .d12), (.mv (.k (.bool false))), none⟩]) (.seq (.reg [
  ⟨some (.p2 .d0 .d13), (.mv (.k (.int .u64 (.ofNat 0)))), none⟩]) (.seq (.seq (.reg [
  ⟨some (.p2 .d6 .d2), (.mv (.t (.p2 .d0 .d0))), none⟩,
  ⟨some (.p2 .d6 .d3), (.s2b 5 (.t (.p2 .d6 .d2))), none⟩,
  ⟨some (.p2 .d6 .d4), (.len 1 (.t (.p2 .d6 .d3))), none⟩,
  ⟨some (.p2 .d6 .d5), (.mv (.k (.i (.ofNat 0)))), none⟩]) (.block 3 (.loop (.seq (.reg [
  ⟨some (.p2 .d6 .d6), (.lss (.t (.p2 .d6 .d5)) (.t (.p2 .d6 .d4))), none⟩]) (.seq (.cond (.t (.p2 .d6 .d6)) .skip (.exit 3)) (.seq (.block 4 (.seq (.reg [
  ⟨some (.p2 .d6 .d7), (.ia 1 (.t (.p2 .d6 .d3)) (.t (.p2 .d6 .d5))), none⟩,
  ⟨some (.p2 .d6 .d8), (.ld1 (.t (.p2 .d6 .d7))), none⟩,
  ⟨some (.p2 .d0 .d15), (.mv (.t (.p2 .d6 .d8))), none⟩]) (.seq (.reg [
  ⟨some (.p2 .d1 .d0), (.mv (.k (.u8 0))), none⟩]) (.seq (.block 5 (.seq (.reg [
  ⟨some (.p2 .d6 .d11), (.mv (.t (.p2 .d0 .d15))), none⟩,
  ⟨some (.p2 .d6 .d12), (.eql (.cell (.int .u8)) (.t (.p2 .d6 .d11)) (.k (.u8 95))), none⟩,
  ⟨some (.p2 .d6 .d13), (.mv (.t (.p2 .d6 .d12))), none⟩,
  ⟨some (.p2 .d6 .d14), (.mv (.t (.p2 .d0 .d8))), some ((.p2 .d6 .d13), true)⟩,
  ⟨some (.p2 .d6 .d15), (.pick (.t (.p2 .d6 .d13)) (.t (.p2 .d6 .d14)) (.k (.bool false))), none⟩,
  ⟨some (.p2 .d6 .d10), (.mv (.t (.p2 .d6 .d15))), none⟩]) (.cond (.t (.p2 .d6 .d10)) (.seq (.reg [
  ⟨some (.p2 .d0 .d12), (.mv (.k (.bool true))), none⟩]) (.exit 4)) (.seq (.reg [
  ⟨some (.p2 .d7 .d1), (.mv (.t (.p2 .d0 .d15))), none⟩,
  ⟨some (.p2 .d7 .d2), (.leq (.k (.u8 48)) (.t (.p2 .d7 .d1))), none⟩,
  ⟨some (.p2 .d7 .d3), (.mv (.t (.p2 .d7 .d2))), none⟩,
  ⟨some (.p2 .d7 .d4), (.mv (.t (.p2 .d0 .d15))), some ((.p2 .d7 .d3), true)⟩,
  ⟨some (.p2 .d7 .d5), (.leq (.t (.p2 .d7 .d4)) (.k (.u8 57))), some ((.p2 .d7 .d3), true)⟩,
  ⟨some (.p2 .d7 .d6), (.pick (.t (.p2 .d7 .d3)) (.t (.p2 .d7 .d5)) (.k (.bool false))), none⟩,
  ⟨some (.p2 .d7 .d0), (.mv (.t (.p2 .d7 .d6))), none⟩]) (.cond (.t (.p2 .d7 .d0)) (.reg [
  ⟨some (.p2 .d7 .d7), (.mv (.t (.p2 .d0 .d15))), none⟩,
  ⟨some (.p2 .d7 .d8), (.sub (.t (.p2 .d7 .d7)) (.k (.u8 48))), none⟩,
  ⟨some (.p2 .d1 .d0), (.mv (.t (.p2 .d7 .d8))), none⟩]) (.seq (.reg [
  ⟨some (.p2 .d7 .d10), (.mv (.t (.p2 .d0 .d15))), none⟩,
  ⟨some (.p2 .d7 .d11), (.call ⟨185, .d0, .d11, .d9⟩ [(.t (.p2 .d7 .d10))]), none⟩,
  ⟨some (.p2 .d7 .d12), (.leq (.k (.u8 97)) (.t (.p2 .d7 .d11))), none⟩,
  ⟨some (.p2 .d7 .d13), (.mv (.t (.p2 .d7 .d12))), none⟩,
  ⟨some (.p2 .d7 .d14), (.mv (.t (.p2 .d0 .d15))), some ((.p2 .d7 .d13), true)⟩,
  ⟨some (.p2 .d7 .d15), (.call ⟨185, .d0, .d11, .d9⟩ [(.t (.p2 .d7 .d14))]), some ((.p2 .d7 .d13), true)⟩,
  ⟨some (.p2 .d8 .d0), (.leq (.t (.p2 .d7 .d15)) (.k (.u8 122))), some ((.p2 .d7 .d13), true)⟩,
  ⟨some (.p2 .d8 .d1), (.pick (.t (.p2 .d7 .d13)) (.t (.p2 .d8 .d0)) (.k (.bool false))), none⟩,
  ⟨some (.p2 .d7 .d9), (.mv (.t (.p2 .d8 .d1))), none⟩]) (.cond (.t (.p2 .d7 .d9)) (.reg [
  ⟨some (.p2 .d8 .d2), (.mv (.t (.p2 .d0 .d15))), none⟩,
  ⟨some (.p2 .d8 .d3), (.call ⟨185, .d0, .d11, .d9⟩ [(.t (.p2 .d8 .d2))]), none⟩,
  ⟨some (.p2 .d8 .d4), (.sub (.t (.p2 .d8 .d3)) (.k (.u8 97))), none⟩,
  ⟨some (.p2 .d8 .d5), (.add (.t (.p2 .d8 .d4)) (.k (.u8 10))), none⟩,
  ⟨some (.p2 .d1 .d0), (.mv (.t (.p2 .d8 .d5))), none⟩]) (.seq (.reg [
  ⟨some (.p2 .d6 .d9), (.mki 213 (.k (.i (.ofNat 2)))), none⟩,
  ⟨some (.p2 .d0 .d6), (.mv (.k (.int .u64 (.ofNat 0)))), none⟩,
  ⟨some (.p2 .d0 .d7), (.mv (.t (.p2 .d6 .d9))), none⟩]) .ret)))))))) (.seq (.seq (.reg [
  ⟨some (.p2 .d8 .d6), (.mv (.t (.p2 .d1 .d0))), none⟩,
  ⟨some (.p2 .d8 .d7), (.mv (.t (.p2 .d0 .d1))), none⟩,
  ⟨some (.p2 .d8 .d8), (.cint .u8 (.t (.p2 .d8 .d7))), none⟩,
  ⟨some (.p2 .d8 .d9), (.geq (.t (.p2 .d8 .d6)) (.t (.p2 .d8 .d8))), none⟩]) (.cond (.t (.p2 .d8 .d9)) (.seq (.reg [
  ⟨some (.p2 .d8 .d10), (.mki 213 (.k (.i (.ofNat 2)))), none⟩,
  ⟨some (.p2 .d0 .d6), (.mv (.k (.int .u64 (.ofNat 0)))), none⟩,
  ⟨some (.p2 .d0 .d7), (.mv (.t (.p2 .d8 .d10))), none⟩]) .ret) .skip)) (.seq (.seq (.reg [
  ⟨some (.p2 .d8 .d11), (.mv (.t (.p2 .d0 .d13))), none⟩,
  ⟨some (.p2 .d8 .d12), (.mv (.t (.p2 .d0 .d10))), none⟩,
  ⟨some (.p2 .d8 .d13), (.geq (.t (.p2 .d8 .d11)) (.t (.p2 .d8 .d12))), none⟩]) (.cond (.t (.p2 .d8 .d13)) (.seq (.reg [
  ⟨some (.p2 .d8 .d14), (.mv (.t (.p2 .d0 .d11))), none⟩,
  ⟨some (.p2 .d8 .d15), (.mki 213 (.k (.i (.ofNat 1)))), none⟩,
  ⟨some (.p2 .d0 .d6), (.mv (.t (.p2 .d8 .d14))), none⟩,
  ⟨some (.p2 .d0 .d7), (.mv (.t (.p2 .d8 .d15))), none⟩]) .ret) .skip)) (.seq (.reg [
  ⟨some (.p2 .d9 .d0), (.mv (.t (.p2 .d0 .d13))), none⟩,
  ⟨some (.p2 .d9 .d1), (.mv (.t (.p2 .d0 .d1))), none⟩,
  ⟨some (.p2 .d9 .d2), (.cint .u64 (.t (.p2 .d9 .d1))), none⟩,
  ⟨some (.p2 .d9 .d3), (.mul (.t (.p2 .d9 .d0)) (.t (.p2 .d9 .d2))), none⟩,
  ⟨some (.p2 .d0 .d13), (.mv (.t (.p2 .d9 .d3))), none⟩]) (.seq (.reg [
  ⟨some (.p2 .d9 .d4), (.mv (.t (.p2 .d0 .d13))), none⟩,
  ⟨some (.p2 .d9 .d5), (.mv (.t (.p2 .d1 .d0))), none⟩,
  ⟨some (.p2 .d9 .d6), (.cint .u64 (.t (.p2 .d9 .d5))), none⟩,
  ⟨some (.p2 .d9 .d7), (.add (.t (.p2 .d9 .d4)) (.t (.p2 .d9 .d6))), none⟩,
  ⟨some (.p2 .d1 .d1), (.mv (.t (.p2 .d9 .d7))), none⟩]) (.seq (.seq (.reg [
  ⟨some (.p2 .d9 .d8), (.mv (.t (.p2 .d1 .d1))), none⟩,
  ⟨some (.p2 .d9 .d9), (.mv (.t (.p2 .d0 .d13))), none⟩,
  ⟨some (.p2 .d9 .d10), (.lss (.t (.p2 .d9 .d8)) (.t (.p2 .d9 .d9))), none⟩,
  ⟨some (.p2 .d9 .d11), (.mv (.t (.p2 .d9 .d10))), none⟩,
  ⟨some (.p2 .d9 .d12), (.mv (.t (.p2 .d1 .d1))), some ((.p2 .d9 .d11), false)⟩,
  ⟨some (.p2 .d9 .d13), (.mv (.t (.p2 .d0 .d11))), some ((.p2 .d9 .d11), false)⟩,
  ⟨some (.p2 .d9 .d14), (.gtr (.t (.p2 .d9 .d12)) (.t (.p2 .d9 .d13))), some ((.p2 .d9 .d11), false)⟩,
  ⟨some (.p2 .d9 .d15), (.pick (.t (.p2 .d9 .d11)) (.k (.bool true)) (.t (.p2 .d9 .d14))), none⟩]) (.cond (.t (.p2 .d9 .d15)) (.seq (.reg [
  ⟨some (.p2 .d10 .d0), (.mv (.t (.p2 .d0 .d11))), none⟩,
  ⟨some (.p2 .d10 .d1), (.mki 213 (.k (.i (.ofNat 1)))), none⟩,
  ⟨some (.p2 .d0 .d6), (.mv (.t (.p2 .d10 .d0))), none⟩,
  ⟨some (.p2 .d0 .d7), (.mv (.t (.p2 .d10 .d1))), none⟩]) .ret) .skip)) (.reg [
  ⟨some (.p2 .d10 .d2), (.mv (.t (.p2 .d1 .d1))), none⟩,
  ⟨some (.p2 .d0 .d13), (.mv (.t (.p2 .d10 .d2))), none⟩])))))))))) (.reg [
  ⟨some (.p2 .d10 .d3), (.add (.t (.p2 .d6 .d5)) (.k (.i (.ofNat 1)))), none⟩,
  ⟨some (.p2 .d6 .d5), (.mv (.t (.p2 .d10 .d3))), none⟩]))))))) (.seq (.seq (.reg [
  ⟨some (.p2 .d10 .d4), (.mv (.t (.p2 .d0 .d12))), none⟩,
  ⟨some (.p2 .d10 .d5), (.mv (.t (.p2 .d10 .d4))), none⟩,
  ⟨some (.p2 .d10 .d6), (.mv (.t (.p2 .d0 .d9))), some ((.p2 .d10 .d5), true)⟩,
  ⟨some (.p2 .d10 .d7), (.call ⟨186, .d0, .d11, .d10⟩ [(.t (.p2 .d10 .d6))]), some ((.p2 .d10 .d5), true)⟩,
  ⟨some (.p2 .d10 .d8), (.not (.t (.p2 .d10 .d7))), some ((.p2 .d10 .d5), true)⟩,
  ⟨some (.p2 .d10 .d9), (.pick (.t (.p2 .d10 .d5)) (.t (.p2 .d10 .d8)) (.k (.bool false))), none⟩]) (.cond (.t (.p2 .d10 .d9)) (.seq (.reg [
  ⟨some (.p2 .d10 .d10), (.mki 213 (.k (.i (.ofNat 2)))), none⟩,
  ⟨some (.p2 .d0 .d6), (.mv (.k (.int .u64 (.ofNat 0)))), none⟩,
  ⟨some (.p2 .d0 .d7), (.mv (.t (.p2 .d10 .d10))), none⟩]) .ret) .skip)) (.seq (.reg [
  ⟨some (.p2 .d10 .d11), (.mv (.t (.p2 .d0 .d13))), none⟩,
  ⟨some (.p2 .d0 .d6), (.mv (.t (.p2 .d10 .d11))), none⟩,
  ⟨some (.p2 .d0 .d7), (.mv (.k .nili)), none⟩]) .ret)))))))))))))), [.tmp (.p2 .d0 .d6), .tmp (.p2 .d0 .d7)]⟩
def cf169 : CF := ⟨169, true, (.seq (.reg [
  ⟨some (.p2 .d0 .d4), (.alloc 43 [(.i (.ofNat 0)), (.i (.ofNat 0)), (.i (.ofNat 0)), (.i (.ofNat 0)), (.str 0 0), .nils]), none⟩]) (.seq (.reg [
  ⟨some (.p2 .d0 .d7), (.mv (.t (.p2 .d0 .d0))), none⟩,
  ⟨some (.p2 .d0 .d8), (.nilc (.t (.p2 .d0 .d7))), none⟩,
  ⟨some (.p2 .d0 .d9), (.fa (.t (.p2 .d0 .d8)) 3), none⟩,
  ⟨some (.p2 .d0 .d10), (.ld1 (.t (.p2 .d0 .d9))), none⟩,
  ⟨some (.p2 .d0 .d5), (.mv (.t (.p2 .d0 .d10))), none⟩]) (.seq (.reg [
  ⟨some (.p2 .d0 .d11), (.mv (.t (.p2 .d0 .d0))), none⟩,
  ⟨some (.p2 .d0 .d12), (.nilc (.t (.p2 .d0 .d11))), none⟩,
  ⟨some (.p2 .d0 .d13), (.fa (.t (.p2 .d0 .d12)) 3), none⟩,
  ⟨none, (.st 1 (.t (.p2 .d0 .d13)) (.k (.bool true))), none⟩]) (.seq (.reg [
  ⟨some (.p2 .d0 .d14), (.mv (.t (.p2 .d0 .d1))), none⟩,
  ⟨some (.p2 .d0 .d15), (.callv (.t (.p2 .d0 .d14)) []), none⟩,
  ⟨some (.p2 .d0 .d6), (.alloc 43 [(.i (.ofNat 0)), (.i (.ofNat 0)), (.i (.ofNat 0)), (.i (.ofNat 0)), (.str 0 0), .nils]), none⟩,
  ⟨none, (.st 6 (.t (.p2 .d0 .d6)) (.t (.p2 .d0 .d15))), none⟩]) (.seq (.reg [
  ⟨some (.p2 .d1 .d0), (.mv (.t (.p2 .d0 .d0))), none⟩,
  ⟨some (.p2 .d1 .d1), (.mv (.t (.p2 .d0 .d5))), none⟩,
  ⟨some (.p2 .d1 .d2), (.nilc (.t (.p2 .d1 .d0))), none⟩,
  ⟨some (.p2 .d1 .d3), (.fa (.t (.p2 .d1 .d2)) 3), none⟩,
  ⟨none, (.st 1 (.t (.p2 .d1 .d3)) (.t (.p2 .d1 .d1))), none⟩]) (.seq (.reg [
  ⟨some (.p2 .d1 .d4), (.ldn 6 (.t (.p2 .d0 .d6))), none⟩,
  ⟨none, (.st 6 (.t (.p2 .d0 .d4)) (.t (.p2 .d1 .d4))), none⟩]) .ret)))))), [.cell 6 true (.p2 .d0 .d4)]⟩
def cf170 : CF := ⟨170, true, (.seq (.reg [
  ⟨some (.p2 .d0 .d2), (.alloc 43 [(.i (.ofNat 0)), (.i (.ofNat 0)), (.i (.ofNat 0)), (.i (.ofNat 0)), (.str 0 0), .nils]), none⟩]) (.seq (.reg [
  ⟨some (.p2 .d0 .d3), (.mv (.t (.p2 .d0 .d0))), none⟩,
  ⟨some (.p2 .d0 .d4), (.call ⟨147, .d0, .d9, .d3⟩ [(.t (.p2 .d0 .d3)), (.k (.i (.ofNat 0)))]), none⟩,
  ⟨none, (.st 6 (.t (.p2 .d0 .d2)) (.t (.p2 .d0 .d4))), none⟩]) .ret)), [.cell 6 true (.p2 .d0 .d2)]⟩
def cf171 : CF := ⟨171, true, (.seq (.reg [
  ⟨some (.p2 .d0 .d1), (.box 78 1 (.t (.p2 .d0 .d0))), none⟩,
  ⟨some (.p2 .d0 .d2), (.alloc 43 [(.i (.ofNat 0)), (.i (.ofNat 0)), (.i (.ofNat 0)), (.i (.ofNat 0)), (.str 0 0), .nils]), none⟩,
  ⟨some (.p2 .d0 .d3), (.alloc 43 [(.i (.ofNat 0)), (.i (.ofNat 0)), (.i (.ofNat 0)), (.i (.ofNat 0)), (.str 0 0), .nils]), none⟩,
  ⟨some (.p2 .d0 .d4), (.alloc 43 [(.i (.ofNat 0)), (.i (.ofNat 0)), (.i (.ofNat 0)), (.i (.ofNat 0)), (.str 0 0), .nils]), none⟩]) (.seq (.seq (.reg [
  ⟨some (.p2 .d0 .d6), (.ld1 (.t (.p2 .d0 .d1))), none⟩,
  ⟨some (.p2 .d0 .d7), (.call ⟨90, .d0, .d5, .d10⟩ [(.t (.p2 .d0 .d6))]), none⟩,
  ⟨some (.p2 .d0 .d8), (.fld (.t (.p2 .d0 .d7)) 0 1 false), none⟩,
  ⟨some (.p2 .d0 .d9), (.neq (.cell (.int .i64)) (.t (.p2 .d0 .d8)) (.k (.i (.ofNat 7)))), none⟩]) (.cond (.t (.p2 .d0 .d9)) (.seq (.reg [
  ⟨some (.p2 .d0 .d10), (.ld1 (.t (.p2 .d0 .d1))), none⟩,
  ⟨some (.p2 .d0 .d11), (.ld1 (.t (.p2 .d0 .d1))), none⟩,
  ⟨some (.p2 .d0 .d12), (.mkf ⟨170, .d0, .d10, .d10⟩ [(.t (.p2 .d0 .d11))] []), none⟩,
  ⟨some (.p2 .d0 .d13), (.call ⟨169, .d0, .d10, .d9⟩ [(.t (.p2 .d0 .d10)), (.t (.p2 .d0 .d12))]), none⟩,
  ⟨some (.p2 .d0 .d5), (.alloc 43 [(.i (.ofNat 0)), (.i (.ofNat 0)), (.i (.ofNat 0)), (.i (.ofNat 0)), (.str 0 0), .nils]), none⟩,
  ⟨none, (.st 6 (.t (.p2 .d0 .d5)) (.t (.p2 .d0 .d13))), none⟩]) (.seq (.seq (.reg [
  ⟨some (.p2 .d0 .d14), (.ld1 (.t (.p2 .d0 .d1))), none⟩,
  ⟨some (.p2 .d0 .d15), (.bslice 9 1 1 [(.str 0 0)] [(0, (.k (.str 1 123)))]), none⟩,
  ⟨some (.p2 .d1 .d0), (.call ⟨57, .d0, .d3, .d9⟩ [(.t (.p2 .d0 .d14)), (.t (.p2 .d0 .d15))]), none⟩]) (.cond (.t (.p2 .d1 .d0)) (.seq (.dreg [
  ⟨0, ⟨some (.p2 .d1 .d1), (.ldn 6 (.t (.p2 .d0 .d2))), none⟩, .rd, 0⟩,
  ⟨1, ⟨some (.p2 .d1 .d2), (.ldn 6 (.t (.p2 .d0 .d5))), none⟩, .rd, 1⟩,
  ⟨2, ⟨some (.p2 .d1 .d3), (.ldn 6 (.t (.p2 .d0 .d4))), none⟩, .rd, 2⟩,
  ⟨3, ⟨none, (.st 6 (.t (.p2 .d0 .d2)) (.t (.p2 .d1 .d1))), none⟩, .ev, 0⟩,
  ⟨4, ⟨none, (.st 6 (.t (.p2 .d0 .d3)) (.t (.p2 .d1 .d2))), none⟩, .ev, 1⟩,
  ⟨5, ⟨none, (.st 6 (.t (.p2 .d0 .d4)) (.t (.p2 .d1 .d3))), none⟩, .ev, 2⟩]) .ret) .skip)) (.reg [
  ⟨some (.p2 .d1 .d4), (.ld1 (.t (.p2 .d0 .d1))), none⟩,
  ⟨some (.p2 .d1 .d5), (.mkf ⟨192, .d0, .d12, .d0⟩ [] [(.t (.p2 .d0 .d1)), (.t (.p2 .d0 .d5))]), none⟩,
  ⟨some (.p2 .d1 .d6), (.call ⟨169, .d0, .d10, .d9⟩ [(.t (.p2 .d1 .d4)), (.t (.p2 .d1 .d5))]), none⟩,
  ⟨none, (.st 6 (.t (.p2 .d0 .d2)) (.t (.p2 .d1 .d6))), none⟩]))) .skip)) (.seq (.reg [
  ⟨some (.p2 .d1 .d7), (.ld1 (.t (.p2 .d0 .d1))), none⟩,
  ⟨some (.p2 .d1 .d8), (.call ⟨56, .d0, .d3, .d8⟩ [(.t (.p2 .d1 .d7))]), none⟩]) (.seq (.seq (.reg [
  ⟨some (.p2 .d1 .d9), (.ld1 (.t (.p2 .d0 .d1))), none⟩,
  ⟨some (.p2 .d1 .d10), (.call ⟨90, .d0, .d5, .d10⟩ [(.t (.p2 .d1 .d9))]), none⟩,
  ⟨some (.p2 .d1 .d11), (.fld (.t (.p2 .d1 .d10)) 0 1 false), none⟩,
  ⟨some (.p2 .d1 .d12), (.neq (.cell (.int .i64)) (.t (.p2 .d1 .d11)) (.k (.i (.ofNat 7)))), none⟩]) (.cond (.t (.p2 .d1 .d12)) (.reg [
  ⟨some (.p2 .d1 .d13), (.ld1 (.t (.p2 .d0 .d1))), none⟩,
  ⟨some (.p2 .d1 .d14), (.ld1 (.t (.p2 .d0 .d1))), none⟩,
  ⟨some (.p2 .d1 .d15), (.mkf ⟨170, .d0, .d10, .d10⟩ [(.t (.p2 .d1 .d14))] []), none⟩,
  ⟨some (.p2 .d2 .d0), (.call ⟨169, .d0, .d10, .d9⟩ [(.t (.p2 .d1 .d13)), (.t (.p2 .d1 .d15))]), none⟩,
  ⟨none, (.st 6 (.t (.p2 .d0 .d3)) (.t (.p2 .d2 .d0))), none⟩]) .skip)) (.seq (.reg [
  ⟨some (.p2 .d2 .d1), (.ld1 (.t (.p2 .d0 .d1))), none⟩,
  ⟨some (.p2 .d2 .d2), (.call ⟨56, .d0, .d3, .d8⟩ [(.t (.p2 .d2 .d1))]), none⟩]) (.seq (.seq (.reg [
  ⟨some (.p2 .d2 .d3), (.ld1 (.t (.p2 .d0 .d1))), none⟩,
  ⟨some (.p2 .d2 .d4), (.bslice 9 1 1 [(.str 0 0)] [(0, (.k (.str 1 123)))]), none⟩,
  ⟨some (.p2 .d2 .d5), (.call ⟨57, .d0, .d3, .d9⟩ [(.t (.p2 .d2 .d3)), (.t (.p2 .d2 .d4))]), none⟩,
  ⟨some (.p2 .d2 .d6), (.not (.t (.p2 .d2 .d5))), none⟩]) (.cond (.t (.p2 .d2 .d6)) (.reg [
  ⟨some (.p2 .d2 .d7), (.ld1 (.t (.p2 .d0 .d1))), none⟩,
  ⟨some (.p2 .d2 .d8), (.mkf ⟨193, .d0, .d12, .d1⟩ [] [(.t (.p2 .d0 .d1))]), none⟩,
  ⟨some (.p2 .d2 .d9), (.call ⟨169, .d0, .d10, .d9⟩ [(.t (.p2 .d2 .d7)), (.t (.p2 .d2 .d8))]), none⟩,
  ⟨none, (.st 6 (.t (.p2 .d0 .d4)) (.t (.p2 .d2 .d9))), none⟩]) .skip)) (.seq (.dreg [
  ⟨0, ⟨some (.p2 .d2 .d10), (.ldn 6 (.t (.p2 .d0 .d2))), none⟩, .rd, 0⟩,
  ⟨1, ⟨some (.p2 .d2 .d11), (.ldn 6 (.t (.p2 .d0 .d3))), none⟩, .rd, 1⟩,
  ⟨2, ⟨some (.p2 .d2 .d12), (.ldn 6 (.t (.p2 .d0 .d4))), none⟩, .rd, 2⟩,
  ⟨3, ⟨none, (.st 6 (.t (.p2 .d0 .d2)) (.t (.p2 .d2 .d10))), none⟩, .ev, 0⟩,
  ⟨4, ⟨none, (.st 6 (.t (.p2 .d0 .d3)) (.t (.p2 .d2 .d11))), none⟩, .ev, 1⟩,
  ⟨5, ⟨none, (.st 6 (.t (.p2 .d0 .d4)) (.t (.p2 .d2 .d12))), none⟩, .ev, 2⟩]) .ret))))))), [.cell 6 true (.p2 .d0 .d2), .cell 6 true (.p2 .d0 .d3), .cell 6 true (.p2 .d0 .d4)]⟩
def cf172 : CF := ⟨172, true, (.seq (.reg [
  ⟨some (.p2 .d0 .d2), (.alloc 43 [(.i (.ofNat 0)), (.i (.ofNat 0)), (.i (.ofNat 0)), (.i (.ofNat 0)), (.str 0 0), .nils]), none⟩]) (.seq (.seq (.reg [
  ⟨some (.p2 .d0 .d5), (.mv (.t (.p2 .d0 .d0))), none⟩,
  ⟨some (.p2 .d0 .d6), (.bslice 9 1 2 [(.str 0 0)] [(0, (.k (.str 1 45))), (1, (.k (.str 1 33)))]), none⟩,
  ⟨some (.p2 .d0 .d7), (.call ⟨57, .d0, .d3, .d9⟩ [(.t (.p2 .d0 .d5)), (.t (.p2 .d0 .d6))]), none⟩,
  ⟨some (.p2 .d0 .d8), (.not (.t (.p2 .d0 .d7))), none⟩]) (.cond (.t (.p2 .d0 .d8)) (.seq (.reg [
  ⟨some (.p2 .d0 .d9), (.mv (.t (.p2 .d0 .d0))), none⟩,
  ⟨some (.p2 .d0 .d10), (.call ⟨148, .d0, .d9, .d4⟩ [(.t (.p2 .d0 .d9))]), none⟩,
  ⟨none, (.st 6 (.t (.p2 .d0 .d2)) (.t (.p2 .d0 .d10))), none⟩]) .ret) .skip)) (.seq (.reg [
  ⟨some (.p2 .d0 .d11), (.mv (.t (.p2 .d0 .d0))), none⟩,
  ⟨some (.p2 .d0 .d12), (.call ⟨89, .d0, .d5, .d9⟩ [(.t (.p2 .d0 .d11))]), none⟩,
  ⟨some (.p2 .d0 .d3), (.alloc 80 [(.i (.ofNat 0)), (.str 0 0), (.i (.ofNat 0)), (.i (.ofNat 0))]), none⟩,
  ⟨none, (.st 4 (.t (.p2 .d0 .d3)) (.t (.p2 .d0 .d12))), none⟩]) (.seq (.reg [
  ⟨some (.p2 .d0 .d13), (.mv (.t (.p2 .d0 .d0))), none⟩,
  ⟨some (.p2 .d0 .d14), (.call ⟨172, .d0, .d10, .d12⟩ [(.t (.p2 .d0 .d13))]), none⟩,
  ⟨some (.p2 .d0 .d4), (.alloc 43 [(.i (.ofNat 0)), (.i (.ofNat 0)), (.i (.ofNat 0)), (.i (.ofNat 0)), (.str 0 0), .nils]), none⟩,
  ⟨none, (.st 6 (.t (.p2 .d0 .d4)) (.t (.p2 .d0 .d14))), none⟩]) (.seq (.reg [
  ⟨some (.p2 .d0 .d15), (.mv (.t (.p2 .d0 .d0))), none⟩,
  ⟨some (.p2 .d1 .d0), (.fa (.t (.p2 .d0 .d3)) 2), none⟩,
  ⟨some (.p2 .d1 .d1), (.ld1 (.t (.p2 .d1 .d0))), none⟩,
  ⟨some (.p2 .d1 .d2), (.fa (.t (.p2 .d0 .d3)) 2), none⟩,
  ⟨some (.p2 .d1 .d3), (.ld1 (.t (.p2 .d1 .d2))), none⟩,
  ⟨some (.p2 .d1 .d4), (.fa (.t (.p2 .d0 .d3)) 1), none⟩,
  ⟨some (.p2 .d1 .d5), (.ld1 (.t (.p2 .d1 .d4))), none⟩,
  ⟨some (.p2 .d1 .d6), (.ldn 6 (.t (.p2 .d0 .d4))), none⟩,
  ⟨some (.p2 .d1 .d7), (.bslice 43 6 1 [(.i (.ofNat 0)), (.i (.ofNat 0)), (.i (.ofNat 0)), (.i (.ofNat 0)), (.str 0 0), .nils] [(0, (.t (.p2 .d1 .d6)))]), none⟩,
  ⟨some (.p2 .d1 .d8), (.call ⟨92, .d0, .d5, .d12⟩ [(.t (.p2 .d0 .d15)), (.k (.i (.ofNat 30))), (.t (.p2 .d1 .d1)), (.t (.p2 .d1 .d3)), (.t (.p2 .d1 .d5)), (.t (.p2 .d1 .d7))]), none⟩,
  ⟨none, (.st 6 (.t (.p2 .d0 .d2)) (.t (.p2 .d1 .d8))), none⟩]) .ret))))), [.cell 6 true (.p2 .d0 .d2)]⟩
def cf173 : CF := ⟨173, true, (.seq (.reg [
  ⟨some (.p2 .d0 .d1), (.box 80 4 (.t (.p2 .d0 .d0))), none⟩,
  ⟨some (.p2 .d0 .d2), (.mv (.k (.i (.ofNat 0)))), none⟩]) (.seq (.seq (.reg [
  ⟨some (.p2 .d0 .d3), (.fa (.t (.p2 .d0 .d1)) 0), none⟩,
  ⟨some (.p2 .d0 .d4), (.ld1 (.t (.p2 .d0 .d3))), none⟩,
  ⟨some (.p2 .d0 .d5), (.neq (.cell (.int .i64)) (.t (.p2 .d0 .d4)) (.k (.i (.ofNat 6)))), none⟩]) (.cond (.t (.p2 .d0 .d5)) (.seq (.reg [
  ⟨some (.p2 .d0 .d2), (.mv (.k (.i (.ofNat 0)))), none⟩]) .ret) .skip)) (.seq (.seq (.reg [
  ⟨some (.p2 .d0 .d6), (.fa (.t (.p2 .d0 .d1)) 1), none⟩,
  ⟨some (.p2 .d0 .d7), (.ld1 (.t (.p2 .d0 .d6))), none⟩]) (.block 0 (.seq (.reg [
  ⟨some (.p2 .d0 .d9), (.eql (.cell .str) (.t (.p2 .d0 .d7)) (.k (.str 2 31868))), none⟩,
  ⟨some (.p2 .d0 .d8), (.mv (.t (.p2 .d0 .d9))), none⟩]) (.cond (.t (.p2 .d0 .d8)) (.seq (.reg [
  ⟨some (.p2 .d0 .d2), (.mv (.k (.i (.ofNat 1)))), none⟩]) .ret) (.seq (.reg [
  ⟨some (.p2 .d0 .d11), (.eql (.cell .str) (.t (.p2 .d0 .d7)) (.k (.str 2 9766))), none⟩,
  ⟨some (.p2 .d0 .d10), (.mv (.t (.p2 .d0 .d11))), none⟩]) (.cond (.t (.p2 .d0 .d10)) (.seq (.reg [
  ⟨some (.p2 .d0 .d2), (.mv (.k (.i (.ofNat 2)))), none⟩]) .ret) (.seq (.seq (.reg [
  ⟨some (.p2 .d0 .d13), (.eql (.cell .str) (.t (.p2 .d0 .d7)) (.k (.str 2 15677))), none⟩,
  ⟨some (.p2 .d0 .d12), (.mv (.t (.p2 .d0 .d13))), none⟩]) (.cond (.t (.p2 .d0 .d12)) .skip (.seq (.reg [
  ⟨some (.p2 .d0 .d14), (.eql (.cell .str) (.t (.p2 .d0 .d7)) (.k (.str 2 15649))), none⟩,
  ⟨some (.p2 .d0 .d12), (.mv (.t (.p2 .d0 .d14))), none⟩]) (.cond (.t (.p2 .d0 .d12)) .skip (.seq (.reg [
  ⟨some (.p2 .d0 .d15), (.eql (.cell .str) (.t (.p2 .d0 .d7)) (.k (.str 1 60))), none⟩,
  ⟨some (.p2 .d0 .d12), (.mv (.t (.p2 .d0 .d15))), none⟩]) (.cond (.t (.p2 .d0 .d12)) .skip (.seq (.reg [
  ⟨some (.p2 .d1 .d0), (.eql (.cell .str) (.t (.p2 .d0 .d7)) (.k (.str 2 15676))), none⟩,
  ⟨some (.p2 .d0 .d12), (.mv (.t (.p2 .d1 .d0))), none⟩]) (.cond (.t (.p2 .d0 .d12)) .skip (.seq (.reg [
  ⟨some (.p2 .d1 .d1), (.eql (.cell .str) (.t (.p2 .d0 .d7)) (.k (.str 1 62))), none⟩,
  ⟨some (.p2 .d0 .d12), (.mv (.t (.p2 .d1 .d1))), none⟩]) (.cond (.t (.p2 .d0 .d12)) .skip (.reg [
  ⟨some (.p2 .d1 .d2), (.eql (.cell .str) (.t (.p2 .d0 .d7)) (.k (.str 2 15678))), none⟩,
  ⟨some (.p2 .d0 .d12), (.mv (.t (.p2 .d1 .d2))), none⟩]))))))))))) (.cond (.t (.p2 .d0 .d12)) (.seq (.reg [
  ⟨some (.p2 .d0 .d2), (.mv (.k (.i (.ofNat 3)))), none⟩]) .ret) (.seq (.seq (.reg [
  ⟨some (.p2 .d1 .d4), (.eql (.cell .str) (.t (.p2 .d0 .d7)) (.k (.str 1 43))), none⟩,
  ⟨some (.p2 .d1 .d3), (.mv (.t (.p2 .d1 .d4))), none⟩]) (.cond (.t (.p2 .d1 .d3)) .skip (.reg [
  ⟨some (.p2 .d1 .d5), (.eql (.cell .str) (.t (.p2 .d0 .d7)) (.k (.str 1 45))), none⟩,
  ⟨some (.p2 .d1 .d3), (.mv (.t (.p2 .d1 .d5))), none⟩]))) (.cond (.t (.p2 .d1 .d3)) (.seq (.reg [
  ⟨some (.p2 .d0 .d2), (.mv (.k (.i (.ofNat 4)))), none⟩]) .ret) (.seq (.seq (.reg [
  ⟨some (.p2 .d1 .d7), (.eql (.cell .str) (.t (.p2 .d0 .d7)) (.k (.str 1 42))), none⟩,
  ⟨some (.p2 .d1 .d6), (.mv (.t (.p2 .d1 .d7))), none⟩]) (.cond (.t (.p2 .d1 .d6)) .skip (.seq (.reg [
  ⟨some (.p2 .d1 .d8), (.eql (.cell .str) (.t (.p2 .d0 .d7)) (.k (.str 1 47))), none⟩,
  ⟨some (.p2 .d1 .d6), (.mv (.t (.p2 .d1 .d8))), none⟩]) (.cond (.t (.p2 .d1 .d6)) .skip (.reg [
  ⟨some (.p2 .d1 .d9), (.eql (.cell .str) (.t (.p2 .d0 .d7)) (.k (.str 1 37))), none⟩,
  ⟨some (.p2 .d1 .d6), (.mv (.t (.p2 .d1 .d9))), none⟩]))))) (.cond (.t (.p2 .d1 .d6)) (.seq (.reg [
  ⟨some (.p2 .d0 .d2), (.mv (.k (.i (.ofNat 5)))), none⟩]) .ret) .skip)))))))))))) (.seq (.reg [
  ⟨some (.p2 .d0 .d2), (.mv (.k (.i (.ofNat 0)))), none⟩]) .ret)))), [.tmp (.p2 .d0 .d2)]⟩
def cf174 : CF := ⟨174, true, (.seq (.reg [
  ⟨some (.p2 .d0 .d1), (.box 78 1 (.t (.p2 .d0 .d0))), none⟩,
  ⟨some (.p2 .d0 .d2), (.alloc 43 [(.i (.ofNat 0)), (.i (.ofNat 0)), (.i (.ofNat 0)), (.i (.ofNat 0)), (.str 0 0), .nils]), none⟩]) (.seq (.reg [
  ⟨some (.p2 .d0 .d7), (.ld1 (.t (.p2 .d0 .d1))), none⟩,
  ⟨some (.p2 .d0 .d8), (.call ⟨90, .d0, .d5, .d10⟩ [(.t (.p2 .d0 .d7))]), none⟩,
  ⟨some (.p2 .d0 .d3), (.alloc 80 [(.i (.ofNat 0)), (.str 0 0), (.i (.ofNat 0)), (.i (.ofNat 0))]), none⟩,
  ⟨none, (.st 4 (.t (.p2 .d0 .d3)) (.t (.p2 .d0 .d8))), none⟩]) (.seq (.seq (.reg [
  ⟨some (.p2 .d0 .d9), (.ldn 4 (.t (.p2 .d0 .d3))), none⟩,
  ⟨some (.p2 .d0 .d10), (.call ⟨194, .d0, .d12, .d2⟩ [(.t (.p2 .d0 .d9))]), none⟩,
  ⟨some (.p2 .d0 .d4), (.mv (.t (.p2 .d0 .d10))), none⟩]) (.seq (.reg [
  ⟨some (.p2 .d0 .d11), (.mv (.t (.p2 .d0 .d4))), none⟩,
  ⟨some (.p2 .d0 .d12), (.neq (.cell (.int .i64)) (.t (.p2 .d0 .d11)) (.k (.i (.ofNat 0)))), none⟩]) (.cond (.t (.p2 .d0 .d12)) (.seq (.reg [
  ⟨some (.p2 .d0 .d13), (.ld1 (.t (.p2 .d0 .d1))), none⟩,
  ⟨some (.p2 .d0 .d14), (.call ⟨89, .d0, .d5, .d9⟩ [(.t (.p2 .d0 .d13))]), none⟩]) (.seq (.seq (.reg [
  ⟨some (.p2 .d0 .d15), (.mv (.t (.p2 .d0 .d4))), none⟩,
  ⟨some (.p2 .d1 .d0), (.eql (.cell (.int .i64)) (.t (.p2 .d0 .d15)) (.k (.i (.ofNat 25)))), none⟩,
  ⟨some (.p2 .d1 .d1), (.mv (.t (.p2 .d1 .d0))), none⟩,
  ⟨some (.p2 .d1 .d2), (.ld1 (.t (.p2 .d0 .d1))), some ((.p2 .d1 .d1), true)⟩,
  ⟨some (.p2 .d1 .d3), (.nilc (.t (.p2 .d1 .d2))), some ((.p2 .d1 .d1), true)⟩,
  ⟨some (.p2 .d1 .d4), (.fa (.t (.p2 .d1 .d3)) 3), some ((.p2 .d1 .d1), true)⟩,
  ⟨some (.p2 .d1 .d5), (.ld1 (.t (.p2 .d1 .d4))), some ((.p2 .d1 .d1), true)⟩,
  ⟨some (.p2 .d1 .d6), (.not (.t (.p2 .d1 .d5))), some ((.p2 .d1 .d1), true)⟩,
  ⟨some (.p2 .d1 .d7), (.pick (.t (.p2 .d1 .d1)) (.t (.p2 .d1 .d6)) (.k (.bool false))), none⟩,
  ⟨some (.p2 .d1 .d8), (.mv (.t (.p2 .d1 .d7))), none⟩,
  ⟨some (.p2 .d1 .d9), (.ld1 (.t (.p2 .d0 .d1))), some ((.p2 .d1 .d8), true)⟩,
  ⟨some (.p2 .d1 .d10), (.bslice 9 1 1 [(.str 0 0)] [(0, (.k (.str 1 123)))]), some ((.p2 .d1 .d8), true)⟩,
  ⟨some (.p2 .d1 .d11), (.call ⟨57, .d0, .d3, .d9⟩ [(.t (.p2 .d1 .d9)), (.t (.p2 .d1 .d10))]), some ((.p2 .d1 .d8), true)⟩,
  ⟨some (.p2 .d1 .d12), (.pick (.t (.p2 .d1 .d8)) (.t (.p2 .d1 .d11)) (.k (.bool false))), none⟩]) (.cond (.t (.p2 .d1 .d12)) (.seq (.dreg [
  ⟨0, ⟨some (.p2 .d1 .d13), (.ld1 (.t (.p2 .d0 .d1))), none⟩, .rd, 1⟩,
  ⟨1, ⟨some (.p2 .d1 .d14), (.ld1 (.t (.p2 .d0 .d1))), none⟩, .rd, 0⟩,
  ⟨2, ⟨some (.p2 .d1 .d15), (.fa (.t (.p2 .d0 .d3)) 2), none⟩, .pur, 0⟩,
  ⟨3, ⟨some (.p2 .d2 .d0), (.ld1 (.t (.p2 .d1 .d15))), none⟩, .rd, 0⟩,
  ⟨4, ⟨some (.p2 .d2 .d1), (.fa (.t (.p2 .d0 .d3)) 2), none⟩, .pur, 0⟩,
  ⟨5, ⟨some (.p2 .d2 .d2), (.ld1 (.t (.p2 .d2 .d1))), none⟩, .rd, 0⟩,
  ⟨6, ⟨some (.p2 .d2 .d3), (.fa (.t (.p2 .d0 .d3)) 1), none⟩, .pur, 0⟩,
  ⟨7, ⟨some (.p2 .d2 .d4), (.ld1 (.t (.p2 .d2 .d3))), none⟩, .rd, 0⟩,
  ⟨8, ⟨some (.p2 .d2 .d5), (.call ⟨92, .d0, .d5, .d12⟩ [(.t (.p2 .d1 .d14)), (.k (.i (.ofNat 8))), (.t (.p2 .d2 .d0)), (.t (.p2 .d2 .d2)), (.t (.p2 .d2 .d4)), (.k .nils)]), none⟩, .ev, 0⟩,
  ⟨9, ⟨some (.p2 .d2 .d6), (.call ⟨175, .d0, .d10, .d15⟩ [(.t (.p2 .d1 .d13)), (.t (.p2 .d2 .d5))]), none⟩, .ev, 1⟩,
  ⟨10, ⟨none, (.st 6 (.t (.p2 .d0 .d2)) (.t (.p2 .d2 .d6))), none⟩, .ev, 2⟩]) .ret) .skip)) (.seq (.reg [
  ⟨some (.p2 .d2 .d7), (.ld1 (.t (.p2 .d0 .d1))), none⟩,
  ⟨some (.p2 .d2 .d8), (.mv (.t (.p2 .d0 .d4))), none⟩,
  ⟨some (.p2 .d2 .d9), (.fa (.t (.p2 .d0 .d3)) 2), none⟩,
  ⟨some (.p2 .d2 .d10), (.ld1 (.t (.p2 .d2 .d9))), none⟩,
  ⟨some (.p2 .d2 .d11), (.fa (.t (.p2 .d0 .d3)) 2), none⟩,
  ⟨some (.p2 .d2 .d12), (.ld1 (.t (.p2 .d2 .d11))), none⟩,
  ⟨some (.p2 .d2 .d13), (.fa (.t (.p2 .d0 .d3)) 1), none⟩,
  ⟨some (.p2 .d2 .d14), (.ld1 (.t (.p2 .d2 .d13))), none⟩,
  ⟨some (.p2 .d2 .d15), (.call ⟨92, .d0, .d5, .d12⟩ [(.t (.p2 .d2 .d7)), (.t (.p2 .d2 .d8)), (.t (.p2 .d2 .d10)), (.t (.p2 .d2 .d12)), (.t (.p2 .d2 .d14)), (.k .nils)]), none⟩,
  ⟨none, (.st 6 (.t (.p2 .d0 .d2)) (.t (.p2 .d2 .d15))), none⟩]) .ret))) .skip))) (.seq (.seq (.reg [
  ⟨some (.p2 .d3 .d0), (.ld1 (.t (.p2 .d0 .d1))), none⟩,
  ⟨some (.p2 .d3 .d1), (.bslice 9 1 5 [(.str 0 0)] [(0, (.k (.str 3 7630441))), (1, (.k (.str 7 14696572267752550))), (2, (.k (.str 3 7234924))), (3, (.k (.str 5 500068610672))), (4, (.k (.str 5 426970603888)))]), none⟩,
  ⟨some (.p2 .d3 .d2), (.call ⟨57, .d0, .d3, .d9⟩ [(.t (.p2 .d3 .d0)), (.t (.p2 .d3 .d1))]), none⟩]) (.cond (.t (.p2 .d3 .d2)) (.seq (.reg [
  ⟨some (.p2 .d3 .d3), (.ld1 (.t (.p2 .d0 .d1))), none⟩,
  ⟨some (.p2 .d3 .d4), (.call ⟨89, .d0, .d5, .d9⟩ [(.t (.p2 .d3 .d3))]), none⟩]) (.seq (.reg [
  ⟨some (.p2 .d3 .d5), (.ld1 (.t (.p2 .d0 .d1))), none⟩,
  ⟨some (.p2 .d3 .d6), (.call ⟨176, .d0, .d11, .d0⟩ [(.t (.p2 .d3 .d5))]), none⟩,
  ⟨some (.p2 .d0 .d5), (.mv (.t (.p2 .d3 .d6))), none⟩]) (.seq (.reg [
  ⟨some (.p2 .d3 .d7), (.ld1 (.t (.p2 .d0 .d1))), none⟩,
  ⟨some (.p2 .d3 .d8), (.fa (.t (.p2 .d0 .d3)) 2), none⟩,
  ⟨some (.p2 .d3 .d9), (.ld1 (.t (.p2 .d3 .d8))), none⟩,
  ⟨some (.p2 .d3 .d10), (.fa (.t (.p2 .d0 .d3)) 2), none⟩,
  ⟨some (.p2 .d3 .d11), (.ld1 (.t (.p2 .d3 .d10))), none⟩,
  ⟨some (.p2 .d3 .d12), (.fa (.t (.p2 .d0 .d3)) 1), none⟩,
  ⟨some (.p2 .d3 .d13), (.ld1 (.t (.p2 .d3 .d12))), none⟩,
  ⟨some (.p2 .d3 .d14), (.mv (.t (.p2 .d0 .d5))), none⟩,
  ⟨some (.p2 .d3 .d15), (.call ⟨92, .d0, .d5, .d12⟩ [(.t (.p2 .d3 .d7)), (.k (.i (.ofNat 32))), (.t (.p2 .d3 .d9)), (.t (.p2 .d3 .d11)), (.t (.p2 .d3 .d13)), (.t (.p2 .d3 .d14))]), none⟩,
  ⟨none, (.st 6 (.t (.p2 .d0 .d2)) (.t (.p2 .d3 .d15))), none⟩]) .ret))) .skip)) (.seq (.reg [
  ⟨some (.p2 .d0 .d6), (.alloc 43 [(.i (.ofNat 0)), (.i (.ofNat 0)), (.i (.ofNat 0)), (.i (.ofNat 0)), (.str 0 0), .nils]), none⟩]) (.seq (.reg [
  ⟨some (.p2 .d4 .d0), (.ld1 (.t (.p2 .d0 .d1))), none⟩,
  ⟨some (.p2 .d4 .d1), (.mkf ⟨195, .d0, .d12, .d3⟩ [] [(.t (.p2 .d0 .d1)), (.t (.p2 .d0 .d6))]), none⟩,
  ⟨some (.p2 .d4 .d2), (.call ⟨121, .d0, .d7, .d9⟩ [(.t (.p2 .d4 .d0)), (.k (.str 1 40)), (.k (.str 1 41)), (.t (.p2 .d4 .d1))]), none⟩]) (.seq (.reg [
  ⟨some (.p2 .d4 .d3), (.ld1 (.t (.p2 .d0 .d1))), none⟩,
  ⟨some (.p2 .d4 .d4), (.fa (.t (.p2 .d0 .d3)) 2), none⟩,
  ⟨some (.p2 .d4 .d5), (.ld1 (.t (.p2 .d4 .d4))), none⟩,
  ⟨some (.p2 .d4 .d6), (.fa (.t (.p2 .d0 .d3)) 2), none⟩,
  ⟨some (.p2 .d4 .d7), (.ld1 (.t (.p2 .d4 .d6))), none⟩,
  ⟨some (.p2 .d4 .d8), (.ldn 6 (.t (.p2 .d0 .d6))), none⟩,
  ⟨some (.p2 .d4 .d9), (.bslice 43 6 1 [(.i (.ofNat 0)), (.i (.ofNat 0)), (.i (.ofNat 0)), (.i (.ofNat 0)), (.str 0 0), .nils] [(0, (.t (.p2 .d4 .d8)))]), none⟩,
  ⟨some (.p2 .d4 .d10), (.call ⟨92, .d0, .d5, .d12⟩ [(.t (.p2 .d4 .d3)), (.k (.i (.ofNat 33))), (.t (.p2 .d4 .d5)), (.t (.p2 .d4 .d7)), (.k (.str 0 0)), (.t (.p2 .d4 .d9))]), none⟩,
  ⟨none, (.st 6 (.t (.p2 .d0 .d2)) (.t (.p2 .d4 .d10))), none⟩]) .ret))))))), [.cell 6 true (.p2 .d0 .d2)]⟩
def cf175 : CF := ⟨175, true, (.seq (.reg [
  ⟨some (.p2 .d0 .d3), (.box 43 6 (.t (.p2 .d0 .d1))), none⟩,
  ⟨some (.p2 .d0 .d4), (.alloc 43 [(.i (.ofNat 0)), (.i (.ofNat 0)), (.i (.ofNat 0)), (.i (.ofNat 0)), (.str 0 0), .nils]), none⟩]) (.seq (.reg [
  ⟨some (.p2 .d0 .d7), (.mv (.t (.p2 .d0 .d0))), none⟩,
  ⟨some (.p2 .d0 .d8), (.call ⟨90, .d0, .d5, .d10⟩ [(.t (.p2 .d0 .d7))]), none⟩,
  ⟨some (.p2 .d0 .d9), (.fld (.t (.p2 .d0 .d8)) 2 1 false), none⟩,
  ⟨some (.p2 .d0 .d5), (.mv (.t (.p2 .d0 .d9))), none⟩]) (.seq (.reg [
  ⟨some (.p2 .d0 .d10), (.mv (.t (.p2 .d0 .d0))), none⟩,
  ⟨some (.p2 .d0 .d11), (.mv (.t (.p2 .d0 .d0))), none⟩,
  ⟨some (.p2 .d0 .d12), (.call ⟨96, .d0, .d6, .d0⟩ [(.t (.p2 .d0 .d11)), (.k (.str 1 125))]), none⟩,
  ⟨some (.p2 .d0 .d13), (.mv (.t (.p2 .d0 .d0))), none⟩,
  ⟨some (.p2 .d0 .d14), (.mkf ⟨196, .d0, .d12, .d4⟩ [(.t (.p2 .d0 .d13))] []), none⟩,
  ⟨some (.p2 .d0 .d15), (.call ⟨93, .d0, .d5, .d13⟩ [(.t (.p2 .d0 .d10)), (.k (.str 1 123)), (.k (.str 1 125)), (.t (.p2 .d0 .d12)), (.t (.p2 .d0 .d14))]), none⟩,
  ⟨some (.p2 .d0 .d6), (.mv (.t (.p2 .d0 .d15))), none⟩]) (.seq (.dreg [
  ⟨0, ⟨some (.p2 .d1 .d0), (.mv (.t (.p2 .d0 .d0))), none⟩, .pur, 0⟩,
  ⟨1, ⟨some (.p2 .d1 .d1), (.fa (.t (.p2 .d0 .d3)) 1), none⟩, .pur, 0⟩,
  ⟨2, ⟨some (.p2 .d1 .d2), (.ld1 (.t (.p2 .d1 .d1))), none⟩, .rd, 2⟩,
  ⟨3, ⟨some (.p2 .d1 .d3), (.mv (.t (.p2 .d0 .d5))), none⟩, .pur, 0⟩,
  ⟨4, ⟨some (.p2 .d1 .d4), (.ldn 6 (.t (.p2 .d0 .d3))), none⟩, .rd, 0⟩,
  ⟨6, ⟨some (.p2 .d1 .d6), (.mv (.t (.p2 .d0 .d6))), none⟩, .pur, 0⟩,
  ⟨5, ⟨some (.p2 .d1 .d5), (.bslice 43 6 1 [(.i (.ofNat 0)), (.i (.ofNat 0)), (.i (.ofNat 0)), (.i (.ofNat 0)), (.str 0 0), .nils] [(0, (.t (.p2 .d1 .d4)))]), none⟩, .ev, 0⟩,
  ⟨7, ⟨some (.p2 .d1 .d7), (.append 43 6 72 (.t (.p2 .d1 .d5)) (.t (.p2 .d1 .d6))), none⟩, .ev, 1⟩,
  ⟨8, ⟨some (.p2 .d1 .d8), (.call ⟨92, .d0, .d5, .d12⟩ [(.t (.p2 .d1 .d0)), (.k (.i (.ofNat 28))), (.t (.p2 .d1 .d2)), (.t (.p2 .d1 .d3)), (.k (.str 0 0)), (.t (.p2 .d1 .d7))]), none⟩, .ev, 2⟩,
  ⟨9, ⟨none, (.st 6 (.t (.p2 .d0 .d4)) (.t (.p2 .d1 .d8))), none⟩, .ev, 3⟩]) .ret)))), [.cell 6 true (.p2 .d0 .d4)]⟩
def cf176 : CF := ⟨176, true, (.seq (.reg [
  ⟨some (.p2 .d0 .d2), (.mv (.k .nils)), none⟩]) (.seq (.reg [
  ⟨some (.p2 .d0 .d3), (.mv (.t (.p2 .d0 .d0))), none⟩,
  ⟨some (.p2 .d0 .d4), (.mv (.t (.p2 .d0 .d0))), none⟩,
  ⟨some (.p2 .d0 .d5), (.call ⟨96, .d0, .d6, .d0⟩ [(.t (.p2 .d0 .d4)), (.k (.str 1 41))]), none⟩,
  ⟨some (.p2 .d0 .d6), (.mv (.t (.p2 .d0 .d0))), none⟩,
  ⟨some (.p2 .d0 .d7), (.mkf ⟨170, .d0, .d10, .d10⟩ [(.t (.p2 .d0 .d6))] []), none⟩,
  ⟨some (.p2 .d0 .d8), (.call ⟨93, .d0, .d5, .d13⟩ [(.t (.p2 .d0 .d3)), (.k (.str 1 40)), (.k (.str 1 41)), (.t (.p2 .d0 .d5)), (.t (.p2 .d0 .d7))]), none⟩,
  ⟨some (.p2 .d0 .d2), (.mv (.t (.p2 .d0 .d8))), none⟩]) .ret)), [.tmp (.p2 .d0 .d2)]⟩
def cf177 : CF := ⟨177, true, (.seq (.reg [
  ⟨some (.p2 .d0 .d1), (.box 43 6 (.t (.p2 .d0 .d0))), none⟩,
  ⟨some (.p2 .d0 .d2), (.mv (.k (.bool false))), none⟩]) (.seq (.block 0 (.loop (.seq (.seq (.reg [
  ⟨some (.p2 .d0 .d3), (.fa (.t (.p2 .d0 .d1)) 0), none⟩,
  ⟨some (.p2 .d0 .d4), (.ld1 (.t (.p2 .d0 .d3))), none⟩,
  ⟨some (.p2 .d0 .d5), (.eql (.cell (.int .i64)) (.t (.p2 .d0 .d4)) (.k (.i (.ofNat 26)))), none⟩]) (.cond (.t (.p2 .d0 .d5)) .skip (.exit 0))) (.block 1 (.reg [
  ⟨some (.p2 .d0 .d6), (.fa (.t (.p2 .d0 .d1)) 5), none⟩,
  ⟨some (.p2 .d0 .d7), (.ld1 (.t (.p2 .d0 .d6))), none⟩,
  ⟨some (.p2 .d0 .d8), (.ia 6 (.t (.p2 .d0 .d7)) (.k (.i (.ofNat 0)))), none⟩,
  ⟨some (.p2 .d0 .d9), (.ldn 6 (.t (.p2 .d0 .d8))), none⟩,
  ⟨none, (.st 6 (.t (.p2 .d0 .d1)) (.t (.p2 .d0 .d9))), none⟩]))))) (.seq (.reg [
  ⟨some (.p2 .d0 .d10), (.fa (.t (.p2 .d0 .d1)) 0), none⟩,
  ⟨some (.p2 .d0 .d11), (.ld1 (.t (.p2 .d0 .d10))), none⟩,
  ⟨some (.p2 .d0 .d12), (.eql (.cell (.int .i64)) (.t (.p2 .d0 .d11)) (.k (.i (.ofNat 25)))), none⟩,
  ⟨some (.p2 .d0 .d2), (.mv (.t (.p2 .d0 .d12))), none⟩]) .ret))), [.tmp (.p2 .d0 .d2)]⟩
def cf178 : CF := ⟨178, true, (.seq (.reg [
  ⟨some (.p2 .d0 .d1), (.box 43 6 (.t (.p2 .d0 .d0))), none⟩,
  ⟨some (.p2 .d0 .d2), (.mv (.k (.bool false))), none⟩]) (.seq (.reg [
  ⟨some (.p2 .d0 .d3), (.fa (.t (.p2 .d0 .d1)) 0), none⟩,
  ⟨some (.p2 .d0 .d4), (.ld1 (.t (.p2 .d0 .d3))), none⟩,
  ⟨some (.p2 .d0 .d5), (.eql (.cell (.int .i64)) (.t (.p2 .d0 .d4)) (.k (.i (.ofNat 27)))), none⟩,
  ⟨some (.p2 .d0 .d6), (.mv (.t (.p2 .d0 .d5))), none⟩,
  ⟨some (.p2 .d0 .d7), (.fa (.t (.p2 .d0 .d1)) 0), some ((.p2 .d0 .d6), false)⟩,
  ⟨some (.p2 .d0 .d8), (.ld1 (.t (.p2 .d0 .d7))), some ((.p2 .d0 .d6), false)⟩,
  ⟨some (.p2 .d0 .d9), (.eql (.cell (.int .i64)) (.t (.p2 .d0 .d8)) (.k (.i (.ofNat 32)))), some ((.p2 .d0 .d6), false)⟩,
  ⟨some (.p2 .d0 .d10), (.mv (.t (.p2 .d0 .d9))), some ((.p2 .d0 .d6), false)⟩,
  ⟨some (.p2 .d0 .d11), (.fa (.t (.p2 .d0 .d1)) 4), some ((.p2 .d0 .d10), true)⟩,
  ⟨some (.p2 .d0 .d12), (.ld1 (.t (.p2 .d0 .d11))), some ((.p2 .d0 .d10), true)⟩,
  ⟨some (.p2 .d0 .d13), (.eql (.cell .str) (.t (.p2 .d0 .d12)) (.k (.str 5 500068610672))), some ((.p2 .d0 .d10), true)⟩,
  ⟨some (.p2 .d0 .d14), (.mv (.t (.p2 .d0 .d13))), some ((.p2 .d0 .d10), true)⟩,
  ⟨some (.p2 .d0 .d15), (.fa (.t (.p2 .d0 .d1)) 4), some ((.p2 .d0 .d14), false)⟩,
  ⟨some (.p2 .d1 .d0), (.ld1 (.t (.p2 .d0 .d15))), some ((.p2 .d0 .d14), false)⟩,
  ⟨some (.p2 .d1 .d1), (.eql (.cell .str) (.t (.p2 .d1 .d0)) (.k (.str 5 426970603888))), some ((.p2 .d0 .d14), false)⟩,
  ⟨some (.p2 .d1 .d2), (.pick (.t (.p2 .d0 .d14)) (.k (.bool true)) (.t (.p2 .d1 .d1))), some ((.p2 .d0 .d10), true)⟩,
  ⟨some (.p2 .d1 .d3), (.pick (.t (.p2 .d0 .d10)) (.t (.p2 .d1 .d2)) (.k (.bool false))), some ((.p2 .d0 .d6), false)⟩,
  ⟨some (.p2 .d1 .d4), (.pick (.t (.p2 .d0 .d6)) (.k (.bool true)) (.t (.p2 .d1 .d3))), none⟩,
  ⟨some (.p2 .d0 .d2), (.mv (.t (.p2 .d1 .d4))), none⟩]) .ret)), [.tmp (.p2 .d0 .d2)]⟩
def cf192 : CF := ⟨192, true, (.seq (.reg [
  ⟨some (.p2 .d0 .d2), (.alloc 43 [(.i (.ofNat 0)), (.i (.ofNat 0)), (.i (.ofNat 0)), (.i (.ofNat 0)), (.str 0 0), .nils]), none⟩]) (.seq (.reg [
  ⟨some (.p2 .d0 .d3), (.ld1 (.t (.p2 .d0 .d0))), none⟩,
  ⟨some (.p2 .d0 .d4), (.ldn 6 (.t (.p2 .d0 .d1))), none⟩,
  ⟨some (.p2 .d0 .d5), (.call ⟨149, .d0, .d9, .d5⟩ [(.t (.p2 .d0 .d3)), (.t (.p2 .d0 .d4)), (.k (.bool true))]), none⟩,
  ⟨none, (.st 6 (.t (.p2 .d0 .d2)) (.t (.p2 .d0 .d5))), none⟩]) .ret)), [.cell 6 true (.p2 .d0 .d2)]⟩
def cf193 : CF := ⟨193, true, (.seq (.reg [
  ⟨some (.p2 .d0 .d1), (.alloc 43 [(.i (.ofNat 0)), (.i (.ofNat 0)), (.i (.ofNat 0)), (.i (.ofNat 0)), (.str 0 0), .nils]), none⟩]) (.seq (.dreg [
  ⟨0, ⟨some (.p2 .d0 .d2), (.ld1 (.t (.p2 .d0 .d0))), none⟩, .rd, 1⟩,
  ⟨1, ⟨some (.p2 .d0 .d3), (.ld1 (.t (.p2 .d0 .d0))), none⟩, .rd, 0⟩,
  ⟨2, ⟨some (.p2 .d0 .d4), (.call ⟨148, .d0, .d9, .d4⟩ [(.t (.p2 .d0 .d3))]), none⟩, .ev, 0⟩,
  ⟨3, ⟨some (.p2 .d0 .d5), (.call ⟨149, .d0, .d9, .d5⟩ [(.t (.p2 .d0 .d2)), (.t (.p2 .d0 .d4)), (.k (.bool false))]), none⟩, .ev, 1⟩,
  ⟨4, ⟨none, (.st 6 (.t (.p2 .d0 .d1)) (.t (.p2 .d0 .d5))), none⟩, .ev, 2⟩]) .ret)), [.cell 6 true (.p2 .d0 .d1)]⟩
def cf194 : CF := ⟨194, true, (.seq (.reg [
  ⟨some (.p2 .d0 .d1), (.box 80 4 (.t (.p2 .d0 .d0))), none⟩,
  ⟨some (.p2 .d0 .d2), (.mv (.k (.i (.ofNat 0)))), none⟩]) (.seq (.seq (.reg [
  ⟨some (.p2 .d0 .d3), (.fa (.t (.p2 .d0 .d1)) 0), none⟩,
  ⟨some (.p2 .d0 .d4), (.ld1 (.t (.p2 .d0 .d3))), none⟩]) (.block 0 (.seq (.reg [
  ⟨some (.p2 .d0 .d6), (.eql (.cell (.int .i64)) (.t (.p2 .d0 .d4)) (.k (.i (.ofNat 3)))), none⟩,
  ⟨some (.p2 .d0 .d5), (.mv (.t (.p2 .d0 .d6))), none⟩]) (.cond (.t (.p2 .d0 .d5)) (.seq (.reg [
  ⟨some (.p2 .d0 .d2), (.mv (.k (.i (.ofNat 21)))), none⟩]) .ret) (.seq (.reg [
  ⟨some (.p2 .d0 .d8), (.eql (.cell (.int .i64)) (.t (.p2 .d0 .d4)) (.k (.i (.ofNat 4)))), none⟩,
  ⟨some (.p2 .d0 .d7), (.mv (.t (.p2 .d0 .d8))), none⟩]) (.cond (.t (.p2 .d0 .d7)) (.seq (.reg [
  ⟨some (.p2 .d0 .d2), (.mv (.k (.i (.ofNat 22)))), none⟩]) .ret) (.seq (.reg [
  ⟨some (.p2 .d0 .d10), (.eql (.cell (.int .i64)) (.t (.p2 .d0 .d4)) (.k (.i (.ofNat 5)))), none⟩,
  ⟨some (.p2 .d0 .d9), (.mv (.t (.p2 .d0 .d10))), none⟩]) (.cond (.t (.p2 .d0 .d9)) (.seq (.reg [
  ⟨some (.p2 .d0 .d2), (.mv (.k (.i (.ofNat 23)))), none⟩]) .ret) (.seq (.reg [
  ⟨some (.p2 .d0 .d12), (.eql (.cell (.int .i64)) (.t (.p2 .d0 .d4)) (.k (.i (.ofNat 1)))), none⟩,
  ⟨some (.p2 .d0 .d11), (.mv (.t (.p2 .d0 .d12))), none⟩]) (.cond (.t (.p2 .d0 .d11)) (.seq (.reg [
  ⟨some (.p2 .d0 .d2), (.mv (.k (.i (.ofNat 25)))), none⟩]) .ret) (.seq (.reg [
  ⟨some (.p2 .d0 .d14), (.eql (.cell (.int .i64)) (.t (.p2 .d0 .d4)) (.k (.i (.ofNat 2)))), none⟩,
  ⟨some (.p2 .d0 .d13), (.mv (.t (.p2 .d0 .d14))), none⟩]) (.cond (.t (.p2 .d0 .d13)) (.seq (.reg [
  ⟨some (.p2 .d0 .d15), (.fa (.t (.p2 .d0 .d1)) 1), none⟩,
  ⟨some (.p2 .d1 .d0), (.ld1 (.t (.p2 .d0 .d15))), none⟩,
  ⟨some (.p2 .d1 .d1), (.eql (.cell .str) (.t (.p2 .d1 .d0)) (.k (.str 4 1702195828))), none⟩,
  ⟨some (.p2 .d1 .d2), (.mv (.t (.p2 .d1 .d1))), none⟩,
  ⟨some (.p2 .d1 .d3), (.fa (.t (.p2 .d0 .d1)) 1), some ((.p2 .d1 .d2), false)⟩,
  ⟨some (.p2 .d1 .d4), (.ld1 (.t (.p2 .d1 .d3))), some ((.p2 .d1 .d2), false)⟩,
  ⟨some (.p2 .d1 .d5), (.eql (.cell .str) (.t (.p2 .d1 .d4)) (.k (.str 5 435728179558))), some ((.p2 .d1 .d2), false)⟩,
  ⟨some (.p2 .d1 .d6), (.pick (.t (.p2 .d1 .d2)) (.k (.bool true)) (.t (.p2 .d1 .d5))), none⟩]) (.cond (.t (.p2 .d1 .d6)) (.seq (.reg [
  ⟨some (.p2 .d0 .d2), (.mv (.k (.i (.ofNat 24)))), none⟩]) .ret) .skip)) .skip)))))))))))) (.seq (.reg [
  ⟨some (.p2 .d0 .d2), (.mv (.k (.i (.ofNat 0)))), none⟩]) .ret))), [.tmp (.p2 .d0 .d2)]⟩
def e1 : N (Option CF) := ⟨none,none,none,none,none,none,none,none,none,none,none,none,none,none,none,none⟩
def e2 : N2 (Option CF) := ⟨e1,e1,e1,e1,e1,e1,e1,e1,e1,e1,e1,e1,e1,e1,e1,e1⟩
def tab : N3 (Option CF) := ⟨⟨⟨none, none, none, some cf3, some cf4, some cf5, some cf6, some cf7, some cf8, some cf9, some cf10, some cf11, some cf12, some cf13, some cf14, some cf15⟩, ⟨some cf16, some cf17, some cf18, some cf19, some cf20, some cf21, some cf22, some cf23, some cf24, some cf25, some cf26, some cf27, some cf28, some cf29, some cf30, some cf31⟩, ⟨some cf32, some cf33, some cf34, some cf35, some cf36, some cf37, some cf38, some cf39, some cf40, some cf41, some cf42, some cf43, some cf44, some cf45, some cf46, none⟩, ⟨some cf48, some cf49, some cf50, some cf51, some cf52, some cf53, some cf54, some cf55, some cf56, some cf57, some cf58, some cf59, some cf60, some cf61, some cf62, some cf63⟩, ⟨some cf64, some cf65, some cf66, some cf67, some cf68, some cf69, some cf70, some cf71, some cf72, some cf73, some cf74, some cf75, none, none, some cf78, some cf79⟩, ⟨some cf80, some cf81, some cf82, some cf83, some cf84, none, some cf86, some cf87, some cf88, some cf89, some cf90, some cf91, some cf92, some cf93, some cf94, some cf95⟩, ⟨some cf96, some cf97, some cf98, some cf99, some cf100, some cf101, some cf102, some cf103, none, none, none, none, none, none, some cf110, some cf111⟩, ⟨some cf112, some cf113, some cf114, none, none, some cf117, none, some cf119, some cf120, some cf121, some cf122, some cf123, some cf124, some cf125, some cf126, some cf127⟩, ⟨some cf128, none, none, none, none, some cf133, some cf134, none, some cf136, some cf137, none, none, some cf140, none, none, some cf143⟩, ⟨some cf144, some cf145, some cf146, some cf147, some cf148, some cf149, some cf150, none, none, none, none, none, none, none, none, some cf159⟩, ⟨some cf160, none, some cf162, none, none, none, none, none, none, some cf169, some cf170, some cf171, some cf172, some cf173, some cf174, some cf175⟩, ⟨some cf176, some cf177, some cf178, none, none, none, none, none, none, none, none, none, none, none, none, none⟩, ⟨some cf192, some cf193, some cf194, none, none, none, none, none, none, none, none, none, none, none, none, none⟩, e1, e1, e1⟩, e2, e2, e2, e2, e2, e2, e2, e2, e2, e2, e2, e2, e2, e2, e2⟩
noncomputable def tabG (i : FId) : Option CF := N.getF i.c (N.getF i.b (N.getF i.a tab))
def r1 : N (List AV) := ⟨[],[],[],[],[],[],[],[],[],[],[],[],[],[],[],[]⟩
def r2 : N2 (List AV) := ⟨r1,r1,r1,r1,r1,r1,r1,r1,r1,r1,r1,r1,r1,r1,r1,r1⟩
def spO : AO := (.rows 120 1 256 256 ⟨⟨⟨[(.u8 0)], [(.u8 0)], [(.u8 0)], [(.u8 0)], [(.u8 0)], [(.u8 0)], [(.u8 0)], [(.u8 0)], [(.u8 0)], [(.u8 1)], [(.u8 1)], [(.u8 1)], [(.u8 1)], [(.u8 1)], [(.u8 0)], [(.u8 0)]⟩, ⟨[(.u8 0)], [(.u8 0)], [(.u8 0)], [(.u8 0)], [(.u8 0)], [(.u8 0)], [(.u8 0)], [(.u8 0)], [(.u8 0)], [(.u8 0)], [(.u8 0)], [(.u8 0)], [(.u8 0)], [(.u8 0)], [(.u8 0)], [(.u8 0)]⟩, ⟨[(.u8 1)], [(.u8 0)], [(.u8 0)], [(.u8 0)], [(.u8 0)], [(.u8 0)], [(.u8 0)], [(.u8 0)], [(.u8 0)], [(.u8 0)], [(.u8 0)], [(.u8 0)], [(.u8 0)], [(.u8 0)], [(.u8 0)], [(.u8 0)]⟩, ⟨[(.u8 0)], [(.u8 0)], [(.u8 0)], [(.u8 0)], [(.u8 0)], [(.u8 0)], [(.u8 0)], [(.u8 0)], [(.u8 0)], [(.u8 0)], [(.u8 0)], [(.u8 0)], [(.u8 0)], [(.u8 0)], [(.u8 0)], [(.u8 0)]⟩, ⟨[(.u8 0)], [(.u8 0)], [(.u8 0)], [(.u8 0)], [(.u8 0)], [(.u8 0)], [(.u8 0)], [(.u8 0)], [(.u8 0)], [(.u8 0)], [(.u8 0)], [(.u8 0)], [(.u8 0)], [(.u8 0)], [(.u8 0)], [(.u8 0)]⟩, ⟨[(.u8 0)], [(.u8 0)], [(.u8 0)], [(.u8 0)], [(.u8 0)], [(.u8 0)], [(.u8 0)], [(.u8 0)], [(.u8 0)], [(.u8 0)], [(.u8 0)], [(.u8 0)], [(.u8 0)], [(.u8 0)], [(.u8 0)], [(.u8 0)]⟩, ⟨[(.u8 0)], [(.u8 0)], [(.u8 0)], [(.u8 0)], [(.u8 0)], [(.u8 0)], [(.u8 0)], [(.u8 0)], [(.u8 0)], [(.u8 0)], [(.u8 0)], [(.u8 0)], [(.u8 0)], [(.u8 0)], [(.u8 0)], [(.u8 0)]⟩, ⟨[(.u8 0)], [(.u8 0)], [(.u8 0)], [(.u8 0)], [(.u8 0)], [(.u8 0)], [(.u8 0)], [(.u8 0)], [(.u8 0)], [(.u8 0)], [(.u8 0)], [(.u8 0)], [(.u8 0)], [(.u8 0)], [(.u8 0)], [(.u8 0)]⟩, ⟨[(.u8 0)], [(.u8 0)], [(.u8 0)], [(.u8 0)], [(.u8 0)], [(.u8 0)], [(.u8 0)], [(.u8 0)], [(.u8 0)], [(.u8 0)], [(.u8 0)], [(.u8 0)], [(.u8 0)], [(.u8 0)], [(.u8 0)], [(.u8 0)]⟩, ⟨[(.u8 0)], [(.u8 0)], [(.u8 0)], [(.u8 0)], [(.u8 0)], [(.u8 0)], [(.u8 0)], [(.u8 0)], [(.u8 0)], [(.u8 0)], [(.u8 0)], [(.u8 0)], [(.u8 0)], [(.u8 0)], [(.u8 0)], [(.u8 0)]⟩, ⟨[(.u8 0)], [(.u8 0)], [(.u8 0)], [(.u8 0)], [(.u8 0)], [(.u8 0)], [(.u8 0)], [(.u8 0)], [(.u8 0)], [(.u8 0)], [(.u8 0)], [(.u8 0)], [(.u8 0)], [(.u8 0)], [(.u8 0)], [(.u8 0)]⟩, ⟨[(.u8 0)], [(.u8 0)], [(.u8 0)], [(.u8 0)], [(.u8 0)], [(.u8 0)], [(.u8 0)], [(.u8 0)], [(.u8 0)], [(.u8 0)], [(.u8 0)], [(.u8 0)], [(.u8 0)], [(.u8 0)], [(.u8 0)], [(.u8 0)]⟩, ⟨[(.u8 0)], [(.u8 0)], [(.u8 0)], [(.u8 0)], [(.u8 0)], [(.u8 0)], [(.u8 0)], [(.u8 0)], [(.u8 0)], [(.u8 0)], [(.u8 0)], [(.u8 0)], [(.u8 0)], [(.u8 0)], [(.u8 0)], [(.u8 0)]⟩, ⟨[(.u8 0)], [(.u8 0)], [(.u8 0)], [(.u8 0)], [(.u8 0)], [(.u8 0)], [(.u8 0)], [(.u8 0)], [(.u8 0)], [(.u8 0)], [(.u8 0)], [(.u8 0)], [(.u8 0)], [(.u8 0)], [(.u8 0)], [(.u8 0)]⟩, ⟨[(.u8 0)], [(.u8 0)], [(.u8 0)], [(.u8 0)], [(.u8 0)], [(.u8 0)], [(.u8 0)], [(.u8 0)], [(.u8 0)], [(.u8 0)], [(.u8 0)], [(.u8 0)], [(.u8 0)], [(.u8 0)], [(.u8 0)], [(.u8 0)]⟩, ⟨[(.u8 0)], [(.u8 0)], [(.u8 0)], [(.u8 0)], [(.u8 0)], [(.u8 0)], [(.u8 0)], [(.u8 0)], [(.u8 0)], [(.u8 0)], [(.u8 0)], [(.u8 0)], [(.u8 0)], [(.u8 0)], [(.u8 0)], [(.u8 0)]⟩⟩, r2, r2, r2, r2, r2, r2, r2, r2, r2, r2, r2, r2, r2, r2, r2⟩)
def foot : List (Id × AO) := [(⟨.d15, .d0, .d0, .d1⟩, spO)]
end Xv.Sk
