/- A part of the proof of 'ScopeKnownCardSaid': the compiled functions, the answers found by evaluation, and what follows of them. There is no further condition. -/
import Derived.Test.YtfiflajggimmkaaGreatDoorX06
namespace Xv.Sk
open Xv
set_option maxRecDepth 100000
theorem t11z0 : chkE en11z0 (goX mem2 cut2 tabG 1000000 ⟨11, .d0, .d0, .d11⟩ en11z0.args (entH en11z0) .done) = true := by decide +kernel
end Xv.Sk

namespace Xv.Sk
open Xv
set_option maxRecDepth 100000
theorem t11z1 : chkE en11z1 (goX mem2 cut2 tabG 1000000 ⟨11, .d0, .d0, .d11⟩ en11z1.args (entH en11z1) .done) = true := by decide +kernel
end Xv.Sk

namespace Xv.Sk
open Xv
set_option maxRecDepth 100000
theorem t11z10 : chkE en11z10 (goX mem2 cut2 tabG 1000000 ⟨11, .d0, .d0, .d11⟩ en11z10.args (entH en11z10) .done) = true := by decide +kernel
end Xv.Sk

namespace Xv.Sk
open Xv
set_option maxRecDepth 100000
theorem t11z11 : chkE en11z11 (goX mem2 cut2 tabG 1000000 ⟨11, .d0, .d0, .d11⟩ en11z11.args (entH en11z11) .done) = true := by decide +kernel
end Xv.Sk

namespace Xv.Sk
open Xv
set_option maxRecDepth 100000
theorem t11z2 : chkE en11z2 (goX mem2 cut2 tabG 1000000 ⟨11, .d0, .d0, .d11⟩ en11z2.args (entH en11z2) .done) = true := by decide +kernel
end Xv.Sk

namespace Xv.Sk
open Xv
set_option maxRecDepth 100000
theorem t11z3 : chkE en11z3 (goX mem2 cut2 tabG 1000000 ⟨11, .d0, .d0, .d11⟩ en11z3.args (entH en11z3) .done) = true := by decide +kernel
end Xv.Sk

namespace Xv.Sk
open Xv
set_option maxRecDepth 100000
theorem t11z4 : chkE en11z4 (goX mem2 cut2 tabG 1000000 ⟨11, .d0, .d0, .d11⟩ en11z4.args (entH en11z4) .done) = true := by decide +kernel
end Xv.Sk

namespace Xv.Sk
open Xv
set_option maxRecDepth 100000
theorem t11z5 : chkE en11z5 (goX mem2 cut2 tabG 1000000 ⟨11, .d0, .d0, .d11⟩ en11z5.args (entH en11z5) .done) = true := by decide +kernel
end Xv.Sk
