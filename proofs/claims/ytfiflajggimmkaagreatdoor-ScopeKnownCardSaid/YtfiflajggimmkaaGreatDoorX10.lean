/- A part of the proof of 'ScopeKnownCardSaid': the compiled functions, the answers found by evaluation, and what follows of them. There is no further condition. -/
import Derived.Test.YtfiflajggimmkaaGreatDoorX09
namespace Xv.Sk
open Xv
set_option maxRecDepth 100000
theorem t30z15 : chkE en30z15 (goX mem1 cut1 tabG 1000000 ⟨30, .d0, .d1, .d14⟩ en30z15.args (entH en30z15) .done) = true := by decide +kernel
end Xv.Sk

namespace Xv.Sk
open Xv
set_option maxRecDepth 100000
theorem t30z16 : chkE en30z16 (goX mem1 cut1 tabG 1000000 ⟨30, .d0, .d1, .d14⟩ en30z16.args (entH en30z16) .done) = true := by decide +kernel
end Xv.Sk

namespace Xv.Sk
open Xv
set_option maxRecDepth 100000
theorem t30z17 : chkE en30z17 (goX mem1 cut1 tabG 1000000 ⟨30, .d0, .d1, .d14⟩ en30z17.args (entH en30z17) .done) = true := by decide +kernel
end Xv.Sk

namespace Xv.Sk
open Xv
set_option maxRecDepth 100000
theorem t30z18 : chkE en30z18 (goX mem1 cut1 tabG 1000000 ⟨30, .d0, .d1, .d14⟩ en30z18.args (entH en30z18) .done) = true := by decide +kernel
end Xv.Sk

namespace Xv.Sk
open Xv
set_option maxRecDepth 100000
theorem t30z19 : chkE en30z19 (goX mem1 cut1 tabG 1000000 ⟨30, .d0, .d1, .d14⟩ en30z19.args (entH en30z19) .done) = true := by decide +kernel
end Xv.Sk

namespace Xv.Sk
open Xv
set_option maxRecDepth 100000
theorem t30z2 : chkE en30z2 (goX mem1 cut1 tabG 1000000 ⟨30, .d0, .d1, .d14⟩ en30z2.args (entH en30z2) .done) = true := by decide +kernel
end Xv.Sk

namespace Xv.Sk
open Xv
set_option maxRecDepth 100000
theorem t30z3 : chkE en30z3 (goX mem1 cut1 tabG 1000000 ⟨30, .d0, .d1, .d14⟩ en30z3.args (entH en30z3) .done) = true := by decide +kernel
end Xv.Sk

namespace Xv.Sk
open Xv
set_option maxRecDepth 100000
theorem t30z4 : chkE en30z4 (goX mem1 cut1 tabG 1000000 ⟨30, .d0, .d1, .d14⟩ en30z4.args (entH en30z4) .done) = true := by decide +kernel
end Xv.Sk
