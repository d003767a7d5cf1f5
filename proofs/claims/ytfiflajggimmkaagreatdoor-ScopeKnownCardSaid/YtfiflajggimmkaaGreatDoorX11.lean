/- A part of the proof of 'ScopeKnownCardSaid': the compiled functions, the answers found by evaluation, and what follows of them. There is no further condition. -/
import Derived.Test.YtfiflajggimmkaaGreatDoorX10
namespace Xv.Sk
open Xv
set_option maxRecDepth 100000
theorem t30z5 : chkE en30z5 (goX mem1 cut1 tabG 1000000 ⟨30, .d0, .d1, .d14⟩ en30z5.args (entH en30z5) .done) = true := by decide +kernel
end Xv.Sk

namespace Xv.Sk
open Xv
set_option maxRecDepth 100000
theorem t30z6 : chkE en30z6 (goX mem1 cut1 tabG 1000000 ⟨30, .d0, .d1, .d14⟩ en30z6.args (entH en30z6) .done) = true := by decide +kernel
end Xv.Sk

namespace Xv.Sk
open Xv
set_option maxRecDepth 100000
theorem t30z7 : chkE en30z7 (goX mem1 cut1 tabG 1000000 ⟨30, .d0, .d1, .d14⟩ en30z7.args (entH en30z7) .done) = true := by decide +kernel
end Xv.Sk

namespace Xv.Sk
open Xv
set_option maxRecDepth 100000
theorem t30z8 : chkE en30z8 (goX mem1 cut1 tabG 1000000 ⟨30, .d0, .d1, .d14⟩ en30z8.args (entH en30z8) .done) = true := by decide +kernel
end Xv.Sk

namespace Xv.Sk
open Xv
set_option maxRecDepth 100000
theorem t30z9 : chkE en30z9 (goX mem1 cut1 tabG 1000000 ⟨30, .d0, .d1, .d14⟩ en30z9.args (entH en30z9) .done) = true := by decide +kernel
end Xv.Sk

namespace Xv.Sk
open Xv
set_option maxRecDepth 100000
theorem t3z0 : chkE en3z0 (goX mem3 cut3 tabG 1000000 ⟨3, .d0, .d0, .d3⟩ en3z0.args (entH en3z0) .done) = true := by decide +kernel
end Xv.Sk

namespace Xv.Sk
open Xv
set_option maxRecDepth 100000
theorem t46z0 : chkE en46z0 (goX mem0 cut0 tabG 1000000 ⟨46, .d0, .d2, .d14⟩ en46z0.args (entH en46z0) .done) = true := by decide +kernel
end Xv.Sk

namespace Xv.Sk
open Xv
set_option maxRecDepth 100000
theorem t46z1 : chkE en46z1 (goX mem0 cut0 tabG 1000000 ⟨46, .d0, .d2, .d14⟩ en46z1.args (entH en46z1) .done) = true := by decide +kernel
end Xv.Sk
