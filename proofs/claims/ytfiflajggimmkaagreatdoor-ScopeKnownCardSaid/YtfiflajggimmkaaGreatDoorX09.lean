/- A part of the proof of 'ScopeKnownCardSaid': the compiled functions, the answers found by evaluation, and what follows of them. There is no further condition. -/
import Derived.Test.YtfiflajggimmkaaGreatDoorX08
namespace Xv.Sk
open Xv
set_option maxRecDepth 100000
theorem t13z2 : chkE en13z2 (goX mem1 cut1 tabG 1000000 ⟨13, .d0, .d0, .d13⟩ en13z2.args (entH en13z2) .done) = true := by decide +kernel
end Xv.Sk

namespace Xv.Sk
open Xv
set_option maxRecDepth 100000
theorem t30z0 : chkE en30z0 (goX mem1 cut1 tabG 1000000 ⟨30, .d0, .d1, .d14⟩ en30z0.args (entH en30z0) .done) = true := by decide +kernel
end Xv.Sk

namespace Xv.Sk
open Xv
set_option maxRecDepth 100000
theorem t30z1 : chkE en30z1 (goX mem1 cut1 tabG 1000000 ⟨30, .d0, .d1, .d14⟩ en30z1.args (entH en30z1) .done) = true := by decide +kernel
end Xv.Sk

namespace Xv.Sk
open Xv
set_option maxRecDepth 100000
theorem t30z10 : chkE en30z10 (goX mem1 cut1 tabG 1000000 ⟨30, .d0, .d1, .d14⟩ en30z10.args (entH en30z10) .done) = true := by decide +kernel
end Xv.Sk

namespace Xv.Sk
open Xv
set_option maxRecDepth 100000
theorem t30z11 : chkE en30z11 (goX mem1 cut1 tabG 1000000 ⟨30, .d0, .d1, .d14⟩ en30z11.args (entH en30z11) .done) = true := by decide +kernel
end Xv.Sk

namespace Xv.Sk
open Xv
set_option maxRecDepth 100000
theorem t30z12 : chkE en30z12 (goX mem1 cut1 tabG 1000000 ⟨30, .d0, .d1, .d14⟩ en30z12.args (entH en30z12) .done) = true := by decide +kernel
end Xv.Sk

namespace Xv.Sk
open Xv
set_option maxRecDepth 100000
theorem t30z13 : chkE en30z13 (goX mem1 cut1 tabG 1000000 ⟨30, .d0, .d1, .d14⟩ en30z13.args (entH en30z13) .done) = true := by decide +kernel
end Xv.Sk

namespace Xv.Sk
open Xv
set_option maxRecDepth 100000
theorem t30z14 : chkE en30z14 (goX mem1 cut1 tabG 1000000 ⟨30, .d0, .d1, .d14⟩ en30z14.args (entH en30z14) .done) = true := by decide +kernel
end Xv.Sk
