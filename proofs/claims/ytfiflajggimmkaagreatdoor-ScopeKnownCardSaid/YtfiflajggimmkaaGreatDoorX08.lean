/- A part of the proof of 'ScopeKnownCardSaid': the compiled functions, the answers found by evaluation, and what follows of them. There is no further condition. -/
import Derived.Test.YtfiflajggimmkaaGreatDoorX07
namespace Xv.Sk
open Xv
set_option maxRecDepth 100000
theorem t11z6 : chkE en11z6 (goX mem2 cut2 tabG 1000000 ⟨11, .d0, .d0, .d11⟩ en11z6.args (entH en11z6) .done) = true := by decide +kernel
end Xv.Sk

namespace Xv.Sk
open Xv
set_option maxRecDepth 100000
theorem t11z7 : chkE en11z7 (goX mem2 cut2 tabG 1000000 ⟨11, .d0, .d0, .d11⟩ en11z7.args (entH en11z7) .done) = true := by decide +kernel
end Xv.Sk

namespace Xv.Sk
open Xv
set_option maxRecDepth 100000
theorem t11z8 : chkE en11z8 (goX mem2 cut2 tabG 1000000 ⟨11, .d0, .d0, .d11⟩ en11z8.args (entH en11z8) .done) = true := by decide +kernel
end Xv.Sk

namespace Xv.Sk
open Xv
set_option maxRecDepth 100000
theorem t11z9 : chkE en11z9 (goX mem2 cut2 tabG 1000000 ⟨11, .d0, .d0, .d11⟩ en11z9.args (entH en11z9) .done) = true := by decide +kernel
end Xv.Sk

namespace Xv.Sk
open Xv
set_option maxRecDepth 100000
theorem t133z0 : chkE en133z0 (goX mem0 cut0 tabG 1000000 ⟨133, .d0, .d8, .d5⟩ en133z0.args (entH en133z0) .done) = true := by decide +kernel
end Xv.Sk

namespace Xv.Sk
open Xv
set_option maxRecDepth 100000
theorem t133z1 : chkE en133z1 (goX mem0 cut0 tabG 1000000 ⟨133, .d0, .d8, .d5⟩ en133z1.args (entH en133z1) .done) = true := by decide +kernel
end Xv.Sk

namespace Xv.Sk
open Xv
set_option maxRecDepth 100000
theorem t13z0 : chkE en13z0 (goX mem1 cut1 tabG 1000000 ⟨13, .d0, .d0, .d13⟩ en13z0.args (entH en13z0) .done) = true := by decide +kernel
end Xv.Sk

namespace Xv.Sk
open Xv
set_option maxRecDepth 100000
theorem t13z1 : chkE en13z1 (goX mem1 cut1 tabG 1000000 ⟨13, .d0, .d0, .d13⟩ en13z1.args (entH en13z1) .done) = true := by decide +kernel
end Xv.Sk
