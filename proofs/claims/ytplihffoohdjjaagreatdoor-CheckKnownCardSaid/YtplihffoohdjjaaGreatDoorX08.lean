/- A part of the proof of 'CheckKnownCardSaid': the compiled functions, the answers found by evaluation, and what follows of them. There is no further condition. -/
import Derived.Test.YtplihffoohdjjaaGreatDoorX07
namespace Xv.Ck
open Xv
set_option maxRecDepth 100000
theorem t211z0 : chkE en211z0 (goX mem0 cut0 tabG 1000000 fn211 en211z0.args (entH en211z0) .done) = true := by decide +kernel
end Xv.Ck

namespace Xv.Ck
open Xv
set_option maxRecDepth 100000
theorem t211z1 : chkE en211z1 (goX mem0 cut0 tabG 1000000 fn211 en211z1.args (entH en211z1) .done) = true := by decide +kernel
end Xv.Ck

namespace Xv.Ck
open Xv
set_option maxRecDepth 100000
theorem t27z0 : chkE en27z0 (goX mem1 cut1 tabG 1000000 fn27 en27z0.args (entH en27z0) .done) = true := by decide +kernel
end Xv.Ck

namespace Xv.Ck
open Xv
set_option maxRecDepth 100000
theorem t27z1 : chkE en27z1 (goX mem1 cut1 tabG 1000000 fn27 en27z1.args (entH en27z1) .done) = true := by decide +kernel
end Xv.Ck

namespace Xv.Ck
open Xv
set_option maxRecDepth 100000
theorem t3z0 : chkE en3z0 (goX mem3 cut3 tabG 1000000 fn3 en3z0.args (entH en3z0) .done) = true := by decide +kernel
end Xv.Ck

namespace Xv.Ck
open Xv
set_option maxRecDepth 100000
theorem t4z0 : chkE en4z0 (goX mem2 cut2 tabG 1000000 fn4 en4z0.args (entH en4z0) .done) = true := by decide +kernel
end Xv.Ck

namespace Xv.Ck
open Xv
set_option maxRecDepth 100000
theorem t4z1 : chkE en4z1 (goX mem2 cut2 tabG 1000000 fn4 en4z1.args (entH en4z1) .done) = true := by decide +kernel
end Xv.Ck

namespace Xv.Ck
open Xv
set_option maxRecDepth 100000
theorem t4z10 : chkE en4z10 (goX mem2 cut2 tabG 1000000 fn4 en4z10.args (entH en4z10) .done) = true := by decide +kernel
end Xv.Ck
