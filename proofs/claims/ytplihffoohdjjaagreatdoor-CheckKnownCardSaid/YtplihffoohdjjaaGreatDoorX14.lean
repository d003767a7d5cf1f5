/- A part of the proof of 'CheckKnownCardSaid': the compiled functions, the answers found by evaluation, and what follows of them. There is no further condition. -/
import Derived.Test.YtplihffoohdjjaaGreatDoorX07
namespace Xv.Ck
open Xv
set_option maxRecDepth 100000
theorem t54z23 : chkE en54z23 (goX mem1 cut1 tabG 1000000 fn54 en54z23.args (entH en54z23) .done) = true := by decide +kernel
end Xv.Ck

namespace Xv.Ck
open Xv
set_option maxRecDepth 100000
theorem t54z24 : chkE en54z24 (goX mem1 cut1 tabG 1000000 fn54 en54z24.args (entH en54z24) .done) = true := by decide +kernel
end Xv.Ck

namespace Xv.Ck
open Xv
set_option maxRecDepth 100000
theorem t54z25 : chkE en54z25 (goX mem1 cut1 tabG 1000000 fn54 en54z25.args (entH en54z25) .done) = true := by decide +kernel
end Xv.Ck

namespace Xv.Ck
open Xv
set_option maxRecDepth 100000
theorem t54z26 : chkE en54z26 (goX mem1 cut1 tabG 1000000 fn54 en54z26.args (entH en54z26) .done) = true := by decide +kernel
end Xv.Ck

namespace Xv.Ck
open Xv
set_option maxRecDepth 100000
theorem t54z27 : chkE en54z27 (goX mem1 cut1 tabG 1000000 fn54 en54z27.args (entH en54z27) .done) = true := by decide +kernel
end Xv.Ck

namespace Xv.Ck
open Xv
set_option maxRecDepth 100000
theorem t54z28 : chkE en54z28 (goX mem1 cut1 tabG 1000000 fn54 en54z28.args (entH en54z28) .done) = true := by decide +kernel
end Xv.Ck

namespace Xv.Ck
open Xv
set_option maxRecDepth 100000
theorem t54z29 : chkE en54z29 (goX mem1 cut1 tabG 1000000 fn54 en54z29.args (entH en54z29) .done) = true := by decide +kernel
end Xv.Ck

namespace Xv.Ck
open Xv
set_option maxRecDepth 100000
theorem t54z3 : chkE en54z3 (goX mem1 cut1 tabG 1000000 fn54 en54z3.args (entH en54z3) .done) = true := by decide +kernel
end Xv.Ck
