/- A part of the proof of 'CheckKnownCardSaid': the compiled functions, the answers found by evaluation, and what follows of them. There is no further condition. -/
import Derived.Test.YtplihffoohdjjaaGreatDoorX07
namespace Xv.Ck
open Xv
set_option maxRecDepth 100000
theorem t54z38 : chkE en54z38 (goX mem1 cut1 tabG 1000000 fn54 en54z38.args (entH en54z38) .done) = true := by decide +kernel
end Xv.Ck

namespace Xv.Ck
open Xv
set_option maxRecDepth 100000
theorem t54z39 : chkE en54z39 (goX mem1 cut1 tabG 1000000 fn54 en54z39.args (entH en54z39) .done) = true := by decide +kernel
end Xv.Ck

namespace Xv.Ck
open Xv
set_option maxRecDepth 100000
theorem t54z4 : chkE en54z4 (goX mem1 cut1 tabG 1000000 fn54 en54z4.args (entH en54z4) .done) = true := by decide +kernel
end Xv.Ck

namespace Xv.Ck
open Xv
set_option maxRecDepth 100000
theorem t54z40 : chkE en54z40 (goX mem1 cut1 tabG 1000000 fn54 en54z40.args (entH en54z40) .done) = true := by decide +kernel
end Xv.Ck

namespace Xv.Ck
open Xv
set_option maxRecDepth 100000
theorem t54z5 : chkE en54z5 (goX mem1 cut1 tabG 1000000 fn54 en54z5.args (entH en54z5) .done) = true := by decide +kernel
end Xv.Ck

namespace Xv.Ck
open Xv
set_option maxRecDepth 100000
theorem t54z6 : chkE en54z6 (goX mem1 cut1 tabG 1000000 fn54 en54z6.args (entH en54z6) .done) = true := by decide +kernel
end Xv.Ck

namespace Xv.Ck
open Xv
set_option maxRecDepth 100000
theorem t54z7 : chkE en54z7 (goX mem1 cut1 tabG 1000000 fn54 en54z7.args (entH en54z7) .done) = true := by decide +kernel
end Xv.Ck

namespace Xv.Ck
open Xv
set_option maxRecDepth 100000
theorem t54z8 : chkE en54z8 (goX mem1 cut1 tabG 1000000 fn54 en54z8.args (entH en54z8) .done) = true := by decide +kernel
end Xv.Ck
