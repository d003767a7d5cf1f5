/- A part of the proof of 'CheckKnownCardSaid': the compiled functions, the answers found by evaluation, and what follows of them. There is no further condition. -/
import Derived.Test.YtplihffoohdjjaaGreatDoorX07
namespace Xv.Ck
open Xv
set_option maxRecDepth 100000
theorem t54z30 : chkE en54z30 (goX mem1 cut1 tabG 1000000 fn54 en54z30.args (entH en54z30) .done) = true := by decide +kernel
end Xv.Ck

namespace Xv.Ck
open Xv
set_option maxRecDepth 100000
theorem t54z31 : chkE en54z31 (goX mem1 cut1 tabG 1000000 fn54 en54z31.args (entH en54z31) .done) = true := by decide +kernel
end Xv.Ck

namespace Xv.Ck
open Xv
set_option maxRecDepth 100000
theorem t54z32 : chkE en54z32 (goX mem1 cut1 tabG 1000000 fn54 en54z32.args (entH en54z32) .done) = true := by decide +kernel
end Xv.Ck

namespace Xv.Ck
open Xv
set_option maxRecDepth 100000
theorem t54z33 : chkE en54z33 (goX mem1 cut1 tabG 1000000 fn54 en54z33.args (entH en54z33) .done) = true := by decide +kernel
end Xv.Ck

namespace Xv.Ck
open Xv
set_option maxRecDepth 100000
theorem t54z34 : chkE en54z34 (goX mem1 cut1 tabG 1000000 fn54 en54z34.args (entH en54z34) .done) = true := by decide +kernel
end Xv.Ck

namespace Xv.Ck
open Xv
set_option maxRecDepth 100000
theorem t54z35 : chkE en54z35 (goX mem1 cut1 tabG 1000000 fn54 en54z35.args (entH en54z35) .done) = true := by decide +kernel
end Xv.Ck

namespace Xv.Ck
open Xv
set_option maxRecDepth 100000
theorem t54z36 : chkE en54z36 (goX mem1 cut1 tabG 1000000 fn54 en54z36.args (entH en54z36) .done) = true := by decide +kernel
end Xv.Ck

namespace Xv.Ck
open Xv
set_option maxRecDepth 100000
theorem t54z37 : chkE en54z37 (goX mem1 cut1 tabG 1000000 fn54 en54z37.args (entH en54z37) .done) = true := by decide +kernel
end Xv.Ck
