/- A part of the proof of 'CheckKnownCardSaid': the compiled functions, the answers found by evaluation, and what follows of them. There is no further condition. -/
import Derived.Test.YtplihffoohdjjaaGreatDoorX07
namespace Xv.Ck
open Xv
set_option maxRecDepth 100000
theorem t54z0 : chkE en54z0 (goX mem1 cut1 tabG 1000000 fn54 en54z0.args (entH en54z0) .done) = true := by decide +kernel
end Xv.Ck

namespace Xv.Ck
open Xv
set_option maxRecDepth 100000
theorem t54z1 : chkE en54z1 (goX mem1 cut1 tabG 1000000 fn54 en54z1.args (entH en54z1) .done) = true := by decide +kernel
end Xv.Ck

namespace Xv.Ck
open Xv
set_option maxRecDepth 100000
theorem t54z10 : chkE en54z10 (goX mem1 cut1 tabG 1000000 fn54 en54z10.args (entH en54z10) .done) = true := by decide +kernel
end Xv.Ck

namespace Xv.Ck
open Xv
set_option maxRecDepth 100000
theorem t54z11 : chkE en54z11 (goX mem1 cut1 tabG 1000000 fn54 en54z11.args (entH en54z11) .done) = true := by decide +kernel
end Xv.Ck

namespace Xv.Ck
open Xv
set_option maxRecDepth 100000
theorem t54z12 : chkE en54z12 (goX mem1 cut1 tabG 1000000 fn54 en54z12.args (entH en54z12) .done) = true := by decide +kernel
end Xv.Ck

namespace Xv.Ck
open Xv
set_option maxRecDepth 100000
theorem t54z13 : chkE en54z13 (goX mem1 cut1 tabG 1000000 fn54 en54z13.args (entH en54z13) .done) = true := by decide +kernel
end Xv.Ck

namespace Xv.Ck
open Xv
set_option maxRecDepth 100000
theorem t54z14 : chkE en54z14 (goX mem1 cut1 tabG 1000000 fn54 en54z14.args (entH en54z14) .done) = true := by decide +kernel
end Xv.Ck

namespace Xv.Ck
open Xv
set_option maxRecDepth 100000
theorem t54z15 : chkE en54z15 (goX mem1 cut1 tabG 1000000 fn54 en54z15.args (entH en54z15) .done) = true := by decide +kernel
end Xv.Ck
