/- A part of the proof of 'CheckKnownCardSaid': the compiled functions, the answers found by evaluation, and what follows of them. There is no further condition. -/
import Derived.Test.YtplihffoohdjjaaGreatDoorX07
namespace Xv.Ck
open Xv
set_option maxRecDepth 100000
theorem t54z16 : chkE en54z16 (goX mem1 cut1 tabG 1000000 fn54 en54z16.args (entH en54z16) .done) = true := by decide +kernel
end Xv.Ck

namespace Xv.Ck
open Xv
set_option maxRecDepth 100000
theorem t54z17 : chkE en54z17 (goX mem1 cut1 tabG 1000000 fn54 en54z17.args (entH en54z17) .done) = true := by decide +kernel
end Xv.Ck

namespace Xv.Ck
open Xv
set_option maxRecDepth 100000
theorem t54z18 : chkE en54z18 (goX mem1 cut1 tabG 1000000 fn54 en54z18.args (entH en54z18) .done) = true := by decide +kernel
end Xv.Ck

namespace Xv.Ck
open Xv
set_option maxRecDepth 100000
theorem t54z19 : chkE en54z19 (goX mem1 cut1 tabG 1000000 fn54 en54z19.args (entH en54z19) .done) = true := by decide +kernel
end Xv.Ck

namespace Xv.Ck
open Xv
set_option maxRecDepth 100000
theorem t54z2 : chkE en54z2 (goX mem1 cut1 tabG 1000000 fn54 en54z2.args (entH en54z2) .done) = true := by decide +kernel
end Xv.Ck

namespace Xv.Ck
open Xv
set_option maxRecDepth 100000
theorem t54z20 : chkE en54z20 (goX mem1 cut1 tabG 1000000 fn54 en54z20.args (entH en54z20) .done) = true := by decide +kernel
end Xv.Ck

namespace Xv.Ck
open Xv
set_option maxRecDepth 100000
theorem t54z21 : chkE en54z21 (goX mem1 cut1 tabG 1000000 fn54 en54z21.args (entH en54z21) .done) = true := by decide +kernel
end Xv.Ck

namespace Xv.Ck
open Xv
set_option maxRecDepth 100000
theorem t54z22 : chkE en54z22 (goX mem1 cut1 tabG 1000000 fn54 en54z22.args (entH en54z22) .done) = true := by decide +kernel
end Xv.Ck
