/- A part of the proof of 'CheckKnownCardSaid': the compiled functions, the answers found by evaluation, and what follows of them. There is no further condition. -/
import Derived.Test.YtplihffoohdjjaaGreatDoorX07
namespace Xv.Ck
open Xv
set_option maxRecDepth 100000
theorem t54z9 : chkE en54z9 (goX mem1 cut1 tabG 1000000 fn54 en54z9.args (entH en54z9) .done) = true := by decide +kernel
end Xv.Ck

namespace Xv.Ck
open Xv
set_option maxRecDepth 100000
theorem t5z0 : chkE en5z0 (goX mem2 cut2 tabG 1000000 fn5 en5z0.args (entH en5z0) .done) = true := by decide +kernel
end Xv.Ck

namespace Xv.Ck
open Xv
set_option maxRecDepth 100000
theorem t5z1 : chkE en5z1 (goX mem2 cut2 tabG 1000000 fn5 en5z1.args (entH en5z1) .done) = true := by decide +kernel
end Xv.Ck

namespace Xv.Ck
open Xv
set_option maxRecDepth 100000
theorem t5z2 : chkE en5z2 (goX mem2 cut2 tabG 1000000 fn5 en5z2.args (entH en5z2) .done) = true := by decide +kernel
end Xv.Ck

namespace Xv.Ck
open Xv
set_option maxRecDepth 100000
theorem t5z3 : chkE en5z3 (goX mem2 cut2 tabG 1000000 fn5 en5z3.args (entH en5z3) .done) = true := by decide +kernel
end Xv.Ck

namespace Xv.Ck
open Xv
set_option maxRecDepth 100000
theorem t6z0 : chkE en6z0 (goX mem2 cut2 tabG 1000000 fn6 en6z0.args (entH en6z0) .done) = true := by decide +kernel
end Xv.Ck

namespace Xv.Ck
open Xv
set_option maxRecDepth 100000
theorem t6z1 : chkE en6z1 (goX mem2 cut2 tabG 1000000 fn6 en6z1.args (entH en6z1) .done) = true := by decide +kernel
end Xv.Ck

namespace Xv.Ck
open Xv
set_option maxRecDepth 100000
theorem t6z2 : chkE en6z2 (goX mem2 cut2 tabG 1000000 fn6 en6z2.args (entH en6z2) .done) = true := by decide +kernel
end Xv.Ck
