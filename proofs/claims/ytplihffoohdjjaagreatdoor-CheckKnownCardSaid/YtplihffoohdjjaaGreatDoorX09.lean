/- A part of the proof of 'CheckKnownCardSaid': the compiled functions, the answers found by evaluation, and what follows of them. There is no further condition. -/
import Derived.Test.YtplihffoohdjjaaGreatDoorX07
namespace Xv.Ck
open Xv
set_option maxRecDepth 100000
theorem t4z11 : chkE en4z11 (goX mem2 cut2 tabG 1000000 fn4 en4z11.args (entH en4z11) .done) = true := by decide +kernel
end Xv.Ck

namespace Xv.Ck
open Xv
set_option maxRecDepth 100000
theorem t4z12 : chkE en4z12 (goX mem2 cut2 tabG 1000000 fn4 en4z12.args (entH en4z12) .done) = true := by decide +kernel
end Xv.Ck

namespace Xv.Ck
open Xv
set_option maxRecDepth 100000
theorem t4z13 : chkE en4z13 (goX mem2 cut2 tabG 1000000 fn4 en4z13.args (entH en4z13) .done) = true := by decide +kernel
end Xv.Ck

namespace Xv.Ck
open Xv
set_option maxRecDepth 100000
theorem t4z14 : chkE en4z14 (goX mem2 cut2 tabG 1000000 fn4 en4z14.args (entH en4z14) .done) = true := by decide +kernel
end Xv.Ck

namespace Xv.Ck
open Xv
set_option maxRecDepth 100000
theorem t4z15 : chkE en4z15 (goX mem2 cut2 tabG 1000000 fn4 en4z15.args (entH en4z15) .done) = true := by decide +kernel
end Xv.Ck

namespace Xv.Ck
open Xv
set_option maxRecDepth 100000
theorem t4z16 : chkE en4z16 (goX mem2 cut2 tabG 1000000 fn4 en4z16.args (entH en4z16) .done) = true := by decide +kernel
end Xv.Ck

namespace Xv.Ck
open Xv
set_option maxRecDepth 100000
theorem t4z17 : chkE en4z17 (goX mem2 cut2 tabG 1000000 fn4 en4z17.args (entH en4z17) .done) = true := by decide +kernel
end Xv.Ck

namespace Xv.Ck
open Xv
set_option maxRecDepth 100000
theorem t4z18 : chkE en4z18 (goX mem2 cut2 tabG 1000000 fn4 en4z18.args (entH en4z18) .done) = true := by decide +kernel
end Xv.Ck
