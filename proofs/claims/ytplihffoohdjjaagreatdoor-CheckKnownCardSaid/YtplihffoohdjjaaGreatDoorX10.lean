/- A part of the proof of 'CheckKnownCardSaid': the compiled functions, the answers found by evaluation, and what follows of them. There is no further condition. -/
import Derived.Test.YtplihffoohdjjaaGreatDoorX07
namespace Xv.Ck
open Xv
set_option maxRecDepth 100000
theorem t4z19 : chkE en4z19 (goX mem2 cut2 tabG 1000000 fn4 en4z19.args (entH en4z19) .done) = true := by decide +kernel
end Xv.Ck

namespace Xv.Ck
open Xv
set_option maxRecDepth 100000
theorem t4z2 : chkE en4z2 (goX mem2 cut2 tabG 1000000 fn4 en4z2.args (entH en4z2) .done) = true := by decide +kernel
end Xv.Ck

namespace Xv.Ck
open Xv
set_option maxRecDepth 100000
theorem t4z20 : chkE en4z20 (goX mem2 cut2 tabG 1000000 fn4 en4z20.args (entH en4z20) .done) = true := by decide +kernel
end Xv.Ck

namespace Xv.Ck
open Xv
set_option maxRecDepth 100000
theorem t4z21 : chkE en4z21 (goX mem2 cut2 tabG 1000000 fn4 en4z21.args (entH en4z21) .done) = true := by decide +kernel
end Xv.Ck

namespace Xv.Ck
open Xv
set_option maxRecDepth 100000
theorem t4z22 : chkE en4z22 (goX mem2 cut2 tabG 1000000 fn4 en4z22.args (entH en4z22) .done) = true := by decide +kernel
end Xv.Ck

namespace Xv.Ck
open Xv
set_option maxRecDepth 100000
theorem t4z23 : chkE en4z23 (goX mem2 cut2 tabG 1000000 fn4 en4z23.args (entH en4z23) .done) = true := by decide +kernel
end Xv.Ck

namespace Xv.Ck
open Xv
set_option maxRecDepth 100000
theorem t4z24 : chkE en4z24 (goX mem2 cut2 tabG 1000000 fn4 en4z24.args (entH en4z24) .done) = true := by decide +kernel
end Xv.Ck

namespace Xv.Ck
open Xv
set_option maxRecDepth 100000
theorem t4z25 : chkE en4z25 (goX mem2 cut2 tabG 1000000 fn4 en4z25.args (entH en4z25) .done) = true := by decide +kernel
end Xv.Ck
