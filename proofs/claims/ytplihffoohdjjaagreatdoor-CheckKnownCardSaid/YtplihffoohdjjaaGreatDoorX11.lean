/- A part of the proof of 'CheckKnownCardSaid': the compiled functions, the answers found by evaluation, and what follows of them. There is no further condition. -/
import Derived.Test.YtplihffoohdjjaaGreatDoorX07
namespace Xv.Ck
open Xv
set_option maxRecDepth 100000
theorem t4z26 : chkE en4z26 (goX mem2 cut2 tabG 1000000 fn4 en4z26.args (entH en4z26) .done) = true := by decide +kernel
end Xv.Ck

namespace Xv.Ck
open Xv
set_option maxRecDepth 100000
theorem t4z3 : chkE en4z3 (goX mem2 cut2 tabG 1000000 fn4 en4z3.args (entH en4z3) .done) = true := by decide +kernel
end Xv.Ck

namespace Xv.Ck
open Xv
set_option maxRecDepth 100000
theorem t4z4 : chkE en4z4 (goX mem2 cut2 tabG 1000000 fn4 en4z4.args (entH en4z4) .done) = true := by decide +kernel
end Xv.Ck

namespace Xv.Ck
open Xv
set_option maxRecDepth 100000
theorem t4z5 : chkE en4z5 (goX mem2 cut2 tabG 1000000 fn4 en4z5.args (entH en4z5) .done) = true := by decide +kernel
end Xv.Ck

namespace Xv.Ck
open Xv
set_option maxRecDepth 100000
theorem t4z6 : chkE en4z6 (goX mem2 cut2 tabG 1000000 fn4 en4z6.args (entH en4z6) .done) = true := by decide +kernel
end Xv.Ck

namespace Xv.Ck
open Xv
set_option maxRecDepth 100000
theorem t4z7 : chkE en4z7 (goX mem2 cut2 tabG 1000000 fn4 en4z7.args (entH en4z7) .done) = true := by decide +kernel
end Xv.Ck

namespace Xv.Ck
open Xv
set_option maxRecDepth 100000
theorem t4z8 : chkE en4z8 (goX mem2 cut2 tabG 1000000 fn4 en4z8.args (entH en4z8) .done) = true := by decide +kernel
end Xv.Ck

namespace Xv.Ck
open Xv
set_option maxRecDepth 100000
theorem t4z9 : chkE en4z9 (goX mem2 cut2 tabG 1000000 fn4 en4z9.args (entH en4z9) .done) = true := by decide +kernel
end Xv.Ck
