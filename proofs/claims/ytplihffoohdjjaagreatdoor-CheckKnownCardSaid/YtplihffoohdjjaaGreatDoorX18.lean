/- A part of the proof of 'CheckKnownCardSaid': the compiled functions, the answers found by evaluation, and what follows of them. There is no further condition. -/
import Derived.Test.YtplihffoohdjjaaGreatDoorX07
namespace Xv.Ck
open Xv
set_option maxRecDepth 100000
theorem t6z3 : chkE en6z3 (goX mem2 cut2 tabG 1000000 fn6 en6z3.args (entH en6z3) .done) = true := by decide +kernel
end Xv.Ck

namespace Xv.Ck
open Xv
set_option maxRecDepth 100000
theorem t6z4 : chkE en6z4 (goX mem2 cut2 tabG 1000000 fn6 en6z4.args (entH en6z4) .done) = true := by decide +kernel
end Xv.Ck

namespace Xv.Ck
open Xv
set_option maxRecDepth 100000
theorem t6z5 : chkE en6z5 (goX mem2 cut2 tabG 1000000 fn6 en6z5.args (entH en6z5) .done) = true := by decide +kernel
end Xv.Ck

namespace Xv.Ck
open Xv
set_option maxRecDepth 100000
theorem t6z6 : chkE en6z6 (goX mem2 cut2 tabG 1000000 fn6 en6z6.args (entH en6z6) .done) = true := by decide +kernel
end Xv.Ck

namespace Xv.Ck
open Xv
set_option maxRecDepth 100000
theorem t6z7 : chkE en6z7 (goX mem2 cut2 tabG 1000000 fn6 en6z7.args (entH en6z7) .done) = true := by decide +kernel
end Xv.Ck

namespace Xv.Ck
open Xv
set_option maxRecDepth 100000
theorem t94z0 : chkE en94z0 (goX mem0 cut0 tabG 1000000 fn94 en94z0.args (entH en94z0) .done) = true := by decide +kernel
end Xv.Ck

namespace Xv.Ck
open Xv
set_option maxRecDepth 100000
theorem t94z1 : chkE en94z1 (goX mem0 cut0 tabG 1000000 fn94 en94z1.args (entH en94z1) .done) = true := by decide +kernel
end Xv.Ck
