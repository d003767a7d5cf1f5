/- A part of the proof of PurityKnownCardSaid: the compiled functions, the answers found by evaluation, and what follows of them. There is no further condition. -/
import Derived.Test.YtooommicgmbmiaaGreatDoorX07
namespace Xv.Pk
open Xv
set_option maxRecDepth 100000
theorem t204z0 : chkE en204z0 (goX mem0 cut0 tabG 1000000 fn204 en204z0.args (entH en204z0) .done) = true := by decide +kernel
end Xv.Pk

namespace Xv.Pk
open Xv
set_option maxRecDepth 100000
theorem t204z1 : chkE en204z1 (goX mem0 cut0 tabG 1000000 fn204 en204z1.args (entH en204z1) .done) = true := by decide +kernel
end Xv.Pk

namespace Xv.Pk
open Xv
set_option maxRecDepth 100000
theorem t3z0 : chkE en3z0 (goX mem3 cut3 tabG 1000000 fn3 en3z0.args (entH en3z0) .done) = true := by decide +kernel
end Xv.Pk

namespace Xv.Pk
open Xv
set_option maxRecDepth 100000
theorem t5z0 : chkE en5z0 (goX mem2 cut2 tabG 1000000 fn5 en5z0.args (entH en5z0) .done) = true := by decide +kernel
end Xv.Pk

namespace Xv.Pk
open Xv
set_option maxRecDepth 100000
theorem t5z1 : chkE en5z1 (goX mem2 cut2 tabG 1000000 fn5 en5z1.args (entH en5z1) .done) = true := by decide +kernel
end Xv.Pk

namespace Xv.Pk
open Xv
set_option maxRecDepth 100000
theorem t5z10 : chkE en5z10 (goX mem2 cut2 tabG 1000000 fn5 en5z10.args (entH en5z10) .done) = true := by decide +kernel
end Xv.Pk

namespace Xv.Pk
open Xv
set_option maxRecDepth 100000
theorem t5z11 : chkE en5z11 (goX mem2 cut2 tabG 1000000 fn5 en5z11.args (entH en5z11) .done) = true := by decide +kernel
end Xv.Pk

namespace Xv.Pk
open Xv
set_option maxRecDepth 100000
theorem t5z2 : chkE en5z2 (goX mem2 cut2 tabG 1000000 fn5 en5z2.args (entH en5z2) .done) = true := by decide +kernel
end Xv.Pk
