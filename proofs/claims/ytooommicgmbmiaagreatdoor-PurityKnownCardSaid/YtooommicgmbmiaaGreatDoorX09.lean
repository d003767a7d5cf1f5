/- A part of the proof of PurityKnownCardSaid: the compiled functions, the answers found by evaluation, and what follows of them. There is no further condition. -/
import Derived.Test.YtooommicgmbmiaaGreatDoorX08
namespace Xv.Pk
open Xv
set_option maxRecDepth 100000
theorem t5z3 : chkE en5z3 (goX mem2 cut2 tabG 1000000 fn5 en5z3.args (entH en5z3) .done) = true := by decide +kernel
end Xv.Pk

namespace Xv.Pk
open Xv
set_option maxRecDepth 100000
theorem t5z4 : chkE en5z4 (goX mem2 cut2 tabG 1000000 fn5 en5z4.args (entH en5z4) .done) = true := by decide +kernel
end Xv.Pk

namespace Xv.Pk
open Xv
set_option maxRecDepth 100000
theorem t5z5 : chkE en5z5 (goX mem2 cut2 tabG 1000000 fn5 en5z5.args (entH en5z5) .done) = true := by decide +kernel
end Xv.Pk

namespace Xv.Pk
open Xv
set_option maxRecDepth 100000
theorem t5z6 : chkE en5z6 (goX mem2 cut2 tabG 1000000 fn5 en5z6.args (entH en5z6) .done) = true := by decide +kernel
end Xv.Pk

namespace Xv.Pk
open Xv
set_option maxRecDepth 100000
theorem t5z7 : chkE en5z7 (goX mem2 cut2 tabG 1000000 fn5 en5z7.args (entH en5z7) .done) = true := by decide +kernel
end Xv.Pk

namespace Xv.Pk
open Xv
set_option maxRecDepth 100000
theorem t5z8 : chkE en5z8 (goX mem2 cut2 tabG 1000000 fn5 en5z8.args (entH en5z8) .done) = true := by decide +kernel
end Xv.Pk

namespace Xv.Pk
open Xv
set_option maxRecDepth 100000
theorem t5z9 : chkE en5z9 (goX mem2 cut2 tabG 1000000 fn5 en5z9.args (entH en5z9) .done) = true := by decide +kernel
end Xv.Pk

namespace Xv.Pk
open Xv
set_option maxRecDepth 100000
theorem t66z0 : chkE en66z0 (goX mem1 cut1 tabG 1000000 fn66 en66z0.args (entH en66z0) .done) = true := by decide +kernel
end Xv.Pk
