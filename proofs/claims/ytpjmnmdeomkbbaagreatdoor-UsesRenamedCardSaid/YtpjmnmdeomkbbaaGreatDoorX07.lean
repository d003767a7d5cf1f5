/- A part of the proof of UsesRenamedCardSaid: the compiled functions, the answers found by evaluation, and what follows of them. There is no further condition. -/
import Derived.Test.YtpjmnmdeomkbbaaGreatDoorX06
namespace Xv.Ur
open Xv
set_option maxRecDepth 100000
theorem t109z0 : chkE en109z0 (goX mem0 cut0 tabG 1000000 fn109 en109z0.args (entH en109z0) .done) = true := by decide +kernel
end Xv.Ur

namespace Xv.Ur
open Xv
set_option maxRecDepth 100000
theorem t109z1 : chkE en109z1 (goX mem0 cut0 tabG 1000000 fn109 en109z1.args (entH en109z1) .done) = true := by decide +kernel
end Xv.Ur

namespace Xv.Ur
open Xv
set_option maxRecDepth 100000
theorem t142z0 : chkE en142z0 (goX mem0 cut0 tabG 1000000 fn142 en142z0.args (entH en142z0) .done) = true := by decide +kernel
end Xv.Ur

namespace Xv.Ur
open Xv
set_option maxRecDepth 100000
theorem t142z1 : chkE en142z1 (goX mem0 cut0 tabG 1000000 fn142 en142z1.args (entH en142z1) .done) = true := by decide +kernel
end Xv.Ur

namespace Xv.Ur
open Xv
set_option maxRecDepth 100000
theorem t15z0 : chkE en15z0 (goX mem1 cut1 tabG 1000000 fn15 en15z0.args (entH en15z0) .done) = true := by decide +kernel
end Xv.Ur

namespace Xv.Ur
open Xv
set_option maxRecDepth 100000
theorem t5z0 : chkE en5z0 (goX mem2 cut2 tabG 1000000 fn5 en5z0.args (entH en5z0) .done) = true := by decide +kernel
end Xv.Ur
