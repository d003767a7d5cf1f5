/- A part of the proof of PurityKnownCardSaid: the compiled functions, the answers found by evaluation, and what follows of them. There is no further condition. -/
import Derived.Test.YtooommicgmbmiaaGreatDoorX10
namespace Xv.Pk
open Xv
set_option maxRecDepth 100000
theorem t66z6 : chkE en66z6 (goX mem1 cut1 tabG 1000000 fn66 en66z6.args (entH en66z6) .done) = true := by decide +kernel
end Xv.Pk

namespace Xv.Pk
open Xv
set_option maxRecDepth 100000
theorem t66z7 : chkE en66z7 (goX mem1 cut1 tabG 1000000 fn66 en66z7.args (entH en66z7) .done) = true := by decide +kernel
end Xv.Pk

namespace Xv.Pk
open Xv
set_option maxRecDepth 100000
theorem t66z8 : chkE en66z8 (goX mem1 cut1 tabG 1000000 fn66 en66z8.args (entH en66z8) .done) = true := by decide +kernel
end Xv.Pk

namespace Xv.Pk
open Xv
set_option maxRecDepth 100000
theorem t66z9 : chkE en66z9 (goX mem1 cut1 tabG 1000000 fn66 en66z9.args (entH en66z9) .done) = true := by decide +kernel
end Xv.Pk

namespace Xv.Pk
open Xv
set_option maxRecDepth 100000
theorem t99z0 : chkE en99z0 (goX mem0 cut0 tabG 1000000 fn99 en99z0.args (entH en99z0) .done) = true := by decide +kernel
end Xv.Pk

namespace Xv.Pk
open Xv
set_option maxRecDepth 100000
theorem t99z1 : chkE en99z1 (goX mem0 cut0 tabG 1000000 fn99 en99z1.args (entH en99z1) .done) = true := by decide +kernel
end Xv.Pk
