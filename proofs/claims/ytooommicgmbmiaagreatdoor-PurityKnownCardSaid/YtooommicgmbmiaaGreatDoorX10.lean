/- A part of the proof of PurityKnownCardSaid: the compiled functions, the answers found by evaluation, and what follows of them. There is no further condition. -/
import Derived.Test.YtooommicgmbmiaaGreatDoorX09
namespace Xv.Pk
open Xv
set_option maxRecDepth 100000
theorem t66z1 : chkE en66z1 (goX mem1 cut1 tabG 1000000 fn66 en66z1.args (entH en66z1) .done) = true := by decide +kernel
end Xv.Pk

namespace Xv.Pk
open Xv
set_option maxRecDepth 100000
theorem t66z10 : chkE en66z10 (goX mem1 cut1 tabG 1000000 fn66 en66z10.args (entH en66z10) .done) = true := by decide +kernel
end Xv.Pk

namespace Xv.Pk
open Xv
set_option maxRecDepth 100000
theorem t66z11 : chkE en66z11 (goX mem1 cut1 tabG 1000000 fn66 en66z11.args (entH en66z11) .done) = true := by decide +kernel
end Xv.Pk

namespace Xv.Pk
open Xv
set_option maxRecDepth 100000
theorem t66z12 : chkE en66z12 (goX mem1 cut1 tabG 1000000 fn66 en66z12.args (entH en66z12) .done) = true := by decide +kernel
end Xv.Pk

namespace Xv.Pk
open Xv
set_option maxRecDepth 100000
theorem t66z2 : chkE en66z2 (goX mem1 cut1 tabG 1000000 fn66 en66z2.args (entH en66z2) .done) = true := by decide +kernel
end Xv.Pk

namespace Xv.Pk
open Xv
set_option maxRecDepth 100000
theorem t66z3 : chkE en66z3 (goX mem1 cut1 tabG 1000000 fn66 en66z3.args (entH en66z3) .done) = true := by decide +kernel
end Xv.Pk

namespace Xv.Pk
open Xv
set_option maxRecDepth 100000
theorem t66z4 : chkE en66z4 (goX mem1 cut1 tabG 1000000 fn66 en66z4.args (entH en66z4) .done) = true := by decide +kernel
end Xv.Pk

namespace Xv.Pk
open Xv
set_option maxRecDepth 100000
theorem t66z5 : chkE en66z5 (goX mem1 cut1 tabG 1000000 fn66 en66z5.args (entH en66z5) .done) = true := by decide +kernel
end Xv.Pk
