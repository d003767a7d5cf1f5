/- A part of the proof of UsesRenamedCardSaid: the compiled functions, the answers found by evaluation, and what follows of them. There is no further condition. -/
import Derived.Test.YtpjmnmdeomkbbaaGreatDoorX08
namespace Xv.Ur
open Xv
set_option maxRecDepth 100000
theorem hmix : Go.Proofs.Tryz.prog.follows .mixedOrders = true := Go.Proofs.Tryz.checked.mixed
theorem M0 : ∀ i : FId, ∀ e ∈ ([] : List Ent), EntOk Go.Proofs.Tryz.prog i.n e := fun _ _ h => by cases h
theorem C0 : ∀ i : FId, ∀ e ∈ ([] : List Cut), CutOk Go.Proofs.Tryz.prog i.n e := fun _ _ h => by cases h
theorem ML0 : ∀ i, ∀ e ∈ mem0 i, EntOk Go.Proofs.Tryz.prog i.n e := M0
theorem CL0 : ∀ i, ∀ e ∈ cut0 i, CutOk Go.Proofs.Tryz.prog i.n e := C0
theorem o109z0 : EntOk Go.Proofs.Tryz.prog 109 en109z0 := ent_ok (i := fn109) (cut_sound tabOk hmix ML0 CL0 1000000) (by rw [← goX_eq]; exact t109z0)
theorem o142z0 : EntOk Go.Proofs.Tryz.prog 142 en142z0 := ent_ok (i := fn142) (cut_sound tabOk hmix ML0 CL0 1000000) (by rw [← goX_eq]; exact t142z0)
theorem o142z1 : EntOk Go.Proofs.Tryz.prog 142 en142z1 := ent_ok (i := fn142) (cut_sound tabOk hmix ML0 CL0 1000000) (by rw [← goX_eq]; exact t142z1)
theorem o109z1 : EntOk Go.Proofs.Tryz.prog 109 en109z1 := ent_ok (i := fn109) (cut_sound tabOk hmix ML0 CL0 1000000) (by rw [← goX_eq]; exact t109z1)
theorem ML1 : ∀ i, ∀ e ∈ mem1 i, EntOk Go.Proofs.Tryz.prog i.n e := mem_step (mem_step (M0) (List.forall_mem_cons.2 ⟨o142z0, List.forall_mem_cons.2 ⟨o142z1, fun _ h => by cases h⟩⟩)) (List.forall_mem_cons.2 ⟨o109z0, List.forall_mem_cons.2 ⟨o109z1, fun _ h => by cases h⟩⟩)
theorem CL1 : ∀ i, ∀ e ∈ cut1 i, CutOk Go.Proofs.Tryz.prog i.n e := C0
theorem o15z0 : EntOk Go.Proofs.Tryz.prog 15 en15z0 := ent_ok (i := fn15) (cut_sound tabOk hmix ML1 CL1 1000000) (by rw [← goX_eq]; exact t15z0)
theorem ML2 : ∀ i, ∀ e ∈ mem2 i, EntOk Go.Proofs.Tryz.prog i.n e := mem_step (mem_step (mem_step (M0) (List.forall_mem_cons.2 ⟨o15z0, fun _ h => by cases h⟩)) (List.forall_mem_cons.2 ⟨o142z0, List.forall_mem_cons.2 ⟨o142z1, fun _ h => by cases h⟩⟩)) (List.forall_mem_cons.2 ⟨o109z0, List.forall_mem_cons.2 ⟨o109z1, fun _ h => by cases h⟩⟩)
theorem CL2 : ∀ i, ∀ e ∈ cut2 i, CutOk Go.Proofs.Tryz.prog i.n e := C0
theorem o5z0 : EntOk Go.Proofs.Tryz.prog 5 en5z0 := ent_ok (i := fn5) (cut_sound tabOk hmix ML2 CL2 1000000) (by rw [← goX_eq]; exact t5z0)
end Xv.Ur
