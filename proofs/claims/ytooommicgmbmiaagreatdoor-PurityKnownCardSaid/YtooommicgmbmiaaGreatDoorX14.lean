/- A part of the proof of PurityKnownCardSaid: the compiled functions, the answers found by evaluation, and what follows of them. There is no further condition. -/
import Derived.Test.YtooommicgmbmiaaGreatDoorX13
namespace Xv.Pk
open Xv
set_option maxRecDepth 100000
theorem hmix : Go.Proofs.Tryz.prog.follows .mixedOrders = true := Go.Proofs.Tryz.checked.mixed
theorem M0 : ∀ i : FId, ∀ e ∈ ([] : List Ent), EntOk Go.Proofs.Tryz.prog i.n e := fun _ _ h => by cases h
theorem C0 : ∀ i : FId, ∀ e ∈ ([] : List Cut), CutOk Go.Proofs.Tryz.prog i.n e := fun _ _ h => by cases h
theorem ML0 : ∀ i, ∀ e ∈ mem0 i, EntOk Go.Proofs.Tryz.prog i.n e := M0
theorem CL0 : ∀ i, ∀ e ∈ cut0 i, CutOk Go.Proofs.Tryz.prog i.n e := C0
theorem o99z0 : EntOk Go.Proofs.Tryz.prog 99 en99z0 := ent_ok (i := fn99) (cut_sound tabOk hmix ML0 CL0 1000000) (by rw [← goX_eq]; exact t99z0)
theorem o204z0 : EntOk Go.Proofs.Tryz.prog 204 en204z0 := ent_ok (i := fn204) (cut_sound tabOk hmix ML0 CL0 1000000) (by rw [← goX_eq]; exact t204z0)
theorem o204z1 : EntOk Go.Proofs.Tryz.prog 204 en204z1 := ent_ok (i := fn204) (cut_sound tabOk hmix ML0 CL0 1000000) (by rw [← goX_eq]; exact t204z1)
theorem o99z1 : EntOk Go.Proofs.Tryz.prog 99 en99z1 := ent_ok (i := fn99) (cut_sound tabOk hmix ML0 CL0 1000000) (by rw [← goX_eq]; exact t99z1)
theorem o13z0 : EntOk Go.Proofs.Tryz.prog 13 en13z0 := idx_ent Go.Proofs.Tryz.lays143 (g := 0) rfl (by decide +kernel) (by decide) rfl rfl rfl rfl (by decide) (by decide) (by kernel_rfl)
theorem o13z1 : EntOk Go.Proofs.Tryz.prog 13 en13z1 := idx_ent Go.Proofs.Tryz.lays143 (g := 0) rfl (by decide +kernel) (by decide) rfl rfl rfl rfl (by decide) (by decide) (by kernel_rfl)
theorem ML1 : ∀ i, ∀ e ∈ mem1 i, EntOk Go.Proofs.Tryz.prog i.n e := mem_step (mem_step (mem_step (M0) (List.forall_mem_cons.2 ⟨o13z0, List.forall_mem_cons.2 ⟨o13z1, fun _ h => by cases h⟩⟩)) (List.forall_mem_cons.2 ⟨o204z0, List.forall_mem_cons.2 ⟨o204z1, fun _ h => by cases h⟩⟩)) (List.forall_mem_cons.2 ⟨o99z0, List.forall_mem_cons.2 ⟨o99z1, fun _ h => by cases h⟩⟩)
theorem CL1 : ∀ i, ∀ e ∈ cut1 i, CutOk Go.Proofs.Tryz.prog i.n e := C0
theorem o66z0 : EntOk Go.Proofs.Tryz.prog 66 en66z0 := ent_ok (i := fn66) (cut_sound tabOk hmix ML1 CL1 1000000) (by rw [← goX_eq]; exact t66z0)
theorem o66z1 : EntOk Go.Proofs.Tryz.prog 66 en66z1 := ent_ok (i := fn66) (cut_sound tabOk hmix ML1 CL1 1000000) (by rw [← goX_eq]; exact t66z1)
theorem o66z2 : EntOk Go.Proofs.Tryz.prog 66 en66z2 := ent_ok (i := fn66) (cut_sound tabOk hmix ML1 CL1 1000000) (by rw [← goX_eq]; exact t66z2)
theorem o66z3 : EntOk Go.Proofs.Tryz.prog 66 en66z3 := ent_ok (i := fn66) (cut_sound tabOk hmix ML1 CL1 1000000) (by rw [← goX_eq]; exact t66z3)
theorem o66z4 : EntOk Go.Proofs.Tryz.prog 66 en66z4 := ent_ok (i := fn66) (cut_sound tabOk hmix ML1 CL1 1000000) (by rw [← goX_eq]; exact t66z4)
theorem o66z5 : EntOk Go.Proofs.Tryz.prog 66 en66z5 := ent_ok (i := fn66) (cut_sound tabOk hmix ML1 CL1 1000000) (by rw [← goX_eq]; exact t66z5)
theorem o66z6 : EntOk Go.Proofs.Tryz.prog 66 en66z6 := ent_ok (i := fn66) (cut_sound tabOk hmix ML1 CL1 1000000) (by rw [← goX_eq]; exact t66z6)
theorem o66z7 : EntOk Go.Proofs.Tryz.prog 66 en66z7 := ent_ok (i := fn66) (cut_sound tabOk hmix ML1 CL1 1000000) (by rw [← goX_eq]; exact t66z7)
theorem o66z8 : EntOk Go.Proofs.Tryz.prog 66 en66z8 := ent_ok (i := fn66) (cut_sound tabOk hmix ML1 CL1 1000000) (by rw [← goX_eq]; exact t66z8)
theorem o66z9 : EntOk Go.Proofs.Tryz.prog 66 en66z9 := ent_ok (i := fn66) (cut_sound tabOk hmix ML1 CL1 1000000) (by rw [← goX_eq]; exact t66z9)
theorem o66z10 : EntOk Go.Proofs.Tryz.prog 66 en66z10 := ent_ok (i := fn66) (cut_sound tabOk hmix ML1 CL1 1000000) (by rw [← goX_eq]; exact t66z10)
theorem o66z11 : EntOk Go.Proofs.Tryz.prog 66 en66z11 := ent_ok (i := fn66) (cut_sound tabOk hmix ML1 CL1 1000000) (by rw [← goX_eq]; exact t66z11)
theorem o66z12 : EntOk Go.Proofs.Tryz.prog 66 en66z12 := ent_ok (i := fn66) (cut_sound tabOk hmix ML1 CL1 1000000) (by rw [← goX_eq]; exact t66z12)
theorem ML2 : ∀ i, ∀ e ∈ mem2 i, EntOk Go.Proofs.Tryz.prog i.n e := mem_step (mem_step (mem_step (mem_step (M0) (List.forall_mem_cons.2 ⟨o13z0, List.forall_mem_cons.2 ⟨o13z1, fun _ h => by cases h⟩⟩)) (List.forall_mem_cons.2 ⟨o66z0, List.forall_mem_cons.2 ⟨o66z1, List.forall_mem_cons.2 ⟨o66z2, List.forall_mem_cons.2 ⟨o66z3, List.forall_mem_cons.2 ⟨o66z4, List.forall_mem_cons.2 ⟨o66z5, List.forall_mem_cons.2 ⟨o66z6, List.forall_mem_cons.2 ⟨o66z7, List.forall_mem_cons.2 ⟨o66z8, List.forall_mem_cons.2 ⟨o66z9, List.forall_mem_cons.2 ⟨o66z10, List.forall_mem_cons.2 ⟨o66z11, List.forall_mem_cons.2 ⟨o66z12, fun _ h => by cases h⟩⟩⟩⟩⟩⟩⟩⟩⟩⟩⟩⟩⟩)) (List.forall_mem_cons.2 ⟨o204z0, List.forall_mem_cons.2 ⟨o204z1, fun _ h => by cases h⟩⟩)) (List.forall_mem_cons.2 ⟨o99z0, List.forall_mem_cons.2 ⟨o99z1, fun _ h => by cases h⟩⟩)
theorem CL2 : ∀ i, ∀ e ∈ cut2 i, CutOk Go.Proofs.Tryz.prog i.n e := C0
theorem o5z0 : EntOk Go.Proofs.Tryz.prog 5 en5z0 := ent_ok (i := fn5) (cut_sound tabOk hmix ML2 CL2 1000000) (by rw [← goX_eq]; exact t5z0)
theorem o5z1 : EntOk Go.Proofs.Tryz.prog 5 en5z1 := ent_ok (i := fn5) (cut_sound tabOk hmix ML2 CL2 1000000) (by rw [← goX_eq]; exact t5z1)
theorem o5z2 : EntOk Go.Proofs.Tryz.prog 5 en5z2 := ent_ok (i := fn5) (cut_sound tabOk hmix ML2 CL2 1000000) (by rw [← goX_eq]; exact t5z2)
theorem o5z3 : EntOk Go.Proofs.Tryz.prog 5 en5z3 := ent_ok (i := fn5) (cut_sound tabOk hmix ML2 CL2 1000000) (by rw [← goX_eq]; exact t5z3)
theorem o5z4 : EntOk Go.Proofs.Tryz.prog 5 en5z4 := ent_ok (i := fn5) (cut_sound tabOk hmix ML2 CL2 1000000) (by rw [← goX_eq]; exact t5z4)
theorem o5z5 : EntOk Go.Proofs.Tryz.prog 5 en5z5 := ent_ok (i := fn5) (cut_sound tabOk hmix ML2 CL2 1000000) (by rw [← goX_eq]; exact t5z5)
theorem o5z6 : EntOk Go.Proofs.Tryz.prog 5 en5z6 := ent_ok (i := fn5) (cut_sound tabOk hmix ML2 CL2 1000000) (by rw [← goX_eq]; exact t5z6)
theorem o5z7 : EntOk Go.Proofs.Tryz.prog 5 en5z7 := ent_ok (i := fn5) (cut_sound tabOk hmix ML2 CL2 1000000) (by rw [← goX_eq]; exact t5z7)
theorem o5z8 : EntOk Go.Proofs.Tryz.prog 5 en5z8 := ent_ok (i := fn5) (cut_sound tabOk hmix ML2 CL2 1000000) (by rw [← goX_eq]; exact t5z8)
theorem o5z9 : EntOk Go.Proofs.Tryz.prog 5 en5z9 := ent_ok (i := fn5) (cut_sound tabOk hmix ML2 CL2 1000000) (by rw [← goX_eq]; exact t5z9)
theorem o5z10 : EntOk Go.Proofs.Tryz.prog 5 en5z10 := ent_ok (i := fn5) (cut_sound tabOk hmix ML2 CL2 1000000) (by rw [← goX_eq]; exact t5z10)
theorem o5z11 : EntOk Go.Proofs.Tryz.prog 5 en5z11 := ent_ok (i := fn5) (cut_sound tabOk hmix ML2 CL2 1000000) (by rw [← goX_eq]; exact t5z11)
theorem ML3 : ∀ i, ∀ e ∈ mem3 i, EntOk Go.Proofs.Tryz.prog i.n e := mem_step (mem_step (mem_step (mem_step (mem_step (M0) (List.forall_mem_cons.2 ⟨o5z0, List.forall_mem_cons.2 ⟨o5z1, List.forall_mem_cons.2 ⟨o5z2, List.forall_mem_cons.2 ⟨o5z3, List.forall_mem_cons.2 ⟨o5z4, List.forall_mem_cons.2 ⟨o5z5, List.forall_mem_cons.2 ⟨o5z6, List.forall_mem_cons.2 ⟨o5z7, List.forall_mem_cons.2 ⟨o5z8, List.forall_mem_cons.2 ⟨o5z9, List.forall_mem_cons.2 ⟨o5z10, List.forall_mem_cons.2 ⟨o5z11, fun _ h => by cases h⟩⟩⟩⟩⟩⟩⟩⟩⟩⟩⟩⟩)) (List.forall_mem_cons.2 ⟨o13z0, List.forall_mem_cons.2 ⟨o13z1, fun _ h => by cases h⟩⟩)) (List.forall_mem_cons.2 ⟨o66z0, List.forall_mem_cons.2 ⟨o66z1, List.forall_mem_cons.2 ⟨o66z2, List.forall_mem_cons.2 ⟨o66z3, List.forall_mem_cons.2 ⟨o66z4, List.forall_mem_cons.2 ⟨o66z5, List.forall_mem_cons.2 ⟨o66z6, List.forall_mem_cons.2 ⟨o66z7, List.forall_mem_cons.2 ⟨o66z8, List.forall_mem_cons.2 ⟨o66z9, List.forall_mem_cons.2 ⟨o66z10, List.forall_mem_cons.2 ⟨o66z11, List.forall_mem_cons.2 ⟨o66z12, fun _ h => by cases h⟩⟩⟩⟩⟩⟩⟩⟩⟩⟩⟩⟩⟩)) (List.forall_mem_cons.2 ⟨o204z0, List.forall_mem_cons.2 ⟨o204z1, fun _ h => by cases h⟩⟩)) (List.forall_mem_cons.2 ⟨o99z0, List.forall_mem_cons.2 ⟨o99z1, fun _ h => by cases h⟩⟩)
theorem CL3 : ∀ i, ∀ e ∈ cut3 i, CutOk Go.Proofs.Tryz.prog i.n e := C0
theorem o3z0 : EntOk Go.Proofs.Tryz.prog 3 en3z0 := ent_ok (i := fn3) (cut_sound tabOk hmix ML3 CL3 1000000) (by rw [← goX_eq]; exact t3z0)
end Xv.Pk
