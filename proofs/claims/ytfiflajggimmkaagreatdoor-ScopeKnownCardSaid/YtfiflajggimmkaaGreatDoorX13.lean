/- A part of the proof of 'ScopeKnownCardSaid': the compiled functions, the answers found by evaluation, and what follows of them. There is no further condition. -/
import Derived.Test.YtfiflajggimmkaaGreatDoorX12
namespace Xv.Sk
open Xv
set_option maxRecDepth 100000
theorem hmix : Go.Proofs.Tryz.prog.follows .mixedOrders = true := Go.Proofs.Tryz.checked.mixed
theorem M0 : ∀ i : FId, ∀ e ∈ ([] : List Ent), EntOk Go.Proofs.Tryz.prog i.n e := fun _ _ h => by cases h
theorem C0 : ∀ i : FId, ∀ e ∈ ([] : List Cut), CutOk Go.Proofs.Tryz.prog i.n e := fun _ _ h => by cases h
theorem ML0 : ∀ i, ∀ e ∈ mem0 i, EntOk Go.Proofs.Tryz.prog i.n e := M0
theorem CL0 : ∀ i, ∀ e ∈ cut0 i, CutOk Go.Proofs.Tryz.prog i.n e := C0
theorem o46z0 : EntOk Go.Proofs.Tryz.prog 46 en46z0 := ent_ok (i := ⟨46, .d0, .d2, .d14⟩) (cut_sound tabOk hmix ML0 CL0 1000000) (by rw [← goX_eq]; exact t46z0)
theorem o133z0 : EntOk Go.Proofs.Tryz.prog 133 en133z0 := ent_ok (i := ⟨133, .d0, .d8, .d5⟩) (cut_sound tabOk hmix ML0 CL0 1000000) (by rw [← goX_eq]; exact t133z0)
theorem o133z1 : EntOk Go.Proofs.Tryz.prog 133 en133z1 := ent_ok (i := ⟨133, .d0, .d8, .d5⟩) (cut_sound tabOk hmix ML0 CL0 1000000) (by rw [← goX_eq]; exact t133z1)
theorem o46z1 : EntOk Go.Proofs.Tryz.prog 46 en46z1 := ent_ok (i := ⟨46, .d0, .d2, .d14⟩) (cut_sound tabOk hmix ML0 CL0 1000000) (by rw [← goX_eq]; exact t46z1)
theorem ML1 : ∀ i, ∀ e ∈ mem1 i, EntOk Go.Proofs.Tryz.prog i.n e := mem_step (mem_step (M0) (List.forall_mem_cons.2 ⟨o133z0, List.forall_mem_cons.2 ⟨o133z1, fun _ h => by cases h⟩⟩)) (List.forall_mem_cons.2 ⟨o46z0, List.forall_mem_cons.2 ⟨o46z1, fun _ h => by cases h⟩⟩)
theorem CL1 : ∀ i, ∀ e ∈ cut1 i, CutOk Go.Proofs.Tryz.prog i.n e := C0
theorem o13z0 : EntOk Go.Proofs.Tryz.prog 13 en13z0 := ent_ok (i := ⟨13, .d0, .d0, .d13⟩) (cut_sound tabOk hmix ML1 CL1 1000000) (by rw [← goX_eq]; exact t13z0)
theorem o30z0 : EntOk Go.Proofs.Tryz.prog 30 en30z0 := ent_ok (i := ⟨30, .d0, .d1, .d14⟩) (cut_sound tabOk hmix ML1 CL1 1000000) (by rw [← goX_eq]; exact t30z0)
theorem o30z1 : EntOk Go.Proofs.Tryz.prog 30 en30z1 := ent_ok (i := ⟨30, .d0, .d1, .d14⟩) (cut_sound tabOk hmix ML1 CL1 1000000) (by rw [← goX_eq]; exact t30z1)
theorem o30z2 : EntOk Go.Proofs.Tryz.prog 30 en30z2 := ent_ok (i := ⟨30, .d0, .d1, .d14⟩) (cut_sound tabOk hmix ML1 CL1 1000000) (by rw [← goX_eq]; exact t30z2)
theorem o30z3 : EntOk Go.Proofs.Tryz.prog 30 en30z3 := ent_ok (i := ⟨30, .d0, .d1, .d14⟩) (cut_sound tabOk hmix ML1 CL1 1000000) (by rw [← goX_eq]; exact t30z3)
theorem o30z4 : EntOk Go.Proofs.Tryz.prog 30 en30z4 := ent_ok (i := ⟨30, .d0, .d1, .d14⟩) (cut_sound tabOk hmix ML1 CL1 1000000) (by rw [← goX_eq]; exact t30z4)
theorem o30z5 : EntOk Go.Proofs.Tryz.prog 30 en30z5 := ent_ok (i := ⟨30, .d0, .d1, .d14⟩) (cut_sound tabOk hmix ML1 CL1 1000000) (by rw [← goX_eq]; exact t30z5)
theorem o30z6 : EntOk Go.Proofs.Tryz.prog 30 en30z6 := ent_ok (i := ⟨30, .d0, .d1, .d14⟩) (cut_sound tabOk hmix ML1 CL1 1000000) (by rw [← goX_eq]; exact t30z6)
theorem o30z7 : EntOk Go.Proofs.Tryz.prog 30 en30z7 := ent_ok (i := ⟨30, .d0, .d1, .d14⟩) (cut_sound tabOk hmix ML1 CL1 1000000) (by rw [← goX_eq]; exact t30z7)
theorem o30z8 : EntOk Go.Proofs.Tryz.prog 30 en30z8 := ent_ok (i := ⟨30, .d0, .d1, .d14⟩) (cut_sound tabOk hmix ML1 CL1 1000000) (by rw [← goX_eq]; exact t30z8)
theorem o30z9 : EntOk Go.Proofs.Tryz.prog 30 en30z9 := ent_ok (i := ⟨30, .d0, .d1, .d14⟩) (cut_sound tabOk hmix ML1 CL1 1000000) (by rw [← goX_eq]; exact t30z9)
theorem o13z1 : EntOk Go.Proofs.Tryz.prog 13 en13z1 := ent_ok (i := ⟨13, .d0, .d0, .d13⟩) (cut_sound tabOk hmix ML1 CL1 1000000) (by rw [← goX_eq]; exact t13z1)
theorem o30z10 : EntOk Go.Proofs.Tryz.prog 30 en30z10 := ent_ok (i := ⟨30, .d0, .d1, .d14⟩) (cut_sound tabOk hmix ML1 CL1 1000000) (by rw [← goX_eq]; exact t30z10)
theorem o30z11 : EntOk Go.Proofs.Tryz.prog 30 en30z11 := ent_ok (i := ⟨30, .d0, .d1, .d14⟩) (cut_sound tabOk hmix ML1 CL1 1000000) (by rw [← goX_eq]; exact t30z11)
theorem o30z12 : EntOk Go.Proofs.Tryz.prog 30 en30z12 := ent_ok (i := ⟨30, .d0, .d1, .d14⟩) (cut_sound tabOk hmix ML1 CL1 1000000) (by rw [← goX_eq]; exact t30z12)
theorem o13z2 : EntOk Go.Proofs.Tryz.prog 13 en13z2 := ent_ok (i := ⟨13, .d0, .d0, .d13⟩) (cut_sound tabOk hmix ML1 CL1 1000000) (by rw [← goX_eq]; exact t13z2)
theorem o30z13 : EntOk Go.Proofs.Tryz.prog 30 en30z13 := ent_ok (i := ⟨30, .d0, .d1, .d14⟩) (cut_sound tabOk hmix ML1 CL1 1000000) (by rw [← goX_eq]; exact t30z13)
theorem o30z14 : EntOk Go.Proofs.Tryz.prog 30 en30z14 := ent_ok (i := ⟨30, .d0, .d1, .d14⟩) (cut_sound tabOk hmix ML1 CL1 1000000) (by rw [← goX_eq]; exact t30z14)
theorem o30z15 : EntOk Go.Proofs.Tryz.prog 30 en30z15 := ent_ok (i := ⟨30, .d0, .d1, .d14⟩) (cut_sound tabOk hmix ML1 CL1 1000000) (by rw [← goX_eq]; exact t30z15)
theorem o30z16 : EntOk Go.Proofs.Tryz.prog 30 en30z16 := ent_ok (i := ⟨30, .d0, .d1, .d14⟩) (cut_sound tabOk hmix ML1 CL1 1000000) (by rw [← goX_eq]; exact t30z16)
theorem o30z17 : EntOk Go.Proofs.Tryz.prog 30 en30z17 := ent_ok (i := ⟨30, .d0, .d1, .d14⟩) (cut_sound tabOk hmix ML1 CL1 1000000) (by rw [← goX_eq]; exact t30z17)
theorem o30z18 : EntOk Go.Proofs.Tryz.prog 30 en30z18 := ent_ok (i := ⟨30, .d0, .d1, .d14⟩) (cut_sound tabOk hmix ML1 CL1 1000000) (by rw [← goX_eq]; exact t30z18)
theorem o30z19 : EntOk Go.Proofs.Tryz.prog 30 en30z19 := ent_ok (i := ⟨30, .d0, .d1, .d14⟩) (cut_sound tabOk hmix ML1 CL1 1000000) (by rw [← goX_eq]; exact t30z19)
theorem ML2 : ∀ i, ∀ e ∈ mem2 i, EntOk Go.Proofs.Tryz.prog i.n e := mem_step (mem_step (mem_step (mem_step (M0) (List.forall_mem_cons.2 ⟨o30z0, List.forall_mem_cons.2 ⟨o30z1, List.forall_mem_cons.2 ⟨o30z2, List.forall_mem_cons.2 ⟨o30z3, List.forall_mem_cons.2 ⟨o30z4, List.forall_mem_cons.2 ⟨o30z5, List.forall_mem_cons.2 ⟨o30z6, List.forall_mem_cons.2 ⟨o30z7, List.forall_mem_cons.2 ⟨o30z8, List.forall_mem_cons.2 ⟨o30z9, List.forall_mem_cons.2 ⟨o30z10, List.forall_mem_cons.2 ⟨o30z11, List.forall_mem_cons.2 ⟨o30z12, List.forall_mem_cons.2 ⟨o30z13, List.forall_mem_cons.2 ⟨o30z14, List.forall_mem_cons.2 ⟨o30z15, List.forall_mem_cons.2 ⟨o30z16, List.forall_mem_cons.2 ⟨o30z17, List.forall_mem_cons.2 ⟨o30z18, List.forall_mem_cons.2 ⟨o30z19, fun _ h => by cases h⟩⟩⟩⟩⟩⟩⟩⟩⟩⟩⟩⟩⟩⟩⟩⟩⟩⟩⟩⟩)) (List.forall_mem_cons.2 ⟨o133z0, List.forall_mem_cons.2 ⟨o133z1, fun _ h => by cases h⟩⟩)) (List.forall_mem_cons.2 ⟨o13z0, List.forall_mem_cons.2 ⟨o13z1, List.forall_mem_cons.2 ⟨o13z2, fun _ h => by cases h⟩⟩⟩)) (List.forall_mem_cons.2 ⟨o46z0, List.forall_mem_cons.2 ⟨o46z1, fun _ h => by cases h⟩⟩)
theorem CL2 : ∀ i, ∀ e ∈ cut2 i, CutOk Go.Proofs.Tryz.prog i.n e := C0
theorem o11z0 : EntOk Go.Proofs.Tryz.prog 11 en11z0 := ent_ok (i := ⟨11, .d0, .d0, .d11⟩) (cut_sound tabOk hmix ML2 CL2 1000000) (by rw [← goX_eq]; exact t11z0)
theorem o11z1 : EntOk Go.Proofs.Tryz.prog 11 en11z1 := ent_ok (i := ⟨11, .d0, .d0, .d11⟩) (cut_sound tabOk hmix ML2 CL2 1000000) (by rw [← goX_eq]; exact t11z1)
theorem o11z2 : EntOk Go.Proofs.Tryz.prog 11 en11z2 := ent_ok (i := ⟨11, .d0, .d0, .d11⟩) (cut_sound tabOk hmix ML2 CL2 1000000) (by rw [← goX_eq]; exact t11z2)
theorem o11z3 : EntOk Go.Proofs.Tryz.prog 11 en11z3 := ent_ok (i := ⟨11, .d0, .d0, .d11⟩) (cut_sound tabOk hmix ML2 CL2 1000000) (by rw [← goX_eq]; exact t11z3)
theorem o11z4 : EntOk Go.Proofs.Tryz.prog 11 en11z4 := ent_ok (i := ⟨11, .d0, .d0, .d11⟩) (cut_sound tabOk hmix ML2 CL2 1000000) (by rw [← goX_eq]; exact t11z4)
theorem o11z5 : EntOk Go.Proofs.Tryz.prog 11 en11z5 := ent_ok (i := ⟨11, .d0, .d0, .d11⟩) (cut_sound tabOk hmix ML2 CL2 1000000) (by rw [← goX_eq]; exact t11z5)
theorem o11z6 : EntOk Go.Proofs.Tryz.prog 11 en11z6 := ent_ok (i := ⟨11, .d0, .d0, .d11⟩) (cut_sound tabOk hmix ML2 CL2 1000000) (by rw [← goX_eq]; exact t11z6)
theorem o11z7 : EntOk Go.Proofs.Tryz.prog 11 en11z7 := ent_ok (i := ⟨11, .d0, .d0, .d11⟩) (cut_sound tabOk hmix ML2 CL2 1000000) (by rw [← goX_eq]; exact t11z7)
theorem o11z8 : EntOk Go.Proofs.Tryz.prog 11 en11z8 := ent_ok (i := ⟨11, .d0, .d0, .d11⟩) (cut_sound tabOk hmix ML2 CL2 1000000) (by rw [← goX_eq]; exact t11z8)
theorem o11z9 : EntOk Go.Proofs.Tryz.prog 11 en11z9 := ent_ok (i := ⟨11, .d0, .d0, .d11⟩) (cut_sound tabOk hmix ML2 CL2 1000000) (by rw [← goX_eq]; exact t11z9)
theorem o11z10 : EntOk Go.Proofs.Tryz.prog 11 en11z10 := ent_ok (i := ⟨11, .d0, .d0, .d11⟩) (cut_sound tabOk hmix ML2 CL2 1000000) (by rw [← goX_eq]; exact t11z10)
theorem o11z11 : EntOk Go.Proofs.Tryz.prog 11 en11z11 := ent_ok (i := ⟨11, .d0, .d0, .d11⟩) (cut_sound tabOk hmix ML2 CL2 1000000) (by rw [← goX_eq]; exact t11z11)
theorem ML3 : ∀ i, ∀ e ∈ mem3 i, EntOk Go.Proofs.Tryz.prog i.n e := mem_step (mem_step (mem_step (mem_step (mem_step (M0) (List.forall_mem_cons.2 ⟨o11z0, List.forall_mem_cons.2 ⟨o11z1, List.forall_mem_cons.2 ⟨o11z2, List.forall_mem_cons.2 ⟨o11z3, List.forall_mem_cons.2 ⟨o11z4, List.forall_mem_cons.2 ⟨o11z5, List.forall_mem_cons.2 ⟨o11z6, List.forall_mem_cons.2 ⟨o11z7, List.forall_mem_cons.2 ⟨o11z8, List.forall_mem_cons.2 ⟨o11z9, List.forall_mem_cons.2 ⟨o11z10, List.forall_mem_cons.2 ⟨o11z11, fun _ h => by cases h⟩⟩⟩⟩⟩⟩⟩⟩⟩⟩⟩⟩)) (List.forall_mem_cons.2 ⟨o30z0, List.forall_mem_cons.2 ⟨o30z1, List.forall_mem_cons.2 ⟨o30z2, List.forall_mem_cons.2 ⟨o30z3, List.forall_mem_cons.2 ⟨o30z4, List.forall_mem_cons.2 ⟨o30z5, List.forall_mem_cons.2 ⟨o30z6, List.forall_mem_cons.2 ⟨o30z7, List.forall_mem_cons.2 ⟨o30z8, List.forall_mem_cons.2 ⟨o30z9, List.forall_mem_cons.2 ⟨o30z10, List.forall_mem_cons.2 ⟨o30z11, List.forall_mem_cons.2 ⟨o30z12, List.forall_mem_cons.2 ⟨o30z13, List.forall_mem_cons.2 ⟨o30z14, List.forall_mem_cons.2 ⟨o30z15, List.forall_mem_cons.2 ⟨o30z16, List.forall_mem_cons.2 ⟨o30z17, List.forall_mem_cons.2 ⟨o30z18, List.forall_mem_cons.2 ⟨o30z19, fun _ h => by cases h⟩⟩⟩⟩⟩⟩⟩⟩⟩⟩⟩⟩⟩⟩⟩⟩⟩⟩⟩⟩)) (List.forall_mem_cons.2 ⟨o133z0, List.forall_mem_cons.2 ⟨o133z1, fun _ h => by cases h⟩⟩)) (List.forall_mem_cons.2 ⟨o13z0, List.forall_mem_cons.2 ⟨o13z1, List.forall_mem_cons.2 ⟨o13z2, fun _ h => by cases h⟩⟩⟩)) (List.forall_mem_cons.2 ⟨o46z0, List.forall_mem_cons.2 ⟨o46z1, fun _ h => by cases h⟩⟩)
theorem CL3 : ∀ i, ∀ e ∈ cut3 i, CutOk Go.Proofs.Tryz.prog i.n e := C0
theorem o3z0 : EntOk Go.Proofs.Tryz.prog 3 en3z0 := ent_ok (i := ⟨3, .d0, .d0, .d3⟩) (cut_sound tabOk hmix ML3 CL3 1000000) (by rw [← goX_eq]; exact t3z0)
end Xv.Sk
