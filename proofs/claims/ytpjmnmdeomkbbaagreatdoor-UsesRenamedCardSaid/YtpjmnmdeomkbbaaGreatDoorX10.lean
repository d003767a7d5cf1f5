/- A part of the proof of UsesRenamedCardSaid: the compiled functions, the answers found by evaluation, and what follows of them. There is no further condition. -/
import Derived.Test.YtpjmnmdeomkbbaaGreatDoorX09
namespace Xv.Ur
open Xv
set_option maxRecDepth 100000
noncomputable def memU (i : FId) : List Ent := condF (Nat.beq i.n 5) [en5z0] []
theorem MU : ∀ i, ∀ e ∈ memU i, EntOk Go.Proofs.Tryz.prog i.n e := mem_step M0 (List.forall_mem_cons.2 ⟨o5z0, fun _ h => by cases h⟩)
noncomputable def cutU (_ : FId) : List Cut := []
theorem CU : ∀ i, ∀ e ∈ cutU i, CutOk Go.Proofs.Tryz.prog i.n e := fun _ _ h => by cases h
def fU : FId := ⟨3, .d0, .d0, .d3⟩
/-- The law at a declaration of kind k. -/
def dE (x : AV) : Ent := ⟨[.agg [x, .any, .any, .any, .any]], [(⟨.d15, .d0, .d0, .d3⟩, gl0)], none, ⟨.d0, .d0, .d0, .d0⟩, .bool true⟩
def TE (x : AV) : Prop := chkE (dE x) (goX memU cutU tabG 1000000 fU (dE x).args (entH (dE x)) .done) = true
theorem teL : TE (.le 1) := by
  unfold TE
  decide +kernel
theorem teG : TE (.ge 9) := by
  unfold TE
  decide +kernel
theorem te2 : TE (.i 2) := by
  unfold TE
  decide +kernel
theorem te3 : TE (.i 3) := by
  unfold TE
  decide +kernel
theorem te4 : TE (.i 4) := by
  unfold TE
  decide +kernel
theorem te5 : TE (.i 5) := by
  unfold TE
  decide +kernel
theorem te6 : TE (.i 6) := by
  unfold TE
  decide +kernel
theorem te7 : TE (.i 7) := by
  unfold TE
  decide +kernel
theorem te8 : TE (.i 8) := by
  unfold TE
  decide +kernel
theorem tE (k : Int) : ∃ x, TE x ∧ ∀ φ : Lie, den φ x (.int .i64 k) := by
  by_cases h1 : k ≤ 1
  · exact ⟨.le 1, teL, fun φ => by simp only [den]; exact ⟨k, rfl, h1⟩⟩
  · by_cases h2 : 9 ≤ k
    · exact ⟨.ge 9, teG, fun φ => by simp only [den]; exact ⟨k, rfl, h2⟩⟩
    · have h3 : k = 2 ∨ k = 3 ∨ k = 4 ∨ k = 5 ∨ k = 6 ∨ k = 7 ∨ k = 8 := by omega
      rcases h3 with rfl | rfl | rfl | rfl | rfl | rfl | rfl
      · exact ⟨.i 2, te2, fun φ => by simp only [den]⟩
      · exact ⟨.i 3, te3, fun φ => by simp only [den]⟩
      · exact ⟨.i 4, te4, fun φ => by simp only [den]⟩
      · exact ⟨.i 5, te5, fun φ => by simp only [den]⟩
      · exact ⟨.i 6, te6, fun φ => by simp only [den]⟩
      · exact ⟨.i 7, te7, fun φ => by simp only [den]⟩
      · exact ⟨.i 8, te8, fun φ => by simp only [den]⟩
theorem oE {x : AV} (h : TE x) : EntOk Go.Proofs.Tryz.prog 3 (dE x) := ent_ok (i := fU) (cut_sound tabOk hmix MU CU 1000000) (by rw [← goX_eq]; exact h)
end Xv.Ur
