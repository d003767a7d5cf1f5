/- A part of the proof of PurityKnownCardSaid: the compiled functions, the answers found by evaluation, and what follows of them. There is no further condition. -/
import Derived.Test.YtooommicgmbmiaaGreatDoorX14
import Derived.Test.YtooommicgmbmiaaGreatDoorCards
import Derived.Test.YtooommicgmbmiaaGreatDoorTie
import Derived.ProofKit
import Derived.OpenShut
import Derived.Deep.DeepHandedRow
import Derived.LaidMore
import Derived.Lay
namespace Go.Proofs.YtooommicgmbmiaaGreatDoor
open Go.ChangeShapes Go.WideShapes Go.ChangeAt Go.RowKit
set_option maxRecDepth 100000

theorem own : ownKnob Tryz.prog.godebug = none := by kernel_rfl
def spZ : List Int := (List.range 256).map fun i => if i = 9 ∨ i = 10 ∨ i = 11 ∨ i = 12 ∨ i = 13 ∨ i = 32 then 1 else 0
def bsZ : List Nat := [4607182418800017408, 4621819117588971520, 4636737291354636288, 4652007308841189376, 4666723172467343360, 4681608360884174848, 4696837146684686336, 4711630319722168320, 4726483295884279808, 4741671816366391296, 4756540486875873280, 4771362005757984768, 4786511204640096256, 4801453603149578240, 4816244402031689728, 4831355200913801216, 4846369599423283200, 4861130398305394688, 4876203697187506176, 4891288408196988160, 4906019910204099648, 4921056587992461136, 4936209963552724370]
def four : List (String × DataW Unit) := [("internal/strconv.float64info", .agg [.lit (.int .u64 52), .lit (.int .u64 11), .lit (.int .i64 (-1023))]), ("internal/strconv.optimize", .lit (.bool true)), ("internal/strconv.float64pow10", .slice (bsZ.map fun b => .lit (.float .f64 b)) []), ("strings.asciiSpace", Lib.tabData .u8 spZ)]
theorem filt : (Rows.purityKnownRow.laid.filter fun x => four.any fun y => y.1 == x.1) = four := by kernel_rfl
theorem laid_four {W : World} (h : laidMetH Tryz.prog Rows.purityKnownRow.laid W) : laidMet Tryz.prog four W := by
  have h1 := laidMetH.filter (fun x => four.any fun y => y.1 == x.1) h
  rw [filt] at h1
  rw [MakeChecks.laidMetH_plain _ _ _ (by kernel_rfl)] at h1
  exact h1
open Xv Xv.Pk in
/-- What the call does. -/
theorem does {W : World} (hS : W.ShapedOpen Tryz.prog) (hl : laidMetH Tryz.prog Rows.purityKnownRow.laid W) :
    Calls Tryz.prog 3 #[] W fun e W' => e = .returned (.bool true) ∧ W'.os = W.os ∧ W'.output = W.output ∧ ∀ i, i < W.heap.size → W'.heap[i]? = W.heap[i]? := by
  obtain ⟨b, o, arr, el, fr, h1, h2, h3, h4, h5, h6, n1, n2, n3, n4⟩ := Xv.laid4 (P := Tryz.prog) (W := W) (gI := 9) (gO := 8) (gP := 12) (gS := 1) (tI := 364) (tO := 4) (tP := 396) (tS := 210) (eP := 219) (eS := 5) (f0 := { name := "mantbits", type := 135, offset := 0, embedded := false, tag := "", pkgPath := "internal/strconv", byteOffset := 0 }) (f1 := { name := "expbits", type := 135, offset := 1, embedded := false, tag := "", pkgPath := "internal/strconv", byteOffset := 8 }) (f2 := { name := "bias", type := 3, offset := 2, embedded := false, tag := "", pkgPath := "internal/strconv", byteOffset := 16 })
    (by kernel_rfl) (by kernel_rfl) (by kernel_rfl) (by kernel_rfl) (by kernel_rfl) (by kernel_rfl) (by kernel_rfl) (by kernel_rfl) (by kernel_rfl) (by kernel_rfl) (by kernel_rfl) (by kernel_rfl) rfl rfl rfl (by kernel_rfl) (by kernel_rfl) (by kernel_rfl) (by kernel_rfl)
    (by kernel_rfl) (by kernel_rfl) (by kernel_rfl) (by kernel_rfl) (by decide) (by kernel_rfl) (by kernel_rfl) (by kernel_rfl) (by kernel_rfl) (laid_four hl)
  have ne : ∀ g, g < 4096 → g ≠ 25 → ¬ gnum (gid g) = 25 := fun g h1 h2 => by rw [gnum_gid h1]; exact h2
  have hsz : o + 23 * 1 ≤ arr.size := by
    have := h6 22 _ (show bsZ[22]? = some 4936209963552724370 by kernel_rfl)
    have := (Array.getElem?_eq_some_iff.1 this).1
    omega
  obtain ⟨mx, hM⟩ := int_cell (g := 0) (t := 3) (zero := #[.int .i64 0]) hS (by decide +kernel) (by kernel_rfl) rfl (by kernel_rfl) (by kernel_rfl) (by kernel_rfl)
  have nM : ¬ b = 0 := fun e => by
    subst e
    rw [hM] at h5
    cases h5
    simp only [List.size_toArray, List.length_cons, List.length_nil] at hsz
    omega
  have ogl0 : objOk (lieA Tryz.prog W 25 b o) W (gid 1) gl0 := by
    obtain ⟨el, fr, hh⟩ := h4
    exact cst_plain (vs := spZ.map fun z => Value.int .u8 z) (by simp only [lieA, gnum_gid (show 1 < 4096 by decide)]; exact hh) (by decide +kernel) (by kernel_rfl) (by decide +kernel) (fun j v hv => by simp only [lieA, if_neg (ne 1 (by decide) (by decide)), Nat.zero_add]; simpa using hv) (by simp only [lieA, if_neg (ne 1 (by decide) (by decide))]; rw [List.size_toArray]; decide +kernel)
  have ogl1 : objOk (lieA Tryz.prog W 25 b o) W (gid 8) gl1 := by
    obtain ⟨el, fr, hh⟩ := h2
    exact cst_plain (vs := [.bool true]) (by simp only [lieA, gnum_gid (show 8 < 4096 by decide)]; exact hh) (by decide +kernel) (by kernel_rfl) (by decide +kernel) (fun j v hv => by simp only [lieA, if_neg (ne 8 (by decide) (by decide)), Nat.zero_add]; simpa using hv) (by simp only [lieA, if_neg (ne 8 (by decide) (by decide))]; decide +kernel)
  have ogl2 : objOk (lieA Tryz.prog W 25 b o) W (gid 12) gl2 := by
    obtain ⟨el, fr, hh⟩ := h3
    refine cst_ok (by simp only [lieA, gnum_gid (show 12 < 4096 by decide)]; exact hh) (by decide +kernel) (by simp only [lieA, if_neg (ne 12 (by decide) (by decide))]; show 0 + 1 * 1 ≤ 1; decide) fun j hj => ?_
    have hj0 : j = 0 := by omega
    subst hj0
    refine ⟨.slice (gid 25) 0 1 23 23 true, .slice (some ⟨b, o, none⟩) 23 23, by kernel_rfl, by simp only [lieA, if_neg (ne 12 (by decide) (by decide))]; rfl, ?_, rfl⟩
    simp only [den]
    refine ⟨rfl, _, _, rfl, Nat.le_refl _, Nat.le_refl _, fun _ => rfl, fun _ => ?_⟩
    simp only [lieA, gnum_gid (show 25 < 4096 by decide), if_true, Nat.add_zero]
    refine ⟨trivial, ?_⟩
    rw [h5]; simpa using hsz
  have ogl3 : objOk (lieA Tryz.prog W 25 b o) W (gid 25) gl3 := by
    exact cst_plain (vs := bsZ.map fun x => Value.float .f64 x) (by simp only [lieA, gnum_gid (show 25 < 4096 by decide), if_true]; exact h5) (by decide +kernel) (by kernel_rfl) (by decide +kernel) (fun j v hv => by
      simp only [lieA, gnum_gid (show 25 < 4096 by decide), if_true]
      rw [List.getElem?_map] at hv
      obtain ⟨x, hx, rfl⟩ := Option.map_eq_some_iff.1 hv
      exact h6 j x hx) (by simp only [lieA, gnum_gid (show 25 < 4096 by decide), if_true]; exact hsz)
  have ogl4 : objOk (lieA Tryz.prog W 25 b o) W (gid 9) gl4 := by
    obtain ⟨el, fr, hh⟩ := h1
    exact cst_plain (vs := [.int .u64 52, .int .u64 11, .int .i64 (-1023)]) (by simp only [lieA, gnum_gid (show 9 < 4096 by decide)]; exact hh) (by decide +kernel) (by kernel_rfl) (by decide +kernel) (fun j v hv => by simp only [lieA, if_neg (ne 9 (by decide) (by decide)), Nat.zero_add]; simpa using hv) (by simp only [lieA, if_neg (ne 9 (by decide) (by decide))]; decide +kernel)
  have ogl5 : objOk (lieA Tryz.prog W 25 b o) W (gid 0) gl5 :=
    cst_anyi (by simp only [lieA, if_neg (ne 0 (by decide) (by decide)), gnum_gid (show 0 < 4096 by decide)]; exact hM) (by simp only [lieA, if_neg (ne 0 (by decide) (by decide))]) (by decide +kernel) (by kernel_rfl)
  have hfoot : en3z0.foot = [(gid 1, gl0), (gid 8, gl1), (gid 12, gl2), (gid 25, gl3), (gid 9, gl4), (gid 0, gl5)] := rfl
  have r : R (lieA Tryz.prog W 25 b o) (entH en3z0) W := start_foot (by
    rw [hfoot]
    intro p hp
    simp only [List.mem_cons, List.not_mem_nil, or_false] at hp
    rcases hp with rfl | rfl | rfl | rfl | rfl | rfl
    · exact ⟨rfl, ⟨_, _, _, rfl⟩, ogl0⟩
    · exact ⟨rfl, ⟨_, _, _, rfl⟩, ogl1⟩
    · exact ⟨rfl, ⟨_, _, _, rfl⟩, ogl2⟩
    · exact ⟨rfl, ⟨_, _, _, rfl⟩, ogl3⟩
    · exact ⟨rfl, ⟨_, _, _, rfl⟩, ogl4⟩
    · exact ⟨rfl, ⟨_, _, _, rfl⟩, ogl5⟩) (by
    have ne_b_9 : ¬ b = 9 := n1
    have ne_9_b : ¬ 9 = b := fun e => n1 e.symm
    have ne_b_8 : ¬ b = 8 := n2
    have ne_8_b : ¬ 8 = b := fun e => n2 e.symm
    have ne_b_12 : ¬ b = 12 := n3
    have ne_12_b : ¬ 12 = b := fun e => n3 e.symm
    have ne_b_1 : ¬ b = 1 := n4
    have ne_1_b : ¬ 1 = b := fun e => n4 e.symm
    have ne_b_0 : ¬ b = 0 := nM
    have ne_0_b : ¬ 0 = b := fun e => nM e.symm
    have B1 : (lieA Tryz.prog W 25 b o).blk (gid 1) = 1 := by simp only [lieA, if_neg (ne 1 (by decide) (by decide))]; exact gnum_gid (by decide)
    have B8 : (lieA Tryz.prog W 25 b o).blk (gid 8) = 8 := by simp only [lieA, if_neg (ne 8 (by decide) (by decide))]; exact gnum_gid (by decide)
    have B12 : (lieA Tryz.prog W 25 b o).blk (gid 12) = 12 := by simp only [lieA, if_neg (ne 12 (by decide) (by decide))]; exact gnum_gid (by decide)
    have B25 : (lieA Tryz.prog W 25 b o).blk (gid 25) = b := by simp only [lieA, gnum_gid (show 25 < 4096 by decide), if_true]
    have B9 : (lieA Tryz.prog W 25 b o).blk (gid 9) = 9 := by simp only [lieA, if_neg (ne 9 (by decide) (by decide))]; exact gnum_gid (by decide)
    have B0 : (lieA Tryz.prog W 25 b o).blk (gid 0) = 0 := by simp only [lieA, if_neg (ne 0 (by decide) (by decide))]; exact gnum_gid (by decide)
    rw [hfoot]
    intro p hp q hq e
    simp only [List.mem_cons, List.not_mem_nil, or_false] at hp hq
    rcases hp with rfl | rfl | rfl | rfl | rfl | rfl <;> rcases hq with rfl | rfl | rfl | rfl | rfl | rfl
    · rfl
    · exfalso; revert e; simp only [B1, B8]; first | decide | exact ne_1_8
    · exfalso; revert e; simp only [B1, B12]; first | decide | exact ne_1_12
    · exfalso; revert e; simp only [B1, B25]; first | decide | exact ne_1_b
    · exfalso; revert e; simp only [B1, B9]; first | decide | exact ne_1_9
    · exfalso; revert e; simp only [B1, B0]; first | decide | exact ne_1_0
    · exfalso; revert e; simp only [B8, B1]; first | decide | exact ne_8_1
    · rfl
    · exfalso; revert e; simp only [B8, B12]; first | decide | exact ne_8_12
    · exfalso; revert e; simp only [B8, B25]; first | decide | exact ne_8_b
    · exfalso; revert e; simp only [B8, B9]; first | decide | exact ne_8_9
    · exfalso; revert e; simp only [B8, B0]; first | decide | exact ne_8_0
    · exfalso; revert e; simp only [B12, B1]; first | decide | exact ne_12_1
    · exfalso; revert e; simp only [B12, B8]; first | decide | exact ne_12_8
    · rfl
    · exfalso; revert e; simp only [B12, B25]; first | decide | exact ne_12_b
    · exfalso; revert e; simp only [B12, B9]; first | decide | exact ne_12_9
    · exfalso; revert e; simp only [B12, B0]; first | decide | exact ne_12_0
    · exfalso; revert e; simp only [B25, B1]; first | decide | exact ne_b_1
    · exfalso; revert e; simp only [B25, B8]; first | decide | exact ne_b_8
    · exfalso; revert e; simp only [B25, B12]; first | decide | exact ne_b_12
    · rfl
    · exfalso; revert e; simp only [B25, B9]; first | decide | exact ne_b_9
    · exfalso; revert e; simp only [B25, B0]; first | decide | exact ne_b_0
    · exfalso; revert e; simp only [B9, B1]; first | decide | exact ne_9_1
    · exfalso; revert e; simp only [B9, B8]; first | decide | exact ne_9_8
    · exfalso; revert e; simp only [B9, B12]; first | decide | exact ne_9_12
    · exfalso; revert e; simp only [B9, B25]; first | decide | exact ne_9_b
    · rfl
    · exfalso; revert e; simp only [B9, B0]; first | decide | exact ne_9_0
    · exfalso; revert e; simp only [B0, B1]; first | decide | exact ne_0_1
    · exfalso; revert e; simp only [B0, B8]; first | decide | exact ne_0_8
    · exfalso; revert e; simp only [B0, B12]; first | decide | exact ne_0_12
    · exfalso; revert e; simp only [B0, B25]; first | decide | exact ne_0_b
    · exfalso; revert e; simp only [B0, B9]; first | decide | exact ne_0_9
    · rfl)
  have hg : Glob (lieA Tryz.prog W 25 b o) Tryz.prog := globA (by decide +kernel)
  refine (run_closed (i := fn3) o3z0 rfl rfl r hg (by
    rw [hfoot]
    intro p hp
    simp only [List.mem_cons, List.not_mem_nil, or_false] at hp
    rcases hp with rfl | rfl | rfl | rfl | rfl | rfl <;> exact ⟨rfl, _, _, _, rfl⟩) (by
    rw [hfoot]
    refine nodup_ids ?_
    decide +kernel)).mono fun en w' he => ?_
  obtain ⟨u, ψ, rfl, hd, h7, h8, h9⟩ := he
  have hv : en3z0.val = .bool true := rfl
  rw [hv] at hd
  simp only [den] at hd
  exact ⟨by rw [hd], h7, h8, h9⟩
theorem laid_met (os : Os) : laidMet Tryz.prog Rows.purityKnownRow.laid ((World.laidAll Tryz.prog os Rows.purityKnownRow.laid).forCall (fun _ _ => 0) ⟨#[], #[], []⟩).memory :=
  laidMet_laidAll _ (by kernel_rfl) (by kernel_rfl)
theorem contract (H : Type) (enc : TypeId × Value → H) (W : World) (args : Array Value) (ds gs : List (DataW H)) (before : List MemPlace)
    (hW : DataW.Whole enc Tryz.prog Tryz.f3.params.toList Rows.purityKnownSpec.vars false W args.toList ds gs before) (hS : W.ShapedOpen Tryz.prog) (hL : laidMetH Tryz.prog Rows.purityKnownRow.laid W) :
    Calls Tryz.prog 3 args W fun e W' => ∃ v, e = .returned v ∧ Rows.purityKnownSpec.post enc Tryz.prog Tryz.f3 false true false false W args v W' := by
  have hW' := hW
  obtain ⟨p, q, hA0, hV, rfl, _, _⟩ := hW
  have hA : DataW.TrodAll enc Tryz.prog W 0 (fun _ => true) true [] args.toList ds p := hA0
  obtain ⟨rfl, rfl, rfl⟩ := trodAll_none hA
  obtain ⟨rfl, rfl⟩ := trodVars_none hV
  refine (does hS hL).mono fun e W' ⟨he, hos, hout, hs⟩ => ?_
  subst he
  refine ⟨_, rfl, [], [], [], [], [], [], hW', trodAll_mk1 (shut_bool Tryz.underlying4 _), rfl, rfl, Xv.kept_of_same hos hout hs _, fun h => by cases h⟩
end Go.Proofs.YtooommicgmbmiaaGreatDoor
