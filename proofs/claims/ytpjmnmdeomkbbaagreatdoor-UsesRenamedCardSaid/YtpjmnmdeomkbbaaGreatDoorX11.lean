/- A part of the proof of UsesRenamedCardSaid: the compiled functions, the answers found by evaluation, and what follows of them. There is no further condition. -/
import Derived.Test.YtpjmnmdeomkbbaaGreatDoorX10
import Derived.Test.YtpjmnmdeomkbbaaGreatDoorCards
import Derived.Test.YtpjmnmdeomkbbaaGreatDoorTie
import Derived.ProofKit
import Derived.OpenShut
import Derived.Deep.DeepHandedRow
import Derived.LaidMore
import Derived.Lay
namespace Go.Proofs.YtpjmnmdeomkbbaaGreatDoor
open Go.ChangeShapes Go.WideShapes Go.ChangeAt Go.RowKit
set_option maxRecDepth 100000

theorem own : ownKnob Tryz.prog.godebug = none := by kernel_rfl
def spZ : List Int := (List.range 256).map fun i => if i = 9 ∨ i = 10 ∨ i = 11 ∨ i = 12 ∨ i = 13 ∨ i = 32 then 1 else 0
def bsZ : List Nat := [4607182418800017408, 4621819117588971520, 4636737291354636288, 4652007308841189376, 4666723172467343360, 4681608360884174848, 4696837146684686336, 4711630319722168320, 4726483295884279808, 4741671816366391296, 4756540486875873280, 4771362005757984768, 4786511204640096256, 4801453603149578240, 4816244402031689728, 4831355200913801216, 4846369599423283200, 4861130398305394688, 4876203697187506176, 4891288408196988160, 4906019910204099648, 4921056587992461136, 4936209963552724370]
def four : List (String × DataW Unit) := [("internal/strconv.float64info", .agg [.lit (.int .u64 52), .lit (.int .u64 11), .lit (.int .i64 (-1023))]), ("internal/strconv.optimize", .lit (.bool true)), ("internal/strconv.float64pow10", .slice (bsZ.map fun b => .lit (.float .f64 b)) []), ("strings.asciiSpace", Lib.tabData .u8 spZ)]
theorem filt : (Rows.usesRenamedRow.laid.filter fun x => four.any fun y => y.1 == x.1) = four := by kernel_rfl
theorem laid_four {W : World} (h : laidMetH Tryz.prog Rows.usesRenamedRow.laid W) : laidMet Tryz.prog four W := by
  have h1 := laidMetH.filter (fun x => four.any fun y => y.1 == x.1) h
  rw [filt] at h1
  rw [MakeChecks.laidMetH_plain _ _ _ (by kernel_rfl)] at h1
  exact h1
open Xv Xv.Ur in
/-- What the call does. -/
theorem does {W : World} (k : Int) (s1 : ByteArray) (k2 k3 : Int) (s4 : ByteArray) (hS : W.ShapedOpen Tryz.prog) (hl : laidMetH Tryz.prog Rows.usesRenamedRow.laid W) :
    Calls Tryz.prog 3 #[.agg #[.int .i64 k, .string s1, .int .i64 k2, .int .i64 k3, .string s4]] W fun e W' => e = .returned (.bool true) ∧ W'.os = W.os ∧ W'.output = W.output ∧ ∀ i, i < W.heap.size → W'.heap[i]? = W.heap[i]? := by
  obtain ⟨x, hx1, hx2⟩ := tE k
  obtain ⟨b, o, arr, el, fr, h1, h2, h3, h4, h5, h6, n1, n2, n3, n4⟩ := Xv.laid4 (P := Tryz.prog) (W := W) (gI := 9) (gO := 8) (gP := 12) (gS := 3) (tI := 335) (tO := 4) (tP := 384) (tS := 222) (eP := 140) (eS := 5) (f0 := { name := "mantbits", type := 223, offset := 0, embedded := false, tag := "", pkgPath := "internal/strconv", byteOffset := 0 }) (f1 := { name := "expbits", type := 223, offset := 1, embedded := false, tag := "", pkgPath := "internal/strconv", byteOffset := 8 }) (f2 := { name := "bias", type := 3, offset := 2, embedded := false, tag := "", pkgPath := "internal/strconv", byteOffset := 16 })
    (by kernel_rfl) (by kernel_rfl) (by kernel_rfl) (by kernel_rfl) (by kernel_rfl) (by kernel_rfl) (by kernel_rfl) (by kernel_rfl) (by kernel_rfl) (by kernel_rfl) (by kernel_rfl) (by kernel_rfl) rfl rfl rfl (by kernel_rfl) (by kernel_rfl) (by kernel_rfl) (by kernel_rfl)
    (by kernel_rfl) (by kernel_rfl) (by kernel_rfl) (by kernel_rfl) (by decide) (by kernel_rfl) (by kernel_rfl) (by kernel_rfl) (by kernel_rfl) (laid_four hl)
  have ne : ∀ g, g < 4096 → g ≠ 4095 → ¬ gnum (gid g) = 4095 := fun g h1 h2 => by rw [gnum_gid h1]; exact h2
  have hsz : o + 23 * 1 ≤ arr.size := by
    have := h6 22 _ (show bsZ[22]? = some 4936209963552724370 by kernel_rfl)
    have := (Array.getElem?_eq_some_iff.1 this).1
    omega
  have ogl0 : objOk (lieA Tryz.prog W 4095 b o) W (gid 3) gl0 := by
    obtain ⟨el, fr, hh⟩ := h4
    exact cst_plain (vs := spZ.map fun z => Value.int .u8 z) (by simp only [lieA, gnum_gid (show 3 < 4096 by decide)]; exact hh) (by decide +kernel) (by kernel_rfl) (by decide +kernel) (fun j v hv => by simp only [lieA, if_neg (ne 3 (by decide) (by decide)), Nat.zero_add]; simpa using hv) (by simp only [lieA, if_neg (ne 3 (by decide) (by decide))]; rw [List.size_toArray]; decide +kernel)
  have hfoot : (dE x).foot = [(gid 3, gl0)] := rfl
  have r : R (lieA Tryz.prog W 4095 b o) (entH (dE x)) W := start_foot (by
    rw [hfoot]
    intro p hp
    simp only [List.mem_cons, List.not_mem_nil, or_false] at hp
    rcases hp with rfl
    · exact ⟨rfl, ⟨_, _, _, rfl⟩, ogl0⟩) (by
    have B3 : (lieA Tryz.prog W 4095 b o).blk (gid 3) = 3 := by simp only [lieA, if_neg (ne 3 (by decide) (by decide))]; exact gnum_gid (by decide)
    rw [hfoot]
    intro p hp q hq e
    simp only [List.mem_cons, List.not_mem_nil, or_false] at hp hq
    rcases hp with rfl <;> rcases hq with rfl
    · rfl)
  have hg : Glob (lieA Tryz.prog W 4095 b o) Tryz.prog := globA (by decide +kernel)
  have hargs : denL (lieA Tryz.prog W 4095 b o) (dE x).args (#[Value.agg #[.int .i64 k, .string s1, .int .i64 k2, .int .i64 k3, .string s4]] : Array Value).toList := by
    refine denL_cons.2 ⟨?_, denL_nil⟩
    unfold den
    refine ⟨_, rfl, denL_cons.2 ⟨hx2 _, denL_cons.2 ⟨trivial, denL_cons.2 ⟨trivial, denL_cons.2 ⟨trivial, denL_cons.2 ⟨trivial, denL_nil⟩⟩⟩⟩⟩, fun c hc => ?_⟩
    simp only [List.mem_cons, List.not_mem_nil, or_false] at hc
    rcases hc with rfl | rfl | rfl | rfl | rfl <;> rfl
  refine (run_open (i := fU) (oE hx1) rfl hargs r hg (by
    rw [hfoot]
    intro p hp
    simp only [List.mem_cons, List.not_mem_nil, or_false] at hp
    rcases hp with rfl <;> exact ⟨rfl, _, _, _, rfl⟩) (by
    rw [hfoot]
    refine nodup_ids ?_
    decide +kernel)).mono fun en w' he => ?_
  obtain ⟨u, ψ, rfl, hd, h7, h8, h9⟩ := he
  have hv : (dE x).val = .bool true := rfl
  rw [hv] at hd
  simp only [den] at hd
  exact ⟨by rw [hd], h7, h8, h9⟩
theorem laid_met (os : Os) : laidMet Tryz.prog Rows.usesRenamedRow.laid ((World.laidAll Tryz.prog os Rows.usesRenamedRow.laid).forCall (fun _ _ => 0) ⟨#[], #[.agg #[.int .i64 0, .string ⟨#[]⟩, .int .i64 0, .int .i64 0, .string ⟨#[]⟩]], []⟩).memory :=
  laidMet_laidAll _ (by kernel_rfl) (by kernel_rfl)
theorem contract (H : Type) (enc : TypeId × Value → H) (W : World) (args : Array Value) (ds gs : List (DataW H)) (before : List MemPlace)
    (hW : DataW.Whole enc Tryz.prog Tryz.f3.params.toList Rows.usesRenamedSpec.vars false W args.toList ds gs before) (hS : W.ShapedOpen Tryz.prog) (hL : laidMetH Tryz.prog Rows.usesRenamedRow.laid W) :
    Calls Tryz.prog 3 args W fun e W' => ∃ v, e = .returned v ∧ Rows.usesRenamedSpec.post enc Tryz.prog Tryz.f3 false true false false W args v W' := by
  have hW' := hW
  obtain ⟨p, q, hA0, hV, rfl, _, _⟩ := hW
  have hA : DataW.TrodAll enc Tryz.prog W 0 (fun _ => true) true [23] args.toList ds p := hA0
  obtain ⟨v, d, rfl, rfl, hd⟩ := trodAll_one hA
  obtain ⟨rfl, rfl⟩ := trodVars_none hV
  obtain ⟨k, s1, k2, k3, s4, rfl⟩ := Xv.five_of (f0 := { name := "Kind", type := 3, offset := 0, embedded := false, tag := "", pkgPath := "", byteOffset := 0 }) (f1 := { name := "Name", type := 9, offset := 1, embedded := false, tag := "", pkgPath := "", byteOffset := 8 }) (f2 := { name := "Doc", type := 3, offset := 2, embedded := false, tag := "", pkgPath := "", byteOffset := 24 }) (f3 := { name := "At", type := 3, offset := 3, embedded := false, tag := "", pkgPath := "", byteOffset := 32 }) (f4 := { name := "Dir", type := 9, offset := 4, embedded := false, tag := "", pkgPath := "", byteOffset := 40 }) (by kernel_rfl) (by kernel_rfl) rfl rfl rfl rfl rfl (by kernel_rfl) (by kernel_rfl) (by kernel_rfl) (by kernel_rfl) (by kernel_rfl) (by kernel_rfl) (by kernel_rfl) (by kernel_rfl) (by kernel_rfl) (by kernel_rfl) hd
  refine (does k s1 k2 k3 s4 hS hL).mono fun e W' ⟨he, hos, hout, hs⟩ => ?_
  subst he
  refine ⟨_, rfl, [d], [], _, [], p, [], hW', trodAll_mk1 (shut_bool Tryz.underlying4 _), trodAll_mk1 (Xv.Trod_flat (d := 3) (by kernel_rfl) hd), rfl, Xv.kept_of_same hos hout hs _, fun h => by cases h⟩
end Go.Proofs.YtpjmnmdeomkbbaaGreatDoor
