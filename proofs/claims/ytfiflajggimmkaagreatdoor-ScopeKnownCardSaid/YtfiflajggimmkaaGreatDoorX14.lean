/- A part of the proof of 'ScopeKnownCardSaid': the compiled functions, the answers found by evaluation, and what follows of them. There is no further condition. -/
import Derived.Test.YtfiflajggimmkaaGreatDoorX13
import Derived.Test.YtfiflajggimmkaaGreatDoorCards
import Derived.Test.YtfiflajggimmkaaGreatDoorTie
import Derived.ProofKit
import Derived.OpenShut
import Derived.Deep.DeepHandedRow
import Derived.Lib.LaidTab
import Derived.LaidSub
import Derived.LaidMore
import Derived.Lay
namespace Go.Proofs.YtfiflajggimmkaaGreatDoor
open Go.ChangeShapes Go.WideShapes Go.ChangeAt Go.RowKit
set_option maxRecDepth 100000

theorem own : ownKnob Tryz.prog.godebug = none := by kernel_rfl
def spZ : List Int := (List.range 256).map fun i => if i = 9 ∨ i = 10 ∨ i = 11 ∨ i = 12 ∨ i = 13 ∨ i = 32 then 1 else 0
theorem filt : (Rows.scopeKnownRow.laid.filter fun x => x.1 == "strings.asciiSpace") = [("strings.asciiSpace", Lib.tabData .u8 spZ)] := by kernel_rfl
theorem gSp : Tryz.prog.globalNamed "strings.asciiSpace" = some 1 := by kernel_rfl
theorem gSpT : (Tryz.prog.globals[1]?).map (·.type) = some 120 := by kernel_rfl
theorem cSp : Tryz.prog.cellsOf 120 = 256 := by kernel_rfl
theorem uSp : Tryz.prog.underlying 120 = some (.array 256 5) := by kernel_rfl
theorem u5 : Tryz.prog.underlying 5 = some (.int .u8) := by kernel_rfl
theorem c5 : Tryz.prog.cellsOf 5 = 1 := by kernel_rfl
theorem table {W : World} (h : laidMetH Tryz.prog Rows.scopeKnownRow.laid W) : Lib.TabIs Tryz.prog W "strings.asciiSpace" .u8 spZ := by
  have h1 := laidMetH.filter (fun x => x.1 == "strings.asciiSpace") h
  rw [filt] at h1
  rw [MakeChecks.laidMetH_plain _ _ _ (by kernel_rfl)] at h1
  exact Lib.tabIs_of_head (rest := []) gSp gSpT uSp u5 c5 cSp h1
open Xv Xv.Sk in
theorem sp_cells : ((List.range 256).all fun j => match spO.cell j with | some (.u8 n) => decide ((n : Int) = spZ.getD j 0) | _ => false) = true := by decide +kernel
open Xv Xv.Sk in
theorem sp_rows : ((List.range 256).all fun k => match spO with | .rows _ _ _ _ t => (rowGet t k).length == 1 | _ => false) = true := by decide +kernel
open Xv Xv.Sk in
theorem sp_cell {j : Nat} (hj : j < 256) : ∃ n : Nat, spO.cell j = some (.u8 n) ∧ spZ[j]? = some (n : Int) := by
  have h := List.all_eq_true.1 sp_cells j (List.mem_range.2 hj)
  split at h
  · rename_i n hn
    have h' := of_decide_eq_true h
    refine ⟨n, hn, ?_⟩
    have hl : spZ.length = 256 := by kernel_rfl
    rw [List.getD_eq_getElem?_getD] at h'
    rw [List.getElem?_eq_getElem (by omega)] at h' ⊢
    simpa using h'.symm
  · cases h
open Xv Xv.Sk in
theorem sp_ok {W : World} {cs : Array Value} (hb : W.heap[1]? = some (.cells cs 120)) (hc : cs = (spZ.map fun z => Value.int .u8 z).toArray) : objOk (lie0 256) W (gid 1) spO := by
  have hl : spZ.length = 256 := by kernel_rfl
  have hs : cs.size = 256 := by rw [hc]; simp [hl]
  have hblk : (lie0 256).blk (gid 1) = 1 := gnum_gid (by decide)
  have key : CellsOk (lie0 256) W (gid 1) spO := by
    refine ⟨⟨by decide, by decide, fun k hk => ?_⟩, (fun h => by cases h), fun _ => ⟨cs, by rw [hblk]; exact hb⟩, cs, (0, 0), by rw [hblk]; exact hb, hs, by rw [hs]; exact Nat.le_refl _, fun j x hx => ?_, fun j v hv => ?_, (fun j h1 h2 => absurd h2 (Nat.not_lt_zero j))⟩
    · have := List.all_eq_true.1 sp_rows k (List.mem_range.2 hk)
      simpa [spO] using this
    · have hj : j < 256 := by
        refine Classical.byContradiction fun h => ?_
        have : spO.cell j = none := by show (if j < 256 * 1 then _ else none) = none; rw [if_neg (by omega)]
        rw [this] at hx; cases hx
      obtain ⟨n, h1, h2⟩ := sp_cell hj
      rw [h1] at hx; cases hx
      refine ⟨.int .u8 n, ?_, by simp only [den]⟩
      show cs[0 + j]? = _
      rw [Nat.zero_add, hc]
      simp [h2]
    · rw [hc] at hv
      simp at hv
      obtain ⟨z, _, rfl⟩ := hv
      rfl
  exact key
open Xv Xv.Sk in
/-- What the call does. -/
theorem does {W : World} {cs : Array Value} (hb : W.heap[1]? = some (.cells cs 120)) (hc : cs = (spZ.map fun z => Value.int .u8 z).toArray) :
    Calls Tryz.prog 3 #[] W fun e W' => e = .returned (.bool true) ∧ W'.os = W.os ∧ W'.output = W.output ∧ ∀ i, i < W.heap.size → W'.heap[i]? = W.heap[i]? := by
  have hok := sp_ok hb hc
  have hl : spZ.length = 256 := by kernel_rfl
  have hs : cs.size = 256 := by rw [hc]; simp [hl]
  have hlt : 1 < W.heap.size := (Array.getElem?_eq_some_iff.1 hb).1
  have r := start_R (e := en3z0) (o := spO) (g := 1) (by decide) rfl rfl hok hlt
  have hgsp : (entH en3z0).get (gid 1) = spO := by kernel_rfl
  obtain ⟨_, h⟩ := o3z0 (lie0 256) (entH en3z0) W #[] .done (.ret en3z0.val (entH en3z0)) (.done _) r (glob0 256 _) denL_nil (fun p hp => by
    have : p = (gid 1, spO) := List.mem_singleton.1 hp
    rw [this]; exact hgsp)
  refine h.mono fun e W' he => ?_
  obtain ⟨co, hdn, hco⟩ := he
  obtain ⟨o1, e1, hle⟩ := hdn
  cases e1
  obtain ⟨ψ, u, rfl, hd, r', st⟩ := hco.weak hle
  have hu : u = .bool true := by
    have : en3z0.val = .bool true := rfl
    rw [this] at hd; simpa only [den] using hd
  have hblk : (lie0 256).blk (gid 1) = 1 := gnum_gid (by decide)
  have hsame : W'.heap[1]? = W.heap[1]? := by
    have ho := r'.obj (gid 1)
    rw [hgsp] at ho
    have := ro_same (W := W) (W' := W') (φ := lie0 256) (ψ := ψ) (i := gid 1) (o := spO) (cs := cs) (by rw [hblk]; exact hb) hs rfl
      (fun j hj => by obtain ⟨n, h1, _⟩ := sp_cell (hs ▸ hj); exact ⟨n, h1⟩)
      (fun j n hn => by
        have hj : j < 256 := by
          refine Classical.byContradiction fun h => ?_
          have : spO.cell j = none := by show (if j < 256 * 1 then _ else none) = none; rw [if_neg (by omega)]
          rw [this] at hn; cases hn
        obtain ⟨m, h1, h2⟩ := sp_cell hj
        rw [h1] at hn; cases hn
        rw [hc]; simp [h2]) rfl st.le rfl ho
    rwa [hblk] at this
  refine ⟨by rw [hu], st.os, st.output, fun i hi => ?_⟩
  by_cases hi1 : i = 1
  · rw [hi1]; exact hsame
  · refine st.frame i hi fun j hj ej => ?_
    have hget : (entH en3z0).get j = if j = gid 1 then spO else Hd.get j := by
      classical
      show get4 (putF Hd.t en3z0.foot) j = _
      have hf : en3z0.foot = [(gid 1, spO)] := rfl
      rw [hf]; simp only [putF]; rw [get4_put4]; rfl
    by_cases e : j = gid 1
    · rw [e, hblk] at ej; exact hi1 ej.symm
    · change live ((entH en3z0).get j) = true at hj
      rw [hget, if_neg e] at hj
      rcases Hd_get j with ⟨h1, _⟩ | ⟨h1, _⟩ <;> rw [h1] at hj <;> cases hj

theorem laid_met (os : Os) : laidMet Tryz.prog Rows.scopeKnownRow.laid ((World.laidAll Tryz.prog os Rows.scopeKnownRow.laid).forCall (fun _ _ => 0) ⟨#[], #[], []⟩).memory :=
  laidMet_laidAll _ (by kernel_rfl) (by kernel_rfl)

theorem contract (H : Type) (enc : TypeId × Value → H) (W : World) (args : Array Value) (ds gs : List (DataW H)) (before : List MemPlace)
    (hW : DataW.Whole enc Tryz.prog Tryz.f3.params.toList Rows.scopeKnownSpec.vars false W args.toList ds gs before) (hL : laidMetH Tryz.prog Rows.scopeKnownRow.laid W) (hS : W.ShapedOpen Tryz.prog) :
    Calls Tryz.prog 3 args W fun e W' => ∃ v, e = .returned v ∧ Rows.scopeKnownSpec.post enc Tryz.prog Tryz.f3 false true false false W args v W' := by
  have hW' := hW
  obtain ⟨p, q, hA0, hV, rfl, _, _⟩ := hW
  have hA : DataW.TrodAll enc Tryz.prog W 0 (fun _ => true) true [] args.toList ds p := hA0
  obtain ⟨rfl, rfl, rfl⟩ := trodAll_none hA
  obtain ⟨rfl, rfl⟩ := trodVars_none hV
  have ht := table hL
  obtain ⟨cs, hb, hc⟩ : ∃ cs, W.heap[1]? = some (.cells cs 120) ∧ cs = (spZ.map fun z => Value.int .u8 z).toArray := by
    have hz : (((begin Tryz.prog (fun _ _ => 0) default).world.heap[1]?).bind Obj.row?) = some (Array.replicate 256 (Value.int .u8 0), 120) := by kernel_rfl
    obtain ⟨cs, h1, _⟩ := hS.1 1 _ 120 (by decide +kernel) hz
    refine ⟨cs, h1, ?_⟩
    unfold Lib.TabIs at ht
    simp only [World.var?, gSp, Option.bind_some, h1, Option.some.injEq] at ht
    exact ht
  refine (does hb hc).mono fun e W' ⟨he, hos, hout, hs⟩ => ?_
  subst he
  refine ⟨_, rfl, [], [], [], [], [], [], hW', trodAll_mk1 (shut_bool Tryz.underlying4 _), rfl, rfl, Xv.kept_of_same hos hout hs _, fun h => by cases h⟩

end Go.Proofs.YtfiflajggimmkaaGreatDoor
