/- A part of the proof of UsesRenamedCardSaid: an evaluator of closed calls and its soundness. There is no further condition. -/
import Derived.Test.YtpjmnmdeomkbbaaGreatDoorX00
import Derived.Laws.IdiomCopy
import Derived.Laws.Tables
import Derived.Laws.MakeOwn
import Derived.Great.BuildSlice
import Derived.MapKept
import Derived.ChangeKeysEq
import Derived.WideLaws
import Derived.Maps.RangeRun
import Derived.Deep.DeepAppendWide
import Derived.Laws.BytesString
import Derived.RangeFuncLeaves
import Derived.OrdersIn
import Derived.RecoverIn
import Derived.Scope
namespace Xv
open Go
section
variable {P : Program} {w : World} {t : TypeId} {D : Nat}
theorem ep1 {e : TypeId} (ht : P.underlying t = some (.pointer e)) : (Op.equalIn (D+1) t (.pointer none) (.pointer none)).run P w = .ok true w := by rw [Op.equalIn, Sem.run_bind, underlying_run ht]; rfl
theorem ep2 {e : TypeId} {a : Addr} (ht : P.underlying t = some (.pointer e)) : (Op.equalIn (D+1) t (.pointer none) (.pointer (some a))).run P w = .ok false w := by rw [Op.equalIn, Sem.run_bind, underlying_run ht]; rfl
theorem ep3 {e : TypeId} {a : Addr} (ht : P.underlying t = some (.pointer e)) : (Op.equalIn (D+1) t (.pointer (some a)) (.pointer none)).run P w = .ok false w := by rw [Op.equalIn, Sem.run_bind, underlying_run ht]; rfl
theorem ep4 {e : TypeId} {a : Addr} {n : Nat} (ht : P.underlying t = some (.pointer e)) (hs : szO P e = some n) : (Op.equalIn (D+1) t (.pointer (some a)) (.pointer (some a))).run P w = .ok true w := by
  rw [Op.equalIn, Sem.run_bind, underlying_run ht]
  simp only [Result.andThen, Sem.run_bind, sizeOf_run hs]
  by_cases hn : n = 0
  · subst hn; simp
  · simp [hn, sameAddr]
theorem dnum_inj : ∀ {a b : Xv.D}, dnum a = dnum b → a = b := by intro a b; cases a <;> cases b <;> first | (intro _; rfl) | (intro h; exact absurd h (by decide))
theorem sameI_eq {i j : Id} (h : sameI i j = true) : i = j := by
  unfold sameI at h
  have c : ∀ {a b : Bool}, cond a b false = true → a = true ∧ b = true := fun {a b} h => by cases a <;> simp_all
  obtain ⟨h1, h⟩ := c h
  obtain ⟨h2, h⟩ := c h
  obtain ⟨h3, h4⟩ := c h
  cases i; cases j
  simp only at h1 h2 h3 h4
  rw [dnum_inj (Nat.eq_of_beq_eq_true h1), dnum_inj (Nat.eq_of_beq_eq_true h2), dnum_inj (Nat.eq_of_beq_eq_true h3), dnum_inj (Nat.eq_of_beq_eq_true h4)]
theorem ptr_same {i j : Id} {o q : Nat} {r : Bool} (he : cond (cond (Nat.beq o q) (sameI i j) false) (some true) none = some r) : r = true ∧ i = j ∧ o = q := by
  cases h1 : Nat.beq o q with
  | false => rw [h1] at he; cases he
  | true =>
    rw [h1] at he
    cases h2 : sameI i j with
    | false => rw [h2] at he; cases he
    | true => rw [h2] at he; cases he; exact ⟨rfl, sameI_eq h2, Nat.eq_of_beq_eq_true h1⟩
theorem es1 {e : TypeId} {l c l' c' : Nat} (ht : P.underlying t = some (.slice e)) : (Op.equalIn (D+1) t (.slice none l c) (.slice none l' c')).run P w = .ok true w := by rw [Op.equalIn, Sem.run_bind, underlying_run ht]; rfl
theorem es2 {e : TypeId} {a : Addr} {l c l' c' : Nat} (ht : P.underlying t = some (.slice e)) : (Op.equalIn (D+1) t (.slice none l c) (.slice (some a) l' c')).run P w = .ok false w := by rw [Op.equalIn, Sem.run_bind, underlying_run ht]; rfl
theorem es3 {e : TypeId} {a : Addr} {l c l' c' : Nat} (ht : P.underlying t = some (.slice e)) : (Op.equalIn (D+1) t (.slice (some a) l c) (.slice none l' c')).run P w = .ok false w := by rw [Op.equalIn, Sem.run_bind, underlying_run ht]; rfl
theorem em1 {k e : TypeId} (ht : P.underlying t = some (.map k e)) : (Op.equalIn (D+1) t (.map none) (.map none)).run P w = .ok true w := by rw [Op.equalIn, Sem.run_bind, underlying_run ht]; rfl
theorem em2 {k e : TypeId} {a : Nat} (ht : P.underlying t = some (.map k e)) : (Op.equalIn (D+1) t (.map none) (.map (some a))).run P w = .ok false w := by rw [Op.equalIn, Sem.run_bind, underlying_run ht]; rfl
theorem em3 {k e : TypeId} {a : Nat} (ht : P.underlying t = some (.map k e)) : (Op.equalIn (D+1) t (.map (some a)) (.map none)).run P w = .ok false w := by rw [Op.equalIn, Sem.run_bind, underlying_run ht]; rfl
theorem ef1 {a b : Array TypeId} {c : Bool} (ht : P.underlying t = some (.func a b c)) : (Op.equalIn (D+1) t .nilFunc .nilFunc).run P w = .ok true w := by rw [Op.equalIn, Sem.run_bind, underlying_run ht]; rfl
theorem ef2 {a b : Array TypeId} {c : Bool} {g : Fn} {x y : Array Value} (ht : P.underlying t = some (.func a b c)) : (Op.equalIn (D+1) t .nilFunc (.func g x y)).run P w = .ok false w := by rw [Op.equalIn, Sem.run_bind, underlying_run ht]; rfl
theorem ef3 {a b : Array TypeId} {c : Bool} {g : Fn} {x y : Array Value} (ht : P.underlying t = some (.func a b c)) : (Op.equalIn (D+1) t (.func g x y) .nilFunc).run P w = .ok false w := by rw [Op.equalIn, Sem.run_bind, underlying_run ht]; rfl
theorem ei1 {ms : Array (String × TypeId)} (ht : P.underlying t = some (.interface ms)) : (Op.equalIn (D+1) t .nilIface .nilIface).run P w = .ok true w := by rw [Op.equalIn, Sem.run_bind, underlying_run ht]; rfl
theorem ei2 {ms : Array (String × TypeId)} {g : TypeId} {x : Value} (ht : P.underlying t = some (.interface ms)) : (Op.equalIn (D+1) t .nilIface (.iface g x)).run P w = .ok false w := by rw [Op.equalIn, Sem.run_bind, underlying_run ht]; rfl
theorem ei3 {ms : Array (String × TypeId)} {g : TypeId} {x : Value} (ht : P.underlying t = some (.interface ms)) : (Op.equalIn (D+1) t (.iface g x) .nilIface).run P w = .ok false w := by rw [Op.equalIn, Sem.run_bind, underlying_run ht]; rfl
end
section
variable {P : Program} {φ : Lie} {h : Hp} {w : World} {f : Fr} {a : Act} {o : Oper}

def isEq (b : BinOp) (neg : Bool) : Prop := (b = .eql ∧ neg = false) ∨ (b = .neq ∧ neg = true)
/-- '==' on data that are not both numbers or texts comes to Op.equal. -/
theorem eq_run {b : BinOp} {neg : Bool} (hb : isEq b neg) {t : TypeId} {u v : Value} {r : Bool} (hni : ∀ k m j n, u = .int k m → v = .int j n → False) (hnf : ∀ k m j n, u = .float k m → v = .float j n → False)
    (hnc : ∀ k m m' j n n', u = .complex k m m' → v = .complex j n n' → False) (hns : ∀ m n, u = .string m → v = .string n → False)
    (he : (Op.equalIn 10000 t u v).run P w = .ok r w) : (binOp b t u v).run P w = .ok (.bool (if neg then !r else r)) w := by
  rcases hb with ⟨rfl, rfl⟩ | ⟨rfl, rfl⟩
  · have : binOp .eql t u v = (do pure (.bool (← Op.equal t u v))) := by
      cases u <;> cases v <;> first | rfl | exact (hni _ _ _ _ rfl rfl).elim | exact (hnf _ _ _ _ rfl rfl).elim | exact (hnc _ _ _ _ _ _ rfl rfl).elim | exact (hns _ _ rfl rfl).elim
    rw [this]
    simp [Op.equal, Op.maxDepth, he]
  · have : binOp .neq t u v = (do pure (.bool (!(← Op.equal t u v)))) := by
      cases u <;> cases v <;> first | rfl | exact (hni _ _ _ _ rfl rfl).elim | exact (hnf _ _ _ _ rfl rfl).elim | exact (hnc _ _ _ _ _ _ rfl rfl).elim | exact (hns _ _ rfl rfl).elim
    rw [this]
    simp [Op.equal, Op.maxDepth, he]
/-- 'The guard lets by'. -/
theorem guard_ok {b : BinOp} {t : TypeId} {x y : Operand} {u v : Value} (h1 : u = .nilIface → v = .nilIface → isConst x = true ∨ isConst y = true)
    (h2 : ∀ l r, u = .agg l → v = .agg r → P.eqGuardType P.depth t = false) : (eqGuard b t x y u v).run P w = .ok () w := by
  cases u <;> cases v <;> first
    | (cases b <;> simp [eqGuard]; done)
    | (have g := h2 _ _ rfl rfl; cases b <;> simp [eqGuard, g]; done)
    | (rcases h1 rfl rfl with g | g
       · cases x <;> simp only [isConst, Bool.false_eq_true] at g; cases b <;> simp [eqGuard]
       · cases y <;> simp only [isConst, Bool.false_eq_true] at g; cases b <;> simp [eqGuard])
theorem eqA_sound {b : BinOp} {neg : Bool} (hb : isEq b neg) {t : TypeId} {x y : Operand} {k : EK} (hk : eqK P t x y = some k) {p q : AV} {r : Bool} (he : eqA k p q = some r) {u v : Value} (hu : den φ p u) (hv : den φ q v) :
    (do eqGuard b t x y u v; binOp b t u v : Sem Value).run P w = .ok (.bool (if neg then !r else r)) w := by
  have hcell : ∀ (fk : FK) (dd : TypeDesc), P.underlying t = some dd → (fk = .int (match dd with | .int k => k | _ => .i64) ∧ (∃ k, dd = .int k) ∨ fk = .bool ∧ dd = .bool ∨ fk = .str ∧ dd = .string) → eqF fk p q = some r →
      (do eqGuard b t x y u v; binOp b t u v : Sem Value).run P w = .ok (.bool (if neg then !r else r)) w := by
    intro fk dd ht hc hf
    have hcf := eqF_c hf hu hv
    rcases hc with ⟨rfl, k, rfl⟩ | ⟨rfl, rfl⟩ | ⟨rfl, rfl⟩
    · obtain ⟨m, n, rfl, rfl, rfl⟩ := cF_int hcf
      rcases hb with ⟨rfl, rfl⟩ | ⟨rfl, rfl⟩
      · simp [eqGuard, binOp, Op.intCmp]; rfl
      · simp [eqGuard, binOp, Op.intCmp]
        by_cases hmn : m = n <;> simp [hmn]
    · obtain ⟨m, n, rfl, rfl, rfl⟩ := cF_bool hcf
      rw [Sem.run_bind, guard_ok (by intro h; cases h) (by intro l r h; cases h)]
      exact eq_run hb (by intro _ _ _ _ h; cases h) (by intro _ _ _ _ h; cases h) (by intro _ _ _ _ _ _ h; cases h) (by intro _ _ h; cases h) (run_equalIn_bool' w 9999 t m n ht)
    · obtain ⟨m, n, rfl, rfl, rfl⟩ := cF_str hcf
      rcases hb with ⟨rfl, rfl⟩ | ⟨rfl, rfl⟩
      · simp [eqGuard, binOp, Op.stringOp]
      · simp [eqGuard, binOp, Op.stringOp]
  unfold eqK at hk
  split at hk
  · rename_i k' ht; cases hk; exact hcell _ _ ht (.inl ⟨rfl, _, rfl⟩) he
  · rename_i ht; cases hk; exact hcell _ _ ht (.inr (.inl ⟨rfl, rfl⟩)) he
  · rename_i ht; cases hk; exact hcell _ _ ht (.inr (.inr ⟨rfl, rfl⟩)) he
  · rename_i fk ht; cases hk
    simp only [eqA] at he
    split at he
    · rename_i i m j n
      cases hkk : fkeq fk i && fkeq fk j with
      | false => rw [hkk] at he; cases he
      | true =>
        rw [hkk] at he
        simp only [Bool.and_eq_true] at hkk
        obtain rfl := fkeq_iff hkk.1
        obtain rfl := fkeq_iff hkk.2
        simp only [den] at hu hv; subst hu hv
        cases he
        cases ho : fk.format.order m n with
        | none => rcases hb with ⟨rfl, rfl⟩ | ⟨rfl, rfl⟩ <;> simp [eqGuard, binOp, Op.floatCmp, ho]
        | some od => rcases hb with ⟨rfl, rfl⟩ | ⟨rfl, rfl⟩ <;> cases od <;> simp [eqGuard, binOp, Op.floatCmp, ho] <;> rfl
    · cases he
  · -- pointers
    rename_i e ht
    split at hk
    case h_2 => cases hk
    rename_i n hn
    cases hk
    have fin : ∀ (pu pv : Option Addr), u = .pointer pu → v = .pointer pv → (Op.equalIn 10000 t u v).run P w = .ok r w → (do eqGuard b t x y u v; binOp b t u v : Sem Value).run P w = .ok (.bool (if neg then !r else r)) w := by
      rintro pu pv rfl rfl hr
      rw [Sem.run_bind, guard_ok (by intro h; cases h) (by intro l r h; cases h)]
      exact eq_run hb (by intro _ _ _ _ h; cases h) (by intro _ _ _ _ h; cases h) (by intro _ _ _ _ _ _ h; cases h) (by intro _ _ h; cases h) hr
    simp only [eqA] at he
    split at he
    · cases he; simp only [den] at hu hv; subst hu; subst hv; exact fin _ _ rfl rfl (ep1 (D := 9999) ht)
    · cases he; simp only [den] at hu hv; obtain ⟨_, rfl⟩ := hv; subst hu; exact fin _ _ rfl rfl (ep2 (D := 9999) ht)
    · cases he; simp only [den] at hu hv; obtain ⟨_, rfl⟩ := hu; subst hv; exact fin _ _ rfl rfl (ep3 (D := 9999) ht)
    · obtain ⟨rfl, rfl, rfl⟩ := ptr_same he
      simp only [den] at hu hv; obtain ⟨_, rfl⟩ := hu; obtain ⟨_, rfl⟩ := hv; exact fin _ _ rfl rfl (ep4 (D := 9999) ht hn)
    · cases he
  · rename_i e ht; cases hk
    have fin : ∀ pu l c pv l' c', u = .slice pu l c → v = .slice pv l' c' → (Op.equalIn 10000 t u v).run P w = .ok r w → (do eqGuard b t x y u v; binOp b t u v : Sem Value).run P w = .ok (.bool (if neg then !r else r)) w := by
      rintro pu l c pv l' c' rfl rfl hr
      rw [Sem.run_bind, guard_ok (by intro h; cases h) (by intro l r h; cases h)]
      exact eq_run hb (by intro _ _ _ _ h; cases h) (by intro _ _ _ _ h; cases h) (by intro _ _ _ _ _ _ h; cases h) (by intro _ _ h; cases h) hr
    simp only [eqA] at he
    split at he <;> cases he <;> simp only [den] at hu hv
    · subst hu; subst hv; exact fin _ _ _ _ _ _ rfl rfl (es1 (D := 9999) ht)
    · obtain ⟨_, _, _, rfl, _⟩ := hv; subst hu; exact fin _ _ _ _ _ _ rfl rfl (es2 (D := 9999) ht)
    · obtain ⟨_, _, _, rfl, _⟩ := hu; subst hv; exact fin _ _ _ _ _ _ rfl rfl (es3 (D := 9999) ht)
  · rename_i e1 e2 ht; cases hk
    have fin : ∀ pu pv, u = .map pu → v = .map pv → (Op.equalIn 10000 t u v).run P w = .ok r w → (do eqGuard b t x y u v; binOp b t u v : Sem Value).run P w = .ok (.bool (if neg then !r else r)) w := by
      rintro pu pv rfl rfl hr
      rw [Sem.run_bind, guard_ok (by intro h; cases h) (by intro l r h; cases h)]
      exact eq_run hb (by intro _ _ _ _ h; cases h) (by intro _ _ _ _ h; cases h) (by intro _ _ _ _ _ _ h; cases h) (by intro _ _ h; cases h) hr
    simp only [eqA] at he
    split at he <;> cases he <;> simp only [den] at hu hv
    · subst hu; subst hv; exact fin _ _ rfl rfl (em1 (D := 9999) ht)
    · obtain ⟨_, rfl⟩ := hv; subst hu; exact fin _ _ rfl rfl (em2 (D := 9999) ht)
    · obtain ⟨_, rfl⟩ := hu; subst hv; exact fin _ _ rfl rfl (em3 (D := 9999) ht)
  · rename_i e1 e2 e3 ht; cases hk
    have ff : ∀ z zv, (z = AV.nilf ∨ ∃ g a c, z = AV.func g a c) → den φ z zv → zv = .nilFunc ∨ ∃ g a c, zv = .func g a c := by
      rintro z zv (rfl | ⟨g, a, c, rfl⟩) hz <;> simp only [den] at hz
      · exact .inl hz
      · obtain ⟨fs, cs, rfl, _⟩ := hz; exact .inr ⟨_, _, _, rfl⟩
    have fin : (u = .nilFunc ∨ ∃ g a c, u = .func g a c) → (v = .nilFunc ∨ ∃ g a c, v = .func g a c) → (Op.equalIn 10000 t u v).run P w = .ok r w → (do eqGuard b t x y u v; binOp b t u v : Sem Value).run P w = .ok (.bool (if neg then !r else r)) w := by
      intro hu' hv' hr
      rw [Sem.run_bind, guard_ok (by rcases hu' with rfl | ⟨_, _, _, rfl⟩ <;> (intro h; cases h)) (by rcases hu' with rfl | ⟨_, _, _, rfl⟩ <;> (intro l r h; cases h))]
      refine eq_run hb ?_ ?_ ?_ ?_ hr <;> rcases hu' with rfl | ⟨_, _, _, rfl⟩ <;> intros <;> simp_all
    simp only [eqA] at he
    split at he <;> cases he <;> simp only [den] at hu hv
    · subst hu; subst hv; exact fin (.inl rfl) (.inl rfl) (ef1 (D := 9999) ht)
    · obtain ⟨_, _, rfl, _⟩ := hv; subst hu; exact fin (.inl rfl) (.inr ⟨_, _, _, rfl⟩) (ef2 (D := 9999) ht)
    · obtain ⟨_, _, rfl, _⟩ := hu; subst hv; exact fin (.inr ⟨_, _, _, rfl⟩) (.inl rfl) (ef3 (D := 9999) ht)
  · rename_i fs ht
    split at hk
    · rename_i l hl
      split at hk
      · cases hk
      · rename_i hg
        cases hk
        simp only [eqA] at he
        split at he
        · simp only [den] at hu hv
          obtain ⟨X, rfl, hX, _⟩ := hu
          obtain ⟨Y, rfl, hY, _⟩ := hv
          have hc := eqL_c he hX hY
          have hr := (eqAB 5).1 t l hl 10000 (by omega) (.agg X) (.agg Y) X.toList Y.toList r w (by simp only [ofT, ht]; exact ⟨X, rfl, rfl⟩) (by simp only [ofT, ht]; exact ⟨Y, rfl, rfl⟩) hc
          rw [Sem.run_bind, guard_ok (by intro h; cases h) (fun _ _ _ _ => by simpa using hg)]
          exact eq_run hb (by intro _ _ _ _ h; cases h) (by intro _ _ _ _ h; cases h) (by intro _ _ _ _ _ _ h; cases h) (by intro _ _ h; cases h) hr
        · cases he
    · cases hk
  · rename_i ms ht
    split at hk
    · rename_i hcst
      cases hk
      have hcst' : isConst x = true ∨ isConst y = true := by simpa using hcst
      have fin : (u = .nilIface ∨ ∃ g a, u = .iface g a) → (v = .nilIface ∨ ∃ g a, v = .iface g a) → (Op.equalIn 10000 t u v).run P w = .ok r w → (do eqGuard b t x y u v; binOp b t u v : Sem Value).run P w = .ok (.bool (if neg then !r else r)) w := by
        intro hu' hv' hr
        rw [Sem.run_bind, guard_ok (fun _ _ => hcst') (by rcases hu' with rfl | ⟨_, _, rfl⟩ <;> (intro l r h; cases h))]
        refine eq_run hb ?_ ?_ ?_ ?_ hr <;> rcases hu' with rfl | ⟨_, _, rfl⟩ <;> intros <;> simp_all
      simp only [eqA] at he
      split at he <;> cases he <;> simp only [den] at hu hv
      · subst hu; subst hv; exact fin (.inl rfl) (.inl rfl) (ei1 (D := 9999) ht)
      · obtain ⟨_, rfl, _⟩ := hv; subst hu; exact fin (.inl rfl) (.inr ⟨_, _, rfl⟩) (ei2 (D := 9999) ht)
      · obtain ⟨_, rfl, _⟩ := hu; subst hv; exact fin (.inr ⟨_, _, rfl⟩) (.inl rfl) (ei3 (D := 9999) ht)
    · cases hk
  · cases hk
end
end Xv

namespace Xv
open Go
section
variable {P : Program} {φ : Lie} {h : Hp} {w : World} {f : Fr} {a : Act} {o : Oper}

theorem neg_sound {x : AV} {u : Value} (hx : den φ x u) : ValPost P φ w (Op.unary .neg u) (negE x) := by
  unfold negE
  split
  · simp only [den] at hx; subst hx
    exact ⟨_, by simp [Op.unary, Op.intArith]; rfl, by simp only [den, w64]; simp⟩
  · simp only [den] at hx; subst hx
    exact ⟨_, by simp [Op.unary, Op.intArith]; rfl, by simpa using mkInt_den _ _⟩
  · trivial
theorem not_sound {x : AV} {u : Value} (hx : den φ x u) : ValPost P φ w (Op.unary .not u) (notE x) := by
  unfold notE
  split
  · simp only [den] at hx; subst hx
    exact ⟨_, by simp [Op.unary]; rfl, by simp only [den]⟩
  · trivial
theorem com_sound {x : AV} {u : Value} (hx : den φ x u) : ValPost P φ w (Op.unary .xor u) (comE x) := by
  unfold comE
  split
  · simp only [den] at hx; subst hx
    exact ⟨_, by simp [Op.unary, Op.intBits]; rfl, mkInt_den _ _⟩
  · simp only [den] at hx; subst hx
    exact ⟨_, by simp [Op.unary, Op.intBits]; rfl, mkInt_den _ _⟩
  · rename_i k m
    simp only [den] at hx; subst hx
    refine ⟨_, ?_, mkInt_den _ _⟩
    cases k <;> (simp [Op.unary, Op.intBits]; rfl)
  · trivial
theorem intOf_den {x : AV} {v : Value} (hx : den φ x v) {n : Int} (h : intOf x = some n) : ∃ k, v = .int k n := by
  cases x <;> simp only [intOf, reduceCtorEq, Option.some.injEq] at h <;> simp only [den] at hx
  case i m => subst h; exact ⟨_, hx⟩
  case u8 m => subst h; exact ⟨_, hx⟩
  case int k m => subst h; exact ⟨_, hx⟩
theorem cint_sound {s d : TypeId} {i k : IntKind} (hs : P.underlying s = some (.int i)) (hd : P.underlying d = some (.int k)) {x : AV} {u : Value} (hx : den φ x u) : ValPost P φ w (convert s d u) (cintE k x) := by
  unfold cintE
  split
  · rename_i n hn
    obtain ⟨j, rfl⟩ := intOf_den hx hn
    exact ⟨_, by simp [convert, underlying_run hs, underlying_run hd, Conv.intToInt], mkInt_den _ _⟩
  · trivial
theorem i2f_sound {s d : TypeId} {i : IntKind} {k : FloatKind} (hs : P.underlying s = some (.int i)) (hd : P.underlying d = some (.float k)) {x : AV} {u : Value} (hx : den φ x u) : ValPost P φ w (convert s d u) (i2fE k x) := by
  unfold i2fE
  split
  · rename_i n hn
    obtain ⟨j, rfl⟩ := intOf_den hx hn
    exact ⟨.float k (k.nearest n), by simp [convert, underlying_run hs, underlying_run hd, Conv.intToFloat], by simp only [den]⟩
  · trivial
theorem ile_le {a b : Int} (h : ile a b = true) : a ≤ b := by
  cases a <;> cases b <;> simp only [ile, Bool.false_eq_true] at h
  · have := Nat.le_of_ble_eq_true h; simp only [Int.ofNat_eq_natCast]; omega
  · simp only [Int.ofNat_eq_natCast]; omega
  · have := Nat.le_of_ble_eq_true h; omega
theorem f2i_sound {s d : TypeId} {i : FloatKind} {k : IntKind} (hs : P.underlying s = some (.float i)) (hd : P.underlying d = some (.int k)) {x : AV} {u : Value} (hx : den φ x u) : ValPost P φ w (convert s d u) (f2iE k x) := by
  unfold f2iE
  split
  · rename_i j b
    simp only [den] at hx; subst hx
    split
    · rename_i n hn
      refine vp_cond (fun hc => ?_) fun _ => trivial
      simp only [Bool.and_eq_true] at hc
      have h1 : k.min ≤ n := ile_le hc.1.1
      have h2 : n ≤ k.max := ile_le hc.1.2
      have h3 := mkInt_den (φ := φ) k n
      rw [(ieq_iff _ _).1 hc.2] at h3
      exact ⟨.int k n, by simp [convert, underlying_run hs, underlying_run hd, Conv.floatToInt, hn, h1, h2], h3⟩
    · trivial
  · trivial
theorem f2f_sound {s d : TypeId} {i k : FloatKind} (hs : P.underlying s = some (.float i)) (hd : P.underlying d = some (.float k)) {x : AV} {u : Value} (hx : den φ x u) : ValPost P φ w (convert s d u) (f2fE k x) := by
  unfold f2fE
  split
  · rename_i j b
    simp only [den] at hx; subst hx
    refine vp_cond (fun hc => ?_) fun _ => trivial
    obtain rfl := fkeq_iff hc
    exact ⟨.float j b, by simp [convert, underlying_run hs, underlying_run hd, Conv.floatToFloat], by simp only [den]⟩
  · trivial
theorem cstr_sound {s d : TypeId} (hs : P.underlying s = some .string) (hd : P.underlying d = some .string) {x : AV} {u : Value} (hx : den φ x u) : ValPost P φ w (convert s d u) (cstrE x) := by
  unfold cstrE
  split
  · have hx' := hx
    simp only [den] at hx; obtain ⟨t, rfl, _⟩ := hx
    exact ⟨_, by simp [convert, underlying_run hs, underlying_run hd], hx'⟩
  · trivial
theorem ext_sound {x : AV} {u : Value} {n : Nat} (hx : den φ x u) : ValPost P φ w (Instr.extract u n) (extE x n) := by
  unfold extE
  split
  · simp only [den] at hx; obtain ⟨cs, rfl, hl⟩ := hx
    split
    · rename_i v hv
      rw [nth_eq] at hv
      obtain ⟨y, hy, hd⟩ := denL_get hl n v hv
      rw [Array.getElem?_toList] at hy
      exact ⟨y, by simp [Instr.extract, hy], hd⟩
    · trivial
  · trivial
theorem mki_sound {t : TypeId} {dd : TypeDesc} (ht : P.underlying t = some dd) (hn : ∀ ms, dd ≠ .interface ms) {x : AV} {u : Value} (hx : den φ x u) : ValPost P φ w (Instr.makeInterface t u) (.v (.iface t x)) := by
  refine ⟨.iface t u, ?_, by simp only [den]; exact ⟨u, rfl, hx⟩⟩
  unfold Instr.makeInterface
  rw [Sem.run_bind, underlying_run ht]
  cases dd <;> first | rfl | exact absurd rfl (hn _)
theorem add_addr (b o n : Nat) : (⟨b, o, none⟩ : Addr).add n = ⟨b, o + n, none⟩ := by
  unfold Addr.add; split
  · rename_i e; subst e; rfl
  · rfl
theorem fa_sound {s : TypeId} {fs : Array Field} {k : Nat} {fd : Field} {n : Nat} (hs : P.underlying s = some (.struct fs)) (hf : fs[k]? = some fd) (hz : szO P fd.type = some (n+1)) {x : AV} {u : Value} (hx : den φ x u) :
    ValPost P φ w (Instr.fieldAt s u k) (faE x fd.offset) := by
  unfold faE
  split
  · rename_i i o
    simp only [den] at hx; obtain ⟨d, rfl⟩ := hx
    refine ⟨.pointer (some ⟨φ.blk i, φ.sh i + o + fd.offset, none⟩), ?_, ?_⟩
    · simp [Instr.fieldAt, underlying_run hs, hf, Instr.sureAddr, fieldPlace, sizeOf_run hz, add_addr]
    · simp only [den]; exact ⟨d, by rw [nadd, Nat.add_assoc]⟩
  · trivial
/-- A part of an aggregate. -/
theorem partE_sound {t : TypeId} {n off : Nat} {dd : TypeDesc} (hz : szO P t = some n) (ht : P.underlying t = some dd) {l : List AV} {cs : Array Value} (hl : denL φ l cs.toList) (h1 : ∀ c ∈ cs.toList, c.oneCell' = true) :
    ValPost P φ w (part t cs off) (partE l off n (aggD dd)) := by
  unfold partE
  cases ha : aggD dd with
  | true =>
    simp only [cond]
    split
    · rename_i r hr
      rw [dropN_eq] at hr
      obtain ⟨rfl, hle⟩ := takeN_eq _ _ _ hr
      refine ⟨.agg (cs.extract off (off + n)), ?_, ?_⟩
      · unfold part
        rw [Sem.run_bind, isAgg_run ht, ha]
        simp [sizeOf_run hz]
      · simp only [den]
        refine ⟨_, rfl, ?_, ?_⟩
        · have e : (cs.extract off (off + n)).toList = (cs.toList.drop off).take n := by simp [List.take_drop]
          rw [e]
          refine denL_of ?_ fun j x hx => ?_
          · have := denL_len hl
            simp [this]
          · rw [List.getElem?_take] at hx
            split at hx
            · rename_i hj
              rw [List.getElem?_drop] at hx
              obtain ⟨v, hv, hd⟩ := denL_get hl _ _ hx
              exact ⟨v, by rw [List.getElem?_take_of_lt hj, List.getElem?_drop]; exact hv, hd⟩
            · cases hx
        · intro c hc
          refine h1 c ?_
          have e : (cs.extract off (off + n)).toList = (cs.toList.drop off).take n := by simp [List.take_drop]
          rw [e] at hc
          exact List.mem_of_mem_drop (List.mem_of_mem_take hc)
    · trivial
  | false =>
    simp only [cond]
    split
    · rename_i v hv
      rw [nth_eq] at hv
      obtain ⟨y, hy, hd⟩ := denL_get hl off v hv
      rw [Array.getElem?_toList] at hy
      refine ⟨y, ?_, hd⟩
      unfold part
      rw [Sem.run_bind, isAgg_run ht, ha]
      simp [hy]
    · trivial
theorem fld_sound {s : TypeId} {fs : Array Field} {k : Nat} {fd : Field} {n : Nat} {dd : TypeDesc} (hs : P.underlying s = some (.struct fs)) (hf : fs[k]? = some fd) (hz : szO P fd.type = some n) (ht : P.underlying fd.type = some dd) {x : AV} {u : Value} (hx : den φ x u) :
    ValPost P φ w (Instr.field s u k) (fldE x fd.offset n (aggD dd)) := by
  unfold fldE
  split
  · simp only [den] at hx; obtain ⟨cs, rfl, hl, h1⟩ := hx
    have e : (Instr.field s (.agg cs) k).run P w = (part fd.type cs fd.offset).run P w := by
      simp [Instr.field, underlying_run hs, hf, asAgg]
    have := partE_sound (P := P) (φ := φ) (w := w) (off := fd.offset) hz ht hl h1
    cases hp : partE _ fd.offset n (aggD dd) <;> rw [hp] at this <;> try exact this
    obtain ⟨v, h1, h2⟩ := this
    exact ⟨v, by rw [e]; exact h1, h2⟩
  · trivial
theorem pick_sound {c x y : AV} {u v z : Value} (hc : den φ c z) (hx : den φ x u) (hy : den φ y v) : ValPost P φ w (do pure (if ← asBool z then u else v)) (pickE c x y) := by
  unfold pickE
  split
  · rename_i t
    simp only [den] at hc; subst hc
    refine ⟨if t then u else v, by simp [asBool], ?_⟩
    cases t
    · exact hy
    · exact hx
  · trivial
end
end Xv

namespace Xv
open Go
section
variable {P : Program} {φ : Lie} {h : Hp} {w : World} {f : Fr} {a : Act} {o : Oper}

def optDen (φ : Lie) : Option AV → Option Value → Prop
  | none, none => True
  | some x, some v => den φ x v
  | _, _ => False
theorem bound_run {n c : Nat} {k : IntKind} {cd : BoundsCode} (h : n ≤ c) (w : World) : (Instr.sliceBound (.int k n) c cd).run P w = .ok n w := by
  simp [Instr.sliceBound, asIntOf, h]
theorem bounds_run {lo hi : Option AV} {vlo vhi : Option Value} {len cap c p q : Nat} {isS : Bool} (h : bounds lo hi len cap = some (p, q)) (hlo : optDen φ lo vlo) (hhi : optDen φ hi vhi) (hc : cap ≤ c) (w : World) :
    (Instr.sliceBounds isS len c vlo vhi none).run P w = .ok (p, q, c) w ∧ p ≤ q ∧ q ≤ cap := by
  unfold bounds at h
  split at h
  · rename_i hN hhN
    obtain ⟨hc1, h⟩ := cond_some h
    rw [ble_iff] at hc1
    split at h
    · rename_i l hl
      obtain ⟨hc2, h⟩ := cond_some h
      rw [ble_iff] at hc2
      cases h
      refine ⟨?_, hc2, hc1⟩
      have b1 := bound_run (P := P) (k := .i64) (cd := .index) (Nat.le_trans hc1 hc) w
      cases hi with
      | none =>
        cases vhi with
        | some _ => exact hhi.elim
        | none =>
          cases hhN
          cases lo with
          | none =>
            cases vlo with
            | some _ => exact hlo.elim
            | none => cases hl; simp [Instr.sliceBounds]
          | some x =>
            cases vlo with
            | none => exact hlo.elim
            | some v =>
              obtain ⟨k, rfl⟩ := natOf_den hlo hl
              simp [Instr.sliceBounds, bound_run hc2]
      | some y =>
        cases vhi with
        | none => exact hhi.elim
        | some vy =>
          obtain ⟨ky, rfl⟩ := natOf_den hhi hhN
          cases lo with
          | none =>
            cases vlo with
            | some _ => exact hlo.elim
            | none => cases hl; simp [Instr.sliceBounds, bound_run (Nat.le_trans hc1 hc)]
          | some x =>
            cases vlo with
            | none => exact hlo.elim
            | some v =>
              obtain ⟨k, rfl⟩ := natOf_den hlo hl
              simp [Instr.sliceBounds, bound_run hc2, bound_run (Nat.le_trans hc1 hc)]
    · cases h
  · cases h
theorem bounds_run3 {lo : Option AV} {x m : AV} {vlo : Option Value} {vx vm : Value} {len cap c p q cm : Nat} {isS : Bool} (h : bounds lo (some x) len cm = some (p, q)) (hm : natOf m = some cm) (hcm : cm ≤ cap) (hlo : optDen φ lo vlo) (hx : den φ x vx) (hvm : den φ m vm) (hc : cap ≤ c) (w : World) :
    (Instr.sliceBounds isS len c vlo (some vx) (some vm)).run P w = .ok (p, q, cm) w ∧ p ≤ q ∧ q ≤ cm := by
  unfold bounds at h
  split at h
  · rename_i hN hhN
    obtain ⟨hc1, h⟩ := cond_some h
    rw [ble_iff] at hc1
    split at h
    · rename_i l hl
      obtain ⟨hc2, h⟩ := cond_some h
      rw [ble_iff] at hc2
      cases h
      refine ⟨?_, hc2, hc1⟩
      obtain ⟨km, rfl⟩ := natOf_den hvm hm
      obtain ⟨kx, rfl⟩ := natOf_den hx hhN
      cases lo with
      | none =>
        cases vlo with
        | some _ => exact hlo.elim
        | none => cases hl; simp [Instr.sliceBounds, bound_run hc1, bound_run (Nat.le_trans hcm hc)]
      | some x =>
        cases vlo with
        | none => exact hlo.elim
        | some v =>
          obtain ⟨k, rfl⟩ := natOf_den hlo hl
          simp [Instr.sliceBounds, bound_run hc1, bound_run hc2, bound_run (Nat.le_trans hcm hc)]
    · cases h
  · cases h
theorem slStr_sound {t : TypeId} (ht : P.underlying t = some .string) {x : AV} {u : Value} (hx : den φ x u) {lo hi : Option AV} {vlo vhi : Option Value} (hlo : optDen φ lo vlo) (hhi : optDen φ hi vhi) :
    ValPost P φ w (Instr.sliceAt t u vlo vhi none) (slStrE x lo hi) := by
  unfold slStrE
  split
  · rename_i l n
    simp only [den] at hx
    obtain ⟨s, rfl, hs⟩ := hx
    split
    · rename_i p q hb
      have hsz := hs.size
      obtain ⟨hr, h1, h2⟩ := bounds_run (P := P) (isS := false) (c := s.size) hb hlo hhi (Nat.le_of_eq hsz.symm) w
      rw [← hsz] at hr
      refine ⟨.string (s.extract p q), ?_, ?_⟩
      · simp [Instr.sliceAt, Instr.slice, underlying_run ht, hr]
      · simp only [den]; exact ⟨_, rfl, hs.sub h1 h2⟩
    · trivial
  · trivial
theorem slSl_sound {t e : TypeId} {s : Nat} (ht : P.underlying t = some (.slice e)) (hz : szO P e = some (s+1)) {x : AV} {u : Value} (hx : den φ x u) {lo hi mx : Option AV} {vlo vhi vmx : Option Value} (hlo : optDen φ lo vlo) (hhi : optDen φ hi vhi) (hmx : optDen φ mx vmx) :
    ValPost P φ w (Instr.sliceAt t u vlo vhi vmx) (slSlE (s+1) x lo hi mx) := by
  have key : ∀ (i : Id) (off len cap : Nat) (ex ex' : Bool) (u : Value) (p q m cap' : Nat), den φ (.slice i off (s+1) len cap ex) u → (∀ a c, u = .slice (some a) len c → cap ≤ c → (ex = true → c = cap) →
      ∃ m, (Instr.sliceBounds true len c vlo vhi vmx).run P w = .ok (p, q, m) w ∧ cap' ≤ m ∧ m ≤ c ∧ (ex' = true → m = cap')) → p ≤ q → q ≤ cap' →
      ∃ v, (Instr.sliceAt t u vlo vhi vmx).run P w = .ok v w ∧ den φ (.slice i (Nat.add off (Nat.mul p (s+1))) (s+1) (Nat.sub q p) (Nat.sub cap' p) ex') v := by
    intro i off len cap ex ex' u p q m cap' hu hb h1 h2
    simp only [den] at hu
    obtain ⟨d, ad, c, rfl, g1, g2, g3, g4⟩ := hu
    obtain ⟨m, hr, b1, b2, b3⟩ := hb ad c rfl g2 g3
    refine ⟨.slice (some (if m = p then ad else ad.add (p * (s+1)))) (q - p) (m - p), ?_, ?_⟩
    · simp only [Instr.sliceAt, Instr.slice, Sem.run_bind, underlying_run ht, Result.andThen_ok, hr, sizeOf_run hz, Sem.run_pure]
      congr 2
      split <;> simp
    · simp only [den]
      refine ⟨d, _, _, rfl, Nat.sub_le_sub_right h2 p, Nat.sub_le_sub_right b1 p, fun e => by rw [b3 e]; rfl, fun hne => ?_⟩
      have hmp : m ≠ p := fun e => hne (by omega)
      have hc0 : c ≠ 0 := by omega
      obtain ⟨rfl, g5⟩ := g4 hc0
      rw [if_neg hmp, add_addr]
      refine ⟨by rw [nadd, nmul, Nat.add_assoc], ?_⟩
      simp only [nadd, nmul]
      have : p * (s+1) + (m - p) * (s+1) = m * (s+1) := by rw [← Nat.add_mul]; congr 1; omega
      have h3 := Nat.mul_le_mul_right (s+1) b2
      omega
  unfold slSlE
  split
  · rename_i i off rw' len cap ex
    refine vp_cond (fun hc => ?_) fun _ => trivial
    rw [beq_iff] at hc
    subst hc
    split
    · cases vmx with
      | some _ => exact hmx.elim
      | none =>
        split
        · rename_i p q hb
          have hb' := fun c (hcc : cap ≤ c) => bounds_run (P := P) (isS := true) (c := c) hb hlo hhi hcc w
          have h0 := hb' cap (Nat.le_refl _)
          exact key i off len cap ex ex u p q 0 cap hx (fun a c e g2 g3 => ⟨c, (hb' c g2).1, g2, Nat.le_refl _, g3⟩) h0.2.1 h0.2.2
        · trivial
    · rename_i m
      cases vmx with
      | none => exact hmx.elim
      | some vm =>
        split
        · rename_i cm x0 hcm
          cases vhi with
          | none => exact hhi.elim
          | some vx =>
            refine vp_cond (fun hle => ?_) fun _ => trivial
            rw [ble_iff] at hle
            split
            · rename_i p q hb
              have hb' := fun c (hcc : cap ≤ c) => bounds_run3 (P := P) (isS := true) (c := c) hb hcm hle hlo hhi hmx hcc w
              have h0 := hb' cap (Nat.le_refl _)
              exact key i off len cap ex true u p q 0 cm hx (fun a c e g2 g3 => ⟨cm, (hb' c g2).1, Nat.le_refl _, Nat.le_trans hle g2, fun _ => rfl⟩) h0.2.1 h0.2.2
            · trivial
        · trivial
  · simp only [den] at hx; subst hx
    split
    · cases vmx with
      | some _ => exact hmx.elim
      | none =>
        split
        · rename_i pq hb
          obtain ⟨p, q⟩ := pq
          obtain ⟨hr, h1, h2⟩ := bounds_run (P := P) (isS := true) (c := 0) hb hlo hhi (Nat.le_refl _) w
          have hp : p = 0 := by omega
          have hq : q = 0 := by omega
          subst hp; subst hq
          refine ⟨.slice none 0 0, ?_, by simp only [den]⟩
          simp [Instr.sliceAt, Instr.slice, underlying_run ht, hr, sizeOf_run hz]
        · trivial
    · trivial
  · trivial
end
end Xv

namespace Xv
open Go
section
variable {P : Program} {φ : Lie} {h : Hp} {w : World} {f : Fr} {a : Act} {o : Oper}

theorem cellsOk_of {i : Id} (r : R φ h w) (hc : (h.get i).isCells = true) : CellsOk φ w i (h.get i) := by
  have := r.obj i
  cases hg : h.get i <;> rw [hg] at hc this <;> simp only [AO.isCells, Bool.false_eq_true] at hc
  · exact this
  · exact this
theorem isCells_of {i : AO} {off n : Nat} {l : List AV} (h : cellsOf i off n = some l) : i.isCells = true ∨ ∃ rw cnt t, i = .cst rw cnt t := by
  cases i <;> first | exact .inl rfl | exact .inr ⟨_, _, _, rfl⟩ | simp [cellsOf] at h
theorem cells_at {i : Id} {off n : Nat} {l : List AV} (r : R φ h w) (hc : cellsOf (h.get i) off n = some l) :
    ∃ vs : List Value, vs.length = n ∧ denL φ l vs ∧ (∀ v ∈ vs, v.oneCell' = true) ∧ ∀ j v, vs[j]? = some v → w.cell? ⟨φ.blk i, φ.sh i + off + j, none⟩ = some v := by
  obtain ⟨o, arr, el, fr, hwf, hcl, hc, b1, b3, b4, b5⟩ : ∃ (o : AO) (arr : Array Value) (el : Nat) (fr : Nat × Nat), o.wf ∧ o.isCells = true ∧ cellsOf o off n = some l ∧ w.heap[φ.blk i]? = some (.cells arr el fr) ∧ φ.sh i + o.count ≤ arr.size ∧
      (∀ (j : Nat) (a : AV), o.cell j = some a → ∃ v, arr[φ.sh i + j]? = some v ∧ den φ a v) ∧ ∀ (j : Nat) (v : Value), j < o.count → arr[φ.sh i + j]? = some v → v.oneCell' = true := by
    rcases isCells_of hc with hcl | ⟨rw', cnt, t, ho⟩
    · have ok := cellsOk_of r hcl
      obtain ⟨arr, fr, b1, b2, b3, b4, b5, b6⟩ := ok.blk
      exact ⟨h.get i, arr, _, fr, ok.wf, hcl, hc, b1, b3, b4, fun j v _ hv => b5 _ v hv⟩
    · have ob := r.obj i
      rw [ho] at ob
      obtain ⟨h1, h2, arr, el, fr, h3, h4, h5, h6⟩ := ob
      rw [h3] at h1
      refine ⟨.rows 0 rw' cnt 0 t, arr, el, fr, h2, rfl, ?_, h1, h4, h5, h6⟩
      rw [ho] at hc
      exact hc
  obtain ⟨h1, h2, h3⟩ := cellsOf_spec hwf hcl hc
  by_cases hn : n = 0
  · subst hn
    have : l = [] := List.eq_nil_of_length_eq_zero h1
    subst this
    exact ⟨[], rfl, denL_nil, by simp, by simp⟩
  · have hlt := h2 (by omega)
    have hsz : φ.sh i + off + n ≤ arr.size := by omega
    have e : ∀ j, j < n → ((arr.toList.drop (φ.sh i + off)).take n)[j]? = arr[φ.sh i + off + j]? := fun j hj => by
      rw [List.getElem?_take_of_lt hj, List.getElem?_drop, Array.getElem?_toList]
    refine ⟨(arr.toList.drop (φ.sh i + off)).take n, by simp; omega, denL_of (by simp [h1]; omega) fun j x hx => ?_, fun v hv => ?_, fun j v hv => ?_⟩
    · have hj : j < n := by rw [← h1]; exact (List.getElem?_eq_some_iff.1 hx).1
      rw [h3 j hj] at hx
      obtain ⟨v, hv, hd⟩ := b4 _ _ hx
      exact ⟨v, by rw [e j hj, Nat.add_assoc]; exact hv, hd⟩
    · obtain ⟨j, hj⟩ := List.getElem?_of_mem hv
      have hjn : j < n := by
        have := (List.getElem?_eq_some_iff.1 hj).1
        simp at this; omega
      rw [e j hjn, Nat.add_assoc] at hj
      exact b5 _ _ (by omega) hj
    · have hjn : j < n := by
        have := (List.getElem?_eq_some_iff.1 hv).1
        simp at this; omega
      rw [e j hjn] at hv
      simp [World.cell?, b1, hv]
theorem ld1_sound {t : TypeId} {dd : TypeDesc} (r : R φ h w) (ht : P.underlying t = some dd) (ha : aggD dd = false) {x : AV} {u : Value} (hx : den φ x u) : ValPost P φ w (Instr.loadAt t u) (ld1E h x) := by
  unfold ld1E
  split
  · rename_i i off
    simp only [den] at hx; obtain ⟨d, rfl⟩ := hx
    split
    · rename_i v l hc
      obtain ⟨vs, h1, h2, h3, h4⟩ := cells_at r hc
      cases vs with
      | nil => simp at h1
      | cons y vs =>
        have hd := (denL_cons.1 h2).1
        have hcell := h4 0 y (by simp)
        rw [Nat.add_zero] at hcell
        refine ⟨y, ?_, hd⟩
        simp [Instr.loadAt, Instr.sureAddr, loadVar, isAgg_run ht, ha, run_load, hcell]
    · trivial
  · trivial
theorem ldn_sound {t : TypeId} {dd : TypeDesc} {n : Nat} (r : R φ h w) (ht : P.underlying t = some dd) (ha : aggD dd = true) (hz : szO P t = some n) {x : AV} {u : Value} (hx : den φ x u) : ValPost P φ w (Instr.loadAt t u) (ldnE h n x) := by
  unfold ldnE
  split
  · rename_i i off
    simp only [den] at hx; obtain ⟨d, rfl⟩ := hx
    split
    · rename_i l hc
      obtain ⟨vs, h1, h2, h3, h4⟩ := cells_at r hc
      have hl := run_loadCells_list (P := P) w ⟨φ.blk i, φ.sh i + off, none⟩ vs (fun j v hv => by rw [add_addr]; exact h4 j v hv)
      rw [h1] at hl
      refine ⟨.agg vs.toArray, ?_, ?_⟩
      · simp [Instr.loadAt, Instr.sureAddr, loadVar, isAgg_run ht, ha, sizeOf_run hz, hl]
      · simp only [den]; exact ⟨_, rfl, h2, h3⟩
    · trivial
  · trivial
theorem ia_sound {t e : TypeId} {s : Nat} (ht : P.underlying t = some (.slice e)) (hz : szO P e = some (s+1)) {x y : AV} {u v : Value} (hx : den φ x u) (hy : den φ y v) : ValPost P φ w (Instr.indexAt t u v) (iaE (s+1) x y) := by
  unfold iaE
  split
  · rename_i i off rw' len cap ex
    split
    · rename_i k hk
      refine vp_cond (fun hc => ?_) fun _ => trivial
      rw [ble_iff] at hc
      obtain ⟨kk, rfl⟩ := natOf_den hy hk
      simp only [den] at hx
      obtain ⟨d, ad, c, rfl, g1, g2, g3, g4⟩ := hx
      obtain ⟨rfl, g5⟩ := g4 (by omega)
      have hlt : (k : Int) < (len : Int) := by omega
      refine ⟨.pointer (some ⟨φ.blk i, φ.sh i + off + k * (s+1), none⟩), ?_, ?_⟩
      · simp [Instr.indexAt, asIntOf, underlying_run ht, sizeOf_run hz, add_addr]
        intro hh; omega
      · simp only [den]; exact ⟨d, by rw [nadd, nmul, Nat.add_assoc]⟩
    · trivial
  · trivial
theorem iaArr_sound {t e : TypeId} {s n : Nat} (ht : P.underlying t = some (.array n e)) (hz : szO P e = some (s+1)) {x y : AV} {u v : Value} (hx : den φ x u) (hy : den φ y v) : ValPost P φ w (Instr.indexAt t u v) (iaArrE (s+1) n x y) := by
  unfold iaArrE
  split
  · rename_i i off
    split
    · rename_i k hk
      refine vp_cond (fun hc => ?_) fun _ => trivial
      rw [ble_iff] at hc
      obtain ⟨kk, rfl⟩ := natOf_den hy hk
      simp only [den] at hx
      obtain ⟨d, rfl⟩ := hx
      have hlt : (k : Int) < (n : Int) := by omega
      refine ⟨.pointer (some ⟨φ.blk i, φ.sh i + off + k * (s+1), none⟩), ?_, ?_⟩
      · simp [Instr.indexAt, asIntOf, underlying_run ht, sizeOf_run hz, add_addr, Instr.sureAddr]
        intro hh; omega
      · simp only [den]; exact ⟨d, by rw [nadd, nmul, Nat.add_assoc]⟩
    · trivial
  · trivial
theorem ixs_sound {t : TypeId} (ht : P.underlying t = some .string) {x y : AV} {u v : Value} (hx : den φ x u) (hy : den φ y v) : ValPost P φ w (Instr.index t u v) (ixsE x y) := by
  unfold ixsE
  split
  · rename_i l n
    split
    · rename_i k hk
      refine vp_cond (fun hc => ?_) fun _ => trivial
      rw [ble_iff] at hc
      obtain ⟨kk, rfl⟩ := natOf_den hy hk
      simp only [den] at hx
      obtain ⟨s, rfl, hs⟩ := hx
      obtain ⟨b, hb, hbn⟩ := hs.get (show k < l by omega)
      refine ⟨.int .u8 b.toNat, ?_, ?_⟩
      · simp [Instr.index, asIntOf, underlying_run ht, hb]
      · simp only [den, hbn]
    · trivial
  · trivial
theorem ixa_sound {t e : TypeId} {s n : Nat} {dd : TypeDesc} (ht : P.underlying t = some (.array n e)) (hz : szO P e = some s) (he : P.underlying e = some dd) {x y : AV} {u v : Value} (hx : den φ x u) (hy : den φ y v) : ValPost P φ w (Instr.index t u v) (ixaE s n (aggD dd) x y) := by
  unfold ixaE
  split
  · split
    · rename_i k hk
      refine vp_cond (fun hc => ?_) fun _ => trivial
      rw [ble_iff] at hc
      obtain ⟨kk, rfl⟩ := natOf_den hy hk
      simp only [den] at hx
      obtain ⟨cs, rfl, hl, h1⟩ := hx
      have hlt : (k : Int) < (n : Int) := by omega
      have e : (Instr.index t (.agg cs) (.int kk k)).run P w = (part e cs (k * s)).run P w := by
        simp [Instr.index, asIntOf, underlying_run ht, sizeOf_run hz]
        intro hh; omega
      have := partE_sound (P := P) (φ := φ) (w := w) (off := k * s) hz he hl h1
      cases hp : partE _ (Nat.mul k s) s (aggD dd) <;> rw [nmul] at hp <;> rw [hp] at this <;> try exact this
      obtain ⟨v, h1, h2⟩ := this
      exact ⟨v, by rw [e]; exact h1, h2⟩
    · trivial
  · trivial
theorem slArr_sound {t e : TypeId} {s n : Nat} (r : R φ h w) (ht : P.underlying t = some (.array n e)) (hz : szO P e = some (s+1)) {x : AV} {u : Value} (hx : den φ x u) {lo hi : Option AV} {vlo vhi : Option Value} (hlo : optDen φ lo vlo) (hhi : optDen φ hi vhi) :
    ValPost P φ w (Instr.sliceAt t u vlo vhi none) (slArrE h (s+1) n x lo hi) := by
  unfold slArrE
  split
  · rename_i i off
    split
    · rename_i p q hb
      refine vp_cond (fun hc => ?_) fun _ => trivial
      rw [ble_iff] at hc
      simp only [den] at hx
      obtain ⟨d, rfl⟩ := hx
      obtain ⟨hr, h1, h2⟩ := bounds_run (P := P) (isS := false) (c := n) hb hlo hhi (Nat.le_refl _) w
      refine ⟨.slice (some (if n = p then ⟨φ.blk i, φ.sh i + off, none⟩ else (⟨φ.blk i, φ.sh i + off, none⟩ : Addr).add (p * (s+1)))) (q - p) (n - p), ?_, ?_⟩
      · simp [Instr.sliceAt, underlying_run ht, Instr.sureAddr, hr, sizeOf_run hz]
      · simp only [den]
        refine ⟨d, _, _, rfl, Nat.sub_le_sub_right h2 p, Nat.le_refl _, fun _ => rfl, fun hne => ?_⟩
        have hnp : n ≠ p := fun e => hne (by omega)
        rw [if_neg hnp, add_addr]
        refine ⟨by rw [nadd, nmul, Nat.add_assoc], ?_⟩
        have hcells : (h.get i).isCells = true := by
          cases hg : h.get i <;> rw [hg] at hc <;> simp only [cntOf, nadd, nmul] at hc <;> first | rfl | skip
          all_goals (exfalso; have : 0 < n * (s+1) := Nat.mul_pos (by omega) (by omega); omega)
        obtain ⟨wf, _, arr, fr, b1, b2, b3, _⟩ := cellsOk_of r hcells
        have hcnt : cntOf (h.get i) = (h.get i).count := by cases h.get i <;> simp [cntOf, AO.count, lenL_eq]
        rw [hcnt] at hc
        simp only [nadd, nmul] at hc ⊢
        have : p * (s+1) + (n - p) * (s+1) = n * (s+1) := by rw [← Nat.add_mul]; congr 1; omega
        omega
    · trivial
  · trivial
end
end Xv

namespace Xv
open Go
section
variable {P : Program} {φ : Lie} {h : Hp} {w : World} {f : Fr} {a : Act} {o : Oper}

def MemPost (P : Program) (φ : Lie) (h : Hp) (w : World) (s : Sem Value) : OR → Prop
  | .v x => ∃ v w', s.run P w = .ok v w' ∧ den φ x v ∧ Same w w'
  | .vh x h' => ∃ v w' ψ, s.run P w = .ok v w' ∧ R ψ h' w' ∧ Step φ h w ψ w' h' ∧ den ψ x v
  | .bad _ => True
  | .alts l => ∃ v w' ψ h', h' ∈ l ∧ s.run P w = .ok v w' ∧ R ψ h' w' ∧ Step φ h w ψ w' h' ∧ den ψ nxtV v
  | _ => False
theorem good_mem {co : CO} {s : Sem Value} (he : execOp a.eval o = (do pure (.value (← s)))) (hp : MemPost P φ h w s (evOp co f h)) : Good P φ h w f a o co := by
  unfold Good
  rw [he]
  cases hr : evOp co f h with
  | v x =>
    rw [hr] at hp
    obtain ⟨v, w', h1, h2, h3⟩ := hp
    exact ⟨.value v, v, w', by simp [h1], .inl rfl, h2, h3⟩
  | vh x h' =>
    rw [hr] at hp
    obtain ⟨v, w', ψ, h1, h2, h3, h4⟩ := hp
    exact ⟨.value v, v, w', ψ, by simp [h1], .inl rfl, h2, h3, h4⟩
  | bad s => trivial
  | alts l =>
    rw [hr] at hp
    obtain ⟨v, w', ψ, h', h0, h1, h2, h3, h4⟩ := hp
    exact ⟨.value v, v, w', ψ, h', h0, by simp [h1], .inl rfl, h2, h3, h4⟩
  | call => rw [hr] at hp; exact hp.elim
  | round => rw [hr] at hp; exact hp.elim
  | df => rw [hr] at hp; exact hp.elim
  | pan => rw [hr] at hp; exact hp.elim
def UnitPost (P : Program) (φ : Lie) (h : Hp) (w : World) (s : Sem Unit) : OR → Prop
  | .vh x h' => x = undef ∧ ∃ w' ψ, s.run P w = .ok () w' ∧ R ψ h' w' ∧ Step φ h w ψ w' h'
  | .bad _ => True
  | _ => False
theorem undef_den {ψ : Lie} : den ψ undef Go.undef := by simp only [undef, den]; exact ⟨#[], rfl, denL_nil⟩
theorem good_unit {co : CO} {s : Sem Unit} (he : execOp a.eval o = (do s; pure .skip)) (hp : UnitPost P φ h w s (evOp co f h)) : Good P φ h w f a o co := by
  unfold Good
  rw [he]
  cases hr : evOp co f h with
  | vh x h' =>
    rw [hr] at hp
    obtain ⟨rfl, w', ψ, h1, h2, h3⟩ := hp
    exact ⟨.skip, Go.undef, w', ψ, by simp [h1], .inr ⟨rfl, rfl⟩, h2, h3, undef_den⟩
  | bad s => trivial
  | v => rw [hr] at hp; exact hp.elim
  | alts => rw [hr] at hp; exact hp.elim
  | call => rw [hr] at hp; exact hp.elim
  | round => rw [hr] at hp; exact hp.elim
  | df => rw [hr] at hp; exact hp.elim
  | pan => rw [hr] at hp; exact hp.elim
theorem mp_cond {s : Sem Value} {c : Bool} {x y : OR} (ht : c = true → MemPost P φ h w s x) (hf : c = false → MemPost P φ h w s y) : MemPost P φ h w s (cond c x y) := by
  cases c with
  | true => exact ht rfl
  | false => exact hf rfl
theorem up_cond {s : Sem Unit} {c : Bool} {x y : OR} (ht : c = true → UnitPost P φ h w s x) (hf : c = false → UnitPost P φ h w s y) : UnitPost P φ h w s (cond c x y) := by
  cases c with
  | true => exact ht rfl
  | false => exact hf rfl
theorem MemPost.of_val {s : Sem Value} {x : OR} (hp : ValPost P φ w s x) : MemPost P φ h w s x := by
  cases x <;> simp only [ValPost] at hp <;> first | trivial | (obtain ⟨v, h1, h2⟩ := hp; exact ⟨v, w, h1, h2, .refl w⟩)

/-- A new block. -/
theorem alloc_post {s : Sem Value} {o' : AO} {k : Id → AV} {obj : Obj} {v : Value} {z : Nat} (r : R φ h w) (hrun : s.run P w = .ok v (w.alloc obj)) (hl : live o' = true)
    (hobj : objOk (φ.put h.nx w.heap.size 0 z) (w.alloc obj) h.nx o') (hden : (φ.put h.nx w.heap.size 0 z).dom h.nx → φ.le (φ.put h.nx w.heap.size 0 z) → den (φ.put h.nx w.heap.size 0 z) (k h.nx) v) : MemPost P φ h w s (alloc h o' k) := by
  unfold alloc
  refine mp_cond (fun hn => ?_) fun _ => trivial
  have hnd : ¬ φ.dom h.nx := fun d => by rw [(r.dom _).1 d] at hn; cases hn
  have hh : ∀ c, c < w.heap.size → (w.alloc obj).heap[c]? = w.heap[c]? := fun c hc => by
    simp only [World.alloc]; rw [Array.getElem?_push_lt hc]; simp [hc]
  obtain ⟨r', st⟩ := new_R (h' := ⟨put4 h.t h.nx o', h.nx.nxt, h.orc⟩) (w' := w.alloc obj) (b := w.heap.size) (s := 0) (z := z) (kill := none) r hn hl (by simp)
    (fun j => by show get4 _ _ = _; rw [get4_put4]; rfl) (.inl rfl) (by simp) (by simp) (fun c hc _ => hh c hc) (fun _ _ => .inr rfl) hobj rfl rfl rfl
  exact ⟨v, _, _, hrun, r', st, hden (.inl rfl) (Lie.le_put hnd)⟩
theorem cellsOk_new {n : Id} {o' : AO} {cs : Array Value} (hw : o'.wf) (hc : o'.isCells = true) (hcnt : o'.count ≤ cs.size ∧ (o'.isOne = true → o'.count = cs.size))
    (hcell : ∀ (j : Nat) (x : AV), o'.cell j = some x → ∃ v, cs[j]? = some v ∧ den (φ.put n w.heap.size 0 cs.size) x v) (h1 : ∀ (j : Nat) (v : Value), cs[j]? = some v → v.oneCell' = true) :
    objOk (φ.put n w.heap.size 0 cs.size) (w.alloc (.cells cs o'.el)) n o' := by
  have key : CellsOk (φ.put n w.heap.size 0 cs.size) (w.alloc (.cells cs o'.el)) n o' := by
    refine ⟨hw, fun ho => by simp [Lie.put, hcnt.2 ho], fun _ => ⟨cs, by rw [show (φ.put n w.heap.size 0 cs.size).blk n = w.heap.size from if_pos rfl]; exact Array.getElem?_push_size⟩, cs, (0, 0), ?_, ?_, ?_, ?_, h1, ?_⟩
    · have e : (φ.put n w.heap.size 0 cs.size).blk n = w.heap.size := if_pos rfl
      rw [e]; exact Array.getElem?_push_size
    · simp [Lie.put]
    · simpa [Lie.put] using hcnt.1
    · simpa [Lie.put] using hcell
    · intro j _ hj; simp at hj
  cases o' <;> first | exact key | simp [AO.isCells] at hc
theorem zeroV_spec {t : TypeId} {z : AV} (hz : zeroV P t = some z) : ∃ i v, P.info? t = some i ∧ i.zero = some v ∧ ∀ ψ, den ψ z v := by
  unfold zeroV at hz
  split at hz
  · rename_i i hi
    split at hz
    · rename_i v hv; exact ⟨i, v, hi, hv, fun ψ => ofVal_den _ _ _ hz⟩
    · cases hz
  · cases hz
theorem zeroValue_run {t : TypeId} {i : TypeInfo} {v : Value} (hi : P.info? t = some i) (hv : i.zero = some v) (w : World) : (zeroValue t).run P w = .ok v w := by
  simp [zeroValue, typeInfo, hi, hv]
/-- A value's cells stand for the model's value's cells. -/
theorem cellsV_den {x : AV} {v : Value} {l : List AV} (hc : cellsV x = some l) (hx : den φ x v) : denL φ l v.cells.toList ∧ ∀ c ∈ v.cells.toList, c.oneCell' = true := by
  have one : isCell x = true → cellsV x = some [x] → denL φ l v.cells.toList ∧ ∀ c ∈ v.cells.toList, c.oneCell' = true := by
    intro hi e
    rw [e] at hc; cases hc
    have h1 := isCell_one hi hx
    have : v.cells = #[v] := by cases v <;> first | rfl | simp [Value.oneCell'] at h1
    rw [this]
    exact ⟨denL_cons.2 ⟨hx, denL_nil⟩, by simpa using h1⟩
  cases x <;> first
    | exact one rfl rfl
    | (simp [cellsV, isCell] at hc; done)
    | skip
  simp only [cellsV, Option.some.injEq] at hc; subst hc
  simp only [den] at hx
  obtain ⟨cs, rfl, h1, h2⟩ := hx
  exact ⟨h1, h2⟩
theorem calloc_one {t : TypeId} {l : List AV} (r : R φ h w) (hz : zeroC P t = some l) : MemPost P φ h w (Instr.alloc t true (.tuple #[])) (alloc h (.one t l) fun i => .ptr i 0) := by
  unfold zeroC at hz
  split at hz
  · rename_i z hzv
    obtain ⟨i, v, hi, hv, hd⟩ := zeroV_spec hzv
    have hrun : (Instr.alloc t true (.tuple #[])).run P w = .ok (.pointer (some ⟨w.heap.size, 0, none⟩)) (w.alloc (.cells v.cells t)) := by
      simp [Instr.alloc, zeroValue_run hi hv, newVar, newRow]
    have hc := fun ψ => cellsV_den (φ := ψ) hz (hd ψ)
    refine alloc_post r hrun rfl (cellsOk_new (o' := .one t l) trivial rfl ?_ ?_ ?_) fun d _ => ?_
    · have := denL_len (hc φ).1; simp only [AO.count]; simp at this; exact ⟨by omega, fun _ => by omega⟩
    · intro j x hx
      obtain ⟨u, hu, hdu⟩ := denL_get (hc _).1 j x hx
      exact ⟨u, by simpa using hu, hdu⟩
    · intro j u hu
      exact (hc φ).2 u (by have := List.mem_of_getElem? (l := v.cells.toList) (i := j) (by simpa using hu); exact this)
    · simp only [den, Lie.put, if_true]; exact ⟨.inl trivial, by simp⟩
  · cases hz
theorem box_sound {t : TypeId} {n : Nat} {x : AV} {u : Value} (r : R φ h w) (hx : den φ x u) : MemPost P φ h w (Instr.box t u) (boxE h t n x) := by
  unfold boxE
  split
  · rename_i l hl
    refine mp_cond (fun _ => ?_) fun _ => trivial
    have hrun : (Instr.box t u).run P w = .ok (.pointer (some ⟨w.heap.size, 0, none⟩)) (w.alloc (.cells u.cells t)) := by
      simp [Instr.box, newVar, newRow]
    have hc := cellsV_den hl hx
    by_cases hn : isNew (h.get h.nx) = true
    · have hnd : ¬ φ.dom h.nx := fun d => by rw [(r.dom _).1 d] at hn; cases hn
      refine alloc_post (z := u.cells.size) r hrun rfl (cellsOk_new (o' := .one t l) trivial rfl ?_ ?_ ?_) fun d _ => ?_
      · have := denL_len hc.1; simp only [AO.count]; simp at this; exact ⟨by omega, fun _ => by omega⟩
      · intro j y hy
        obtain ⟨v, hv, hd⟩ := denL_get hc.1 j y hy
        exact ⟨v, by simpa using hv, den_mono (Lie.le_put hnd) _ _ hd⟩
      · intro j v hv
        exact hc.2 v (List.mem_of_getElem? (l := u.cells.toList) (i := j) (by simpa using hv))
      · simp only [den, Lie.put, if_true]; exact ⟨.inl trivial, by simp⟩
    · unfold alloc
      have : isNew (h.get h.nx) = false := by simpa using hn
      rw [this]; trivial
  · trivial
end
end Xv

namespace Xv
open Go
section
variable {P : Program} {φ : Lie} {h : Hp} {w : World} {f : Fr} {a : Act} {o : Oper}

theorem setCells_heap {b : Nat} {el : TypeId} {fr : Nat × Nat} : ∀ (vs : List Value) (o : Nat) (w : World) (arr : Array Value), w.heap[b]? = some (.cells arr el fr) → o + vs.length ≤ arr.size →
    ∃ arr' : Array Value, (w.setCells b o vs).heap[b]? = some (.cells arr' el fr) ∧ arr'.size = arr.size ∧ (∀ j, arr'[j]? = if o ≤ j ∧ j < o + vs.length then vs[j - o]? else arr[j]?) ∧
      (∀ c, c ≠ b → (w.setCells b o vs).heap[c]? = w.heap[c]?) ∧ (w.setCells b o vs).heap.size = w.heap.size ∧ (w.setCells b o vs).os = w.os ∧ (w.setCells b o vs).output = w.output ∧ (w.setCells b o vs).tape = w.tape
  | [], o, w, arr, hb, _ => ⟨arr, hb, rfl, fun j => by rw [if_neg (by simp only [List.length_nil]; omega)], fun _ _ => rfl, rfl, rfl, rfl, rfl⟩
  | v :: r, o, w, arr, hb, hl => by
    simp only [List.length_cons] at hl
    have hs : ∀ c, (w.setCell ⟨b, o, none⟩ v).heap[c]? = if b = c then some (.cells (arr.setIfInBounds o v) el fr) else w.heap[c]? := fun c => by
      simp only [World.setCell, Array.getElem?_modify]
      split
      · rename_i e; subst e; rw [hb]; rfl
      · rfl
    obtain ⟨arr', h1, h2, h3, h4, h5, h6, h7, h8⟩ := setCells_heap r (o + 1) (w.setCell ⟨b, o, none⟩ v) (arr.setIfInBounds o v) (by rw [hs, if_pos rfl]) (by simp; omega)
    refine ⟨arr', h1, by simpa using h2, fun j => ?_, fun c hc => ?_, by rw [World.setCells, h5]; simp, h6, h7, h8⟩
    · rw [h3 j]
      simp only [List.length_cons]
      by_cases hj : j = o
      · subst hj
        rw [if_neg (by omega), if_pos (by omega), Nat.sub_self, Array.getElem?_setIfInBounds_self_of_lt (by omega)]; rfl
      · by_cases hj2 : o + 1 ≤ j ∧ j < o + 1 + r.length
        · rw [if_pos hj2, if_pos (by omega), show j - o = (j - (o + 1)) + 1 by omega, List.getElem?_cons_succ]
        · rw [if_neg hj2, if_neg (by omega), Array.getElem?_setIfInBounds_ne (by omega)]
    · rw [World.setCells, h4 c hc, hs, if_neg (Ne.symm hc)]

/-- Cells written into one of our blocks. -/
theorem store_R {i : Id} {off : Nat} {l : List AV} {o' : AO} {vs : List Value} (r : R φ h w) (hc : (h.get i).isCells = true) (sp : SetSpec (h.get i) off l o') (hd : denL φ l vs) (h1 : ∀ v ∈ vs, v.oneCell' = true) :
    R φ (h.set i o') (w.setCells (φ.blk i) (φ.sh i + off) vs) ∧ Step φ h w φ (w.setCells (φ.blk i) (φ.sh i + off) vs) (h.set i o') ∧
      (∀ k, (storeCells ⟨φ.blk i, k, none⟩ vs (φ.sh i + off - k)).run P w = .ok () (w.setCells (φ.blk i) (φ.sh i + off) vs) ∨ φ.sh i + off < k) := by
  have hlen := denL_len hd
  by_cases h0 : vs = []
  · subst h0
    have hl0 : l = [] := List.eq_nil_of_length_eq_zero (by simpa using hlen.symm)
    subst hl0
    have ok := cellsOk_of r hc
    have hlive : live (h.get i) = true := by cases hg : h.get i <;> rw [hg] at hc <;> simp [AO.isCells] at hc <;> rfl
    have hlive' : live o' = true := by have := sp.cells; cases ho : o' <;> rw [ho] at this <;> simp [AO.isCells] at this <;> rfl
    have ob : objOk φ w i o' := by
      obtain ⟨arr, fr, b1, b2, b3, b4, b5, b6⟩ := ok.blk
      have key : CellsOk φ w i o' := ⟨sp.wf, fun h1 => by rw [sp.count]; exact ok.unit (by rw [← sp.one]; exact h1), fun ho => by rw [sp.el]; exact ok.ro (by rw [AO.ro, sp.fz] at ho; exact ho), arr, fr, by rw [sp.el]; exact b1, b2, by rw [sp.count]; exact b3, fun j x hx => b4 j x (by rw [sp.cell, if_neg (by simp only [List.length_nil]; omega)] at hx; exact hx), b5, by rw [sp.fz]; exact b6⟩
      have := sp.cells
      cases o' <;> first | exact key | simp [AO.isCells] at this
    obtain ⟨r', st⟩ := set_R (h' := h.set i o') (w' := w) (i := i) (o' := o') r hlive hlive' (fun j => Hp.get_set _ _ _ _) rfl (fun _ _ => rfl) ob
      (fun j ek m ver todo cur _ _ _ ents clk he => ⟨ents, clk, he, Nat.le_refl _, fun _ => ⟨id, fun _ => rfl, fun _ _ _ h => h, by simp⟩⟩) rfl rfl rfl
    exact ⟨r', st, fun k => .inl rfl⟩
  · have ok := cellsOk_of r hc
    obtain ⟨arr, fr, b1, b2, b3, b4, b5, b6⟩ := ok.blk
    have hpos : 0 < l.length := by rw [← hlen]; exact List.length_pos_iff.2 h0
    have hroom := sp.room hpos
    have hlive : live (h.get i) = true := by cases hg : h.get i <;> rw [hg] at hc <;> simp [AO.isCells] at hc <;> rfl
    have hlive' : live o' = true := by have := sp.cells; cases ho : o' <;> rw [ho] at this <;> simp [AO.isCells] at this <;> rfl
    obtain ⟨arr', g1, g2, g3, g4, g5, g6, g7, g8⟩ := setCells_heap vs (φ.sh i + off) w arr b1 (by omega)
    have ob : objOk φ (w.setCells (φ.blk i) (φ.sh i + off) vs) i o' := by
      have key : CellsOk φ (w.setCells (φ.blk i) (φ.sh i + off) vs) i o' := by
        refine ⟨sp.wf, fun h1 => by rw [sp.count]; exact ok.unit (by rw [← sp.one]; exact h1), fun ho => by (obtain ⟨a0, e0⟩ := ok.ro (by rw [AO.ro, sp.fz] at ho; exact ho); rw [b1] at e0; cases e0; exact ⟨arr', by rw [sp.el]; exact g1⟩), arr', fr, by rw [sp.el]; exact g1, by rw [g2]; exact b2, by rw [sp.count, g2]; exact b3, fun j x hx => ?_, fun j v hv => ?_, by rw [sp.fz, g2]; exact b6⟩
        · rw [sp.cell] at hx
          rw [g3]
          split at hx
          · rename_i hj
            rw [if_pos (by omega)]
            obtain ⟨v, hv, hdv⟩ := denL_get hd _ _ hx
            exact ⟨v, by rw [← hv]; congr 1; omega, hdv⟩
          · rename_i hj
            rw [if_neg (by omega)]
            exact b4 j x hx
        · rw [g3] at hv
          split at hv
          · exact h1 v (List.mem_of_getElem? hv)
          · exact b5 j v hv
      have := sp.cells
      cases o' <;> first | exact key | simp [AO.isCells] at this
    obtain ⟨r', st⟩ := set_R (h' := h.set i o') (w' := w.setCells (φ.blk i) (φ.sh i + off) vs) (i := i) (o' := o') r hlive hlive' (fun j => Hp.get_set _ _ _ _) g5 (fun c hc => g4 c hc) ob
      (fun j ek m ver todo cur _ _ e ents clk he => by
        rw [e, g1] at he; cases he) g6 g7 g8
    refine ⟨r', st, fun k => ?_⟩
    by_cases hk : k ≤ φ.sh i + off
    · refine .inl ?_
      rw [run_storeCells_cells (φ.blk i) k vs (φ.sh i + off - k) w (fun j hj => ?_) (fun j hj => ?_) h1, show k + (φ.sh i + off - k) = φ.sh i + off by omega]
      · have : k + (φ.sh i + off - k) + j < arr.size := by omega
        simp [World.cell?, b1, this]
      · have hb := b6 (k + (φ.sh i + off - k) + j)
        have := sp.above
        simp only [World.frozen?, b1]
        by_cases c : fr.1 ≤ k + (φ.sh i + off - k) + j ∧ k + (φ.sh i + off - k) + j < fr.2
        · have := hb c.1 c.2 (by omega)
          omega
        · simp only [Bool.and_eq_false_iff, decide_eq_false_iff_not]; omega
    · exact .inr (by omega)
theorem st_sound {t : TypeId} {n : Nat} (r : R φ h w) (hz : szO P t = some n) {x y : AV} {u v : Value} (hx : den φ x u) (hy : den φ y v) : UnitPost P φ h w (Instr.storeAt t u v) (stE h n x y) := by
  unfold stE
  split
  · rename_i i off
    split
    · rename_i l hl
      refine up_cond (fun hc => ?_) fun _ => trivial
      rw [beq_iff, lenL_eq] at hc
      split
      · rename_i ob hob
        simp only [den] at hx; obtain ⟨d, rfl⟩ := hx
        have hcl : (h.get i).isCells = true := by cases hg : h.get i <;> rw [hg] at hob <;> first | rfl | simp [setCells] at hob
        have sp := setCells_spec (cellsOk_of r hcl).wf hob
        obtain ⟨hd, h1⟩ := cellsV_den hl hy
        obtain ⟨r', st, hrun⟩ := store_R (P := P) r hcl sp hd h1
        refine ⟨rfl, _, φ, ?_, r', st⟩
        have hk := (hrun (φ.sh i + off)).resolve_right (by omega)
        rw [Nat.sub_self] at hk
        have hsz : v.cells.size = n := by have := denL_len hd; simp at this; omega
        simp [Instr.storeAt, Instr.sureAddr, storeVar, sizeOf_run hz, hsz, hk]
      · trivial
    · trivial
  · trivial
end
end Xv

namespace Xv
open Go
section
variable {P : Program} {φ : Lie} {h : Hp} {w : World} {f : Fr} {a : Act} {o : Oper}

/-- One part laid into cells. -/
theorem part_fold (v : Value) (arr : Array Value) (off : Nat) (hle : off + v.cells.size ≤ arr.size) :
    (v.cells.zipIdx.foldl (fun cs (c, j) => cs.setIfInBounds (off + j) c) arr).size = arr.size ∧
    ∀ k, (v.cells.zipIdx.foldl (fun cs (c, j) => cs.setIfInBounds (off + j) c) arr)[k]? = if off ≤ k ∧ k < off + v.cells.size then v.cells[k - off]? else arr[k]? := by
  obtain ⟨g1, g2⟩ := Great.foldl_set off v.cells.toList 0 arr
  have e : v.cells.zipIdx.foldl (fun cs (c, j) => cs.setIfInBounds (off + j) c) arr = (v.cells.toList.zipIdx 0).foldl (fun cs (x : Value × Nat) => cs.setIfInBounds (off + x.2) x.1) arr := by
    rw [← Array.foldl_toList, Array.toList_zipIdx]
  rw [e]
  refine ⟨g1, fun k => ?_⟩
  rw [g2 k]
  simp only [Nat.add_zero, Array.length_toList]
  by_cases hk : off ≤ k ∧ k < off + v.cells.size
  · rw [if_pos hk, if_pos (by omega), Array.getElem?_toList]
  · rw [if_neg hk, if_neg (by omega)]

def PartsOk (φ : Lie) (get : CX → AV) (place : Nat → Option (Nat × Nat)) : List (Nat × Nat × CX) → List (Nat × Value) → Prop
  | [], [] => True
  | (off, n, x) :: r, (i, v) :: s => place i = some (off, n) ∧ den φ (get x) v ∧ PartsOk φ get place r s
  | _, _ => False
theorem fillP_fill {get : CX → AV} {place : Nat → Option (Nat × Nat)} : ∀ {cs : List (Nat × Nat × CX)} {ps : List (Nat × Value)} {l l' : List AV} {arr : Array Value}, PartsOk φ get place cs ps → fillP get l cs = some l' →
    denL φ l arr.toList → (∀ v ∈ arr.toList, v.oneCell' = true) → ∃ arr', Instr.fill place arr ps = some arr' ∧ denL φ l' arr'.toList ∧ ∀ v ∈ arr'.toList, v.oneCell' = true
  | [], [], l, l', arr, _, hf, hd, h1 => by simp only [fillP, Option.some.injEq] at hf; subst hf; exact ⟨arr, rfl, hd, h1⟩
  | (off, n, x) :: r, (i, v) :: s, l, l', arr, ⟨hp, hx, hr⟩, hf, hd, h1 => by
    simp only [fillP] at hf
    split at hf
    · rename_i c hc
      obtain ⟨hn, hf⟩ := cond_some hf
      rw [beq_iff, lenL_eq] at hn
      split at hf
      · rename_i l1 hl1
        obtain ⟨e1, e2⟩ := putL_eq _ _ _ _ hl1
        obtain ⟨hdc, h1c⟩ := cellsV_den hc hx
        have hcl := denL_len hdc
        have hal := denL_len hd
        simp only [Array.length_toList] at hcl hal
        obtain ⟨p1, p2⟩ := part_fold v arr off (by omega)
        unfold Instr.fill
        rw [hp]
        simp only
        rw [if_neg (by simp; omega)]
        refine fillP_fill hr hf (denL_of (by subst e2; rw [Array.length_toList, p1]; simp; omega) fun j y hy => ?_) fun u hu => ?_
        · rw [Array.getElem?_toList, p2 j]
          subst e2
          by_cases hj : off ≤ j ∧ j < off + v.cells.size
          · rw [if_pos hj]
            rw [List.getElem?_append_right (by simp; omega), List.getElem?_append_left (by simp; omega)] at hy
            obtain ⟨z, hz, hdz⟩ := denL_get hdc _ _ hy
            exact ⟨z, by rw [← Array.getElem?_toList, ← hz]; congr 1; simp; omega, hdz⟩
          · rw [if_neg hj]
            by_cases hj2 : j < off
            · rw [List.getElem?_append_left (by simp; omega), List.getElem?_take_of_lt hj2] at hy
              obtain ⟨z, hz, hdz⟩ := denL_get hd _ _ hy
              exact ⟨z, by rw [← Array.getElem?_toList, hz], hdz⟩
            · rw [List.getElem?_append_right (by simp; omega), List.getElem?_append_right (by simp; omega), List.getElem?_drop] at hy
              obtain ⟨z, hz, hdz⟩ := denL_get hd _ _ hy
              exact ⟨z, by rw [← Array.getElem?_toList, ← hz]; congr 1; simp; omega, hdz⟩
        · obtain ⟨k, hk⟩ := List.getElem?_of_mem hu
          rw [Array.getElem?_toList, p2 k] at hk
          split at hk
          · exact h1c u (List.mem_of_getElem? (by rw [Array.getElem?_toList]; exact hk))
          · exact h1 u (List.mem_of_getElem? (by rw [Array.getElem?_toList]; exact hk))
      · cases hf
    · cases hf
  | [], _ :: _, _, _, _, hp, _, _, _ => by simp [PartsOk] at hp
  | _ :: _, [], _, _, _, hp, _, _, _ => by simp [PartsOk] at hp

theorem partsOk_of {get : CX → AV} {place : Nat → Option (Nat × Nat)} {F : Nat × Operand → Option (Nat × Nat × CX)} {ev : Operand → Value}
    (hF : ∀ q c, F q = some c → place q.1 = some (c.1, c.2.1) ∧ den φ (get c.2.2) (ev q.2)) : ∀ {ps : List (Nat × Operand)} {cs : List (Nat × Nat × CX)}, mapO F ps = some cs → PartsOk φ get place cs (ps.map fun q => (q.1, ev q.2))
  | [], cs, hm => by simp only [mapO, Option.some.injEq] at hm; subst hm; trivial
  | q :: ps, cs, hm => by
    simp only [mapO] at hm
    split at hm
    · rename_i c r hc hr
      cases hm
      obtain ⟨g1, g2⟩ := hF q c hc
      exact ⟨g1, g2, partsOk_of hF hr⟩
    · cases hm
end
end Xv

namespace Xv
open Go
section
variable {P : Program} {φ : Lie} {h : Hp} {w : World} {f : Fr} {a : Act} {o : Oper}

theorem mapO_mapM {α β : Type} (F : α → Option β) : ∀ l : List α, mapO F l = l.mapM F
  | [] => rfl
  | x :: l => by
    simp only [mapO, mapO_mapM F l, List.mapM_cons]
    cases F x <;> cases l.mapM F <;> rfl
theorem szPlaces {fs : List Field} {pl : List (Nat × Nat)} (hm : mapO (fun f : Field => match szO P f.type with | some n => some (f.offset, n) | none => none) fs = some pl) :
    fs.mapM (fun f => (P.info? f.type).map fun i => (f.offset, i.size)) = some pl := by
  rw [mapO_mapM] at hm
  rw [← hm]
  congr 1
  funext f
  unfold szO
  cases P.info? f.type <;> rfl
theorem build_run {t : TypeId} {parts : Array (Nat × Value)} {cells : Array Value} {s : Sem Value} (hs : s = Instr.build t parts) (hb : P.built t parts.toList = some cells) : s.run P w = .ok (.agg cells) w := by
  rw [hs]; exact run_build w t parts cells hb
theorem cbuild_good (G : Glob φ P) (hf : FrOk φ f a.tmps) {t : TypeId} {parts : Array (Nat × Operand)} (ho : o.op = .build t parts) : Good P φ h w f a o (cbuild P t parts.toList) := by
  have hex : execOp a.eval o = (do pure (.value (← Instr.build t (parts.map fun (i, x) => (i, a.eval x))))) := by unfold execOp; rw [ho]
  have hl : (parts.map fun (i, x) => (i, a.eval x)).toList = parts.toList.map fun q => (q.1, a.eval q.2) := by simp
  unfold cbuild
  split
  · rename_i fs z hu hz
    split
    · rename_i pl hpl
      split
      · rename_i cs hcs
        refine good_val hex ?_
        simp only [evOp, buildE]
        split
        · rename_i l' hl'
          obtain ⟨i, v, hi, hv, hdz⟩ := zeroV_spec hz
          have hd := hdz φ
          simp only [den] at hd
          obtain ⟨zs, rfl, hd1, hd2⟩ := hd
          have pk := partsOk_of (φ := φ) (get := fun x => x.get f) (place := (pl.toArray[·]?)) (ev := a.eval) (fun q c hq => by
            split at hq
            · rename_i g x hg hx
              simp only [Option.some.injEq] at hq
              subst hq
              exact ⟨by simpa using hg, opd_den G hf hx⟩
            · cases hq) hcs
          obtain ⟨arr', f1, f2, f3⟩ := fillP_fill pk hl' hd1 hd2
          refine ⟨.agg arr', build_run rfl ?_, by simp only [den]; exact ⟨_, rfl, f2, f3⟩⟩
          unfold Program.built
          simp only [hi, hu, hv, szPlaces hpl, hl, Value.cells]
          exact f1
        · trivial
      · exact good_bad
    · exact good_bad
  · rename_i n e z hu hz
    split
    · rename_i s hs
      split
      · rename_i cs hcs
        refine good_val hex ?_
        simp only [evOp, buildE]
        split
        · rename_i l' hl'
          obtain ⟨i, v, hi, hv, hdz⟩ := zeroV_spec hz
          have hd := hdz φ
          simp only [den] at hd
          obtain ⟨zs, rfl, hd1, hd2⟩ := hd
          obtain ⟨ie, hie, rfl⟩ := szO_info hs
          have pk := partsOk_of (φ := φ) (get := fun x => x.get f) (place := fun i => some (i * ie.size, ie.size)) (ev := a.eval) (fun q c hq => by
            split at hq
            · rename_i x hx
              simp only [Option.some.injEq] at hq
              subst hq
              exact ⟨rfl, opd_den G hf hx⟩
            · cases hq) hcs
          obtain ⟨arr', f1, f2, f3⟩ := fillP_fill pk hl' hd1 hd2
          refine ⟨.agg arr', build_run rfl ?_, by simp only [den]; exact ⟨_, rfl, f2, f3⟩⟩
          unfold Program.built
          simp only [hi, hu, hv, hie, hl, Value.cells]
          exact f1
        · trivial
      · exact good_bad
    · exact good_bad
  · exact good_bad

/-! ### Rows of zeros, and what is laid over them -/

/-- A table of rows stands for cells. -/
def RowsOk (φ : Lie) (rw len : Nat) (t : N3 (List AV)) (arr : Array Value) : Prop :=
  arr.size = len * rw ∧ (∀ k, k < len → (rowGet t k).length = rw) ∧ (∀ k j, k < len → j < rw → ∀ x, (rowGet t k)[j]? = some x → ∃ v, arr[k * rw + j]? = some v ∧ den φ x v) ∧ ∀ (j : Nat) (v : Value), arr[j]? = some v → v.oneCell' = true
theorem RowsOk.obj {rw len : Nat} {t : N3 (List AV)} {arr : Array Value} {n : Id} {el : Nat} (hrw : 0 < rw) (hlen : len ≤ 4096) (hk : RowsOk (φ.put n w.heap.size 0 (len * rw)) rw len t arr) :
    objOk (φ.put n w.heap.size 0 (len * rw)) (w.alloc (.cells arr el)) n (.rows el rw len 0 t) := by
  obtain ⟨h1, h2, h3, h4⟩ := hk
  rw [← h1] at h3 ⊢
  refine cellsOk_new (o' := .rows el rw len 0 t) ⟨hrw, hlen, h2⟩ rfl ⟨by simp only [AO.count]; omega, fun h => by cases h⟩ (fun j x hx => ?_) h4
  simp only [AO.cell] at hx
  split at hx
  · rename_i hj
    obtain ⟨v, hv, hd⟩ := h3 (j / rw) (j % rw) (Nat.div_lt_of_lt_mul (by rw [Nat.mul_comm]; exact hj)) (Nat.mod_lt _ hrw) x hx
    exact ⟨v, by rw [← hv, divmod], hd⟩
  · cases hx
theorem zeroRows_get (r : List AV) : ∀ (n k : Nat) (t : N3 (List AV)), k + n ≤ 4096 → ∀ j, j < 4096 → rowGet (zeroRows r n k t) j = if k ≤ j ∧ j < k + n then r else rowGet t j
  | 0, k, t, _, j, _ => by rw [if_neg (by omega)]; rfl
  | n+1, k, t, hk, j, hj => by
    simp only [zeroRows]
    rw [zeroRows_get r n (k + 1) _ (by omega) j hj, rowGet_set t k j r (by omega) hj]
    by_cases h1 : j = k
    · subst h1; rw [if_neg (by omega), if_pos rfl, if_pos (by omega)]
    · rw [if_neg h1]
      by_cases h2 : k + 1 ≤ j ∧ j < k + 1 + n
      · rw [if_pos h2, if_pos (by omega)]
      · rw [if_neg h2, if_neg (by omega)]
theorem zero_cells {z : Array Value} {n j : Nat} (hj : j < n) : ((Array.range n).map (z[· % z.size]!))[j]? = some z[j % z.size]! := by
  simp [hj]
theorem zeroRows_ok {r : List AV} {z : Array Value} {rw len : Nat} (hrw : 0 < rw) (hlen : len ≤ 4096) (hd : denL φ r z.toList) (h1 : ∀ v ∈ z.toList, v.oneCell' = true) (hr : r.length = rw) {arr : Array Value}
    (ha : arr = (Array.range (len * rw)).map (z[· % z.size]!)) : RowsOk φ rw len (zeroRows r len 0 noRows) arr := by
  have hz : z.size = rw := by have := denL_len hd; simp at this; omega
  have key : ∀ k, k < len → rowGet (zeroRows r len 0 noRows) k = r := fun k hk => by rw [zeroRows_get r len 0 _ (by omega) k (by omega), if_pos (by omega)]
  have hget : ∀ j, j < len * rw → ∃ v, z[j % rw]? = some v ∧ arr[j]? = some v := fun j hj => by
    have hm : j % rw < z.size := by rw [hz]; exact Nat.mod_lt _ hrw
    refine ⟨z[j % rw], Array.getElem?_eq_getElem hm, ?_⟩
    rw [ha, zero_cells hj, hz, getElem!_pos z _ hm]
  refine ⟨by rw [ha]; simp, fun k hk => by rw [key k hk]; exact hr, fun k j hk hj x hx => ?_, fun j v hv => ?_⟩
  · rw [key k hk] at hx
    obtain ⟨v, hv, hdv⟩ := denL_get hd _ _ hx
    obtain ⟨v', hv', ha'⟩ := hget (k * rw + j) (mul_lt_of hk hj)
    rw [Nat.mul_comm, Nat.mul_add_mod, Nat.mod_eq_of_lt hj, ← Array.getElem?_toList, hv] at hv'
    cases hv'
    exact ⟨v, ha', hdv⟩
  · have hj : j < len * rw := by
      have := (Array.getElem?_eq_some_iff.1 hv).1
      rw [ha] at this; simpa using this
    obtain ⟨v', hv', ha'⟩ := hget j hj
    rw [hv] at ha'; cases ha'
    exact h1 v (List.mem_of_getElem? (by rw [Array.getElem?_toList]; exact hv'))
end
end Xv

namespace Xv
open Go
section
variable {P : Program} {φ : Lie} {h : Hp} {w : World} {f : Fr} {a : Act} {o : Oper}

theorem RowsOk.mono {ψ : Lie} (le : φ.le ψ) {rw len : Nat} {t : N3 (List AV)} {arr : Array Value} (h : RowsOk φ rw len t arr) : RowsOk ψ rw len t arr :=
  ⟨h.1, h.2.1, fun k j hk hj x hx => by obtain ⟨v, hv, hd⟩ := h.2.2.1 k j hk hj x hx; exact ⟨v, hv, den_mono le _ _ hd⟩, h.2.2.2⟩
theorem alloc_post' {s : Sem Value} {o' : AO} {k : Id → AV} {obj : Obj} {v : Value} {z : Nat} (r : R φ h w) (hrun : s.run P w = .ok v (w.alloc obj)) (hl : live o' = true)
    (hobj : φ.le (φ.put h.nx w.heap.size 0 z) → objOk (φ.put h.nx w.heap.size 0 z) (w.alloc obj) h.nx o') (hden : (φ.put h.nx w.heap.size 0 z).dom h.nx → φ.le (φ.put h.nx w.heap.size 0 z) → den (φ.put h.nx w.heap.size 0 z) (k h.nx) v) : MemPost P φ h w s (alloc h o' k) := by
  by_cases hn : isNew (h.get h.nx) = true
  · have hnd : ¬ φ.dom h.nx := fun d => by rw [(r.dom _).1 d] at hn; cases hn
    exact alloc_post r hrun hl (hobj (Lie.le_put hnd)) hden
  · unfold alloc
    have : isNew (h.get h.nx) = false := by simpa using hn
    rw [this]; trivial

def PartsL (φ : Lie) (get : CX → AV) : List (Nat × CX) → List (Nat × Value) → Prop
  | [], [] => True
  | (i, x) :: r, (j, v) :: s => i = j ∧ den φ (get x) v ∧ PartsL φ get r s
  | _, _ => False
theorem rowsLit_fill {get : CX → AV} {rw len : Nat} (hlen : len ≤ 4096) : ∀ {cs : List (Nat × CX)} {ps : List (Nat × Value)} {t t' : N3 (List AV)} {arr : Array Value}, PartsL φ get cs ps → rowsLit rw len get cs t = some t' →
    RowsOk φ rw len t arr → ∃ arr', Instr.fill (fun i => some (i * rw, rw)) arr ps = some arr' ∧ RowsOk φ rw len t' arr'
  | [], [], t, t', arr, _, hf, hk => by simp only [rowsLit, Option.some.injEq] at hf; subst hf; exact ⟨arr, rfl, hk⟩
  | (i, x) :: r, (j, v) :: s, t, t', arr, ⟨hp, hx, hr⟩, hf, hk => by
    subst hp
    simp only [rowsLit] at hf
    split at hf
    · rename_i c hc
      obtain ⟨hn, hf⟩ := cond_some hf
      simp only [Bool.and_eq_true, beq_iff, ble_iff, lenL_eq, nsucc] at hn
      obtain ⟨hn, hi⟩ := hn
      obtain ⟨hdc, h1c⟩ := cellsV_den hc hx
      have hcl := denL_len hdc
      simp only [Array.length_toList] at hcl
      obtain ⟨k1, k2, k3, k4⟩ := hk
      have hm : i * rw + rw ≤ len * rw := by
        have := Nat.mul_le_mul_right rw (show i + 1 ≤ len from hi)
        rwa [Nat.add_mul, Nat.one_mul] at this
      obtain ⟨p1, p2⟩ := part_fold v arr (i * rw) (by omega)
      unfold Instr.fill
      simp only
      rw [if_neg (by simp; omega)]
      refine rowsLit_fill hlen hr hf ⟨by rw [p1, k1], fun k hk => ?_, fun k j hk hj y hy => ?_, fun j u hu => ?_⟩
      · rw [rowGet_set t i k c (by omega) (by omega)]
        split
        · exact hn
        · exact k2 k hk
      · rw [rowGet_set t i k c (by omega) (by omega)] at hy
        rw [p2]
        split at hy
        · rename_i e
          subst e
          rw [if_pos (by omega)]
          obtain ⟨z, hz, hdz⟩ := denL_get hdc _ _ hy
          exact ⟨z, by rw [← Array.getElem?_toList, ← hz]; congr 1; omega, hdz⟩
        · rename_i e
          rw [if_neg ?_]
          · exact k3 k j hk hj y hy
          · intro hh
            rcases Nat.lt_or_gt_of_ne e with hlt | hgt
            · have := Nat.mul_le_mul_right rw (show k + 1 ≤ i from hlt)
              rw [Nat.add_mul, Nat.one_mul] at this
              omega
            · have := Nat.mul_le_mul_right rw (show i + 1 ≤ k from hgt)
              rw [Nat.add_mul, Nat.one_mul] at this
              omega
      · rw [p2] at hu
        split at hu
        · exact h1c u (List.mem_of_getElem? (by rw [Array.getElem?_toList]; exact hu))
        · exact k4 j u hu
    · cases hf
  | [], _ :: _, _, _, _, hp, _, _ => by simp [PartsL] at hp
  | _ :: _, [], _, _, _, hp, _, _ => by simp [PartsL] at hp
theorem partsL_of {get : CX → AV} {F : Nat × Operand → Option (Nat × CX)} {ev : Operand → Value}
    (hF : ∀ q c, F q = some c → c.1 = q.1 ∧ den φ (get c.2) (ev q.2)) : ∀ {ps : List (Nat × Operand)} {cs : List (Nat × CX)}, mapO F ps = some cs → PartsL φ get cs (ps.map fun q => (q.1, ev q.2))
  | [], cs, hm => by simp only [mapO, Option.some.injEq] at hm; subst hm; trivial
  | q :: ps, cs, hm => by
    simp only [mapO] at hm
    split at hm
    · rename_i c r hc hr
      cases hm
      obtain ⟨g1, g2⟩ := hF q c hc
      exact ⟨g1, g2, partsL_of hF hr⟩
    · cases hm
theorem new_slice_den {n : Id} {b len cap c rw z : Nat} {ex : Bool} (hl : len ≤ cap) (hc : cap ≤ c) (hex : ex = true → c = cap) (hz : c * rw = z) : den (φ.put n b 0 z) (.slice n 0 rw len cap ex) (.slice (some ⟨b, 0, none⟩) len c) := by
  simp only [den]
  exact ⟨.inl rfl, ⟨b, 0, none⟩, c, rfl, hl, hc, hex, fun _ => ⟨by simp [Lie.put], by simp only [Lie.put, if_true]; omega⟩⟩
theorem zeroC_spec {t : TypeId} {l : List AV} (hz : zeroC P t = some l) : ∃ i v, P.info? t = some i ∧ i.zero = some v ∧ ∀ ψ, denL ψ l v.cells.toList ∧ ∀ c ∈ v.cells.toList, c.oneCell' = true := by
  unfold zeroC at hz
  split at hz
  · rename_i z hzv
    obtain ⟨i, v, hi, hv, hd⟩ := zeroV_spec hzv
    exact ⟨i, v, hi, hv, fun ψ => cellsV_den hz (hd ψ)⟩
  · cases hz
theorem cbslice_good (G : Glob φ P) (hf : FrOk φ f a.tmps) (r : R φ h w) {t : TypeId} {n : Nat} {parts : Array (Nat × Operand)} (ho : o.op = .buildSlice t n parts) : Good P φ h w f a o (cbslice P t n parts.toList) := by
  have hex : execOp a.eval o = (do pure (.value (← Instr.buildSlice t n (parts.map fun (i, x) => (i, a.eval x))))) := by unfold execOp; rw [ho]
  have hl : (parts.map fun (i, x) => (i, a.eval x)).toList = parts.toList.map fun q => (q.1, a.eval q.2) := by simp
  unfold cbslice
  split
  · rename_i e hu
    split
    · rename_i cs z s hcs hz hs
      split
      · rename_i hn
        rw [lenL_eq] at hn
        refine good_mem hex ?_
        simp only [evOp, bsliceE]
        split
        · rename_i t' ht'
          obtain ⟨i, v, hi, hv, hd⟩ := zeroC_spec hz
          obtain ⟨i', hi', hsz⟩ := szO_info hs
          rw [hi] at hi'; cases hi'
          have pk := partsL_of (φ := φ) (get := fun x => x.get f) (ev := a.eval) (fun q c hq => by
            split at hq
            · rename_i x hx
              simp only [Option.some.injEq] at hq
              subst hq
              exact ⟨rfl, opd_den G hf hx⟩
            · cases hq) hcs
          by_cases h0 : n = 0
          · subst h0
            have hcs0 : parts.toList.map (fun q => (q.1, a.eval q.2)) = [] ∧ t' = noRows := by
              cases cs with
              | nil =>
                simp only [rowsLit, zeroRows, Option.some.injEq] at ht'
                cases hp : parts.toList.map (fun q => (q.1, a.eval q.2)) with
                | nil => exact ⟨rfl, ht'.symm⟩
                | cons => rw [hp] at pk; simp [PartsL] at pk
              | cons q cs =>
                obtain ⟨qi, qx⟩ := q
                simp only [rowsLit] at ht'
                split at ht'
                · obtain ⟨hc, _⟩ := cond_some ht'
                  simp only [Bool.and_eq_true, ble_iff, nsucc] at hc
                  omega
                · cases ht'
            obtain ⟨hp0, rfl⟩ := hcs0
            have hrun : (Instr.buildSlice t 0 (parts.map fun (i, x) => (i, a.eval x))).run P w = .ok (.slice (some ⟨w.heap.size, 0, none⟩) 0 0) (w.alloc (.cells #[] e)) := by
              have hp1 : parts = #[] := by simpa using hp0
              have hr0 : Array.range 0 = #[] := rfl
              simp [Instr.buildSlice, underlying_run hu, Go.sizeOf, typeInfo, hi, hp1, hr0, Instr.fill, newRow]
            refine alloc_post' (z := 0 * (s + 1)) r hrun rfl (fun le => RowsOk.obj (by omega) (by omega) ?_) fun d le => ?_
            · exact ⟨by simp, fun k hk => absurd hk (Nat.not_lt_zero _), fun k j hk => absurd hk (Nat.not_lt_zero _), fun j v hv => by simp at hv⟩
            · exact new_slice_den (Nat.le_refl _) (Nat.le_refl _) (fun _ => rfl) rfl
          · have zk := zeroRows_ok (φ := φ) (len := n) (rw := s + 1) (by omega) hn.1 (hd φ).1 (hd φ).2 (by rw [hn.2.1]) rfl
            obtain ⟨arr', f1, f2⟩ := rowsLit_fill hn.1 pk ht' zk
            have hrun := run_buildSlice w t e n (parts.map fun (i, x) => (i, a.eval x)) arr' i v hu hi hv (by rw [hsz]; exact Nat.not_lt.2 (Nat.le_trans (Nat.mul_le_mul hn.1 hn.2.2) (by decide)))
              (by rw [hsz]; exact Nat.mul_ne_zero h0 (by omega)) (by rw [hl, hsz]; exact f1)
            refine alloc_post' (z := n * (s + 1)) r hrun rfl (fun le => RowsOk.obj (by omega) hn.1 (f2.mono le)) fun d le => ?_
            exact new_slice_den (Nat.le_refl _) (Nat.le_refl _) (fun _ => rfl) rfl
        · trivial
      · exact good_bad
    · exact good_bad
  · exact good_bad
end
end Xv

namespace Xv
open Go
section
variable {P : Program} {φ : Lie} {h : Hp} {w : World} {f : Fr} {a : Act} {o : Oper}

theorem mkRows_obj {n' : Id} {el rw n : Nat} {rs : List (List AV)} {c : Nat → Option AV} {cs : Array Value} (hrw : 0 < rw) (hn : n ≤ 4096) (hr : RowsAre rs rw n c) (hs : n * rw ≤ cs.size)
    (hc : ∀ (j : Nat) (x : AV), j < n * rw → c j = some x → ∃ v, cs[j]? = some v ∧ den (φ.put n' w.heap.size 0 cs.size) x v) (h1 : ∀ (j : Nat) (v : Value), cs[j]? = some v → v.oneCell' = true) :
    objOk (φ.put n' w.heap.size 0 cs.size) (w.alloc (.cells cs el)) n' (mkRows el rw n rs) := by
  obtain ⟨m1, m2⟩ := mkRows_spec (el := el) hrw hn hr
  refine cellsOk_new (o' := mkRows el rw n rs) m1 rfl ⟨hs, fun h => by cases h⟩ (fun j x hx => ?_) h1
  by_cases hj : j < n * rw
  · exact hc j x hj (by rw [← m2 j hj]; exact hx)
  · simp only [mkRows, AO.cell, if_neg hj] at hx; cases hx
theorem one_of_list {cs : Array Value} (h : ∀ v ∈ cs.toList, v.oneCell' = true) (j : Nat) (v : Value) (hv : cs[j]? = some v) : v.oneCell' = true := h v (List.mem_of_getElem? (by rw [Array.getElem?_toList]; exact hv))
theorem calloc_run {t : TypeId} {i : TypeInfo} {v : Value} (hi : P.info? t = some i) (hv : i.zero = some v) : (Instr.alloc t true (.tuple #[])).run P w = .ok (.pointer (some ⟨w.heap.size, 0, none⟩)) (w.alloc (.cells v.cells t)) := by
  simp [Instr.alloc, zeroValue_run hi hv, newVar, newRow]
theorem ptr_den_new {n : Id} {b z : Nat} : den (φ.put n b 0 z) (.ptr n 0) (.pointer (some ⟨b, 0, none⟩)) := by
  simp only [den, Lie.put, if_true]; exact ⟨.inl trivial, by simp⟩
theorem chunks_are {rw n : Nat} {l : List AV} {rs : List (List AV)} (hc : chunks rw n l = some rs) : RowsAre rs rw n (fun j => l[j]?) := by
  obtain ⟨h1, h2, h3⟩ := chunks_spec _ _ _ hc
  refine ⟨h1, fun r hr => ?_, fun k j hk hj => ?_⟩
  · obtain ⟨k, hk⟩ := List.getElem?_of_mem hr
    exact (h3 k r hk).1
  · have hkl : k < rs.length := by omega
    rw [List.getD_eq_getElem?_getD, List.getElem?_eq_getElem hkl, Option.getD_some, (h3 k _ (List.getElem?_eq_getElem hkl)).2 j hj]
theorem calloc_good (r : R φ h w) {t : TypeId} (ho : o.op = .alloc t) : Good P φ h w f a o (calloc P t) := by
  have hex : execOp a.eval o = (do pure (.value (← Instr.alloc t true (.tuple #[])))) := by unfold execOp; rw [ho]
  unfold calloc
  split
  · split
    · rename_i n e hu s se z hs hse hz
      split
      · split
        · rename_i rs hrs
          split
          · rename_i hn
            rw [lenL_eq] at hn
            refine good_mem hex ?_
            obtain ⟨i, v, hi, hv, hd⟩ := zeroC_spec hz
            simp only [evOp]
            have hlen := denL_len (hd φ).1
            simp only [Array.length_toList] at hlen
            refine alloc_post' (z := v.cells.size) r (calloc_run hi hv) rfl (fun le => ?_) fun _ _ => ptr_den_new
            refine mkRows_obj (by omega) hn.1 (chunks_are hrs) (by omega) (fun j x hj hx => ?_) (one_of_list (hd φ).2)
            obtain ⟨y, hy, hdy⟩ := denL_get (hd _).1 j x hx
            exact ⟨y, by rw [← Array.getElem?_toList]; exact hy, hdy⟩
          · exact good_bad
        · exact good_bad
      · refine good_mem hex ?_
        simp only [evOp]
        exact calloc_one r hz
    · exact good_bad
  · split
    · rename_i z hz
      refine good_mem hex ?_
      simp only [evOp]
      exact calloc_one r hz
    · exact good_bad
  · exact good_bad
theorem mksl_sound {t e : TypeId} {s : Nat} {i : TypeInfo} {z : List AV} (r : R φ h w) (ht : P.underlying t = some (.slice e)) (hi : P.info? e = some i) (hz : zeroC P e = some z) (hs : i.size = s + 1) (hzl : lenL z = s + 1)
    {x y : AV} {u v : Value} (hx : den φ x u) (hy : den φ y v) : MemPost P φ h w (Instr.makeSlice t u v) (mkslE h e (s+1) i.bytes z x y) := by
  unfold mkslE
  split
  · rename_i l c hl hc
    refine mp_cond (fun hcd => ?_) fun _ => trivial
    simp only [Bool.and_eq_true, ble_iff, nsucc, nmul] at hcd
    obtain ⟨kl, rfl⟩ := natOf_den hx hl
    obtain ⟨kc, rfl⟩ := natOf_den hy hc
    obtain ⟨i', zv, hi', hv, hd⟩ := zeroC_spec hz
    rw [hi] at hi'; cases hi'
    rw [lenL_eq] at hzl
    have hrun := run_make (P := P) w t e i zv ht hi hv kl kc l c (by omega) (by omega) (by
      have : ((i.bytes * c : Nat) : Int) ≤ 281474976710656 := by rw [Nat.mul_comm]; omega
      rwa [Int.natCast_mul] at this) (by omega)
    simp only [Int.toNat_natCast, hs] at hrun
    refine alloc_post' (z := c * (s + 1)) r hrun rfl (fun le => RowsOk.obj (by omega) (by omega) ?_) fun d le => new_slice_den hcd.1.1 (Nat.le_refl _) (fun _ => rfl) rfl
    exact zeroRows_ok (by omega) (by omega) (hd _).1 (hd φ).2 hzl rfl
  · trivial
theorem mkmap_sound {t : TypeId} (r : R φ h w) : MemPost P φ h w (Instr.makeMap t none) (alloc h (.map [] 0) fun i => .map i) := by
  have hrun : (Instr.makeMap t none).run P w = .ok (.map (some w.heap.size)) (w.alloc (.map #[] 0)) := by simp [Instr.makeMap]
  refine alloc_post' (z := 0) r hrun rfl (fun le => ?_) fun d le => ?_
  · refine ⟨#[], ?_, ⟨[], rfl, rfl, by simp⟩, by simp, by simp, by simp, by simp⟩
    have e : (φ.put h.nx w.heap.size 0 0).blk h.nx = w.heap.size := if_pos rfl
    rw [e]; exact Array.getElem?_push_size
  · simp only [den, Lie.put, if_true]; exact ⟨.inl trivial, by simp⟩
theorem mkf_sound {fn : Nat} (hfn : (fid fn).n = fn) {l m : List AV} {us vs : List Value} (hl : denL φ l us) (hm : denL φ m vs) : ValPost P φ w (Instr.makeFunc (.func fn) us.toArray vs.toArray) (.v (.func (fid fn) l m)) := by
  refine ⟨_, rfl, ?_⟩
  simp only [den]
  exact ⟨_, _, by rw [hfn], hl, hm⟩
end
end Xv

namespace Xv
open Go
section
variable {P : Program} {φ : Lie} {h : Hp} {w : World} {f : Fr} {a : Act} {o : Oper}

theorem nilc_good {x : Operand} {c : CX} (ho : o.op = .nilCheck x) (hx : den φ (c.get f) (a.eval x)) : Good P φ h w f a o (.nilc c) := by
  unfold Good
  simp only [evOp]
  unfold nilcE execOp
  rw [ho]
  cases hv : c.get f <;> simp only [OpPost] <;> rw [hv] at hx
  case ptr => have hd := hx; simp only [den] at hx; obtain ⟨d, e⟩ := hx; simp only [e] at hd ⊢; exact ⟨_, _, w, rfl, .inl rfl, hd, .refl w⟩
  case func => have hd := hx; simp only [den] at hx; obtain ⟨fs, cs, e, _⟩ := hx; simp only [e] at hd ⊢; exact ⟨_, _, w, rfl, .inl rfl, hd, .refl w⟩
  case iface => have hd := hx; simp only [den] at hx; obtain ⟨y, e, _⟩ := hx; simp only [e] at hd ⊢; exact ⟨_, _, w, rfl, .inl rfl, hd, .refl w⟩
theorem tup2_den {x : AV} {v : Value} {b : Bool} (hx : den φ x v) : den φ (.tup [x, .bool b]) (.tuple #[v, .bool b]) := by
  simp only [den]
  exact ⟨_, rfl, denL_cons.2 ⟨hx, denL_cons.2 ⟨by simp only [den], denL_nil⟩⟩⟩
theorem okPair_post {s : Sem Value} {ok b : Bool} {x : AV} {v : Value} (hx : den φ x v) (hs : s.run P w = .ok (if ok then .tuple #[v, .bool b] else v) w) : ValPost P φ w s (okPair ok x b) := by
  cases ok with
  | true => exact ⟨_, hs, tup2_den hx⟩
  | false => exact ⟨_, hs, hx⟩
theorem tas_sound {xt t : TypeId} {z : AV} {ok : Bool} {dd : TypeDesc} (ht : P.underlying t = some dd) (hni : ∀ m, dd ≠ .interface m) (hz : zeroV P t = some z) {x : AV} {u : Value} (hx : den φ x u) : ValPost P φ w (Instr.typeAssert u xt t ok) (tasE t z x ok) := by
  obtain ⟨i, zv, hi, hv, hd⟩ := zeroV_spec hz
  unfold tasE
  cases x <;> simp only [ValPost] <;> simp only [den] at hx
  case nili =>
    subst hx
    cases ok with
    | false => trivial
    | true =>
      refine ⟨.tuple #[zv, .bool false], ?_, tup2_den (hd φ)⟩
      unfold Instr.typeAssert
      cases dd <;> first | exact absurd rfl (hni _) | simp [underlying_run ht, zeroValue_run hi hv]
  case iface t' y =>
    obtain ⟨v, rfl, hy⟩ := hx
    cases hb : Nat.beq t' t with
    | true =>
      rw [beq_iff] at hb
      subst hb
      refine okPair_post hy ?_
      unfold Instr.typeAssert
      cases ok <;> cases dd <;> first | exact absurd rfl (hni _) | simp [underlying_run ht]
    | false =>
      have hne : ¬ t' = t := fun e => by rw [← beq_iff, hb] at e; cases e
      cases ok with
      | false => trivial
      | true =>
        refine ⟨.tuple #[zv, .bool false], ?_, tup2_den (hd φ)⟩
        unfold Instr.typeAssert
        cases dd <;> first | exact absurd rfl (hni _) | simp [underlying_run ht, hne, zeroValue_run hi hv]
theorem usd_sound {ty : TypeId} {at_ : Array TypeId} {x : AV} {u : Value} (hx : den φ x u) : ValPost P φ w (Builtin.unsafeSliceData_ at_ ty #[u]) (usdE x) := by
  unfold usdE
  cases x <;> simp only [ValPost] <;> simp only [den] at hx
  case nils => subst hx; exact ⟨.pointer none, rfl, by simp only [den]⟩
  case slice i off rw len cap ex =>
    obtain ⟨d, ad, c, rfl, h1, h2, h3, h4⟩ := hx
    cases hc : Nat.ble 1 cap with
    | false => trivial
    | true =>
      rw [ble_iff] at hc
      have hc0 : c ≠ 0 := by omega
      obtain ⟨e1, e2⟩ := h4 hc0
      refine ⟨.pointer (some ad), ?_, by simp only [den]; exact ⟨d, by rw [e1]⟩⟩
      unfold Builtin.unsafeSliceData_
      show (if c ≠ 0 then _ else _ : Sem Value).run P w = _
      rw [if_pos hc0]; rfl
theorem len_sound {t : TypeId} {ty : TypeId} (r : R φ h w) {dd : TypeDesc} (ht : P.underlying t = some dd) {k : Nat} (hdd : (k = 0 ∧ dd = .string) ∨ (k = 1 ∧ ∃ e, dd = .slice e) ∨ (k = 2 ∧ ∃ q e, dd = .map q e)) {x : AV} {u : Value} (hx : den φ x u) :
    ValPost P φ w (Builtin.len_ #[t] ty #[u]) (lenE k h x) := by
  have vc : ∀ {c : Bool} {x : AV} {s : Sem Value}, (c = true → ValPost P φ w s (.v x)) → ValPost P φ w s (cond c (.v x) (.bad "len: kind")) := fun {c} _ _ hh => by
    cases c with
    | true => exact hh rfl
    | false => trivial
  cases x <;> simp only [den] at hx <;> first | trivial | skip
  case str l n =>
    refine vc fun hk => ?_
    rw [beq_iff] at hk; subst hk
    rcases hdd with ⟨_, rfl⟩ | ⟨h0, _⟩ | ⟨h0, _⟩ <;> first | (exact absurd h0 (by decide)) | skip
    obtain ⟨s, rfl, hs⟩ := hx
    refine ⟨.int .i64 l, ?_, by simp only [den]; rfl⟩
    simp [Builtin.len_, underlying_run ht, goInt, hs.size]
  case slice i off rw len cap ex =>
    refine vc fun hk => ?_
    rw [beq_iff] at hk; subst hk
    rcases hdd with ⟨h0, _⟩ | ⟨_, e, rfl⟩ | ⟨h0, _⟩ <;> first | (exact absurd h0 (by decide)) | skip
    obtain ⟨d, ad, c, rfl, _⟩ := hx
    refine ⟨.int .i64 len, ?_, by simp only [den]; rfl⟩
    simp [Builtin.len_, underlying_run ht, goInt]
  case nils =>
    refine vc fun hk => ?_
    rw [beq_iff] at hk; subst hk
    rcases hdd with ⟨h0, _⟩ | ⟨_, e, rfl⟩ | ⟨h0, _⟩ <;> first | (exact absurd h0 (by decide)) | skip
    subst hx
    refine ⟨.int .i64 0, ?_, by simp only [den]⟩
    simp [Builtin.len_, underlying_run ht, goInt]
  case nilm =>
    refine vc fun hk => ?_
    rw [beq_iff] at hk; subst hk
    rcases hdd with ⟨h0, _⟩ | ⟨h0, _⟩ | ⟨_, q, e, rfl⟩ <;> first | (exact absurd h0 (by decide)) | skip
    subst hx
    refine ⟨.int .i64 0, ?_, by simp only [den]⟩
    simp [Builtin.len_, underlying_run ht, goInt]
  case map i =>
    simp only [lenE]
    split
    · rename_i es ver hg
      refine vc fun hk => ?_
      rw [beq_iff] at hk; subst hk
      rcases hdd with ⟨h0, _⟩ | ⟨h0, _⟩ | ⟨_, q, e, rfl⟩ <;> first | (exact absurd h0 (by decide)) | skip
      obtain ⟨d, rfl⟩ := hx
      have ob := r.obj i
      rw [hg] at ob
      obtain ⟨ents, hb, ⟨l, hp, hl, _⟩, _⟩ := ob
      refine ⟨.int .i64 es.length, ?_, by simp only [den, lenL_eq]; rfl⟩
      have : ents.size = es.length := by rw [← hl, (congrArg List.length hp)]; simp
      simp [Builtin.len_, underlying_run ht, goInt, getObj, Sem.run, hb, this]
    · trivial
end
end Xv

namespace Xv
open Go
section
variable {P : Program} {φ : Lie} {h : Hp} {w : World} {f : Fr} {a : Act} {o : Oper}

/-- Two keys compared. -/
def KCmp (P : Program) (kt : TypeId) (u v : Value) (b : Bool) : Prop :=
  ((∃ d, P.underlying kt = some d ∧ Instr.sameNow d u v = some b) ∨ (∃ d, P.underlying kt = some d ∧ aggD d = true ∧ ∀ w, (Op.equal kt u v).run P w = .ok b w)) ∧ (b = true ↔ u = v)
theorem bytes_iff {s t : ByteArray} : (s.toList == t.toList) = true ↔ s = t := by
  rw [beq_iff_eq, ByteArray.toList_eq, ByteArray.toList_eq]
  constructor
  · intro h
    have : s.data = t.data := Array.toList_inj.1 h
    cases s; cases t; simp_all
  · rintro rfl; rfl
theorem cF_iff {k : FK} {u v : Value} {b : Bool} (hc : cF k u v = some b) : b = true ↔ u = v := by
  cases k with
  | int k => obtain ⟨a, c, rfl, rfl, rfl⟩ := cF_int hc; simp
  | str =>
    obtain ⟨s, t, rfl, rfl, rfl⟩ := cF_str hc
    rw [bytes_iff]; simp
  | bool => obtain ⟨s, t, rfl, rfl, rfl⟩ := cF_bool hc; simp
theorem cL_iff : ∀ {ks : List FK} {l r : List Value} {b : Bool}, cL ks l r = some b → (b = true ↔ l = r)
  | [], [], [], b, hc => by simp only [cL, Option.some.injEq] at hc; subst hc; simp
  | k :: ks, x :: l, y :: r, b, hc => by
    simp only [cL] at hc
    split at hc
    · rename_i h1
      have e := (cF_iff h1).1 rfl
      rw [cL_iff hc, e]; simp
    · rename_i h1
      cases hc
      have e := mt (cF_iff h1).2 (by decide)
      simp [e]
    · cases hc
  | [], [], _ :: _, _, hc => by simp [cL] at hc
  | [], _ :: _, _, _, hc => by simp [cL] at hc
  | _ :: _, [], _, _, hc => by simp [cL] at hc
  | _ :: _, _ :: _, [], _, hc => by simp [cL] at hc
theorem part_one {e : TypeId} {k : IntKind} (he : P.underlying e = some (.int k)) {arr : Array Value} {off : Nat} {v : Value} (hv : arr[off]? = some v) (w : World) : (part e arr off).run P w = .ok v w := by
  unfold part
  rw [Sem.run_bind, isAgg_run he]
  simp [aggD, hv]
/-- Two arrays of two integers. -/
theorem equal_two {kt e : TypeId} {k : IntKind} (ht : P.underlying kt = some (.array 2 e)) (he : P.underlying e = some (.int k)) (hs : szO P e = some 1) {X Y : Array Value} {b : Bool} (hc : cL [.int k, .int k] X.toList Y.toList = some b) (w : World) :
    (Op.equal kt (.agg X) (.agg Y)).run P w = .ok b w := by
  obtain ⟨i, hi, hsz⟩ := szO_info hs
  have hce : P.cellsOf e = 1 := by unfold Program.cellsOf; rw [hi]; exact hsz
  have step : ∀ {x y : Value} {c : Bool}, cF (.int k) x y = some c → ∀ w, (Op.equalIn 9999 e x y).run P w = .ok c w := fun hxy w => by
    obtain ⟨m, n, rfl, rfl, rfl⟩ := cF_int hxy
    rw [run_equalIn_int w 9998 e _ _ _ _ he]; rfl
  have hr : (Op.equal kt (.agg X) (.agg Y)).run P w = (Op.eqItems 9999 e 1 X Y [0, 1]).run P w := by
    have := run_equalIn_array w 9999 X Y ht hi
    rw [hce] at this
    exact this
  rw [hr]
  cases hX : X.toList with
  | nil => rw [hX] at hc; cases hq : Y.toList <;> rw [hq] at hc <;> simp [cL] at hc
  | cons x0 X' =>
    cases hY : Y.toList with
    | nil => rw [hX, hY] at hc; simp [cL] at hc
    | cons y0 Y' =>
      rw [hX, hY] at hc
      have hx0 : X[0]? = some x0 := by rw [← Array.getElem?_toList, hX]; rfl
      have hy0 : Y[0]? = some y0 := by rw [← Array.getElem?_toList, hY]; rfl
      simp only [cL] at hc
      simp only [Op.eqItems, Sem.run_bind, Nat.zero_mul, part_one he hx0, part_one he hy0, Result.andThen_ok]
      split at hc
      · rename_i h0
        rw [step h0]
        simp only [Result.andThen_ok, Bool.not_true, Bool.false_eq_true, if_false]
        cases X' with
        | nil => cases Y' <;> simp [cL] at hc
        | cons x1 X2 =>
          cases Y' with
          | nil => simp [cL] at hc
          | cons y1 Y2 =>
            have hx1 : X[1]? = some x1 := by rw [← Array.getElem?_toList, hX]; rfl
            have hy1 : Y[1]? = some y1 := by rw [← Array.getElem?_toList, hY]; rfl
            simp only [cL] at hc
            simp only [Sem.run_bind, Nat.one_mul, part_one he hx1, part_one he hy1, Result.andThen_ok]
            split at hc
            · rename_i h1
              rw [step h1]
              cases X2 <;> cases Y2 <;> simp [cL] at hc
              subst hc
              simp
            · rename_i h1
              cases hc
              rw [step h1]
              simp
            · cases hc
      · rename_i h0
        cases hc
        rw [step h0]
        simp
      · cases hc
theorem kcmp_of {kt : TypeId} {ek : EK} (hk : keyK P kt = some ek) {p q : AV} {b : Bool} (he : eqA ek p q = some b) {u v : Value} (hu : den φ p u) (hv : den φ q v) : KCmp P kt u v b := by
  unfold keyK at hk
  split at hk
  · rename_i k ht; cases hk
    have hc := eqF_c (show eqF (.int k) p q = some b from he) hu hv
    refine ⟨.inl ⟨_, ht, ?_⟩, cF_iff hc⟩
    obtain ⟨m, n, rfl, rfl, rfl⟩ := cF_int hc
    simp only [Instr.sameNow, if_true]
    congr 1
  · rename_i ht; cases hk
    have hc := eqF_c (show eqF .bool p q = some b from he) hu hv
    refine ⟨.inl ⟨_, ht, ?_⟩, cF_iff hc⟩
    obtain ⟨m, n, rfl, rfl, rfl⟩ := cF_bool hc
    rfl
  · rename_i ht; cases hk
    have hc := eqF_c (show eqF .str p q = some b from he) hu hv
    refine ⟨.inl ⟨_, ht, ?_⟩, cF_iff hc⟩
    obtain ⟨m, n, rfl, rfl, rfl⟩ := cF_str hc
    simp only [Instr.sameNow]
    rw [beq_toListBytes]
  · rename_i fs ht
    split at hk
    · rename_i l hl
      cases hk
      simp only [eqA] at he
      split at he
      · simp only [den] at hu hv
        obtain ⟨X, rfl, hX, _⟩ := hu
        obtain ⟨Y, rfl, hY, _⟩ := hv
        have hc := eqL_c he hX hY
        refine ⟨.inr ⟨_, ht, rfl, fun w => ?_⟩, ?_⟩
        · exact (eqAB 5).1 kt l hl 10000 (by omega) (.agg X) (.agg Y) X.toList Y.toList b w (by simp only [ofT, ht]; exact ⟨X, rfl, rfl⟩) (by simp only [ofT, ht]; exact ⟨Y, rfl, rfl⟩) hc
        · rw [cL_iff hc]
          constructor
          · intro e; rw [Array.ext' e]
          · intro e; cases e; rfl
      · cases he
    · cases hk
  · rename_i n e ht
    split at hk
    · rename_i k he1 hs
      split at hk
      · rename_i hn
        subst hn
        cases hk
        simp only [eqA] at he
        split at he
        · simp only [den] at hu hv
          obtain ⟨X, rfl, hX, _⟩ := hu
          obtain ⟨Y, rfl, hY, _⟩ := hv
          have hc := eqL_c he hX hY
          refine ⟨.inr ⟨_, ht, rfl, fun w => equal_two ht he1 hs hc w⟩, ?_⟩
          rw [cL_iff hc]
          constructor
          · intro e; rw [Array.ext' e]
          · intro e; cases e; rfl
        · cases he
      · cases hk
    · cases hk
  · cases hk

/-- The model's search, where each comparison is known. -/
theorem findAsking_run {kt : TypeId} {u : Value} : ∀ (ents : List MapEntry) (i : Nat), (∀ e ∈ ents, ∃ b, ∀ w, (Op.equal kt u e.key).run P w = .ok b w ∧ (b = true ↔ u = e.key)) → ∀ w,
    (∃ j e, (Instr.findAsking kt u ents i).run P w = .ok (some (i + j, e.val)) w ∧ ents[j]? = some e ∧ e.key = u) ∨ ((Instr.findAsking kt u ents i).run P w = .ok none w ∧ ∀ e ∈ ents, e.key ≠ u)
  | [], i, _, w => .inr ⟨rfl, by simp⟩
  | e :: es, i, hh, w => by
    obtain ⟨b, hb⟩ := hh e (by simp)
    have hr := (hb w).1
    cases b with
    | true => exact .inl ⟨0, e, by simp [Instr.findAsking, hr], rfl, ((hb w).2.1 rfl).symm⟩
    | false =>
      have hne : e.key ≠ u := fun hk => by have := (hb w).2.2 hk.symm; cases this
      rcases findAsking_run es (i + 1) (fun e he => hh e (by simp [he])) w with ⟨j, e', h1, h2, h3⟩ | ⟨h1, h2⟩
      · refine .inl ⟨j + 1, e', ?_, by simpa using h2, h3⟩
        simp [Instr.findAsking, hr, h1]; omega
      · exact .inr ⟨by simp [Instr.findAsking, hr, h1], by simpa using ⟨hne, h2⟩⟩
theorem findNow_run {d : TypeDesc} {u : Value} : ∀ (ents : List MapEntry) (i : Nat), (∀ e ∈ ents, ∃ b, Instr.sameNow d u e.key = some b ∧ (b = true ↔ u = e.key)) →
    (∃ j e, Instr.findNow d u ents i = some (some (i + j, e.val)) ∧ ents[j]? = some e ∧ e.key = u) ∨ (Instr.findNow d u ents i = some none ∧ ∀ e ∈ ents, e.key ≠ u)
  | [], i, _ => .inr ⟨rfl, by simp⟩
  | e :: es, i, hh => by
    obtain ⟨b, hb, hi⟩ := hh e (by simp)
    cases b with
    | true => exact .inl ⟨0, e, by simp [Instr.findNow, hb], rfl, (hi.1 rfl).symm⟩
    | false =>
      have hne : e.key ≠ u := fun hk => by have := hi.2 hk.symm; cases this
      rcases findNow_run es (i + 1) (fun e he => hh e (by simp [he])) with ⟨j, e', h1, h2, h3⟩ | ⟨h1, h2⟩
      · refine .inl ⟨j + 1, e', ?_, by simpa using h2, h3⟩
        simp [Instr.findNow, hb, h1]; omega
      · exact .inr ⟨by simp [Instr.findNow, hb, h1], by simpa using ⟨hne, h2⟩⟩
theorem findKey_run {kt : TypeId} {ek : EK} (hk : keyK P kt = some ek) {u : Value} (ents : List MapEntry) (hh : ∀ e ∈ ents, ∃ b, KCmp P kt u e.key b) (w : World) :
    (∃ j e, (Instr.findKey kt u ents).run P w = .ok (some (j, e.val)) w ∧ ents[j]? = some e ∧ e.key = u) ∨ ((Instr.findKey kt u ents).run P w = .ok none w ∧ ∀ e ∈ ents, e.key ≠ u) := by
  have basic : ∀ d, P.underlying kt = some d → aggD d = false → (∃ j e, (Instr.findKey kt u ents).run P w = .ok (some (j, e.val)) w ∧ ents[j]? = some e ∧ e.key = u) ∨ ((Instr.findKey kt u ents).run P w = .ok none w ∧ ∀ e ∈ ents, e.key ≠ u) := by
    intro d hd hns
    have hh' : ∀ e ∈ ents, ∃ b, Instr.sameNow d u e.key = some b ∧ (b = true ↔ u = e.key) := fun e he => by
      obtain ⟨b, hb, hi⟩ := hh e he
      rcases hb with ⟨d', hd', hs⟩ | ⟨d', hfs, ha, _⟩
      · rw [hd] at hd'; cases hd'; exact ⟨b, hs, hi⟩
      · rw [hd] at hfs; cases hfs; rw [hns] at ha; cases ha
    rcases findNow_run ents 0 hh' with ⟨j, e, h1, h2, h3⟩ | ⟨h1, h2⟩
    · exact .inl ⟨j, e, by rw [Nat.zero_add] at h1; exact MapKept.run_findKey hd h1, h2, h3⟩
    · exact .inr ⟨MapKept.run_findKey hd h1, h2⟩
  have asks : ∀ {d : TypeDesc}, P.underlying kt = some d → aggD d = true → (∃ j e, (Instr.findKey kt u ents).run P w = .ok (some (j, e.val)) w ∧ ents[j]? = some e ∧ e.key = u) ∨ ((Instr.findKey kt u ents).run P w = .ok none w ∧ ∀ e ∈ ents, e.key ≠ u) := by
    intro d ht ha
    have hsn : ∀ a b, Instr.sameNow d a b = none := fun a b => by cases d <;> first | (simp [aggD] at ha; done) | rfl
    cases ents with
    | nil =>
      refine .inr ⟨?_, by simp⟩
      simp [Instr.findKey, underlying_run ht, Instr.findNow]
    | cons e es =>
      have hn : Instr.findNow d u (e :: es) 0 = none := by simp [Instr.findNow, hsn]
      have hrun : (Instr.findKey kt u (e :: es)).run P w = (Instr.findAsking kt u (e :: es)).run P w := by
        simp [Instr.findKey, underlying_run ht, hn]
      rw [hrun]
      have hh' : ∀ x ∈ e :: es, ∃ b, ∀ w, (Op.equal kt u x.key).run P w = .ok b w ∧ (b = true ↔ u = x.key) := fun x hx => by
        obtain ⟨b, hb, hi⟩ := hh x hx
        rcases hb with ⟨d', hd', hs⟩ | ⟨d', hfs, _, hr⟩
        · rw [ht] at hd'; cases hd'; rw [hsn] at hs; cases hs
        · exact ⟨b, fun w => ⟨hr w, hi⟩⟩
      rcases findAsking_run (e :: es) 0 hh' w with ⟨j, x, h1, h2, h3⟩ | ⟨h1, h2⟩
      · exact .inl ⟨j, x, by rw [Nat.zero_add] at h1; exact h1, h2, h3⟩
      · exact .inr ⟨h1, h2⟩
  unfold keyK at hk
  split at hk
  · rename_i ht; exact basic _ ht rfl
  · rename_i ht; exact basic _ ht rfl
  · rename_i ht; exact basic _ ht rfl
  all_goals
    first
    | (cases hk; done)
    | skip
  · rename_i fs ht; exact asks ht rfl
  · rename_i n e ht; exact asks ht rfl
end
end Xv

namespace Xv
open Go
section
variable {P : Program} {φ : Lie} {h : Hp} {w : World} {f : Fr} {a : Act} {o : Oper}

def ckF (e : Bool) (n : Nat) (X : Array Value) (f : Go.Field) (_ : PUnit) : Sem (ForInStep PUnit) := do
  if f.name ≠ "_" then
    Instr.checkKey e n f.type (← part f.type X f.offset)
    pure (.yield .unit)
  else pure (.yield .unit)
def CkA (P : Program) (d : Nat) : Prop := ∀ t ks, flatK P d t = some ks → ∀ D, d ≤ D → ∀ e u cu w, ofT P t u cu → cL ks cu cu = some true → (Instr.checkKey e D t u).run P w = .ok () w
def CkB (P : Program) (d : Nat) : Prop := ∀ fs off ks, flatFs P (flatK P d) off fs = some ks → ∀ D, d ≤ D → ∀ e (X : Array Value) w, cL ks (X.toList.drop off) (X.toList.drop off) = some true → (forIn fs PUnit.unit (ckF e D X)).run P w = .ok .unit w
theorem ck_basic {t : TypeId} {d : TypeDesc} (hd : P.underlying t = some d) (hp : (∃ k, d = .int k) ∨ d = .bool ∨ d = .string) (e : Bool) (n : Nat) (u : Value) (w : World) : (Instr.checkKey e (n+1) t u).run P w = .ok () w := by
  unfold Instr.checkKey
  rw [Sem.run_bind, underlying_run hd]
  rcases hp with ⟨k, rfl⟩ | rfl | rfl <;> cases u <;> rfl
theorem ckA_of {d : Nat} (hB : ∀ d', d = d' + 1 → CkB P d') : CkA P d := by
  intro t ks hk D hD e u cu w hu hc
  have hD1 : ∃ D', D = D' + 1 := by
    cases d with
    | zero => simp [flatK] at hk
    | succ d => exact ⟨D - 1, by omega⟩
  obtain ⟨D', rfl⟩ := hD1
  rcases flatK_cases hk with ⟨k, rfl, ht⟩ | ⟨rfl, ht⟩ | ⟨rfl, ht⟩ | ⟨fs, d', hd', ht, hst, hfs⟩
  · exact ck_basic ht (.inl ⟨_, rfl⟩) e D' u w
  · exact ck_basic ht (.inr (.inl rfl)) e D' u w
  · exact ck_basic ht (.inr (.inr rfl)) e D' u w
  · simp only [ofT, ht] at hu
    obtain ⟨X, rfl, rfl⟩ := hu
    unfold Instr.checkKey
    rw [Sem.run_bind, underlying_run ht]
    have := hB d' hd' fs.toList 0 ks hfs D' (by omega) e X w (by simpa using hc)
    simp only [Result.andThen]
    rw [← Array.forIn_toList, Sem.run_bind]
    show Result.andThen (Sem.run P (forIn fs.toList PUnit.unit (ckF e D' X)) w) _ = _
    rw [this]
    rfl
theorem ckB_of {d : Nat} (A : CkA P d) : CkB P d := by
  intro fs
  induction fs with
  | nil => intro off ks hk D hD e X w hc; rfl
  | cons f r ih =>
    intro off ks hk D hD e X w hc
    simp only [flatFs] at hk
    split at hk
    · cases hk
    · rename_i hno
      have hname : f.name ≠ "_" := fun e => hno (.inl e)
      have hoff : f.offset = off := Classical.byContradiction fun e => hno (.inr e)
      split at hk
      · rename_i l hl
        split at hk
        · rename_i m hm
          split at hk
          · rename_i hs
            cases hk
            have hX : l.length = 1 → off < X.size ∨ ∃ fs, P.underlying f.type = some (.struct fs) := fun h1 => by
              refine .inl (Classical.byContradiction fun g => ?_)
              have : X.toList.drop off = [] := List.drop_eq_nil_of_le (by simpa using g)
              rw [this] at hc
              cases l <;> simp [cL] at h1 hc
            obtain ⟨u, p1, o1⟩ := part_run hl hs hX w
            rcases cL_append hc with ⟨_, c2⟩ | ⟨c1, c2⟩
            · cases c2
            · rw [List.forIn_cons]
              simp only [ckF, ne_eq, hname, not_false_eq_true, if_true, hoff, Sem.run_bind, p1, Result.andThen_ok, A _ _ hl D hD e u _ w o1 c1, Sem.run_pure]
              exact ih (off + l.length) m hm D hD e X w (by simpa [List.drop_drop] using c2)
          · cases hk
        · cases hk
      · cases hk
theorem ckAB : ∀ d, CkA P d ∧ CkB P d
  | 0 => have A : CkA P 0 := ckA_of (fun d' h => by omega); ⟨A, ckB_of A⟩
  | d+1 => have A : CkA P (d+1) := ckA_of (fun d' h => by
      have : d' = d := by omega
      subst this; exact (ckAB d').2); ⟨A, ckB_of A⟩
theorem checkKey_ok {kt : TypeId} {ek : EK} (hk : keyK P kt = some ek) {p : AV} (ho : okK ek p = true) {u : Value} (hu : den φ p u) (e : Bool) (w : World) : (Instr.checkKey e 10000 kt u).run P w = .ok () w := by
  unfold keyK at hk
  split at hk
  · rename_i k ht; exact ck_basic ht (.inl ⟨_, rfl⟩) e 9999 u w
  · rename_i ht; exact ck_basic ht (.inr (.inl rfl)) e 9999 u w
  · rename_i ht; exact ck_basic ht (.inr (.inr rfl)) e 9999 u w
  · rename_i fs ht
    split at hk
    · rename_i l hl
      cases hk
      simp only [okK] at ho
      split at ho
      · rename_i he
        simp only [eqA] at he
        split at he
        · rename_i l1 l2 e1 e2
          simp only [den] at hu
          obtain ⟨X, rfl, hX, _⟩ := hu
          have hc := eqL_c he hX hX
          exact (ckAB 5).1 kt l hl 10000 (by omega) e (.agg X) X.toList w (by simp only [ofT, ht]; exact ⟨X, rfl, rfl⟩) hc
        · cases he
      · cases ho
    · cases hk
  · rename_i n el ht
    split at hk
    · rename_i k he1 hs
      split at hk
      · rename_i hn
        subst hn
        cases hk
        simp only [okK] at ho
        split at ho
        · rename_i he
          simp only [eqA] at he
          split at he
          · rename_i l1 l2 e1 e2
            simp only [den] at hu
            obtain ⟨X, rfl, hX, _⟩ := hu
            have hc := eqL_c he hX hX
            obtain ⟨x0, x1, hXl⟩ : ∃ x0 x1, X.toList = [x0, x1] := by
              cases hX0 : X.toList with
              | nil => rw [hX0] at hc; simp [cL] at hc
              | cons x0 X' =>
                rw [hX0] at hc
                simp only [cL] at hc
                split at hc
                · cases X' with
                  | nil => simp [cL] at hc
                  | cons x1 X2 =>
                    simp only [cL] at hc
                    split at hc
                    · cases X2 with
                      | nil => exact ⟨x0, x1, rfl⟩
                      | cons => simp [cL] at hc
                    · cases hc
                    · cases hc
                · cases hc
                · cases hc
            have hx0 : X[0]? = some x0 := by rw [← Array.getElem?_toList, hXl]; rfl
            have hx1 : X[1]? = some x1 := by rw [← Array.getElem?_toList, hXl]; rfl
            obtain ⟨i, hi, hsz⟩ := szO_info hs
            have hck : ∀ v w, (Instr.checkKey e 9999 el v).run P w = .ok () w := fun v w => ck_basic he1 (.inl ⟨_, rfl⟩) e 9998 v w
            show (Instr.checkKey e (9999 + 1) kt (.agg X)).run P w = _
            unfold Instr.checkKey
            rw [Sem.run_bind, underlying_run ht]
            simp [Std.Legacy.Range.forIn_eq_forIn_range', Std.Legacy.Range.size, List.range', sizeOf_run hs, part_one he1 hx0, part_one he1 hx1, hck]
          · cases he
        · cases ho
      · cases hk
    · cases hk
  · cases hk
end
end Xv

namespace Xv
open Go
section
variable {P : Program} {φ : Lie} {h : Hp} {w : World} {f : Fr} {a : Act} {o : Oper}

theorem allNe_spec {ek : EK} {k : AV} : ∀ {es : List (AV × AV)}, allNe ek k es = true → ∀ e ∈ es, eqA ek k e.1 = some false
  | [], _, e, he => by cases he
  | (k', v) :: r, hh, e, he => by
    simp only [allNe] at hh
    split at hh
    · rename_i h1
      rcases List.mem_cons.1 he with rfl | he
      · exact h1
      · exact allNe_spec hh e he
    · cases hh
/-- What a search tells. -/
theorem findE_spec {ek : EK} {k : AV} : ∀ {es : List (AV × AV)} {r : Option AV}, findE ek k es = some r →
    (r = none ∧ ∀ e ∈ es, eqA ek k e.1 = some false) ∨ (∃ j k' v, r = some v ∧ es[j]? = some (k', v) ∧ eqA ek k k' = some true ∧ ∀ (j' : Nat) (e : AV × AV), es[j']? = some e → j' ≠ j → eqA ek k e.1 = some false)
  | [], r, hh => by simp only [findE, Option.some.injEq] at hh; subst hh; exact .inl ⟨rfl, by simp⟩
  | (k', v) :: es, r, hh => by
    simp only [findE] at hh
    split at hh
    · rename_i h1
      obtain ⟨h2, h3⟩ := cond_some hh
      cases h3
      refine .inr ⟨0, k', v, rfl, rfl, h1, fun j' e he hj => ?_⟩
      cases j' with
      | zero => exact absurd rfl hj
      | succ j' => exact allNe_spec h2 e (List.mem_of_getElem? (by simpa using he))
    · rename_i h1
      rcases findE_spec hh with ⟨rfl, h2⟩ | ⟨j, k2, v2, rfl, h2, h3, h4⟩
      · exact .inl ⟨rfl, fun e he => by
          rcases List.mem_cons.1 he with rfl | he
          · exact h1
          · exact h2 e he⟩
      · refine .inr ⟨j + 1, k2, v2, rfl, by simpa using h2, h3, fun j' e he hj => ?_⟩
        cases j' with
        | zero => simp at he; subst he; exact h1
        | succ j' => exact h4 j' e (by simpa using he) (by omega)
    · cases hh
theorem findE_known {ek : EK} {k : AV} {es : List (AV × AV)} {r : Option AV} (hh : findE ek k es = some r) (e : AV × AV) (he : e ∈ es) : ∃ b, eqA ek k e.1 = some b := by
  rcases findE_spec hh with ⟨_, h2⟩ | ⟨j, k2, v2, _, h2, h3, h4⟩
  · exact ⟨_, h2 e he⟩
  · obtain ⟨j', hj'⟩ := List.getElem?_of_mem he
    by_cases hj : j' = j
    · subst hj; rw [h2] at hj'; cases hj'; exact ⟨_, h3⟩
    · exact ⟨_, h4 j' e hj' hj⟩
/-- The model's search and ours agree. -/
theorem search {kt : TypeId} {ek : EK} (hk : keyK P kt = some ek) {k : AV} {u : Value} (hu : den φ k u) {es : List (AV × AV)} {ents : List MapEntry} (ha : entsAre φ es ents) {r : Option AV} (hf : findE ek k es = some r) (w : World) :
    (∃ v j m, r = some v ∧ (Instr.findKey kt u ents).run P w = .ok (some (j, m.val)) w ∧ ents[j]? = some m ∧ m.key = u ∧ den φ v m.val) ∨ (r = none ∧ (Instr.findKey kt u ents).run P w = .ok none w ∧ ∀ e ∈ ents, e.key ≠ u) := by
  obtain ⟨l, hpe, hlen, hal⟩ := ha
  have hp : l.Perm ents := .of_eq hpe
  have at_ : ∀ m ∈ ents, ∃ (j : Nat) (e : AV × AV), es[j]? = some e ∧ l[j]? = some m ∧ den φ e.1 m.key ∧ den φ e.2 m.val := fun m hm => by
    obtain ⟨j, hj⟩ := List.getElem?_of_mem (hp.mem_iff.2 hm)
    have hjl : j < es.length := by rw [← hlen]; exact (List.getElem?_eq_some_iff.1 hj).1
    obtain ⟨m', h1, h2, h3⟩ := hal j es[j] (List.getElem?_eq_getElem hjl)
    rw [hj] at h1; cases h1
    exact ⟨j, es[j], List.getElem?_eq_getElem hjl, hj, h2, h3⟩
  have known : ∀ m ∈ ents, ∃ b, KCmp P kt u m.key b := fun m hm => by
    obtain ⟨j, e, h1, _, h3, _⟩ := at_ m hm
    obtain ⟨b, hb⟩ := findE_known hf e (List.mem_of_getElem? h1)
    exact ⟨b, kcmp_of hk hb hu h3⟩
  have model := findKey_run hk ents known w
  rcases findE_spec hf with ⟨rfl, h2⟩ | ⟨j0, k0, v0, rfl, h2, h3, h4⟩
  · have hne : ∀ m ∈ ents, m.key ≠ u := fun m hm e => by
      obtain ⟨j, x, h1, _, h3, _⟩ := at_ m hm
      have := (kcmp_of hk (h2 x (List.mem_of_getElem? h1)) hu h3).2.2 e.symm
      cases this
    rcases model with ⟨j, m, _, g2, g3⟩ | ⟨g1, g2⟩
    · exact absurd g3 (hne m (List.mem_of_getElem? g2))
    · exact .inr ⟨rfl, g1, g2⟩
  · obtain ⟨m0, p1, p2, p3⟩ := hal j0 (k0, v0) h2
    have hm0 : m0 ∈ ents := hp.mem_iff.1 (List.mem_of_getElem? p1)
    have hk0 : u = m0.key := (kcmp_of hk h3 hu p2).2.1 rfl
    rcases model with ⟨j, m, g1, g2, g3⟩ | ⟨g1, g2⟩
    · obtain ⟨j1, e, q1, q2, q3, q4⟩ := at_ m (List.mem_of_getElem? g2)
      by_cases hj : j1 = j0
      · subst hj
        rw [h2] at q1; cases q1
        exact .inl ⟨v0, j, m, rfl, g1, g2, g3, q4⟩
      · have := (kcmp_of hk (h4 j1 e q1 hj) hu q3).2.2 g3.symm
        cases this
    · exact absurd hk0.symm (g2 m0 hm0)
theorem lkp_sound {t kt e : TypeId} {ek : EK} {z : AV} {ok : Bool} (r : R φ h w) (ht : P.underlying t = some (.map kt e)) (hk : keyK P kt = some ek) (hz : zeroV P e = some z) {x k : AV} {u v : Value} (hx : den φ x u) (hv : den φ k v) :
    ValPost P φ w (Instr.lookup t u v ok) (lkpE ek h z x k ok) := by
  obtain ⟨i, zv, hi, hzv, hd⟩ := zeroV_spec hz
  unfold lkpE
  refine vp_cond (fun hok => ?_) fun _ => trivial
  have hck := fun b w => checkKey_ok hk hok hv b w
  cases x <;> simp only [den] at hx <;> first | trivial | skip
  case nilm =>
    subst hx
    refine okPair_post (hd φ) ?_
    rcases findKey_run (u := v) hk [] (by simp) w with ⟨j, m, _, g2, _⟩ | ⟨g1, _⟩
    · simp at g2
    · cases ok <;> simp [Instr.lookup, underlying_run ht, hck, g1, zeroValue_run hi hzv]
  case map i' =>
    obtain ⟨d, rfl⟩ := hx
    simp only []
    split
    · rename_i es ver hg
      have ob := r.obj i'
      rw [hg] at ob
      obtain ⟨ents, hb, ha, _⟩ := ob
      split
      · rename_i y hf
        rcases search hk hv ha hf w with ⟨v', j, m, e1, g1, g2, g3, g4⟩ | ⟨e1, _⟩
        · cases e1
          refine okPair_post g4 ?_
          cases ok <;> simp [Instr.lookup, underlying_run ht, getObj, Sem.run, hb, hck, g1]
        · cases e1
      · rename_i hf
        rcases search hk hv ha hf w with ⟨v', j, m, e1, _⟩ | ⟨e1, g1, g2⟩
        · cases e1
        · refine okPair_post (hd φ) ?_
          cases ok <;> simp [Instr.lookup, underlying_run ht, getObj, Sem.run, hb, hck, g1, zeroValue_run hi hzv]
      · trivial
    · trivial
end
end Xv

namespace Xv
open Go
section
variable {P : Program} {φ : Lie} {h : Hp} {w : World} {f : Fr} {a : Act} {o : Oper}

theorem updE_spec {ek : EK} {k v : AV} : ∀ {es es' : List (AV × AV)} {b : Bool}, updE ek k v es = some (b, es') →
    (b = true ∧ (∀ e ∈ es, eqA ek k e.1 = some false) ∧ es' = es ++ [(k, v)]) ∨
    (b = false ∧ ∃ j k' v0, es[j]? = some (k', v0) ∧ eqA ek k k' = some true ∧ (∀ (j' : Nat) (e : AV × AV), es[j']? = some e → j' ≠ j → eqA ek k e.1 = some false) ∧ es' = es.set j (k', v))
  | [], es', b, hh => by simp only [updE, Option.some.injEq, Prod.mk.injEq] at hh; obtain ⟨rfl, rfl⟩ := hh; exact .inl ⟨rfl, by simp, rfl⟩
  | (k', v0) :: es, es', b, hh => by
    simp only [updE] at hh
    split at hh
    · rename_i h1
      obtain ⟨h2, h3⟩ := cond_some hh
      simp only [Option.some.injEq, Prod.mk.injEq] at h3
      obtain ⟨rfl, rfl⟩ := h3
      refine .inr ⟨rfl, 0, k', v0, rfl, h1, fun j' e he hj => ?_, rfl⟩
      cases j' with
      | zero => exact absurd rfl hj
      | succ j' => exact allNe_spec h2 e (List.mem_of_getElem? (by simpa using he))
    · rename_i h1
      split at hh
      · rename_i b' r' hr
        simp only [Option.some.injEq, Prod.mk.injEq] at hh
        obtain ⟨rfl, rfl⟩ := hh
        rcases updE_spec hr with ⟨rfl, h2, rfl⟩ | ⟨rfl, j, k2, v2, h2, h3, h4, rfl⟩
        · exact .inl ⟨rfl, fun e he => by
            rcases List.mem_cons.1 he with rfl | he
            · exact h1
            · exact h2 e he, rfl⟩
        · refine .inr ⟨rfl, j + 1, k2, v2, by simpa using h2, h3, fun j' e he hj => ?_, rfl⟩
          cases j' with
          | zero => simp at he; subst he; exact h1
          | succ j' => exact h4 j' e (by simpa using he) (by omega)
      · cases hh
    · cases hh
theorem sameBits_of_cF {k : FK} {u v : Value} (hc : cF k u v = some true) (n : Nat) : Instr.sameBits n u v = true := by
  have e := (cF_iff hc).1 rfl
  cases k with
  | int k => obtain ⟨a, c, rfl, rfl, _⟩ := cF_int hc; cases n <;> simp_all [Instr.sameBits]
  | str =>
    obtain ⟨s, t, rfl, rfl, hb⟩ := cF_str hc
    cases n <;> simp only [Instr.sameBits, beq_toListBytes] <;> exact hb.symm
  | bool => obtain ⟨s, t, rfl, rfl, _⟩ := cF_bool hc; cases n <;> simp_all [Instr.sameBits]
theorem sameBits_of_cL (n : Nat) : ∀ {ks : List FK} {l r : List Value}, cL ks l r = some true → (l.zip r).all (fun (x, y) => Instr.sameBits n x y) = true
  | [], [], [], _ => rfl
  | k :: ks, x :: l, y :: r, hc => by
    simp only [cL] at hc
    split at hc
    · rename_i h1
      simp only [List.zip_cons_cons, List.all_cons, sameBits_of_cF h1 n, Bool.true_and]
      exact sameBits_of_cL n hc
    · cases hc
    · cases hc
  | [], [], _ :: _, hc => by simp [cL] at hc
  | [], _ :: _, _, hc => by simp [cL] at hc
  | _ :: _, [], _, hc => by simp [cL] at hc
  | _ :: _, _ :: _, [], hc => by simp [cL] at hc
theorem sameBits_of {kt : TypeId} {ek : EK} (hk : keyK P kt = some ek) {p q : AV} (he : eqA ek p q = some true) {u v : Value} (hu : den φ p u) (hv : den φ q v) : Instr.sameBits 10000 v u = true := by
  have e : u = v := (kcmp_of hk he hu hv).2.1 rfl
  subst e
  unfold keyK at hk
  split at hk
  · rename_i k ht; cases hk; exact sameBits_of_cF (eqF_c (show eqF (.int k) p q = some true from he) hu hv) _
  · cases hk; exact sameBits_of_cF (eqF_c (show eqF .bool p q = some true from he) hu hv) _
  · cases hk; exact sameBits_of_cF (eqF_c (show eqF .str p q = some true from he) hu hv) _
  · split at hk
    · cases hk
      simp only [eqA] at he
      split at he
      · simp only [den] at hu hv
        obtain ⟨X, rfl, hX, _⟩ := hu
        obtain ⟨Y, hY', hY, _⟩ := hv
        cases hY'
        have hc := eqL_c he hX hY
        show Instr.sameBits (9999 + 1) (.agg X) (.agg X) = true
        simp only [Instr.sameBits, beq_self_eq_true, Bool.true_and]
        exact sameBits_of_cL 9999 hc
      · cases he
    · cases hk
  · split at hk
    · split at hk
      · cases hk
        simp only [eqA] at he
        split at he
        · simp only [den] at hu hv
          obtain ⟨X, rfl, hX, _⟩ := hu
          obtain ⟨Y, hY', hY, _⟩ := hv
          cases hY'
          have hc := eqL_c he hX hY
          show Instr.sameBits (9999 + 1) (.agg X) (.agg X) = true
          simp only [Instr.sameBits, beq_self_eq_true, Bool.true_and]
          exact sameBits_of_cL 9999 hc
        · cases he
      · cases hk
    · cases hk
  · cases hk
theorem modify_map {ents : Array MapEntry} {i : Nat} {m : MapEntry} {F : MapEntry → MapEntry} (hi : ents[i]? = some m) (hb : (ents.toList.map (·.born)).Nodup) :
    (ents.modify i F).toList = ents.toList.map fun e => if e.born = m.born then F e else e := by
  refine List.ext_getElem? fun k => ?_
  rw [Array.getElem?_toList, Array.getElem?_modify, List.getElem?_map, Array.getElem?_toList]
  by_cases hk : i = k
  · subst hk; rw [if_pos rfl, hi]; simp
  · rw [if_neg hk]
    cases he : ents[k]? with
    | none => rfl
    | some e =>
      have hne : e.born ≠ m.born := fun h2 => hk (by
        have h3 : (ents.toList.map (·.born))[i]? = some m.born := by rw [List.getElem?_map, Array.getElem?_toList, hi]; rfl
        have h4 : (ents.toList.map (·.born))[k]? = some m.born := by rw [List.getElem?_map, Array.getElem?_toList, he, ← h2]; rfl
        have hki : i < (ents.toList.map (·.born)).length := (List.getElem?_eq_some_iff.1 h3).1
        exact (List.getElem?_inj hki hb).1 (h3.trans h4.symm))
      simp [hne]

theorem mupd_sound {t kt e : TypeId} {ek : EK} (r : R φ h w) (ht : P.underlying t = some (.map kt e)) (hk : keyK P kt = some ek) {x k y : AV} {u v z : Value} (hx : den φ x u) (hv : den φ k v) (hy : den φ y z) :
    UnitPost P φ h w (Instr.mapUpdate t u v z) (mupdE ek h x k y) := by
  unfold mupdE
  refine up_cond (fun hok => ?_) fun _ => trivial
  have hck := fun b w => checkKey_ok hk hok hv b w
  cases x <;> simp only [den] at hx <;> first | trivial | skip
  case map i' =>
    obtain ⟨d, rfl⟩ := hx
    simp only []
    split
    · rename_i es ver hg
      have ob := r.obj i'
      rw [hg] at ob
      obtain ⟨ents, hb, ⟨l, hpe, hlen, hal⟩, hnk, hnb, hborn, hbr⟩ := ob
      have hp : l.Perm ents.toList := .of_eq hpe
      have hlive : live (h.get i') = true := by rw [hg]; rfl
      have hlt := r.lt i' hlive
      split
      · rename_i b es' hup
        have at_ : ∀ m ∈ ents.toList, ∃ (j : Nat) (e : AV × AV), es[j]? = some e ∧ l[j]? = some m ∧ den φ e.1 m.key ∧ den φ e.2 m.val := fun m hm => by
          obtain ⟨j, hj⟩ := List.getElem?_of_mem (hp.mem_iff.2 hm)
          have hjl : j < es.length := by rw [← hlen]; exact (List.getElem?_eq_some_iff.1 hj).1
          obtain ⟨m', h1, h2, h3⟩ := hal j es[j] (List.getElem?_eq_getElem hjl)
          rw [hj] at h1; cases h1
          exact ⟨j, es[j], List.getElem?_eq_getElem hjl, hj, h2, h3⟩
        rcases updE_spec hup with ⟨rfl, h2, rfl⟩ | ⟨rfl, j0, k', v0, h2, h3, h4, rfl⟩
        · -- a new entry
          have known : ∀ m ∈ ents.toList, ∃ b, KCmp P kt v m.key b := fun m hm => by
            obtain ⟨j, e, h1, _, h3, _⟩ := at_ m hm
            exact ⟨_, kcmp_of hk (h2 e (List.mem_of_getElem? h1)) hv h3⟩
          have hne : ∀ m ∈ ents.toList, m.key ≠ v := fun m hm e => by
            obtain ⟨j, x, h1, _, h3, _⟩ := at_ m hm
            have := (kcmp_of hk (h2 x (List.mem_of_getElem? h1)) hv h3).2.2 e.symm
            cases this
          rcases findKey_run hk ents.toList known w with ⟨j, m, _, g2, g3⟩ | ⟨g1, _⟩
          · exact absurd g3 (hne m (List.mem_of_getElem? g2))
          · have hrun : (Instr.mapUpdate t (.map (some (φ.blk i'))) v z).run P w = .ok () { w with heap := w.heap.setIfInBounds (φ.blk i') (.map (ents.push { key := v, val := z, born := ver }) (ver + 1)) } := by
              simp [Instr.mapUpdate, underlying_run ht, getObj, setObj, Sem.run, hb, hck, g1]
            have hset := MapKept.heap_set (o' := .map (ents.push { key := v, val := z, born := ver }) (ver + 1)) hb
            obtain ⟨r', st⟩ := set_R (h' := h.set i' (.map (es ++ [(k, y)]) (ver + 1))) (w' := { w with heap := w.heap.setIfInBounds (φ.blk i') (.map (ents.push { key := v, val := z, born := ver }) (ver + 1)) }) (i := i') (o' := .map (es ++ [(k, y)]) (ver + 1)) r hlive rfl (fun j => Hp.get_set _ _ _ _) (by simp) (fun c hc => hset.2 c hc)
              (by
                refine ⟨_, hset.1, ⟨l ++ [{ key := v, val := z, born := ver }], by simp [hpe], by simp [hlen], fun j e he => ?_⟩, ?_, ?_, ?_, ?_⟩
                · by_cases hj : j < es.length
                  · rw [List.getElem?_append_left hj] at he
                    obtain ⟨m, q1, q2, q3⟩ := hal j e he
                    exact ⟨m, by rw [List.getElem?_append_left (by omega)]; exact q1, q2, q3⟩
                  · have hj2 : j = es.length := by
                      have := (List.getElem?_eq_some_iff.1 he).1
                      simp at this; omega
                    subst hj2
                    rw [List.getElem?_append_right (Nat.le_refl _)] at he
                    simp at he
                    subst he
                    exact ⟨{ key := v, val := z, born := ver }, by rw [List.getElem?_append_right (by omega)]; simp [hlen], hv, hy⟩
                · simp only [Array.toList_push, List.map_append, List.map_cons, List.map_nil]
                  refine List.nodup_append.2 ⟨hnk, by simp, fun a ha b hb' e => ?_⟩
                  simp at hb'
                  obtain ⟨m, hm, rfl⟩ := List.mem_map.1 ha
                  exact hne m hm (e.trans hb')
                · simp only [Array.toList_push, List.map_append, List.map_cons, List.map_nil]
                  refine List.nodup_append.2 ⟨hnb, by simp, fun a ha b hb' e => ?_⟩
                  simp at hb'
                  obtain ⟨m, hm, rfl⟩ := List.mem_map.1 ha
                  have := hborn m hm
                  omega
                · intro e he
                  simp at he
                  rcases he with he | rfl
                  · have := hborn e (by simpa using he); omega
                  · simp
                · simp only [Array.toList_push, List.map_append, List.map_cons, List.map_nil, hbr, List.range_succ])
              (fun j ek m vr todo cur _ _ e ents' clk he => by
                rw [e, hset.1] at he
                cases he
                exact ⟨ents, ver, by rw [e]; exact hb, by omega, fun h => by omega⟩) rfl rfl rfl
            exact ⟨rfl, _, φ, hrun, r', st⟩
        · -- one that is there
          obtain ⟨m0, p1, p2, p3⟩ := hal j0 (k', v0) h2
          have known : ∀ m ∈ ents.toList, ∃ b, KCmp P kt v m.key b := fun m hm => by
            obtain ⟨j, e, q1, _, q3, _⟩ := at_ m hm
            by_cases hj : j = j0
            · subst hj; rw [h2] at q1; cases q1; exact ⟨_, kcmp_of hk h3 hv q3⟩
            · exact ⟨_, kcmp_of hk (h4 j e q1 hj) hv q3⟩
          have hm0 : m0 ∈ ents.toList := hp.mem_iff.1 (List.mem_of_getElem? p1)
          have hk0 : v = m0.key := (kcmp_of hk h3 hv p2).2.1 rfl
          rcases findKey_run hk ents.toList known w with ⟨j, m, g1, g2, g3⟩ | ⟨_, g2⟩
          · have hmm : m = m0 := by
              obtain ⟨j1, e, q1, q2, q3, q4⟩ := at_ m (List.mem_of_getElem? g2)
              by_cases hj : j1 = j0
              · subst hj; rw [p1] at q2; cases q2; rfl
              · have := (kcmp_of hk (h4 j1 e q1 hj) hv q3).2.2 g3.symm
                cases this
            subst hmm
            rw [Array.getElem?_toList] at g2
            have hsb := sameBits_of hk h3 hv p2
            have hkeep : (Instr.keyThatStays m.key v).run P w = .ok v w := by simp [Instr.keyThatStays, hsb]
            have hrun : (Instr.mapUpdate t (.map (some (φ.blk i'))) v z).run P w = .ok () { w with heap := w.heap.setIfInBounds (φ.blk i') (.map (ents.modify j fun e => { e with key := v, val := z }) ver) } := by
              simp [Instr.mapUpdate, underlying_run ht, getObj, setObj, Sem.run, hb, hck, g1, g2, hkeep]
            have hset := MapKept.heap_set (o' := .map (ents.modify j fun e => { e with key := v, val := z }) ver) hb
            have hmod := modify_map (F := fun e => { e with key := v, val := z }) g2 hnb
            have hlb : (l.map (·.born)).Nodup := (hp.map _).nodup_iff.2 hnb
            have gkey : ∀ e ∈ ents.toList, (if e.born = m.born then { e with key := v, val := z } else e : MapEntry).key = e.key := fun e he => by
              split
              · rename_i hbe
                have : e = m := by
                  obtain ⟨q, hq⟩ := List.getElem?_of_mem he
                  obtain ⟨q', hq'⟩ := List.getElem?_of_mem hm0
                  have e1 : (ents.toList.map (·.born))[q]? = some m.born := by rw [List.getElem?_map, hq, ← hbe]; rfl
                  have e2 : (ents.toList.map (·.born))[q']? = some m.born := by rw [List.getElem?_map, hq']; rfl
                  have := (List.getElem?_inj (List.getElem?_eq_some_iff.1 e1).1 hnb).1 (e1.trans e2.symm)
                  subst this
                  rw [hq] at hq'; cases hq'; rfl
                rw [this]; exact hk0
              · rfl
            have gborn : ∀ e : MapEntry, (if e.born = m.born then { e with key := v, val := z } else e : MapEntry).born = e.born := fun e => by split <;> rfl
            obtain ⟨r', st⟩ := set_R (h' := h.set i' (.map (es.set j0 (k', y)) ver)) (w' := { w with heap := w.heap.setIfInBounds (φ.blk i') (.map (ents.modify j fun e => { e with key := v, val := z }) ver) }) (i := i') (o' := .map (es.set j0 (k', y)) ver) r hlive rfl (fun j => Hp.get_set _ _ _ _) (by simp) (fun c hc => hset.2 c hc)
              (by
                refine ⟨_, hset.1, ⟨l.map fun e => if e.born = m.born then { e with key := v, val := z } else e, by rw [hmod, hpe], by simp [hlen], fun q e he => ?_⟩, ?_, ?_, ?_, ?_⟩
                · rw [List.getElem?_map]
                  rw [List.getElem?_set] at he
                  split at he
                  · rename_i hq
                    subst hq
                    split at he
                    · cases he
                      rw [p1]
                      exact ⟨_, rfl, by simp only [if_true]; rw [hk0]; exact p2, by simp only [if_true]; exact hy⟩
                    · cases he
                  · rename_i hq
                    obtain ⟨m1, q1, q2, q3⟩ := hal q e he
                    rw [q1]
                    have hne : ¬ m1.born = m.born := fun hbe => by
                      have e1 : (l.map (·.born))[q]? = some m.born := by rw [List.getElem?_map, q1, ← hbe]; rfl
                      have e2 : (l.map (·.born))[j0]? = some m.born := by rw [List.getElem?_map, p1]; rfl
                      exact hq ((List.getElem?_inj (List.getElem?_eq_some_iff.1 e1).1 hlb).1 (e1.trans e2.symm)).symm
                    exact ⟨m1, by simp only [Option.map_some, hne, if_false], q2, q3⟩
                · rw [hmod, List.map_map]
                  have : ents.toList.map ((·.key) ∘ fun e => if e.born = m.born then { e with key := v, val := z } else e) = ents.toList.map (·.key) := List.map_congr_left fun e he => gkey e he
                  rw [this]; exact hnk
                · rw [hmod, List.map_map]
                  have : ents.toList.map ((·.born) ∘ fun e => if e.born = m.born then { e with key := v, val := z } else e) = ents.toList.map (·.born) := List.map_congr_left fun e _ => gborn e
                  rw [this]; exact hnb
                · intro e he
                  rw [hmod] at he
                  obtain ⟨e0, he0, rfl⟩ := List.mem_map.1 he
                  rw [gborn]; exact hborn e0 he0
                · rw [hmod, List.map_map]
                  have : ents.toList.map ((·.born) ∘ fun e => if e.born = m.born then { e with key := v, val := z } else e) = ents.toList.map (·.born) := List.map_congr_left fun e _ => gborn e
                  rw [this]; exact hbr)
              (fun q ek m' vr todo cur _ _ e ents' clk he => by
                rw [e, hset.1] at he
                cases he
                exact ⟨ents, ver, by rw [e]; exact hb, Nat.le_refl _, fun _ => ⟨fun e => if e.born = m.born then { e with key := v, val := z } else e, gborn, fun e a he hd => by rw [gkey e he]; exact hd, hmod⟩⟩) rfl rfl rfl
            exact ⟨rfl, _, φ, hrun, r', st⟩
          · exact absurd hk0.symm (g2 m0 hm0)
      · trivial
    · trivial
end
end Xv

namespace Xv
open Go
section
variable {P : Program} {φ : Lie} {h : Hp} {w : World} {f : Fr} {a : Act} {o : Oper}

theorem heap_new {w : World} {φ : Lie} {n : Id} {o : Obj} {z : Nat} : (w.alloc o).heap[(φ.put n w.heap.size 0 z).blk n]? = some o := by
  have e : (φ.put n w.heap.size 0 z).blk n = w.heap.size := if_pos rfl
  rw [e]; exact Array.getElem?_push_size
theorem keysOf_eq : ∀ es : List (AV × AV), keysOf es = es.map (·.1)
  | [] => rfl
  | e :: r => by simp [keysOf, keysOf_eq r]
theorem rngS_sound {t : TypeId} (r : R φ h w) (ht : P.underlying t = some .string) {x : AV} {u : Value} (hx : den φ x u) : MemPost P φ h w (Instr.range t u) (rngE .ptr h x) := by
  cases x <;> simp only [den] at hx <;> first | trivial | skip
  case str l n =>
    obtain ⟨s, rfl, hs⟩ := hx
    have hrun : (Instr.range t (.string s)).run P w = .ok (.pointer (some ⟨w.heap.size, 0, none⟩)) (w.alloc (.stringIter s 0)) := by
      simp [Instr.range, underlying_run ht]
    simp only [rngE, isPtrK, cond_true]
    exact alloc_post' (o' := .siter l n 0) (k := fun i => .ptr i 0) (z := 0) r hrun rfl (fun le => ⟨by simp [Lie.put], s, heap_new, hs⟩) fun _ _ => ptr_den_new
theorem rngM_sound {t kt e : TypeId} {ek : EK} (r : R φ h w) (ht : P.underlying t = some (.map kt e)) (hk : isPtrK ek = false) {x : AV} {u : Value} (hx : den φ x u) : MemPost P φ h w (Instr.range t u) (rngE ek h x) := by
  cases x <;> simp only [den] at hx <;> first | trivial | skip
  case str => simp only [rngE, hk]; trivial
  case map m =>
    obtain ⟨d, rfl⟩ := hx
    simp only [rngE, hk, cond_false]
    split
    · rename_i es ver hg
      have ob := r.obj m
      rw [hg] at ob
      obtain ⟨ents, hb, ⟨l, hpe, hlen, hal⟩, hnk, hnb, hborn, hbr⟩ := ob
      have hp : l.Perm ents.toList := .of_eq hpe
      have hlt : φ.blk m < w.heap.size := r.lt m (by rw [hg]; rfl)
      have hrun : (Instr.range t (.map (some (φ.blk m)))).run P w = .ok (.pointer (some ⟨w.heap.size, 0, none⟩)) (w.alloc (.mapIter (some (φ.blk m)) ver #[] ver)) := by
        simp [Instr.range, underlying_run ht, getObj, Sem.run, hb]
      have hold : (w.alloc (.mapIter (some (φ.blk m)) ver #[] ver)).heap[φ.blk m]? = some (.map ents ver) := by
        rw [(MapKept.heap_alloc w _).2 _ hlt]; exact hb
      refine alloc_post' (z := 0) r hrun rfl (fun le => ?_) fun _ _ => ptr_den_new
      have hbm : (φ.put h.nx w.heap.size 0 0).blk m = φ.blk m := le.blk m d
      refine ⟨by simp [Lie.put], le.dom m d, by rw [hbm]; simp; omega, fun ents' clk he => ?_, #[], by rw [hbm]; exact heap_new, fun ents' he => ?_⟩
      · rw [hbm, hold] at he; cases he; exact Nat.le_refl _
      · rw [hbm, hold] at he; cases he
        have hfl : ents.toList.filter (fun e => !(#[] : Array Nat).contains e.born) = ents.toList := List.filter_eq_self.2 (by simp)
        refine ⟨⟨l, by rw [hfl]; exact hp, by rw [hlen, keysOf_eq]; simp, fun k a ha => ?_⟩, fun k hk => by cases hk⟩
        rw [keysOf_eq, List.getElem?_map] at ha
        cases he : es[k]? with
        | none => rw [he] at ha; cases ha
        | some e' =>
          rw [he] at ha
          cases ha
          obtain ⟨m', q1, q2, _⟩ := hal k e' he
          exact ⟨m', q1, den_mono le _ _ q2⟩
    · trivial
theorem decode_ascii {s : ByteArray} {pos : Nat} {b : UInt8} (hb : s[pos]? = some b) (h7 : b.toNat ≤ 127) : Utf8.decode s pos = (b.toNat, 1) := by
  have hp : pos < s.size := (getElem?_eq_some_iff.1 hb).1
  have e : s.get! pos = b := by
    have h2 := (getElem?_eq_some_iff.1 hb).2
    have h3 : s.get! pos = s.data[pos]! := rfl
    rw [h3, getElem!_pos s.data pos hp]
    exact h2
  unfold Utf8.decode
  simp only [Nat.add_zero, e]
  rw [if_pos (by omega)]
theorem mp_bad {s : Sem Value} {m : String} : MemPost P φ h w s (.bad m) := trivial
theorem nxtS_sound {x : AV} {u : Value} {ty : TypeId} (r : R φ h w) (hx : den φ x u) : MemPost P φ h w (Instr.next u true ty) (nxtE h x true) := by
  cases x <;> simp only [den] at hx <;> first | trivial | skip
  case ptr i off =>
    obtain ⟨d, rfl⟩ := hx
    simp only [nxtE]
    refine mp_cond (fun hoff => ?_) fun _ => mp_bad
    rw [beq_iff] at hoff; subst hoff
    split
    · rename_i l n pos hg
      have ob := r.obj i
      rw [hg] at ob
      obtain ⟨hsh, s, hb, hs⟩ := ob
      simp only [cond_true]
      refine mp_cond (fun hp => mp_cond (fun h7 => ?_) fun _ => mp_bad) fun hp => ?_
      · simp only [ble_iff, nsucc] at hp h7
        obtain ⟨b, hb1, hb2⟩ := hs.get hp
        have hdec := decode_ascii hb1 (by omega)
        have hsz : pos < s.size := by rw [hs.size]; omega
        have hset := MapKept.heap_set (o' := .stringIter s (pos + 1)) hb
        have hrun : (Instr.next (.pointer (some ⟨φ.blk i, φ.sh i + 0, none⟩)) true ty).run P w = .ok (.tuple #[.bool true, .int .i64 pos, .int .i32 (byteAt n pos)]) { w with heap := w.heap.setIfInBounds (φ.blk i) (.stringIter s (pos + 1)) } := by
          rw [hsh]
          simp [Instr.next, getObj, setObj, Sem.run, hb, hsz, hdec, goInt, hb2]
        have hlive : live (h.get i) = true := by rw [hg]; rfl
        obtain ⟨r', st⟩ := set_R (h' := h.set i (.siter l n (pos + 1))) (w' := { w with heap := w.heap.setIfInBounds (φ.blk i) (.stringIter s (pos + 1)) }) (i := i) (o' := .siter l n (pos + 1)) r hlive rfl (fun j => Hp.get_set _ _ _ _) (by simp) (fun c hc => hset.2 c hc)
          ⟨hsh, s, hset.1, hs⟩ (fun j ek m ver todo cur _ _ e ents clk he => by rw [e, hset.1] at he; cases he) rfl rfl rfl
        refine ⟨_, _, φ, hrun, r', st, ?_⟩
        simp only [den]
        exact ⟨_, rfl, denL_cons.2 ⟨by simp only [den], denL_cons.2 ⟨by simp only [den]; rfl, denL_cons.2 ⟨by simp only [den]; rfl, denL_nil⟩⟩⟩⟩
      · have hp' : ¬ pos < s.size := by
          rw [hs.size]
          intro hlt
          rw [ble_iff.2 (show Nat.succ pos ≤ l from hlt)] at hp; cases hp
        refine ⟨.tuple #[.bool false], w, ?_, ?_, .refl w⟩
        · rw [hsh]; simp [Instr.next, getObj, Sem.run, hb, hp']
        · simp only [den]; exact ⟨_, rfl, denL_cons.2 ⟨by simp only [den], denL_nil⟩⟩
    · simp only [cond_true]; exact mp_bad
    · exact mp_bad
end
end Xv

namespace Xv
open Go
section
variable {P : Program} {φ : Lie} {h : Hp} {w : World} {f : Fr} {a : Act} {o : Oper}

theorem pickOut_spec : ∀ (c : Nat) (l : List AV) (x : AV), l[c]? = some x → pickOut c l = some (x, l.eraseIdx c)
  | _, [], x, hx => by simp at hx
  | 0, e :: r, x, hx => by simp at hx; subst hx; rfl
  | c+1, e :: r, x, hx => by
    simp only [List.getElem?_cons_succ] at hx
    simp only [pickOut, pickOut_spec c r x hx, List.eraseIdx_cons_succ]
theorem filter_erase {e : MapEntry} : ∀ (l : List MapEntry) (c : Nat), l[c]? = some e → (l.map (·.born)).Nodup → l.filter (fun x => !(x.born == e.born)) = l.eraseIdx c
  | [], c, hc, _ => by simp at hc
  | x :: l, 0, hc, hn => by
    simp at hc; subst hc
    simp only [List.map_cons, List.nodup_cons] at hn
    simp only [List.eraseIdx_cons_zero, List.filter_cons, beq_self_eq_true, Bool.not_true, Bool.false_eq_true, if_false]
    exact List.filter_eq_self.2 fun y hy => by
      have : y.born ≠ x.born := fun h => hn.1 (h ▸ List.mem_map_of_mem hy)
      simpa using this
  | x :: l, c+1, hc, hn => by
    simp only [List.getElem?_cons_succ] at hc
    simp only [List.map_cons, List.nodup_cons] at hn
    have : x.born ≠ e.born := fun h => hn.1 (h ▸ List.mem_map_of_mem (List.mem_of_getElem? hc))
    simp only [List.eraseIdx_cons_succ, List.filter_cons]
    rw [if_pos (by simpa using this), filter_erase l c hc hn.2]
/-- A step of a walk through a map: it is over; or one of the keys that are left comes out, we cannot know which. -/
theorem nxtM_sound {i m : Id} {ek : EK} {ver : Nat} {todo : List AV} {cur : Option AV} {es : List (AV × AV)} {ty : TypeId} (r : R φ h w) (hg : h.get i = .miter ek m ver todo cur) (hm : h.get m = .map es ver) :
    (todo = [] ∧ (Instr.next (.pointer (some ⟨φ.blk i, φ.sh i + 0, none⟩)) false ty).run P w = .ok (.tuple #[.bool false]) w) ∨
    ∃ c x v z w', c < todo.length ∧ todo[c]? = some x ∧ (Instr.next (.pointer (some ⟨φ.blk i, φ.sh i + 0, none⟩)) false ty).run P w = .ok (.tuple #[.bool true, v, z]) w' ∧
      ∀ orc, R φ ⟨put4 h.t i (.miter ek m ver (todo.eraseIdx c) (some x)), h.nx, orc⟩ w' ∧ Step φ h w φ w' ⟨put4 h.t i (.miter ek m ver (todo.eraseIdx c) (some x)), h.nx, orc⟩ := by
  have ob := r.obj i
  rw [hg] at ob
  obtain ⟨hsh, dm, hlt, hage, seen, hb, hh⟩ := ob
  have om := r.obj m
  rw [hm] at om
  obtain ⟨ents, hbm, _, hnk, hnb, hborn, _⟩ := om
  obtain ⟨⟨l, hp, hlen, hal⟩, _⟩ := hh ents hbm
  have hlo : (leftOf ents seen).toList = ents.toList.filter fun e => !seen.contains e.born := by simp [leftOf]
  rw [hsh, Nat.zero_add]
  rcases run_next_at (P := P) w ty (φ.blk i) (φ.blk m) ver ver seen ents ver hb hbm hborn (Nat.le_refl _) with ⟨h0, hrun⟩ | ⟨e, he, w1, hw1, hrun⟩
  · refine .inl ⟨List.eq_nil_of_length_eq_zero ?_, hrun⟩
    rw [← hlen, hp.length_eq, ← hlo]; simpa using h0
  · rw [hlo] at he
    obtain ⟨c, hc⟩ := List.getElem?_of_mem (hp.mem_iff.2 he)
    have hcl : c < todo.length := by rw [← hlen]; exact (List.getElem?_eq_some_iff.1 hc).1
    obtain ⟨e', q1, q2⟩ := hal c todo[c] (List.getElem?_eq_getElem hcl)
    rw [hc] at q1; cases q1
    refine .inr ⟨c, todo[c], e.key, e.val, _, hcl, List.getElem?_eq_getElem hcl, hrun, fun orc => ?_⟩
    have hheap : w1.heap = w.heap := by rcases hw1 with rfl | rfl <;> rfl
    have hos : w1.os = w.os := by rcases hw1 with rfl | rfl <;> rfl
    have hout : w1.output = w.output := by rcases hw1 with rfl | rfl <;> rfl
    have htape : w1.tape = w.tape := by rcases hw1 with rfl | rfl <;> rfl
    have hset := MapKept.heap_set (o' := .mapIter (some (φ.blk m)) ver (seen.push e.born) ver) hb
    have hw'h : (ChangeMaps.setBlock w1 (φ.blk i) (.mapIter (some (φ.blk m)) ver (seen.push e.born) ver)).heap = w.heap.setIfInBounds (φ.blk i) (.mapIter (some (φ.blk m)) ver (seen.push e.born) ver) := by
      show w1.heap.setIfInBounds _ _ = _; rw [hheap]
    have hne : φ.blk m ≠ φ.blk i := fun e => by rw [e, hb] at hbm; cases hbm
    have hlb : (l.map (·.born)).Nodup := (hp.map _).nodup_iff.2 ((List.filter_sublist.map _).nodup hnb)
    refine set_R (h' := ⟨put4 h.t i (.miter ek m ver (todo.eraseIdx c) (some todo[c])), h.nx, orc⟩) (i := i) (o' := .miter ek m ver (todo.eraseIdx c) (some todo[c])) r (by rw [hg]; rfl) rfl (fun j => by show get4 _ _ = _; rw [get4_put4]; rfl) (by rw [hw'h]; simp) (fun c hc => by rw [hw'h]; exact hset.2 c hc) ?_
      (fun j ek m' vr td cr _ _ e ents' clk he => by rw [hw'h, e, hset.1] at he; cases he) hos hout htape
    refine ⟨hsh, dm, by rw [hw'h]; simpa using hlt, fun ents' clk he => ?_, seen.push e.born, by rw [hw'h]; exact hset.1, fun ents' he => ?_⟩
    · rw [hw'h, hset.2 _ hne] at he; exact hage ents' clk he
    · rw [hw'h, hset.2 _ hne, hbm] at he
      cases he
      refine ⟨⟨l.eraseIdx c, ?_, by rw [List.length_eraseIdx, List.length_eraseIdx, hlen], fun k x hx => ?_⟩, fun k hk => ?_⟩
      · rw [← filter_erase l c hc hlb]
        refine (hp.filter _).trans (List.Perm.of_eq ?_)
        rw [List.filter_filter]
        refine List.filter_congr fun y _ => ?_
        rw [Bool.eq_iff_iff]
        simp [and_comm]
      · rw [List.getElem?_eraseIdx] at hx ⊢
        split at hx
        · rename_i hkc; rw [if_pos hkc]; exact hal k x hx
        · rename_i hkc; rw [if_neg hkc]; exact hal (k + 1) x hx
      · cases hk
        exact ⟨e.born, e, by simp, (List.mem_filter.1 he).1, rfl, q2⟩
theorem eqA_eq {ek : EK} {p q : AV} (hf : isFltK ek = false) (he : eqA ek p q = some true) {u v : Value} (hu : den φ p u) (hv : den φ q v) : u = v := by
  cases ek with
  | cell k => exact (cF_iff (eqF_c (show eqF k p q = some true from he) hu hv)).1 rfl
  | strct ks =>
    simp only [eqA] at he
    split at he
    · simp only [den] at hu hv
      obtain ⟨X, rfl, hX, _⟩ := hu
      obtain ⟨Y, rfl, hY, _⟩ := hv
      rw [Array.ext' ((cL_iff (eqL_c he hX hY)).1 rfl)]
    · cases he
  | flt k => cases hf
  | ptr =>
    simp only [eqA] at he
    split at he
    · simp only [den] at hu hv; rw [hu, hv]
    · cases he
    · cases he
    · obtain ⟨_, rfl, rfl⟩ := ptr_same he
      simp only [den] at hu hv; rw [hu.2, hv.2]
    · cases he
  | _ =>
    simp only [eqA] at he
    split at he <;> first | cases he | skip
    simp only [den] at hu hv
    rw [hu, hv]
theorem entry_sound {i : Id} {off : Nat} (r : R φ h w) (hx : den φ (.ptr i off) (.pointer (some ⟨φ.blk i, φ.sh i + off, none⟩))) : ValPost P φ w (Instr.entry (.pointer (some ⟨φ.blk i, φ.sh i + off, none⟩))) (entryE h (.ptr i off)) := by
  simp only [entryE]
  refine vp_cond (fun hoff => ?_) fun _ => trivial
  rw [beq_iff] at hoff; subst hoff
  split
  · rename_i ek m ver todo k hg
    split
    · rename_i es ver' hm
      refine vp_cond (fun hv => ?_) fun _ => trivial
      simp only [Bool.and_eq_true, Bool.not_eq_true'] at hv
      obtain ⟨hv, hnf⟩ := hv
      rw [beq_iff] at hv; subst hv
      split
      · rename_i v hf
        have ob := r.obj i
        rw [hg] at ob
        obtain ⟨hsh, dm, hlt, hage, seen, hb, hh⟩ := ob
        have om := r.obj m
        rw [hm] at om
        obtain ⟨ents, hbm, ⟨l, hpe, hlen, hal⟩, hnk, hnb, hborn, _⟩ := om
        have hp : l.Perm ents.toList := .of_eq hpe
        obtain ⟨_, hcur⟩ := hh ents hbm
        obtain ⟨b, e, hback, he, hbe, hdk⟩ := hcur k rfl
        rcases findE_spec hf with ⟨h0, _⟩ | ⟨j, k', v', h0, h1, h2, _⟩
        · cases h0
        · cases h0
          obtain ⟨m1, q1, q2, q3⟩ := hal j _ h1
          have hkey : e.key = m1.key := eqA_eq hnf h2 hdk q2
          have hm1 : m1 ∈ ents.toList := hp.mem_iff.1 (List.mem_of_getElem? q1)
          have hem : e = m1 := by
            obtain ⟨x, hx⟩ := List.getElem?_of_mem he
            obtain ⟨y, hy⟩ := List.getElem?_of_mem hm1
            have e1 : (ents.toList.map (·.key))[x]? = some m1.key := by rw [List.getElem?_map, hx, ← hkey]; rfl
            have e2 : (ents.toList.map (·.key))[y]? = some m1.key := by rw [List.getElem?_map, hy]; rfl
            have := (List.getElem?_inj (List.getElem?_eq_some_iff.1 e1).1 hnk).1 (e1.trans e2.symm)
            subst this
            rw [hx] at hy; cases hy; rfl
          subst hem
          subst hbe
          have hfi : ents.find? (·.born == e.born) = some e := by rw [← Array.find?_toList]; exact find_born e ents.toList hnb he
          refine ⟨.tuple #[e.key, e.val], ?_, by simp only [den]; exact ⟨_, rfl, denL_cons.2 ⟨hdk, denL_cons.2 ⟨q3, denL_nil⟩⟩⟩⟩
          rw [hsh, Nat.zero_add]
          simp only [Instr.entry, getObj, Sem.run_bind, Sem.run, hb, hbm, Result.andThen, hback, bne_self_eq_false, Bool.false_eq_true, if_false, hfi]
          rfl
      · trivial
    · trivial
  · trivial
end
end Xv

namespace Xv
open Go
section
variable {P : Program} {φ : Lie} {h : Hp} {w : World} {f : Fr} {a : Act} {o : Oper}

/-! ### Entries of maps, taken and put -/
theorem placeE_spec {ek : EK} {k : AV} : ∀ {n : Nat} {es : List (AV × AV)} {r : Option (Nat × AV)}, placeE ek k n es = some r →
    (r = none ∧ ∀ e ∈ es, eqA ek k e.1 = some false) ∨
    (∃ j k' v, r = some (n + j, v) ∧ es[j]? = some (k', v) ∧ eqA ek k k' = some true ∧ ∀ (j' : Nat) (e : AV × AV), es[j']? = some e → j' ≠ j → eqA ek k e.1 = some false)
  | n, [], r, hh => by simp only [placeE, Option.some.injEq] at hh; subst hh; exact .inl ⟨rfl, by simp⟩
  | n, (k', v0) :: es, r, hh => by
    simp only [placeE] at hh
    split at hh
    · rename_i h1
      obtain ⟨h2, h3⟩ := cond_some hh
      simp only [Option.some.injEq] at h3
      subst h3
      refine .inr ⟨0, k', v0, rfl, rfl, h1, fun j' e he hj => ?_⟩
      cases j' with
      | zero => exact absurd rfl hj
      | succ j' => exact allNe_spec h2 e (List.mem_of_getElem? (by simpa using he))
    · rename_i h1
      rcases placeE_spec hh with ⟨rfl, h2⟩ | ⟨j, k2, v2, rfl, h2, h3, h4⟩
      · exact .inl ⟨rfl, fun e he => by
          rcases List.mem_cons.1 he with rfl | he
          · exact h1
          · exact h2 e he⟩
      · refine .inr ⟨j + 1, k2, v2, by rw [show Nat.succ n + j = n + (j + 1) by omega], by simpa using h2, h3, fun j' e he hj => ?_⟩
        cases j' with
        | zero => simp at he; subst he; exact h1
        | succ j' => exact h4 j' e (by simpa using he) (by omega)
    · cases hh
theorem setV_spec {v : AV} : ∀ {j : Nat} {es es' : List (AV × AV)}, setV v j es = some es' → ∃ e, es[j]? = some e ∧ es' = es.set j (e.1, v)
  | _, [], _, hh => by simp [setV] at hh
  | 0, e :: r, _, hh => by simp only [setV, Option.some.injEq] at hh; subst hh; exact ⟨e, rfl, rfl⟩
  | j+1, e :: r, es', hh => by
    simp only [setV] at hh
    split at hh
    · rename_i r' hr
      cases hh
      obtain ⟨e', h1, rfl⟩ := setV_spec hr
      exact ⟨e', by simpa using h1, rfl⟩
    · cases hh
theorem born_at {ents : List MapEntry} {ver : Nat} (hbr : ents.map (·.born) = List.range ver) {j : Nat} {m : MapEntry} (hm : ents[j]? = some m) : m.born = j := by
  have h1 : (ents.map (·.born))[j]? = some m.born := by rw [List.getElem?_map, hm]; rfl
  rw [hbr] at h1
  have h2 := (List.getElem?_eq_some_iff.1 h1).2
  simpa using h2.symm
theorem ment_sound {t kt e : TypeId} {ek : EK} {z : AV} (r : R φ h w) (ht : P.underlying t = some (.map kt e)) (hk : keyK P kt = some ek) (hz : zeroV P e = some z) {x k : AV} {u v : Value} (hx : den φ x u) (hv : den φ k v) :
    MemPost P φ h w (Instr.mapEntry t u v) (mentE ek h z x k) := by
  obtain ⟨ti, zv, hti, hzv, hzd⟩ := zeroV_spec hz
  unfold mentE
  refine mp_cond (fun hok => ?_) fun _ => trivial
  have hck := fun b w => checkKey_ok hk hok hv b w
  cases x <;> simp only [den] at hx <;> first | trivial | skip
  case map i' =>
    obtain ⟨d, rfl⟩ := hx
    simp only []
    split
    · rename_i es ver hg
      have ob := r.obj i'
      rw [hg] at ob
      obtain ⟨ents, hb, ⟨l, hpe, hlen, hal⟩, hnk, hnb, hborn, hbr⟩ := ob
      subst hpe
      have hlive : live (h.get i') = true := by rw [hg]; rfl
      have at_ : ∀ (j : Nat) (m : MapEntry), ents.toList[j]? = some m → ∃ e : AV × AV, es[j]? = some e ∧ den φ e.1 m.key ∧ den φ e.2 m.val := fun j m hj => by
        have hjl : j < es.length := by rw [← hlen]; exact (List.getElem?_eq_some_iff.1 hj).1
        obtain ⟨m', h1, h2, h3⟩ := hal j es[j] (List.getElem?_eq_getElem hjl)
        rw [hj] at h1; cases h1
        exact ⟨es[j], List.getElem?_eq_getElem hjl, h2, h3⟩
      split
      · rename_i j v0 hpl
        rcases placeE_spec hpl with ⟨h0, _⟩ | ⟨j0, k', v0', h0, h2, h3, h4⟩
        · cases h0
        · simp only [Option.some.injEq, Prod.mk.injEq, Nat.zero_add] at h0
          obtain ⟨rfl, rfl⟩ := h0
          obtain ⟨m0, p1, p2, p3⟩ := hal j (k', v0) h2
          have known : ∀ m ∈ ents.toList, ∃ b, KCmp P kt v m.key b := fun m hm => by
            obtain ⟨q, hq⟩ := List.getElem?_of_mem hm
            obtain ⟨e, q1, q3, _⟩ := at_ q m hq
            by_cases hj : q = j
            · subst hj; rw [h2] at q1; cases q1; exact ⟨_, kcmp_of hk h3 hv q3⟩
            · exact ⟨_, kcmp_of hk (h4 q e q1 hj) hv q3⟩
          have hm0 : m0 ∈ ents.toList := List.mem_of_getElem? p1
          have hk0 : v = m0.key := (kcmp_of hk h3 hv p2).2.1 rfl
          rcases findKey_run hk ents.toList known w with ⟨q, m, g1, g2, g3⟩ | ⟨_, g2⟩
          · have hqj : q = j := by
              refine Classical.byContradiction fun hj => ?_
              obtain ⟨e, q1, q3, _⟩ := at_ q m g2
              have := (kcmp_of hk (h4 q e q1 hj) hv q3).2.2 g3.symm
              cases this
            subst hqj
            rw [p1] at g2; cases g2
            have hbq := born_at hbr p1
            have p1' : ents[q]? = some m0 := by rw [← Array.getElem?_toList]; exact p1
            have hsb := sameBits_of hk h3 hv p2
            have hkeep : (Instr.keyThatStays m0.key v).run P w = .ok v w := by simp [Instr.keyThatStays, hsb]
            have hmod : (ents.modify q fun e => { e with key := v }) = ents := by
              apply Array.ext_getElem?
              intro x
              rw [Array.getElem?_modify]
              split
              · rename_i hx; subst hx; rw [p1']; simp only [Option.map_some, hk0]
              · rfl
            have hlt : φ.blk i' < w.heap.size := r.lt i' hlive
            have hself : w.heap.setIfInBounds (φ.blk i') (.map ents ver) = w.heap := by
              apply Array.ext_getElem?
              intro x
              rw [Array.getElem?_setIfInBounds]
              split
              · rename_i hx; subst hx; rw [hb]
              · rfl
            have hrun : (Instr.mapEntry t (.map (some (φ.blk i'))) v).run P w = .ok (.tuple #[m0.val, .int .i64 q]) w := by
              simp [Instr.mapEntry, underlying_run ht, getObj, setObj, Sem.run, hb, hck, g1, p1', hkeep, hmod, hself, goInt, hbq]
            exact ⟨_, w, φ, hrun, r, Step.refl φ h w, by simp only [den]; exact ⟨_, rfl, denL_cons.2 ⟨p3, denL_cons.2 ⟨by simp only [den]; try rfl, denL_nil⟩⟩⟩⟩
          · exact absurd hk0.symm (g2 m0 hm0)
      · rename_i hpl
        rcases placeE_spec hpl with ⟨_, h2⟩ | ⟨_, _, _, h0, _⟩
        · have known : ∀ m ∈ ents.toList, ∃ b, KCmp P kt v m.key b := fun m hm => by
            obtain ⟨q, hq⟩ := List.getElem?_of_mem hm
            obtain ⟨e, h1, h3, _⟩ := at_ q m hq
            exact ⟨_, kcmp_of hk (h2 e (List.mem_of_getElem? h1)) hv h3⟩
          have hne : ∀ m ∈ ents.toList, m.key ≠ v := fun m hm e => by
            obtain ⟨q, hq⟩ := List.getElem?_of_mem hm
            obtain ⟨x, h1, h3, _⟩ := at_ q m hq
            have := (kcmp_of hk (h2 x (List.mem_of_getElem? h1)) hv h3).2.2 e.symm
            cases this
          rcases findKey_run hk ents.toList known w with ⟨j, m, _, g2, g3⟩ | ⟨g1, _⟩
          · exact absurd g3 (hne m (List.mem_of_getElem? g2))
          · have hrun : (Instr.mapEntry t (.map (some (φ.blk i'))) v).run P w = .ok (.tuple #[zv, .int .i64 ver]) { w with heap := w.heap.setIfInBounds (φ.blk i') (.map (ents.push { key := v, val := zv, born := ver }) (ver + 1)) } := by
              simp [Instr.mapEntry, underlying_run ht, getObj, setObj, Sem.run, hb, hck, g1, zeroValue_run hti hzv, goInt]
            have hset := MapKept.heap_set (o' := .map (ents.push { key := v, val := zv, born := ver }) (ver + 1)) hb
            rw [app_eq]
            obtain ⟨r', st⟩ := set_R (h' := h.set i' (.map (es ++ [(k, z)]) (ver + 1))) (w' := { w with heap := w.heap.setIfInBounds (φ.blk i') (.map (ents.push { key := v, val := zv, born := ver }) (ver + 1)) }) (i := i') (o' := .map (es ++ [(k, z)]) (ver + 1)) r hlive rfl (fun j => Hp.get_set _ _ _ _) (by simp) (fun c hc => hset.2 c hc)
              (by
                refine ⟨_, hset.1, ⟨ents.toList ++ [{ key := v, val := zv, born := ver }], by simp, by simp only [List.length_append, List.length_cons, List.length_nil, hlen], fun j e he => ?_⟩, ?_, ?_, ?_, ?_⟩
                · by_cases hj : j < es.length
                  · rw [List.getElem?_append_left hj] at he
                    obtain ⟨m, q1, q2, q3⟩ := hal j e he
                    exact ⟨m, by rw [List.getElem?_append_left (by omega)]; exact q1, q2, q3⟩
                  · have hj2 : j = es.length := by
                      have := (List.getElem?_eq_some_iff.1 he).1
                      simp at this; omega
                    subst hj2
                    rw [List.getElem?_append_right (Nat.le_refl _)] at he
                    simp at he
                    subst he
                    exact ⟨{ key := v, val := zv, born := ver }, by rw [List.getElem?_append_right (by omega), hlen]; simp, hv, hzd φ⟩
                · simp only [Array.toList_push, List.map_append, List.map_cons, List.map_nil]
                  refine List.nodup_append.2 ⟨hnk, by simp, fun a ha b hb' e => ?_⟩
                  simp at hb'
                  obtain ⟨m, hm, rfl⟩ := List.mem_map.1 ha
                  exact hne m hm (e.trans hb')
                · simp only [Array.toList_push, List.map_append, List.map_cons, List.map_nil]
                  refine List.nodup_append.2 ⟨hnb, by simp, fun a ha b hb' e => ?_⟩
                  simp at hb'
                  obtain ⟨m, hm, rfl⟩ := List.mem_map.1 ha
                  have := hborn m hm
                  omega
                · intro e he
                  simp at he
                  rcases he with he | rfl
                  · have := hborn e (by simpa using he); omega
                  · simp
                · simp only [Array.toList_push, List.map_append, List.map_cons, List.map_nil, hbr, List.range_succ])
              (fun j ek m vr todo cur _ _ e ents' clk he => by
                rw [e, hset.1] at he
                cases he
                exact ⟨ents, ver, by rw [e]; exact hb, by omega, fun h => by omega⟩) rfl rfl rfl
            exact ⟨_, _, φ, hrun, r', st, by simp only [den]; exact ⟨_, rfl, denL_cons.2 ⟨hzd φ, denL_cons.2 ⟨by simp only [den]; try rfl, denL_nil⟩⟩⟩⟩
        · cases h0
      · trivial
    · trivial
theorem estore_sound {t : TypeId} (r : R φ h w) {x s y : AV} {u v z : Value} (hx : den φ x u) (hs : den φ s v) (hy : den φ y z) : UnitPost P φ h w (Instr.entryStore t u v z) (estoreE h x s y) := by
  unfold estoreE
  cases x <;> simp only [den] at hx <;> first | trivial | skip
  case map i' =>
    obtain ⟨d, rfl⟩ := hx
    simp only []
    split
    · rename_i es ver hg
      have ob := r.obj i'
      rw [hg] at ob
      obtain ⟨ents, hb, ⟨l, hpe, hlen, hal⟩, hnk, hnb, hborn, hbr⟩ := ob
      subst hpe
      have hlive : live (h.get i') = true := by rw [hg]; rfl
      split
      · rename_i j hj
        obtain ⟨kk, rfl⟩ := natOf_den hs hj
        split
        · rename_i es' hes
          obtain ⟨e0, h2, rfl⟩ := setV_spec hes
          obtain ⟨m, p1, p2, p3⟩ := hal j e0 h2
          have p1' : ents[j]? = some m := by rw [← Array.getElem?_toList]; exact p1
          have hbq := born_at hbr p1
          have hfi : ents.findIdx? (fun e => (e.born : Int) == (j : Int)) = some j := by
            have hjl : j < ents.size := (Array.getElem?_eq_some_iff.1 p1').1
            rw [Array.findIdx?_eq_some_iff_getElem]
            refine ⟨hjl, ?_, fun q hq => ?_⟩
            · have := (Array.getElem?_eq_some_iff.1 p1').2
              rw [this, hbq]; simp
            · have hb2 : ents[q].born = q := born_at hbr (j := q) (by rw [Array.getElem?_toList]; exact Array.getElem?_eq_getElem (by omega))
              rw [hb2]; simp; omega
          have hrun : (Instr.entryStore t (.map (some (φ.blk i'))) (.int kk j) z).run P w = .ok () { w with heap := w.heap.setIfInBounds (φ.blk i') (.map (ents.modify j fun e => { e with val := z }) ver) } := by
            simp [Instr.entryStore, getObj, setObj, Sem.run, hb, asInt, asIntOf, hfi, Result.andThen]
          have hset := MapKept.heap_set (o' := .map (ents.modify j fun e => { e with val := z }) ver) hb
          have hmod := modify_map (F := fun e => { e with val := z }) p1' hnb
          have gkey : ∀ e : MapEntry, (if e.born = m.born then { e with val := z } else e : MapEntry).key = e.key := fun e => by split <;> rfl
          have gborn : ∀ e : MapEntry, (if e.born = m.born then { e with val := z } else e : MapEntry).born = e.born := fun e => by split <;> rfl
          have hmb : (ents.modify j fun e => { e with val := z }).toList.map (·.born) = ents.toList.map (·.born) := by
            rw [hmod, List.map_map]; exact List.map_congr_left fun e _ => gborn e
          obtain ⟨r', st⟩ := set_R (h' := h.set i' (.map (es.set j (e0.1, y)) ver)) (w' := { w with heap := w.heap.setIfInBounds (φ.blk i') (.map (ents.modify j fun e => { e with val := z }) ver) }) (i := i') (o' := .map (es.set j (e0.1, y)) ver) r hlive rfl (fun j => Hp.get_set _ _ _ _) (by simp) (fun c hc => hset.2 c hc)
            (by
              refine ⟨_, hset.1, ⟨_, rfl, by simp only [Array.toList_modify, List.length_modify, List.length_set]; exact hlen, fun q e he => ?_⟩, ?_, ?_, ?_, ?_⟩
              · rw [hmod, List.getElem?_map]
                rw [List.getElem?_set] at he
                split at he
                · rename_i hq
                  subst hq
                  split at he
                  · cases he
                    rw [p1]
                    exact ⟨_, rfl, by simp only [if_true]; exact p2, by simp only [if_true]; exact hy⟩
                  · cases he
                · rename_i hq
                  obtain ⟨m1, q1, q2, q3⟩ := hal q e he
                  rw [q1]
                  have hne : ¬ m1.born = m.born := fun hbe => by
                    have := born_at hbr q1
                    omega
                  exact ⟨m1, by simp only [Option.map_some, hne, if_false], q2, q3⟩
              · rw [hmod, List.map_map]
                have : ents.toList.map ((·.key) ∘ fun e => if e.born = m.born then { e with val := z } else e) = ents.toList.map (·.key) := List.map_congr_left fun e _ => gkey e
                rw [this]; exact hnk
              · rw [hmb]; exact hnb
              · intro e he
                rw [hmod] at he
                obtain ⟨e1, he1, rfl⟩ := List.mem_map.1 he
                rw [gborn]; exact hborn e1 he1
              · rw [hmb]; exact hbr)
            (fun q ek m' vr todo cur _ _ e ents' clk he => by
              rw [e, hset.1] at he
              cases he
              exact ⟨ents, ver, by rw [e]; exact hb, Nat.le_refl _, fun _ => ⟨fun e => if e.born = m.born then { e with val := z } else e, gborn, fun e a he hd => by rw [gkey e]; exact hd, hmod⟩⟩) rfl rfl rfl
          exact ⟨rfl, _, φ, hrun, r', st⟩
        · trivial
      · trivial
    · trivial
end
end Xv

namespace Xv
open Go
section
variable {P : Program} {φ : Lie} {h : Hp} {w : World} {f : Fr} {a : Act} {o : Oper}

theorem isCells_rows {i : AO} {off rw n : Nat} {l : List (List AV)} (h : rowsOf i off rw n = some l) : i.isCells = true := by
  cases i <;> first | rfl | simp [rowsOf] at h
/-- Cells that stand for ours. -/
def CellsFor (φ : Lie) (n : Nat) (c : Nat → Option AV) (vs : List Value) : Prop :=
  vs.length = n ∧ (∀ (j : Nat) (x : AV), j < n → c j = some x → ∃ v, vs[j]? = some v ∧ den φ x v) ∧ ∀ v ∈ vs, v.oneCell' = true
theorem rows_at {i : Id} {off rw n : Nat} {rs : List (List AV)} (r : R φ h w) (hc : rowsOf (h.get i) off rw n = some rs) :
    ∃ vs : List Value, CellsFor φ (n * rw) (fun j => (h.get i).cell (off + j)) vs ∧ RowsAre rs rw n (fun j => (h.get i).cell (off + j)) ∧ (0 < n * rw → off + n * rw ≤ (h.get i).count) ∧
      ∀ (j : Nat) (v : Value), vs[j]? = some v → w.cell? ⟨φ.blk i, φ.sh i + off + j, none⟩ = some v := by
  have ok := cellsOk_of r (isCells_rows hc)
  obtain ⟨h1, h2⟩ := rowsOf_spec ok.wf hc
  obtain ⟨arr, fr, b1, b2, b3, b4, b5, b6⟩ := ok.blk
  by_cases hn : n * rw = 0
  · exact ⟨[], ⟨hn.symm, fun j x hj => by omega, by simp⟩, h1, h2, by simp⟩
  · have hlt := h2 (by omega)
    have e : ∀ j, j < n * rw → ((arr.toList.drop (φ.sh i + off)).take (n * rw))[j]? = arr[φ.sh i + off + j]? := fun j hj => by
      rw [List.getElem?_take_of_lt hj, List.getElem?_drop, Array.getElem?_toList]
    have lt : ∀ (j : Nat) (v : Value), ((arr.toList.drop (φ.sh i + off)).take (n * rw))[j]? = some v → j < n * rw := fun j v hv => by
      have := (List.getElem?_eq_some_iff.1 hv).1
      simp at this; omega
    refine ⟨(arr.toList.drop (φ.sh i + off)).take (n * rw), ⟨by simp; omega, fun j x hj hx => ?_, fun v hv => ?_⟩, h1, h2, fun j v hv => ?_⟩
    · obtain ⟨v, hv, hd⟩ := b4 _ _ hx
      exact ⟨v, by rw [e j hj, Nat.add_assoc]; exact hv, hd⟩
    · obtain ⟨j, hj⟩ := List.getElem?_of_mem hv
      have hjn := lt j v hj
      rw [e j hjn] at hj
      exact b5 _ _ hj
    · have hjn := lt j v hv
      rw [e j hjn] at hv
      simp [World.cell?, b1, hv]
theorem u8s_len : ∀ (l n : Nat), (u8s l n).length = l
  | 0, _ => rfl
  | l+1, n => by simp [u8s, u8s_len l]
theorem u8s_get : ∀ (l n k : Nat), k < l → (u8s l n)[k]? = some [.u8 (byteAt n k)]
  | l+1, n, 0, _ => by simp [u8s, byteAt]
  | l+1, n, k+1, hk => by
    simp only [u8s, List.getElem?_cons_succ]
    rw [u8s_get l _ k (by omega), byteAt_shift]
theorem u8s_are {l n : Nat} : RowsAre (u8s l n) 1 l (fun j => if j < l then some (.u8 (byteAt n j)) else none) := by
  refine ⟨u8s_len l n, fun r hr => ?_, fun k j hk hj => ?_⟩
  · obtain ⟨k, hk⟩ := List.getElem?_of_mem hr
    have hkl : k < l := by have := (List.getElem?_eq_some_iff.1 hk).1; rwa [u8s_len] at this
    rw [u8s_get l n k hkl] at hk; cases hk; rfl
  · have : j = 0 := by omega
    subst this
    rw [List.getD_eq_getElem?_getD, u8s_get l n k hk]
    simp [hk]
/-- What an append, or a copy, brings. -/
theorem src_sound {rw n : Nat} {y : AV} {v : Value} {rs : List (List AV)} (r : R φ h w) (hy : den φ y v) (hrs : srcRows h rw y = some rs) (hn : lenOf y = some n) :
    ∃ (cs : Array Value) (c : Nat → Option AV), (Builtin.lenOf v).run P w = .ok n w ∧ (Builtin.firstCells rw n v).run P w = .ok cs w ∧ RowsAre rs rw n c ∧ CellsFor φ (n * rw) c cs.toList := by
  cases y <;> simp only [srcRows, reduceCtorEq] at hrs <;> simp only [lenOf, Option.some.injEq] at hn <;> simp only [den] at hy
  case nils =>
    subst hy; subst hn
    cases hrs
    exact ⟨#[], fun _ => none, rfl, rfl, ⟨rfl, by simp, fun k j hk => absurd hk (Nat.not_lt_zero _)⟩, ⟨by simp, fun j x _ hx => (by cases hx), by simp⟩⟩
  case slice i off rw' len cap ex =>
    subst hn
    obtain ⟨d, ad, cc, rfl, g1, g2, g3, g4⟩ := hy
    obtain ⟨vs, hvs, ha, _, hcell⟩ := rows_at r hrs
    refine ⟨vs.toArray, _, rfl, ?_, ha, by simpa using hvs⟩
    by_cases h0 : len * rw = 0
    · have : vs = [] := List.eq_nil_of_length_eq_zero (by rw [hvs.1, h0])
      subst this
      simp [Builtin.firstCells, loadCells, h0, loadCellsFrom]
    · have hc0 : cc ≠ 0 := by
        intro h; subst h
        have : len = 0 := by omega
        subst this; simp at h0
      obtain ⟨e1, _⟩ := g4 hc0
      subst e1
      have hl := run_loadCells_list (P := P) w ⟨φ.blk i, φ.sh i + off, none⟩ vs (fun j v hv => by rw [add_addr]; exact hcell j v hv)
      rw [hvs.1] at hl
      simpa [Builtin.firstCells] using hl
  case str l m =>
    subst hn
    obtain ⟨s, rfl, hs⟩ := hy
    obtain ⟨hb, hrs⟩ := cond_some hrs
    rw [beq_iff] at hb; subst hb
    cases hrs
    have hsz := hs.size
    refine ⟨(s.extract 0 l).data.map fun b => .int .u8 b.toNat, _, by simp [Builtin.lenOf, hsz], rfl, u8s_are, ?_⟩
    have hex : s.extract 0 l = s := by rw [← hsz]; simp
    rw [hex]
    refine ⟨by simp only [Array.toList_map, List.length_map, Array.length_toList, Nat.mul_one]; exact hsz, fun j x hj hx => ?_, fun v hv => ?_⟩
    · rw [Nat.mul_one] at hj
      simp only [if_pos hj] at hx
      cases hx
      obtain ⟨b, hb1, hb2⟩ := hs.get hj
      have hb3 : s.data[j]? = some b := by
        have h2 := getElem?_eq_some_iff.1 hb1
        obtain ⟨h3, h4⟩ := h2
        exact Array.getElem?_eq_some_iff.2 ⟨h3, h4⟩
      exact ⟨.int .u8 b.toNat, by simp [hb3], by simp only [den]; rw [hb2]⟩
    · simp at hv
      obtain ⟨b, _, rfl⟩ := hv
      rfl
end
end Xv

namespace Xv
open Go
section
variable {P : Program} {φ : Lie} {h : Hp} {w : World} {f : Fr} {a : Act} {o : Oper}

/-- An append's operands, as the model takes them. -/
theorem append_fits {t u ty e : TypeId} {ud : TypeDesc} {i : TypeInfo} {base : Option Addr} {sLen sCap n : Nat} {v : Value} {cs : Array Value} {w w' : World} (ht : P.underlying t = some (.slice e)) (hu : P.underlying u = some ud) (hni : (∃ e', ud = .slice e') ∨ ud = .string)
    (hi : P.info? e = some i) (hlen : (Builtin.lenOf v).run P w = .ok n w) (hfst : (Builtin.firstCells i.size n v).run P w = .ok cs w) (hfit : sLen + n ≤ sCap)
    (hst : ∀ ad, base = some ad → (storeCells (ad.add (sLen * i.size)) cs.toList).run P w = .ok () w') (hno : base = none → w' = w) :
    (Builtin.append_ #[t, u] ty #[.slice base sLen sCap, v]).run P w = .ok (.slice base (sLen + n) sCap) w' := by
  have hsz : (Go.sizeOf e).run P w = .ok i.size w := by simp [Go.sizeOf, typeInfo, hi]
  cases base with
  | none =>
    cases hno rfl
    rcases hni with ⟨e', rfl⟩ | rfl
    · simp [Builtin.append_, underlying_run ht, underlying_run hu, hsz, hlen, hfst, hfit]
    · simp [Builtin.append_, underlying_run ht, underlying_run hu, hsz, hlen, hfst, hfit]
  | some ad =>
    have := hst ad rfl
    rcases hni with ⟨e', rfl⟩ | rfl
    · simp [Builtin.append_, underlying_run ht, underlying_run hu, hsz, hlen, hfst, hfit, this]
    · simp [Builtin.append_, underlying_run ht, underlying_run hu, hsz, hlen, hfst, hfit, this]
theorem append_grows {t u ty e : TypeId} {ud : TypeDesc} {i : TypeInfo} {zv : Value} {base : Option Addr} {sLen sCap n : Nat} {v : Value} {cs old : Array Value} {w : World} (ht : P.underlying t = some (.slice e)) (hu : P.underlying u = some ud) (hni : (∃ e', ud = .slice e') ∨ ud = .string)
    (hi : P.info? e = some i) (hz : i.zero = some zv) (hlen : (Builtin.lenOf v).run P w = .ok n w) (hfst : (Builtin.firstCells i.size n v).run P w.drew = .ok cs w.drew) (hold : (Builtin.firstCells i.size sLen (.slice base sLen sCap)).run P w.drew = .ok old w.drew)
    (hfit : ¬ sLen + n ≤ sCap) (hmax : sLen + n < 2 ^ 62) (hroom : ¬ Builtin.nextslicecap (sLen + n) sCap * i.bytes > 2 ^ 48) :
    ∃ c, sLen + n ≤ c ∧ (Builtin.append_ #[t, u] ty #[.slice base sLen sCap, v]).run P w = .ok (.slice (some ⟨w.heap.size, 0, none⟩) (sLen + n) c) (w.drew.alloc (.cells (old ++ cs ++ Builtin.zeroCells zv.cells (c - (sLen + n))) e)) := by
  have hsz : (Go.sizeOf e).run P w = .ok i.size w := by simp [Go.sizeOf, typeInfo, hi]
  have hty : ∀ w, (typeInfo e).run P w = .ok i w := fun w => by simp [typeInfo, hi]
  have h63' : ¬ (9223372036854775807 < ((sLen : Int) + (n : Int))) := by omega
  have h48' : ¬ (281474976710656 < Builtin.nextslicecap (sLen + n) sCap * i.bytes) := by omega
  have hzr : ∀ w, (zeroValue e).run P w = .ok zv w := fun w => zeroValue_run hi hz w
  have hask : ∀ b w, (askRoom b).run P w = .ok () w := fun b w => by unfold askRoom; split <;> rfl
  refine ⟨grownCap w (sLen + n) sCap e, grownCap_ge w (sLen + n) sCap e, ?_⟩
  rcases hni with ⟨e', rfl⟩ | rfl
  · simp [Builtin.append_, underlying_run ht, underlying_run hu, hsz, hlen, hty, hfit, h63', h48', Question.forced, hask, hold, hfst, hzr, newRow, grownCap]
  · simp [Builtin.append_, underlying_run ht, underlying_run hu, hsz, hlen, hty, hfit, h63', h48', Question.forced, hask, hold, hfst, hzr, newRow, grownCap]
end
end Xv

namespace Xv
open Go
section
variable {P : Program} {φ : Lie} {h : Hp} {w : World} {f : Fr} {a : Act} {o : Oper}

theorem same_drew (w : World) : Same w w.drew := ⟨rfl, rfl, rfl, rfl⟩
/-- A block that an append has laid anew. -/
theorem grow_post {s : Sem Value} {h0 : Hp} {o' : AO} {e need c rw : Nat} {A : Array Value} {cc : Nat → Option AV} {kill : Option Id} (r : R φ h w)
    (hrun : s.run P w = .ok (.slice (some ⟨w.heap.size, 0, none⟩) need c) (w.drew.alloc (.cells A e))) (hsz : A.size = c * rw) (hc : need ≤ c)
    (hk : ∀ i, kill = some i → live (h.get i) = true) (hget : ∀ j, h0.get j = if kill = some j then .dead else h.get j) (hnx : h0.nx = h.nx)
    (hw : o'.wf) (hic : o'.isCells = true) (hro : o'.isOne = false) (hcnt : o'.count = need * rw) (hel : o'.el = e) (hcell : ∀ (j : Nat) (x : AV), o'.cell j = some x → j < need * rw ∧ cc j = some x)
    (hA : ∀ (j : Nat) (x : AV), j < need * rw → cc j = some x → ∃ v, A[j]? = some v ∧ den φ x v) (h1 : ∀ v ∈ A.toList, v.oneCell' = true) :
    MemPost P φ h w s (alloc h0 o' fun j => .slice j 0 rw need need false) := by
  unfold alloc
  refine mp_cond (fun hn => ?_) fun _ => trivial
  rw [hnx, hget] at hn
  split at hn
  · cases hn
  · rename_i hkn
    have r0 := r.same (same_drew w)
    have hnd : ¬ φ.dom h.nx := fun d => by rw [(r.dom _).1 d] at hn; cases hn
    have le : φ.le (φ.put h.nx w.heap.size 0 (c * rw)) := Lie.le_put hnd
    have hob : objOk (φ.put h.nx w.drew.heap.size 0 A.size) (w.drew.alloc (.cells A o'.el)) h.nx o' := by
      refine cellsOk_new (w := w.drew) hw hic ⟨by rw [hcnt, hsz]; exact Nat.mul_le_mul_right _ hc, fun h => by rw [hro] at h; cases h⟩ (fun j x hx => ?_) (one_of_list h1)
      obtain ⟨hj, hx'⟩ := hcell j x hx
      obtain ⟨v, hv, hd⟩ := hA j x hj hx'
      exact ⟨v, hv, den_mono (by rw [hsz]; exact le) _ _ hd⟩
    have hl' : live o' = true := by cases o' <;> first | rfl | simp [AO.isCells] at hic
    obtain ⟨r', st⟩ := new_R (h' := ⟨put4 h0.t h0.nx o', h0.nx.nxt, h0.orc⟩) (w' := w.drew.alloc (.cells A e)) (n := h.nx) (o' := o') (b := w.heap.size) (s := 0) (z := c * rw) (kill := kill) r0 hn hl' hk
      (fun j => by
        show get4 (put4 h0.t h0.nx o') j = _
        rw [get4_put4, hnx]
        split
        · rfl
        · exact hget j) (.inl rfl) (by simp) (by simp) (fun c hc _ => by rw [(MapKept.heap_alloc w.drew _).2 c hc]) (fun _ _ => .inr rfl) (by rw [hel, hsz] at hob; exact hob) rfl rfl rfl
    refine ⟨_, _, _, hrun, r', (Step.same (same_drew w)).trans st, ?_⟩
    rw [hnx]
    exact new_slice_den (Nat.le_refl _) hc (by simp) rfl
end
end Xv

namespace Xv
open Go
section
variable {P : Program} {φ : Lie} {h : Hp} {w : World} {f : Fr} {a : Act} {o : Oper}

theorem flat_are {rw : Nat} : ∀ {rs : List (List AV)} {n : Nat} {c : Nat → Option AV}, RowsAre rs rw n c → rs.flatten.length = n * rw ∧ ∀ j, j < n * rw → rs.flatten[j]? = c j
  | [], n, c, hr => by
    have := hr.len
    simp at this; subst this
    exact ⟨by simp, fun j hj => by simp at hj⟩
  | r :: rs, n, c, hr => by
    have hn := hr.len
    simp only [List.length_cons] at hn
    obtain ⟨n', rfl⟩ : ∃ n', n = n' + 1 := ⟨rs.length, hn.symm⟩
    have hrl : r.length = rw := hr.row r (by simp)
    have hr' : RowsAre rs rw n' (fun j => c (rw + j)) := ⟨by omega, fun x hx => hr.row x (by simp [hx]), fun k j hk hj => by
      have := hr.cell (k + 1) j (by omega) hj
      simp only [List.getD_cons_succ] at this
      rw [this]; congr 1; rw [Nat.add_mul, Nat.one_mul]; omega⟩
    obtain ⟨h1, h2⟩ := flat_are hr'
    have e : (n' + 1) * rw = n' * rw + rw := by rw [Nat.add_mul, Nat.one_mul]
    refine ⟨by simp only [List.flatten_cons, List.length_append, h1, hrl, e]; omega, fun j hj => ?_⟩
    simp only [List.flatten_cons]
    by_cases hj2 : j < rw
    · rw [List.getElem?_append_left (by omega)]
      have := hr.cell 0 j (by omega) hj2
      simpa using this
    · rw [List.getElem?_append_right (by omega), h2 _ (by omega), hrl]
      congr 1; omega
theorem flat_den {rw n : Nat} {rs : List (List AV)} {c : Nat → Option AV} {vs : List Value} (hr : RowsAre rs rw n c) (hc : CellsFor φ (n * rw) c vs) : denL φ rs.flatten vs := by
  obtain ⟨h1, h2⟩ := flat_are hr
  refine denL_of (by rw [hc.1, h1]) fun j x hx => ?_
  have hj : j < n * rw := by rw [← h1]; exact (List.getElem?_eq_some_iff.1 hx).1
  rw [h2 j hj] at hx
  exact hc.2.1 j x hj hx
theorem putRows_spec {rw : Nat} : ∀ {rs : List (List AV)} {o o' : AO} {off : Nat}, o.wf → rs ≠ [] → (∀ r ∈ rs, r.length = rw) → putRows o off rw rs = some o' → SetSpec o off rs.flatten o'
  | [], _, _, _, _, hne, _, _ => absurd rfl hne
  | [r], o, o', off, hw, _, _, hp => by
    simp only [putRows] at hp
    split at hp
    · rename_i o1 h1
      cases hp
      simpa using setCells_spec hw h1
    · cases hp
  | r :: r2 :: rs, o, o', off, hw, _, hl, hp => by
    rw [putRows] at hp
    split at hp
    · rename_i o1 h1
      have s1 := setCells_spec hw h1
      have s2 := putRows_spec (rs := r2 :: rs) (o := o1) (o' := o') (off := off + rw) s1.wf (by simp) (fun x hx => hl x (by simp [hx])) hp
      have hrl : r.length = rw := hl r (by simp)
      have h2l : r2.length = rw := hl r2 (by simp)
      rw [List.flatten_cons]
      generalize hm : (r2 :: rs).flatten = m at s2 ⊢
      have hml : m.length ≥ rw := by rw [← hm, List.flatten_cons, List.length_append]; omega
      refine ⟨s2.wf, s2.cells, s2.count.trans s1.count, s2.fz.trans s1.fz, s2.el.trans s1.el, fun hpos => ?_, s1.above, fun j => ?_, s2.one.trans s1.one⟩
      · rw [List.length_append] at hpos ⊢
        have := s2.room (by omega)
        rw [s1.count] at this
        omega
      · rw [s2.cell, s1.cell, List.length_append]
        by_cases c1 : off + rw ≤ j ∧ j < off + rw + m.length
        · rw [if_pos c1, if_pos (by omega), List.getElem?_append_right (by omega)]
          congr 1; omega
        · rw [if_neg c1]
          by_cases c2 : off ≤ j ∧ j < off + r.length
          · rw [if_pos c2, if_pos (by omega), List.getElem?_append_left (by omega)]
          · rw [if_neg c2, if_neg (by omega)]
    · cases hp
end
end Xv

namespace Xv
open Go
section
variable {P : Program} {φ : Lie} {h : Hp} {w : World} {f : Fr} {a : Act} {o : Oper}

def both (m : Nat) (c1 c2 : Nat → Option AV) (j : Nat) : Option AV := if j < m then c1 j else c2 (j - m)
theorem app_are {old rs : List (List AV)} {rw m n : Nat} {c1 c2 : Nat → Option AV} (h1 : RowsAre old rw m c1) (h2 : RowsAre rs rw n c2) : RowsAre (old ++ rs) rw (m + n) (both (m * rw) c1 c2) := by
  refine ⟨by rw [List.length_append, h1.len, h2.len], fun r hr => ?_, fun k j hk hj => ?_⟩
  · rcases List.mem_append.1 hr with hr | hr
    · exact h1.row r hr
    · exact h2.row r hr
  · unfold both
    by_cases hkm : k < m
    · rw [if_pos (mul_lt_of hkm hj), ← h1.cell k j hkm hj]
      simp only [List.getD_eq_getElem?_getD]
      rw [List.getElem?_append_left (by rw [h1.len]; exact hkm)]
    · have hge : m * rw ≤ k * rw := Nat.mul_le_mul_right _ (by omega)
      rw [if_neg (by omega), show k * rw + j - m * rw = (k - m) * rw + j by rw [Nat.mul_sub_right_distrib]; omega, ← h2.cell (k - m) j (by omega) hj]
      simp only [List.getD_eq_getElem?_getD]
      rw [List.getElem?_append_right (by rw [h1.len]; omega), h1.len]
theorem mkRows_cells {el rw n : Nat} {rs : List (List AV)} {c : Nat → Option AV} (hrw : 0 < rw) (hn : n ≤ 4096) (hr : RowsAre rs rw n c) (j : Nat) (x : AV) (hx : (mkRows el rw n rs).cell j = some x) : j < n * rw ∧ c j = some x := by
  obtain ⟨m1, m2⟩ := mkRows_spec (el := el) hrw hn hr
  by_cases hj : j < n * rw
  · exact ⟨hj, by rw [← m2 j hj]; exact hx⟩
  · simp only [mkRows, AO.cell, if_neg hj] at hx; cases hx
structure GrownSpec (el : Nat) (o : AO) (off rw len n : Nat) (c : Nat → Option AV) (o' : AO) : Prop where
  wf : o'.wf
  isC : o'.isCells = true
  cnt : o'.count = (len + n) * rw
  el1 : o'.el = el
  el0 : o.el = el
  fz1 : o'.fz = 0
  fz0 : o.fz = 0
  room : 0 < len * rw → off + len * rw ≤ o.count
  cell : ∀ (j : Nat) (x : AV), o'.cell j = some x → j < (len + n) * rw ∧ both (len * rw) (fun j => o.cell (off + j)) c j = some x
  one : o'.isOne = false
theorem grown_spec {el : Nat} {o o' : AO} {off rw len n : Nat} {rs : List (List AV)} {c : Nat → Option AV} (hw : o.wf) (hrw : 0 < rw) (hn : len + n ≤ 4096) (hr : RowsAre rs rw n c) (hg : grown el o off rw len n rs = some o') : GrownSpec el o off rw len n c o' := by
  have slow : ∀ old, o.el = el → o.fz = 0 → rowsOf o off rw len = some old → o' = mkRows el rw (len + n) (old ++ rs) → GrownSpec el o off rw len n c o' := by
    rintro old he hf ho rfl
    obtain ⟨r1, r2⟩ := rowsOf_spec hw ho
    have ra := app_are r1 hr
    exact ⟨(mkRows_spec (el := el) hrw hn ra).1, rfl, rfl, rfl, he, rfl, hf, r2, fun j x hx => mkRows_cells hrw hn ra j x hx, rfl⟩
  cases o with
  | one el' l =>
    simp only [grown] at hg
    split at hg
    · rename_i old ho
      obtain ⟨h1, h2⟩ := cond_some hg
      rw [beq_iff] at h1
      cases h2
      exact slow old h1.symm rfl ho rfl
    · cases hg
  | rows el' rw' cnt fz t =>
    simp only [grown] at hg
    obtain ⟨h1, hg⟩ := cond_some hg
    simp only [Bool.and_eq_true, beq_iff] at h1
    obtain ⟨rfl, rfl⟩ := h1
    cases hb : (Nat.beq rw rw' && Nat.beq off 0 && Nat.ble len cnt) with
    | false =>
      rw [hb] at hg
      simp only [cond_false] at hg
      split at hg
      · rename_i old ho
        cases hg
        exact slow old rfl rfl ho rfl
      · cases hg
    | true =>
      rw [hb] at hg
      simp only [cond_true, Option.some.injEq] at hg
      subst hg
      simp only [Bool.and_eq_true, beq_iff, ble_iff] at hb
      obtain ⟨⟨rfl, rfl⟩, hlc⟩ := hb
      obtain ⟨_, hcnt, hrows⟩ := hw
      have hrl := hr.len
      have key : ∀ k, k < len + n → rowGet (setRows t len rs) k = if k < len then rowGet t k else rs.getD (k - len) [] := fun k hk => by
        rw [setRows_spec rs t len (by omega) k (by omega)]
        by_cases hkl : k < len
        · rw [if_neg (by omega), if_pos hkl]
        · rw [if_pos (by omega), if_neg hkl]
      refine ⟨⟨hrw, hn, fun k hk => ?_⟩, rfl, rfl, rfl, rfl, rfl, rfl, fun _ => ?_, fun j x hx => ?_, rfl⟩
      · have hk : k < len + n := hk
        show (rowGet (setRows t len rs) k).length = rw
        rw [key k hk]
        split
        · exact hrows k (by omega)
        · rw [List.getD_eq_getElem?_getD, List.getElem?_eq_getElem (by omega), Option.getD_some]
          exact hr.row _ (List.getElem_mem _)
      · simp only [AO.count, Nat.zero_add]
        exact Nat.mul_le_mul_right _ hlc
      · simp only [AO.cell, nadd] at hx
        split at hx
        · rename_i hj
          have hk : j / rw < len + n := Nat.div_lt_of_lt_mul (by rw [Nat.mul_comm]; exact hj)
          have hm : j % rw < rw := Nat.mod_lt _ hrw
          refine ⟨hj, ?_⟩
          rw [key _ hk] at hx
          unfold both
          split at hx
          · rename_i hkl
            have hlt : j < len * rw := by have := mul_lt_of hkl hm; rwa [divmod] at this
            rw [if_pos hlt]
            simp only [AO.cell, Nat.zero_add]
            rw [if_pos (Nat.lt_of_lt_of_le hlt (Nat.mul_le_mul_right _ hlc))]
            exact hx
          · rename_i hkl
            have hge : len * rw ≤ j := by
              have h1 := Nat.mul_le_mul_right rw (show len ≤ j / rw by omega)
              have h2 := divmod (rw := rw) (j := j)
              omega
            rw [if_neg (by omega)]
            have := hr.cell (j / rw - len) (j % rw) (by omega) hm
            rw [hx] at this
            rw [this]
            congr 1
            rw [Nat.mul_sub_right_distrib]
            have h1 := Nat.mul_le_mul_right rw (show len ≤ j / rw by omega)
            have h2 := divmod (rw := rw) (j := j)
            omega
        · cases hx
  | _ => simp [grown] at hg
end
end Xv

namespace Xv
open Go
section
variable {P : Program} {φ : Lie} {h : Hp} {w : World} {f : Fr} {a : Act} {o : Oper}

theorem room_spec {bytes need old : Nat} (hr : room bytes need = true) (ho : old < need) : need ≤ 4095 ∧ ¬ Builtin.nextslicecap need old * bytes > 2 ^ 48 := by
  unfold room at hr
  simp only [Bool.and_eq_true, ble_iff, nmul, nadd, nsucc] at hr
  refine ⟨by omega, Nat.not_lt.2 ?_⟩
  exact growslice_fits_wide ho (Nat.le_trans (Nat.mul_le_mul_right _ (by omega)) hr.1)
theorem zeroCells_one {z : Array Value} (h1 : ∀ v ∈ z.toList, v.oneCell' = true) (hz : 0 < z.size) {n : Nat} : ∀ v ∈ (Builtin.zeroCells z n).toList, v.oneCell' = true := by
  intro v hv
  simp only [Builtin.zeroCells, Array.toList_map, List.mem_map] at hv
  obtain ⟨i, _, rfl⟩ := hv
  have hm : i % z.size < z.size := Nat.mod_lt _ hz
  rw [getElem!_pos z _ hm]
  exact h1 _ (by simp)
/-- What a grown row holds. -/
theorem grown_cells {m n rw : Nat} {c1 c2 : Nat → Option AV} {A B Z : Array Value} (h1 : CellsFor φ (m * rw) c1 A.toList) (h2 : CellsFor φ (n * rw) c2 B.toList) (hz : ∀ v ∈ Z.toList, v.oneCell' = true) :
    (∀ (j : Nat) (x : AV), j < (m + n) * rw → both (m * rw) c1 c2 j = some x → ∃ v, (A ++ B ++ Z)[j]? = some v ∧ den φ x v) ∧ ∀ v ∈ (A ++ B ++ Z).toList, v.oneCell' = true := by
  have ha : A.size = m * rw := by simpa using h1.1
  have hb : B.size = n * rw := by simpa using h2.1
  have e : (m + n) * rw = m * rw + n * rw := Nat.add_mul _ _ _
  refine ⟨fun j x hj hx => ?_, fun v hv => ?_⟩
  · rw [e] at hj
    rw [Array.getElem?_append_left (by rw [Array.size_append]; omega)]
    unfold both at hx
    split at hx
    · rename_i hlt
      obtain ⟨v, hv, hd⟩ := h1.2.1 j x hlt hx
      exact ⟨v, by rw [Array.getElem?_append_left (by omega), ← Array.getElem?_toList]; exact hv, hd⟩
    · rename_i hge
      obtain ⟨v, hv, hd⟩ := h2.2.1 _ x (by omega) hx
      exact ⟨v, by rw [Array.getElem?_append_right (by omega), ha, ← Array.getElem?_toList]; exact hv, hd⟩
  · simp only [Array.toList_append, List.mem_append] at hv
    rcases hv with (hv | hv) | hv
    · exact h1.2.2 v hv
    · exact h2.2.2 v hv
    · exact hz v hv
theorem rowsAre_mono {rs : List (List AV)} {rw n : Nat} {c d : Nat → Option AV} (hr : RowsAre rs rw n c) (hcd : ∀ j, j < n * rw → c j = d j) : RowsAre rs rw n d :=
  ⟨hr.len, hr.row, fun k j hk hj => (hr.cell k j hk hj).trans (hcd _ (mul_lt_of hk hj))⟩
theorem firstCells_of {i : Id} {off rw len cc : Nat} {ad : Addr} {vs : List Value} (hvs : vs.length = len * rw) (hcell : ∀ (j : Nat) (v : Value), vs[j]? = some v → w.cell? ⟨φ.blk i, φ.sh i + off + j, none⟩ = some v)
    (ha : len * rw ≠ 0 → ad = ⟨φ.blk i, φ.sh i + off, none⟩) : (Builtin.firstCells rw len (.slice (some ad) len cc)).run P w = .ok vs.toArray w := by
  by_cases h0 : len * rw = 0
  · have : vs = [] := List.eq_nil_of_length_eq_zero (by rw [hvs, h0])
    subst this
    simp [Builtin.firstCells, loadCells, h0, loadCellsFrom]
  · rw [ha h0]
    have hl := run_loadCells_list (P := P) w ⟨φ.blk i, φ.sh i + off, none⟩ vs (fun j v hv => by rw [add_addr]; exact hcell j v hv)
    rw [hvs] at hl
    simpa [Builtin.firstCells] using hl
theorem appendNil_sound {t u ty e : TypeId} {ud : TypeDesc} {i : TypeInfo} {z : List AV} (r : R φ h w) (ht : P.underlying t = some (.slice e)) (hu : P.underlying u = some ud) (hni : (∃ e', ud = .slice e') ∨ ud = .string)
    (hi : P.info? e = some i) (hz : zeroC P e = some z) (hpos : 0 < i.size) (hzl : z.length = i.size) {y : AV} {v : Value} (hy : den φ y v) : MemPost P φ h w (Builtin.append_ #[t, u] ty #[.slice none 0 0, v]) (appendE h e i.size i.bytes .nils y) := by
  unfold appendE
  split
  · rename_i rs n hrs hn
    obtain ⟨cs, c, l1, l2, ra, cf⟩ := src_sound (P := P) r hy hrs hn
    obtain ⟨cs', c', l1', l2', ra', cf'⟩ := src_sound (P := P) (r.same (same_drew w)) hy hrs hn
    cases n with
    | zero =>
      exact ⟨.slice none 0 0, w, append_fits (base := none) (sLen := 0) (sCap := 0) (w' := w) ht hu hni hi l1 l2 (Nat.le_refl _) (fun ad h => by cases h) (fun _ => rfl), by simp only [den], .refl w⟩
    | succ n =>
      simp only [nsucc]
      refine mp_cond (fun hroom => ?_) fun _ => mp_bad
      obtain ⟨i', zv, hi', hzv, hd⟩ := zeroC_spec hz
      rw [hi] at hi'; cases hi'
      obtain ⟨hb1, hb2⟩ := room_spec (old := 0) hroom (by omega)
      obtain ⟨cp, hcp, hrun⟩ := append_grows (w := w) (base := none) (sLen := 0) (sCap := 0) (old := #[]) ht hu hni hi hzv l1 l2' rfl (by omega) (by omega) (by rw [Nat.zero_add]; exact hb2)
      rw [Nat.zero_add] at hrun hcp
      have hzs : zv.cells.size = i.size := by have := denL_len (hd φ).1; simp at this; omega
      have hcs : cs'.size = (n + 1) * i.size := by simpa using cf'.1
      obtain ⟨k1, k2⟩ := grown_cells (φ := φ) (m := 0) (n := n + 1) (rw := i.size) (c1 := fun _ => none) (c2 := c') (A := #[]) (B := cs') (Z := Builtin.zeroCells zv.cells (cp - (n + 1))) ⟨by simp, fun j x hj => by omega, by simp⟩ cf' (zeroCells_one (hd φ).2 (by omega))
      have hb : ∀ j, both (0 * i.size) (fun _ => none) c' j = c' j := fun j => by unfold both; rw [if_neg (by omega)]; congr 1; omega
      refine grow_post (o' := mkRows e i.size (n + 1) rs) (e := e) (rw := i.size) (cc := c') (kill := none) (h0 := h) r hrun ?_ hcp (by simp) (fun j => by simp) rfl (mkRows_spec (el := e) hpos (by omega) ra').1 rfl rfl rfl rfl (fun j x hx => mkRows_cells hpos (by omega) ra' j x hx) (fun j x hj hx => k1 j x (by rw [Nat.zero_add]; exact hj) (by rw [hb]; exact hx)) k2
      simp only [Array.size_append, hcs, size_zeroCells, hzs]
      rw [show (#[] : Array Value).size = 0 from rfl, Nat.zero_add, ← Nat.add_mul]
      congr 1
      omega
  · exact mp_bad
end
end Xv

namespace Xv
open Go
section
variable {P : Program} {φ : Lie} {h : Hp} {w : World} {f : Fr} {a : Act} {o : Oper}

theorem live_of_cells {o : AO} (h : o.isCells = true) : live o = true := by cases o <;> first | rfl | simp [AO.isCells] at h
theorem isCells_put {rw : Nat} {rs : List (List AV)} {o o' : AO} {off : Nat} (hne : rs ≠ []) (hp : putRows o off rw rs = some o') : o.isCells = true := by
  cases rs with
  | nil => exact absurd rfl hne
  | cons r rs =>
    simp only [putRows] at hp
    split at hp
    · rename_i o1 h1
      cases o <;> first | rfl | simp [setCells] at h1
    · cases hp
theorem isCells_grown {el : Nat} {o o' : AO} {off rw len n : Nat} {rs : List (List AV)} (hg : grown el o off rw len n rs = some o') : o.isCells = true := by
  cases o <;> first | rfl | simp [grown] at hg
/-- An append in place, of which we know not that it is in place: the old name is dead. -/
theorem grown_place {el rw off len n c : Nat} {i : Id} {o' : AO} {_rs : List (List AV)} {cc : Nat → Option AV} {vs : List Value} {s : Sem Value} (r : R φ h w) (hic : (h.get i).isCells = true) (_hrw : 0 < rw) (g : GrownSpec el (h.get i) off rw len n cc o')
    (_hd : φ.dom i) (hcf : CellsFor φ (n * rw) cc vs) (hfit : len + n ≤ c) (hsz : φ.sh i + off + c * rw ≤ φ.sz i)
    (hrun : ∀ w', (storeCells ⟨φ.blk i, φ.sh i + off + len * rw, none⟩ vs).run P w = .ok () w' → s.run P w = .ok (.slice (some ⟨φ.blk i, φ.sh i + off, none⟩) (len + n) c) w') :
    MemPost P φ h w s (alloc (h.set i .dead) o' fun j => .slice j 0 rw (len + n) (len + n) false) := by
  unfold alloc
  refine mp_cond (fun hn => ?_) fun _ => trivial
  have hnx : (h.set i .dead).nx = h.nx := rfl
  rw [hnx, Hp.get_set] at hn
  split at hn
  · cases hn
  · rename_i hni
    have hnd : ¬ φ.dom h.nx := fun d => by rw [(r.dom _).1 d] at hn; cases hn
    have le : φ.le (φ.put h.nx (φ.blk i) (φ.sh i + off) (φ.sz i)) := Lie.le_put hnd
    have ok := cellsOk_of r hic
    obtain ⟨arr, fr, b1, b2, b3, b4, b5, b6⟩ := ok.blk
    have hvl := hcf.1
    have e1 : (len + n) * rw = len * rw + n * rw := Nat.add_mul _ _ _
    have e2 : (len + n) * rw ≤ c * rw := Nat.mul_le_mul_right _ hfit
    obtain ⟨arr', g1, g2, g3, g4, g5, g6, g7, g8⟩ := setCells_heap vs (φ.sh i + off + len * rw) w arr b1 (by omega)
    have hst := run_storeCells_cells (P := P) (φ.blk i) (φ.sh i + off + len * rw) vs 0 w (fun j hj => by
        have : φ.sh i + off + len * rw + 0 + j < arr.size := by omega
        simp only [World.cell?, b1]
        simp only [Option.isSome_none, Bool.false_eq_true, if_false]
        rw [Array.getElem?_eq_getElem this]; rfl) (fun j hj => by
        have hb := b6 (φ.sh i + off + len * rw + 0 + j)
        rw [g.fz0] at hb
        simp only [World.frozen?, b1]
        by_cases cnd : fr.1 ≤ φ.sh i + off + len * rw + 0 + j ∧ φ.sh i + off + len * rw + 0 + j < fr.2
        · have := hb cnd.1 cnd.2 (by omega)
          omega
        · simp only [Bool.and_eq_false_iff, decide_eq_false_iff_not]; omega) hcf.2.2
    rw [Nat.add_zero] at hst
    have hob : objOk (φ.put h.nx (φ.blk i) (φ.sh i + off) (φ.sz i)) (w.setCells (φ.blk i) (φ.sh i + off + len * rw) vs) h.nx o' := by
      have q1 : (φ.put h.nx (φ.blk i) (φ.sh i + off) (φ.sz i)).blk h.nx = φ.blk i := if_pos rfl
      have q2 : (φ.put h.nx (φ.blk i) (φ.sh i + off) (φ.sz i)).sh h.nx = φ.sh i + off := if_pos rfl
      have q3 : (φ.put h.nx (φ.blk i) (φ.sh i + off) (φ.sz i)).sz h.nx = φ.sz i := if_pos rfl
      have key : CellsOk (φ.put h.nx (φ.blk i) (φ.sh i + off) (φ.sz i)) (w.setCells (φ.blk i) (φ.sh i + off + len * rw) vs) h.nx o' := by
        refine ⟨g.wf, (fun h => by rw [g.one] at h; cases h), (fun h => by rw [AO.ro, g.fz1] at h; cases h), arr', fr, by rw [q1, g.el1, ← g.el0]; exact g1, by rw [q3, g2]; exact b2, by rw [q2, g.cnt, g2]; omega, fun j x hx => ?_, fun j v hv => ?_, fun j h1 h2 h3 => ?_⟩
        · obtain ⟨hj, hx'⟩ := g.cell j x hx
          rw [q2, g3]
          unfold both at hx'
          split at hx'
          · rename_i hlt
            obtain ⟨v, hv, hdv⟩ := b4 _ _ hx'
            rw [if_neg (by omega)]
            exact ⟨v, by rw [← hv]; congr 1; omega, den_mono le _ _ hdv⟩
          · rename_i hge
            obtain ⟨v, hv, hdv⟩ := hcf.2.1 _ x (by omega) hx'
            rw [if_pos (by omega)]
            exact ⟨v, by rw [← hv]; congr 1; omega, den_mono le _ _ hdv⟩
        · rw [g3] at hv
          split at hv
          · exact hcf.2.2 v (List.mem_of_getElem? hv)
          · exact b5 j v hv
        · have := b6 j h1 h2 (by rw [← g2]; exact h3)
          rw [g.fz0] at this
          rw [q2]; omega
      have := g.isC
      cases o' <;> first | exact key | simp [AO.isCells] at this
    obtain ⟨r', st⟩ := new_R (h' := ⟨put4 (h.set i .dead).t (h.set i .dead).nx o', (h.set i .dead).nx.nxt, (h.set i .dead).orc⟩) (w' := w.setCells (φ.blk i) (φ.sh i + off + len * rw) vs) (n := h.nx) (o' := o') (b := φ.blk i) (s := φ.sh i + off) (z := φ.sz i) (kill := some i) r hn (live_of_cells g.isC)
      (fun k hk => by cases hk; exact live_of_cells hic)
      (fun j => by
        show get4 (put4 (h.set i .dead).t (h.set i .dead).nx o') j = _
        rw [get4_put4, hnx]
        split
        · rfl
        · show (h.set i .dead).get j = _
          rw [Hp.get_set]
          by_cases hj : j = i
          · rw [if_pos hj, if_pos (by rw [hj])]
          · rw [if_neg hj, if_neg (by simpa using Ne.symm hj)]) (.inr ⟨i, rfl, rfl⟩) (by rw [g5]; exact r.lt i (live_of_cells hic)) (Nat.le_of_eq g5.symm) (fun c hc hne => g4 c hne) (fun ents ver => .inl (by rw [g1]; simp)) hob g6 g7 g8
    refine ⟨_, _, _, hrun _ hst, r', st, ?_⟩
    rw [hnx]
    have q : (φ.put h.nx (φ.blk i) (φ.sh i + off) (φ.sz i)).dom h.nx := .inl rfl
    simp only [den]
    exact ⟨q, _, c, rfl, Nat.le_refl _, hfit, by simp, fun _ => ⟨by simp [Lie.put], by simp only [Lie.put, if_true]; omega⟩⟩
end
end Xv

namespace Xv
open Go
section
variable {P : Program} {φ : Lie} {h : Hp} {w : World} {f : Fr} {a : Act} {o : Oper}

theorem range_at {i : Id} {off m : Nat} (r : R φ h w) (hic : (h.get i).isCells = true) (hroom : 0 < m → off + m ≤ (h.get i).count) :
    ∃ vs : List Value, CellsFor φ m (fun j => (h.get i).cell (off + j)) vs ∧ ∀ (j : Nat) (v : Value), vs[j]? = some v → w.cell? ⟨φ.blk i, φ.sh i + off + j, none⟩ = some v := by
  have ok := cellsOk_of r hic
  obtain ⟨arr, fr, b1, b2, b3, b4, b5, b6⟩ := ok.blk
  by_cases hn : m = 0
  · exact ⟨[], ⟨hn.symm, fun j x hj => by omega, by simp⟩, by simp⟩
  · have hlt := hroom (by omega)
    have e : ∀ j, j < m → ((arr.toList.drop (φ.sh i + off)).take m)[j]? = arr[φ.sh i + off + j]? := fun j hj => by
      rw [List.getElem?_take_of_lt hj, List.getElem?_drop, Array.getElem?_toList]
    have lt : ∀ (j : Nat) (v : Value), ((arr.toList.drop (φ.sh i + off)).take m)[j]? = some v → j < m := fun j v hv => by
      have := (List.getElem?_eq_some_iff.1 hv).1
      simp at this; omega
    refine ⟨(arr.toList.drop (φ.sh i + off)).take m, ⟨by simp; omega, fun j x hj hx => ?_, fun v hv => ?_⟩, fun j v hv => ?_⟩
    · obtain ⟨v, hv, hd⟩ := b4 _ _ hx
      exact ⟨v, by rw [e j hj, Nat.add_assoc]; exact hv, hd⟩
    · obtain ⟨j, hj⟩ := List.getElem?_of_mem hv
      have hjn := lt j v hj
      rw [e j hjn] at hj
      exact b5 _ _ hj
    · have hjn := lt j v hv
      rw [e j hjn] at hv
      simp [World.cell?, b1, hv]
/-- A new block behind a slice's rows and the new ones. -/
theorem append_new {t u ty e : TypeId} {ud : TypeDesc} {i : TypeInfo} {z : List AV} {h0 : Hp} {o' : AO} {kill : Option Id} {b : Option Addr} {len cc n : Nat} {v : Value} {c1 c2 : Nat → Option AV} (r : R φ h w) (ht : P.underlying t = some (.slice e)) (hu : P.underlying u = some ud) (hni : (∃ e', ud = .slice e') ∨ ud = .string)
    (hi : P.info? e = some i) (hz : zeroC P e = some z) (hpos : 0 < i.size) (hzl : z.length = i.size) (hfit : ¬ len + n ≤ cc) (hroom : room i.bytes (len + n) = true)
    (hk : ∀ k, kill = some k → live (h.get k) = true) (hget : ∀ j, h0.get j = if kill = some j then .dead else h.get j) (hnx : h0.nx = h.nx)
    (hw : o'.wf) (hic : o'.isCells = true) (hro : o'.isOne = false) (hcnt : o'.count = (len + n) * i.size) (hel : o'.el = e) (hcell : ∀ (j : Nat) (x : AV), o'.cell j = some x → j < (len + n) * i.size ∧ both (len * i.size) c1 c2 j = some x)
    (hlen : (Builtin.lenOf v).run P w = .ok n w) (hsrc : ∃ cs : Array Value, (Builtin.firstCells i.size n v).run P w.drew = .ok cs w.drew ∧ CellsFor φ (n * i.size) c2 cs.toList)
    (hold : ∃ old : Array Value, (Builtin.firstCells i.size len (.slice b len cc)).run P w.drew = .ok old w.drew ∧ CellsFor φ (len * i.size) c1 old.toList) :
    MemPost P φ h w (Builtin.append_ #[t, u] ty #[.slice b len cc, v]) (alloc h0 o' fun j => .slice j 0 i.size (len + n) (len + n) false) := by
  obtain ⟨cs, l2, cf⟩ := hsrc
  obtain ⟨old, lo, co⟩ := hold
  obtain ⟨i', zv, hi', hzv, hd⟩ := zeroC_spec hz
  rw [hi] at hi'; cases hi'
  obtain ⟨hb1, hb2⟩ := room_spec (old := cc) hroom (by omega)
  obtain ⟨cp, hcp, hrun⟩ := append_grows (ty := ty) (w := w) (base := b) (sLen := len) (sCap := cc) (old := old) ht hu hni hi hzv hlen l2 lo hfit (by omega) hb2
  have hzs : zv.cells.size = i.size := by have := denL_len (hd φ).1; simp at this; omega
  have hcs : cs.size = n * i.size := by simpa using cf.1
  have hos : old.size = len * i.size := by simpa using co.1
  obtain ⟨k1, k2⟩ := grown_cells (φ := φ) co cf (zeroCells_one (n := cp - (len + n)) (hd φ).2 (by omega))
  refine grow_post r hrun ?_ hcp hk hget hnx hw hic hro hcnt hel hcell (fun j x hj hx => k1 j x hj hx) k2
  simp only [Array.size_append, hcs, hos, size_zeroCells, hzs]
  rw [← Nat.add_mul, ← Nat.add_mul]
  congr 1
  omega
theorem appendSl_sound {t u ty e : TypeId} {ud : TypeDesc} {i : TypeInfo} {z : List AV} (r : R φ h w) (ht : P.underlying t = some (.slice e)) (hu : P.underlying u = some ud) (hni : (∃ e', ud = .slice e') ∨ ud = .string)
    (hi : P.info? e = some i) (hz : zeroC P e = some z) (hpos : 0 < i.size) (hzl : z.length = i.size) {q : Id} {off rw' len cap : Nat} {ex : Bool} {y : AV} {x v : Value} (hx : den φ (.slice q off rw' len cap ex) x) (hy : den φ y v) :
    MemPost P φ h w (Builtin.append_ #[t, u] ty #[x, v]) (appendE h e i.size i.bytes (.slice q off rw' len cap ex) y) := by
  have hx0 := hx
  simp only [den] at hx
  obtain ⟨hd, ad, c, rfl, x1, x2, x3, x4⟩ := hx
  unfold appendE
  split
  · rename_i rs n hrs hn
    obtain ⟨cs, c2, l1, l2, ra, cf⟩ := src_sound (P := P) r hy hrs hn
    cases n with
    | zero =>
      have h0 : cs.toList = [] := List.eq_nil_of_length_eq_zero (by rw [cf.1, Nat.zero_mul])
      exact ⟨.slice (some ad) len c, w, append_fits (base := some ad) (sLen := len) (sCap := c) (w' := w) ht hu hni hi l1 l2 (by omega) (fun b hb => by rw [h0]; rfl) (fun hb => by cases hb), hx0, .refl w⟩
    | succ n =>
      simp only [nsucc, nadd, nmul]
      refine mp_cond (fun hc => ?_) fun _ => mp_bad
      simp only [Bool.and_eq_true, beq_iff] at hc
      obtain ⟨rfl, hroom⟩ := hc
      have hne : rs ≠ [] := by intro e; have := ra.len; rw [e] at this; simp at this
      have hmax : len + (n + 1) ≤ 4095 := by
        unfold room at hroom
        simp only [Bool.and_eq_true, ble_iff, nsucc] at hroom
        omega
      refine mp_cond (fun hin => ?_) fun hout => ?_
      · rw [ble_iff] at hin
        split
        · rename_i o' hp
          have hic := isCells_put hne hp
          have sp := putRows_spec (cellsOk_of r hic).wf hne ra.row hp
          obtain ⟨r', st, hrun⟩ := store_R (P := P) r hic sp (flat_den ra cf) cf.2.2
          obtain ⟨e1, e2⟩ := x4 (by omega)
          have hst := (hrun (φ.sh q + (off + len * i.size))).resolve_right (by omega)
          rw [Nat.sub_self] at hst
          refine ⟨.slice (some ad) (len + (n + 1)) c, _, φ, append_fits (base := some ad) (sLen := len) (sCap := c) ht hu hni hi l1 l2 (by omega) (fun b hb => ?_) (fun hb => by cases hb), r', st, ?_⟩
          · cases hb
            rw [e1, add_addr, Nat.add_assoc]
            exact hst
          · simp only [den]
            exact ⟨hd, ad, c, rfl, hin, x2, x3, x4⟩
        · exact mp_bad
      · have hout' : ¬ len + (n + 1) ≤ cap := fun hle => by rw [ble_iff.2 hle] at hout; cases hout
        have src' : ∃ cs : Array Value, (Builtin.firstCells i.size (n + 1) v).run P w.drew = .ok cs w.drew ∧ RowsAre rs i.size (n + 1) c2 ∧ CellsFor φ ((n + 1) * i.size) c2 cs.toList := by
          obtain ⟨cs', c', _, l2', ra', cf'⟩ := src_sound (P := P) (r.same (same_drew w)) hy hrs hn
          obtain ⟨f1, f2⟩ := flat_are ra
          obtain ⟨f1', f2'⟩ := flat_are ra'
          exact ⟨cs', l2', ra, cf'.1, fun j x hj hx => cf'.2.1 j x hj (by rw [← f2' j hj, f2 j hj]; exact hx), cf'.2.2⟩
        obtain ⟨cs', s1, s2, s3⟩ := src'
        cases ex with
        | true =>
          simp only [cond_true]
          split
          · rename_i o1 ho1
            split at ho1
            · rename_i old hold
              cases ho1
              obtain ⟨vs, v1, v2, v3, v4⟩ := rows_at (r.same (same_drew w)) hold
              have raa := app_are v2 ra
              have hccap : c = cap := x3 rfl
              refine append_new (kill := none) (h0 := h) (c1 := fun j => (h.get q).cell (off + j)) (c2 := c2) r ht hu hni hi hz hpos hzl (by omega) hroom (by simp) (fun j => by simp) rfl (mkRows_spec (el := e) hpos (by omega) raa).1 rfl rfl rfl rfl (fun j x hx => mkRows_cells hpos (by omega) raa j x hx) l1 ⟨cs', s1, s3⟩ ⟨vs.toArray, ?_, by simpa using v1⟩
              refine firstCells_of (φ := φ) (i := q) (off := off) v1.1 v4 fun hne => (x4 ?_).1
              intro h0
              have : len = 0 := by omega
              subst this; simp at hne
            · cases ho1
          · exact mp_bad
        | false =>
          simp only [cond_false]
          split
          · rename_i o1 hg
            have hic := isCells_grown hg
            have gs := grown_spec (cellsOk_of r hic).wf hpos (by omega) ra hg
            by_cases hf : len + (n + 1) ≤ c
            · obtain ⟨e1, e2⟩ := x4 (by omega)
              refine grown_place (vs := cs.toList) (_rs := rs) r hic hpos gs hd cf hf e2 fun w' hst => ?_
              rw [← e1]
              refine append_fits (base := some ad) (sLen := len) (sCap := c) (w' := w') ht hu hni hi l1 l2 hf (fun b hb => ?_) (fun hb => by cases hb)
              cases hb
              rw [e1, add_addr]
              exact hst
            · have hrow : ∃ vs : List Value, CellsFor φ (len * i.size) (fun j => (h.get q).cell (off + j)) vs ∧ ∀ (j : Nat) (v : Value), vs[j]? = some v → w.drew.cell? ⟨φ.blk q, φ.sh q + off + j, none⟩ = some v := range_at (r.same (same_drew w)) hic gs.room
              obtain ⟨vs, v1, v4⟩ := hrow
              refine append_new (kill := some q) (h0 := h.set q .dead) (c1 := fun j => (h.get q).cell (off + j)) (c2 := c2) r ht hu hni hi hz hpos hzl hf hroom (fun k hk => by cases hk; exact live_of_cells hic) (fun j => by
                rw [Hp.get_set]
                by_cases hj : j = q
                · rw [if_pos hj, if_pos (by rw [hj])]
                · rw [if_neg hj, if_neg (by simpa using Ne.symm hj)]) rfl gs.wf gs.isC gs.one gs.cnt gs.el1 gs.cell l1 ⟨cs', s1, s3⟩ ⟨vs.toArray, ?_, by simpa using v1⟩
              refine firstCells_of (φ := φ) (i := q) (off := off) v1.1 v4 fun hne => (x4 ?_).1
              intro h0
              have : len = 0 := by omega
              subst this; simp at hne
          · exact mp_bad
  · exact mp_bad
end
end Xv

namespace Xv
open Go
section
variable {P : Program} {φ : Lie} {h : Hp} {w : World} {f : Fr} {a : Act} {o : Oper}

theorem sliceOrStr_spec {d : TypeDesc} (h : sliceOrStr d = true) : (∃ e', d = .slice e') ∨ d = .string := by
  cases d <;> first | exact .inl ⟨_, rfl⟩ | exact .inr rfl | simp [sliceOrStr] at h
theorem bytesRow_spec : ∀ {rs : List (List AV)} {l : List Nat}, bytesRow rs = some l → rs = (l.map fun b => [.u8 b]) ∧ ∀ b ∈ l, b < 256
  | [], l, hh => by simp only [bytesRow, Option.some.injEq] at hh; subst hh; exact ⟨rfl, by simp⟩
  | r :: rs, l, hh => by
    unfold bytesRow at hh
    split at hh
    · rename_i e; cases e
    · rename_i b r' e
      cases e
      obtain ⟨hb, hh⟩ := cond_some hh
      rw [ble_iff] at hb
      split at hh
      · rename_i l' hl
        cases hh
        obtain ⟨h1, h2⟩ := bytesRow_spec hl
        rw [h1]
        exact ⟨rfl, fun x hx => by
          rcases List.mem_cons.1 hx with rfl | hx
          · omega
          · exact h2 x hx⟩
      · cases hh
    · cases hh
end
end Xv

namespace Xv
open Go
section
variable {P : Program} {φ : Lie} {h : Hp} {w : World} {f : Fr} {a : Act} {o : Oper}

theorem src_part {rw n k : Nat} {y : AV} {v : Value} {rs : List (List AV)} (r : R φ h w) (hy : den φ y v) (hrs : firstRows h rw k y = some rs) (hn : lenOf y = some n) (hk : k ≤ n) :
    ∃ (cs : Array Value) (c : Nat → Option AV), (Builtin.lenOf v).run P w = .ok n w ∧ (Builtin.firstCells rw k v).run P w = .ok cs w ∧ RowsAre rs rw k c ∧ CellsFor φ (k * rw) c cs.toList := by
  cases y <;> simp only [firstRows, reduceCtorEq] at hrs <;> simp only [lenOf, Option.some.injEq] at hn <;> simp only [den] at hy
  case nils =>
    subst hy; subst hn
    have : k = 0 := by omega
    subst this
    cases hrs
    exact ⟨#[], fun _ => none, rfl, rfl, ⟨rfl, by simp, fun k j hk => absurd hk (Nat.not_lt_zero _)⟩, ⟨by simp, fun j x _ hx => (by cases hx), by simp⟩⟩
  case slice i off rw' len cap ex =>
    subst hn
    obtain ⟨d, ad, cc, rfl, g1, g2, g3, g4⟩ := hy
    obtain ⟨vs, hvs, ha, _, hcell⟩ := rows_at r hrs
    refine ⟨vs.toArray, _, rfl, ?_, ha, by simpa using hvs⟩
    by_cases h0 : k * rw = 0
    · have : vs = [] := List.eq_nil_of_length_eq_zero (by rw [hvs.1, h0])
      subst this
      simp [Builtin.firstCells, loadCells, h0, loadCellsFrom]
    · have hc0 : cc ≠ 0 := by
        intro h; subst h
        have : k = 0 := by omega
        subst this; simp at h0
      obtain ⟨e1, _⟩ := g4 hc0
      subst e1
      have hl := run_loadCells_list (P := P) w ⟨φ.blk i, φ.sh i + off, none⟩ vs (fun j v hv => by rw [add_addr]; exact hcell j v hv)
      rw [hvs.1] at hl
      simpa [Builtin.firstCells] using hl
  case str l m =>
    subst hn
    obtain ⟨s, rfl, hs⟩ := hy
    obtain ⟨hb, hrs⟩ := cond_some hrs
    rw [beq_iff] at hb; subst hb
    cases hrs
    have hsz := hs.size
    have hex : (s.extract 0 k).data = s.data.extract 0 k := by simp
    have hsd : s.data.size = l := hsz
    refine ⟨(s.extract 0 k).data.map fun b => .int .u8 b.toNat, _, by simp [Builtin.lenOf, hsz], rfl, u8s_are, ?_⟩
    rw [hex]
    refine ⟨by simp only [Array.toList_map, List.length_map, Array.length_toList, Nat.mul_one, Array.size_extract]; omega, fun j x hj hx => ?_, fun v hv => ?_⟩
    · rw [Nat.mul_one] at hj
      simp only [if_pos hj] at hx
      cases hx
      obtain ⟨b, hb1, hb2⟩ := hs.get (show j < l by omega)
      have hb3 : s.data[j]? = some b := by
        obtain ⟨h3, h4⟩ := getElem?_eq_some_iff.1 hb1
        exact Array.getElem?_eq_some_iff.2 ⟨h3, h4⟩
      have hb4 : (s.data.extract 0 k)[j]? = some b := by
        rw [Array.getElem?_extract, if_pos (by omega), Nat.zero_add]; exact hb3
      exact ⟨.int .u8 b.toNat, by rw [Array.getElem?_toList, Array.getElem?_map, hb4]; rfl, by simp only [den]; rw [hb2]⟩
    · simp only [Array.toList_map, List.mem_map] at hv
      obtain ⟨b, _, rfl⟩ := hv
      rfl
end
end Xv

namespace Xv
open Go
section
variable {P : Program} {φ : Lie} {h : Hp} {w : World} {f : Fr} {a : Act} {o : Oper}

theorem copy_sound {t u ty e : TypeId} {rw : Nat} (r : R φ h w) (ht : P.underlying t = some (.slice e)) (hz : szO P e = some rw) (_hrw : 0 < rw) {x y : AV} {d v : Value} (hx : den φ x d) (hy : den φ y v) :
    MemPost P φ h w (Builtin.copy_ #[t, u] ty #[d, v]) (copyE h rw x y) := by
  have hsz := sizeOf_run hz
  unfold copyE
  split
  · rename_i n m hn hm
    cases x <;> simp only [lenOf, Option.some.injEq, reduceCtorEq] at hn <;> simp only [den] at hx
    case nils =>
      subst hn; subst hx
      have hlen : (Builtin.lenOf v).run P w = .ok m w := by
        cases y <;> simp only [lenOf, Option.some.injEq, reduceCtorEq] at hm <;> simp only [den] at hy
        · obtain ⟨s, rfl, hs⟩ := hy; rw [← hm, ← hs.size]; rfl
        · obtain ⟨_, _, _, rfl, _⟩ := hy; rw [← hm]; rfl
        · subst hy; rw [← hm]; rfl
      have hfst : ∃ cs, (Builtin.firstCells rw 0 v).run P w = .ok cs w := by
        cases y <;> simp only [lenOf, Option.some.injEq, reduceCtorEq] at hm <;> simp only [den] at hy
        · obtain ⟨s, rfl, hs⟩ := hy; exact ⟨_, rfl⟩
        · obtain ⟨_, ad, _, rfl, _⟩ := hy; exact ⟨#[], by simp [Builtin.firstCells, loadCells, loadCellsFrom]⟩
        · subst hy; exact ⟨_, rfl⟩
      obtain ⟨cs, hfst⟩ := hfst
      have hmin : Nat.min m 0 = 0 := Nat.min_zero m
      refine ⟨.int .i64 0, w, ?_, by simp only [den], .refl w⟩
      simp [Builtin.copy_, underlying_run ht, hsz, hlen, hfst, goInt]
    case str => exact mp_bad
    case slice i off rw' len cap ex =>
      subst hn
      obtain ⟨hd, ad, c, rfl, x1, x2, x3, x4⟩ := hx
      simp only []
      split
      · rename_i hrs
        obtain ⟨cs, cc, l1, l2, ra, cf⟩ := src_part (P := P) r hy hrs hm (Nat.min_le_left m len)
        have h0 : Nat.min m len = 0 := by have := ra.len; simpa using this.symm
        have hcs : cs.toList = [] := List.eq_nil_of_length_eq_zero (by rw [cf.1, h0, Nat.zero_mul])
        refine ⟨.int .i64 (Nat.min m len), w, ?_, by simp only [den]; rfl, .refl w⟩
        simp [Builtin.copy_, underlying_run ht, hsz, l1, l2, goInt, hcs, storeCells]
      · rename_i rs hne hrs
        obtain ⟨cs, cc, l1, l2, ra, cf⟩ := src_part (P := P) r hy hrs hm (Nat.min_le_left m len)
        split
        · rename_i o' hp
          have hne' : rs ≠ [] := by rintro rfl; exact hne rfl
          have hic := isCells_put hne' hp
          have sp := putRows_spec (cellsOk_of r hic).wf hne' ra.row hp
          obtain ⟨r', st, hrun⟩ := store_R (P := P) r hic sp (flat_den ra cf) cf.2.2
          have hpos : 0 < Nat.min m len := by
            have := ra.len
            have := List.length_pos_iff.2 hne'
            omega
          have hle : Nat.min m len ≤ len := Nat.min_le_right m len
          obtain ⟨e1, e2⟩ := x4 (by omega)
          have hst := (hrun (φ.sh i + off)).resolve_right (by omega)
          rw [Nat.sub_self] at hst
          refine ⟨.int .i64 (Nat.min m len), _, φ, ?_, r', st, by simp only [den]; rfl⟩
          rw [e1]
          simp [Builtin.copy_, underlying_run ht, hsz, l1, l2, goInt, hst]
        · exact mp_bad
      · exact mp_bad
  · exact mp_bad
end
end Xv

namespace Xv
open Go
section
variable {P : Program} {φ : Lie} {h : Hp} {w : World} {f : Fr} {a : Act} {o : Oper}

/-- Bytes of a row, as a string. -/
theorem bytes_den {l : List Nat} {vs : List Value} {n : Nat} {c : Nat → Option AV} (ha : RowsAre (l.map fun b => [.u8 b]) 1 n c) (hc : CellsFor φ (n * 1) c vs) : l.length = n ∧ vs = l.map fun b => .int .u8 (Int.ofNat b) := by
  have hn : l.length = n := by simpa using ha.len
  refine ⟨hn, List.ext_getElem? fun j => ?_⟩
  by_cases hj : j < n
  · have h1 := ha.cell j 0 hj (by omega)
    have hjl : j < l.length := by omega
    simp only [List.getD_eq_getElem?_getD, List.getElem?_map, List.getElem?_eq_getElem hjl, Option.map_some, Option.getD_some] at h1
    obtain ⟨v, hv, hd⟩ := hc.2.1 j (.u8 l[j]) (by omega) (by rw [← show c (j * 1 + 0) = c j by simp, ← h1]; rfl)
    simp only [den] at hd
    subst hd
    rw [hv, List.getElem?_map, List.getElem?_eq_getElem hjl]; rfl
  · rw [List.getElem?_eq_none (by have := hc.1; omega), List.getElem?_eq_none (by simp; omega)]
end
end Xv

namespace Xv
open Go
section
variable {P : Program} {φ : Lie} {h : Hp} {w : World} {f : Fr} {a : Act} {o : Oper}

theorem push_fold : ∀ (l : List Nat) (s : ByteArray), ((l.map Int.ofNat).foldl (fun r n => r.push (UInt8.ofNat n.toNat)) s).data.toList = s.data.toList ++ l.map UInt8.ofNat
  | [], s => by simp
  | b :: l, s => by
    simp only [List.map_cons, List.foldl_cons]
    rw [push_fold l]
    simp [ByteArray.push]
theorem fold_is {l : List Nat} (hl : ∀ b ∈ l, b < 256) : strIs l.length (ofBytes l) ((l.map Int.ofNat).foldl (fun r n => r.push (UInt8.ofNat n.toNat)) ByteArray.empty) := by
  refine strIs_ofBytes _ l ?_
  rw [push_fold]
  simp only [ByteArray.empty, ByteArray.emptyWithCapacity, List.map_append, List.map_map]
  have : l.map (UInt8.toNat ∘ UInt8.ofNat) = l := by
    conv => rhs; rw [← List.map_id l]
    exact List.map_congr_left fun b hb => by simp [Nat.mod_eq_of_lt (hl b hb)]
  simp only [this]; rfl
end
end Xv

namespace Xv
open Go
section
variable {P : Program} {φ : Lie} {h : Hp} {w : World} {f : Fr} {a : Act} {o : Oper}

theorem b2s_sound {x : AV} {v : Value} (r : R φ h w) (hx : den φ x v) : ValPost P φ w (Conv.bytesToString v) (b2sE h x) := by
  unfold b2sE
  cases x <;> simp only [den] at hx <;> first | trivial | skip
  case nils =>
    subst hx
    refine ⟨.string .empty, rfl, ?_⟩
    simp only [den]
    exact ⟨_, rfl, by simpa [ofBytes] using strIs_ofBytes .empty [] rfl⟩
  case slice i off rw' len cap ex =>
    obtain ⟨hd, ad, c, rfl, x1, x2, x3, x4⟩ := hx
    simp only []
    split
    · rename_i rs hrs
      split
      · rename_i l hl
        obtain ⟨vs, v1, v2, _, v4⟩ := rows_at r hrs
        obtain ⟨e1, e2⟩ := bytesRow_spec hl
        subst e1
        obtain ⟨b1, b2⟩ := bytes_den v2 v1
        have hfc := firstCells_of (P := P) (φ := φ) (i := i) (off := off) (rw := 1) (len := len) (cc := c) (ad := ad) v1.1 v4 fun hne => (x4 (by omega)).1
        have hld : (loadCells ad len).run P w = .ok ((l.map Int.ofNat).map (Value.int .u8)).toArray w := by
          simp only [Builtin.firstCells, Nat.mul_one] at hfc
          rw [hfc, b2, List.map_map]; rfl
        refine ⟨_, run_bytesToString w ad len c (l.map Int.ofNat) hld, ?_⟩
        simp only [den]
        exact ⟨_, rfl, by rw [← b1]; exact fold_is e2⟩
      · trivial
    · trivial
end
end Xv

namespace Xv
open Go

/-- All that may be walked in a frame that is a round of loop ro (or of none). -/
abbrev FW (ro : Option Nat) : Fence := { fn := fun _ => True, depth := none, alive := false, round := ro }
section
variable {P : Program} {ro : Option Nat} {n : Nat}
theorem fen (m : Machine) : m.fenced P (FW ro) := fenced_wide P m
theorem roomF {k : Nat} : (FW ro).room k := fun _ h => by cases h
theorem stepsF {m m' : Machine} : StepsIn (Machine.fenced P (FW ro)) P m m' ↔ Steps P m m' := stepsIn_wide
theorem callsF {f : FuncId} {args : Array Value} {w : World} {R : Ending → World → Prop} : CallsIn (FW ro) n P f args w R ↔ Calls P f args w R := callsIn_wide (n := n)
theorem rowsF {row : String} {args : Array Value} {w : World} {R : Value → World → Prop} (h : Rows P row args w R) : RowsIn (FW ro) n P row args w R :=
  fun c cs _ => let ⟨v, w', r, s⟩ := h c cs; ⟨v, w', r, stepsF.2 s⟩
theorem op_in {o : Oper} {a : Act} {w : World} {K : Act → World → Prop} {Q : Exit → Act → World → Prop} (hnd : ro = none ∨ ∀ c, o.op ≠ .defer c) (h : o.wp P a w K Q) : o.wpIn (FW ro) 0 P a w K Q := by
  refine ⟨fun _ _ => trivial, ?_⟩
  have hs : o.semAt ro a.eval = execOp a.eval o := by
    rcases hnd with rfl | hnd
    · rfl
    · exact Oper.semAt_eq ro a.eval o hnd
  show o.uponIn (FW ro) 0 P a K Q ((o.semAt ro a.eval).run P w)
  rw [hs]
  unfold Oper.wp at h
  generalize (execOp a.eval o).run P w = r at *
  cases r with
  | ok x w' =>
    cases x <;> simp only [Oper.upon] at h <;> first | exact h | exact h.elim | skip
    · refine ⟨fun c => (by cases c), callsF.2 (h.mono fun e w'' he => ?_)⟩
      cases e <;> exact he
    · exact ⟨fun c => (by cases c), rowsF h⟩
  | halt x w' => cases x <;> simp only [Oper.upon] at h <;> first | exact h | exact h.elim
theorem opI_in {ops : Array Oper} {Q : Exit → Act → World → Prop} {i : Nat} {K K' : Act → World → Prop} {a : Act} {w : World} (hnd : ro = none ∨ ∀ (i : Nat) (o : Oper), ops[i]? = some o → ∀ c, o.op ≠ .defer c) (hout : ¬ LetsOut Q)
    (hK : ∀ a w, K a w → K' a w) (h : wpOp P ops Q i K a w) : wpOpIn (FW ro) 0 P ops Q i K' a w := by
  unfold wpOp at h
  unfold wpOpIn
  cases ho : ops[i]? with
  | none => rw [ho] at h; exact hK _ _ h
  | some o =>
    rw [ho] at h
    simp only at h ⊢
    split at h
    · rename_i hw
      rw [if_pos hw]
      rcases h with h | h
      · exact Oper.wpIn_mono hK (op_in (hnd.imp id fun g => g i o ho) h)
      · exact absurd h.2 hout
    · rename_i hw
      rw [if_neg hw]
      exact ⟨fun _ _ => trivial, hK _ _ h⟩
theorem any_in {md : Region.Mode} {ops : Array Oper} {Q : Exit → Act → World → Prop} (hnd : ro = none ∨ ∀ (i : Nat) (o : Oper), ops[i]? = some o → ∀ c, o.op ≠ .defer c) (hout : ¬ LetsOut Q) :
    ∀ (fuel : Nat) (listed : Array Bool) (a : Act) (w : World), wpAny P md ops Q fuel listed a w → wpAnyIn (FW ro) 0 P md ops Q fuel listed a w
  | 0, _, _, _, h => h
  | fuel + 1, _, _, _, h => ⟨h.1, fun i hi => opI_in hnd hout (fun a' w' h' => any_in hnd hout fuel _ a' w' h') (h.2 i hi)⟩
theorem wpIn_scope {c : Code} {Q : Exit → Act → World → Prop} {a : Act} {w : World} (h : c.wpIn (FW ro) 0 P (Exit.noGoto Q) a w) : (Code.scope c).wpIn (FW ro) 0 P Q a w := by
  intro b k cs hro hb hr
  have s1 : step P (lone (b.atR a (.code (.scope c) :: k)) cs w) = .next (lone (b.atR a (.code c :: .inScope c :: k)) cs w) := step_lone_go (by simp [stepG, stepG.exec, Frame.atR])
  have s2 : ∀ (a : Act) (w : World), step P (lone (b.atR a (.inScope c :: k)) cs w) = .next (lone (b.atR a k) cs w) := fun a w => step_lone_go (by simp [stepG, stepG.exec, Frame.atR])
  obtain ⟨e, a₁, w₁, hq, harr⟩ := h b (.inScope c :: k) cs hro hb hr
  cases e with
  | normal => exact ⟨.normal, a₁, w₁, hq, .head (fen _) s1 (StepsIn.trans harr (.one (fen _) (s2 _ _)))⟩
  | exit id => exact ⟨.exit id, a₁, w₁, hq, fun k' hk => .head (fen _) s1 (harr.1 k' (by simp [exitTo, hk])), fun hr' hk => let ⟨k₁, h1, h2⟩ := harr.2 hr' (by simp [exitTo, hk]); ⟨k₁, h1, .head (fen _) s1 h2⟩⟩
  | goto l => exact hq.elim
  | ret => exact ⟨_, a₁, w₁, hq, .of_steps (.one (fen _) s1) harr⟩
  | panic ch => exact ⟨_, a₁, w₁, hq, .of_steps (.one (fen _) s1) harr⟩
  | outgrown => exact ⟨_, a₁, w₁, hq, .of_steps (.one (fen _) s1) harr⟩
/-- A deferred call. -/
theorem callsDF {f : FuncId} {fn : Func} {c : Code} {args : Array Value} {u : FrameMode} {w : World} {R : Ending → FrameMode → World → Prop}
    (hf : P.funcs[f]? = some fn) (hb : fn.body = some c)
    (h : ∀ (c₀ : Frame) (cs : List Frame), c₀.mode = u → c.wpS P (bodyPostS P fn c₀ cs R) { tmps := args ++ Array.replicate (fn.ntmps - args.size) Go.undef, defers := [] } (c₀ :: cs) w) :
    CallsDIn (FW none) n P f args u w R := by
  refine ⟨trivial, fun c₀ cs hu _ => ?_⟩
  let b : Frame := { (default : Frame) with fn := f, kind := .deferred }
  have henter : Frame.enter P f args .deferred = b.at { tmps := args ++ Array.replicate (fn.ntmps - args.size) Go.undef, defers := [] } [.code c] := by
    simp [Frame.enter, Frame.at, hf, hb, b]
  obtain ⟨e, a', cs', w', hq, harr⟩ := h c₀ cs hu b [] rfl rfl
  rw [← henter] at harr
  cases e with
  | normal =>
    obtain ⟨hd, u', rfl, v, hr, hR⟩ := hq
    exact ⟨.returned v, u', w', _, hR, stepsF.2 (Steps.trans harr (.one step_end)), rfl, rfl, rfl, hd, fn, hf, hr⟩
  | ret =>
    obtain ⟨hd, u', rfl, v, hr, hR⟩ := hq
    obtain ⟨todo, hs⟩ := harr
    exact ⟨.returned v, u', w', _, hR, stepsF.2 hs, rfl, rfl, rfl, hd, fn, hf, hr⟩
  | panic chain =>
    obtain ⟨hd, u', rfl, hR⟩ := hq
    obtain ⟨todo, hs⟩ := harr
    exact ⟨.panicked chain, u', w', _, hR, stepsF.2 hs, rfl, rfl, rfl, hd, fn, hf⟩
  | exit id => exact hq.elim
  | goto l => exact hq.elim
  | outgrown =>
    obtain ⟨u', hR⟩ := hq
    exact ⟨.outgrown, u', w', b, hR, harr.resolve_left (by simp [b]), rfl, rfl, trivial⟩
/-- From the inside of a loop. -/
def LoopWp (ro : Option Nat) (P : Program) (c : Code) (Q : Exit → Act → World → Prop) (a : Act) (w : World) : Prop :=
  ∀ (b : Frame) (k : List Item) (cs : List Frame), b.roundOf = ro → ∃ e a' w', Q e a' w' ∧ ArrivesIn (Machine.fenced P (FW ro)) P (lone (b.atR a (.code c :: .inLoop c :: k)) cs w) b k cs e a' w'
variable {c : Code} {Q : Exit → Act → World → Prop} {a : Act} {w : World}
theorem wp_of_loop (hl : LoopWp ro P c Q a w) : (Code.loop c).wpIn (FW ro) 0 P Q a w :=
  fun b k cs hro _ _ => let ⟨e, a', w', q, r⟩ := hl b k cs hro; ⟨e, a', w', q, .of_steps (.one (fen _) stepR_loop) r⟩
theorem loop_unroll (hc : c.wpIn (FW ro) 0 P (Exit.then (LoopWp ro P c Q) Q) a w) : LoopWp ro P c Q a w := by
  intro b k cs hro
  obtain ⟨e, a₁, w₁, hq, harr⟩ := hc b (.inLoop c :: k) cs hro trivial roomF
  cases e with
  | normal =>
    obtain ⟨e₂, a₂, w₂, hq₂, harr₂⟩ := hq b k cs hro
    exact ⟨e₂, a₂, w₂, hq₂, .of_steps (StepsIn.trans harr (.one (fen _) stepR_inLoop)) harr₂⟩
  | exit id => exact ⟨_, a₁, w₁, hq, .pass (x := .inLoop c) rfl (fun _ _ => .inl (by simp)) harr⟩
  | goto l => exact ⟨_, a₁, w₁, hq, .pass (x := .inLoop c) rfl (fun _ _ => .inl (by simp)) harr⟩
  | ret => exact ⟨_, a₁, w₁, hq, .pass (x := .inLoop c) rfl (fun _ _ => .inl (by simp)) harr⟩
  | panic ch => exact ⟨_, a₁, w₁, hq, .pass (x := .inLoop c) rfl (fun _ _ => .inl (by simp)) harr⟩
  | outgrown => exact ⟨_, a₁, w₁, hq, .pass (x := .inLoop c) rfl (fun _ _ => .inl (by simp)) harr⟩
end
end Xv

namespace Xv
open Go

/-- One block of ours put anew, be it dead now; the model's block behind it, and no other one, has turned, and is no map. -/
theorem turn_R {φ : Lie} {h h' : Hp} {w w' : World} {i : Id} {o' : AO} (r : R φ h w) (hl : live (h.get i) = true) (hn : isNew o' = false)
    (hget : ∀ j, h'.get j = if j = i then o' else h.get j)
    (hsz : w'.heap.size = w.heap.size) (hw : ∀ c, c ≠ φ.blk i → w'.heap[c]? = w.heap[c]?) (hobj : objOk φ w' i o')
    (hm : ∀ ents clk, w'.heap[φ.blk i]? ≠ some (.map ents clk))
    (ho : w'.os = w.os) (hout : w'.output = w.output) (ht : w'.tape = w.tape) : R φ h' w' ∧ Step φ h w φ w' h' := by
  have hlo : ∀ j, live (h'.get j) = true → live (h.get j) = true := fun j hj => by
    rw [hget] at hj
    split at hj
    · rename_i e; rw [e]; exact hl
    · exact hj
  refine ⟨⟨fun j => ?_, fun j => ?_, fun j k h1 h2 e => r.inj j k (hlo j h1) (hlo k h2) e, fun j h1 => by rw [hsz]; exact r.lt j (hlo j h1)⟩,
    ⟨.refl φ, Nat.le_of_eq hsz.symm, fun c hc hn => hw c (Ne.symm (hn i hl)), fun j hj => .inl ⟨j, hlo j hj, rfl⟩, ho, hout, ht⟩⟩
  · rw [r.dom j, hget]
    split
    · rename_i e; subst e; rw [live_new hl, hn]
    · rfl
  · rw [hget]
    split
    · rename_i e; subst e; exact hobj
    · rename_i hji
      by_cases hjl : live (h.get j) = true
      · have hne : φ.blk j ≠ φ.blk i := fun e => hji (r.inj j i hjl hl e)
        refine (r.obj j).mono (.refl φ) ((r.dom j).2 (live_new hjl)) (Nat.le_of_eq hsz.symm) (hw _ hne) fun ek m ver todo cur e ents clk he => ?_
        by_cases hmi : φ.blk m = φ.blk i
        · rw [hmi] at he; exact absurd he (hm ents clk)
        · exact ⟨ents, clk, by rw [← hw _ hmi]; exact he, Nat.le_refl _, fun _ => ⟨id, fun _ => rfl, fun _ _ _ h => h, by simp⟩⟩
      · cases hg : h.get j <;> simp_all [live, objOk]

/-- The model's memory with one object put anew. -/
def World.setO (w : World) (r : Nat) (o : Obj) : World := { w with heap := w.heap.setIfInBounds r o }
theorem setO_get (w : World) (r : Nat) (o : Obj) (h : r < w.heap.size) : (World.setO w r o).heap[r]? = some o := by simp [World.setO, h]
theorem setO_ne (w : World) (r : Nat) (o : Obj) {c : Nat} (h : c ≠ r) : (World.setO w r o).heap[c]? = w.heap[c]? := by
  simp only [World.setO]; rw [Array.getElem?_setIfInBounds_ne (Ne.symm h)]
theorem run_setObj {P : Program} {w : World} {r : Nat} {o0 : Obj} (o : Obj) (hb : w.heap[r]? = some o0) (hn : ∀ a b c, o0 ≠ .cells a b c) : (setObj r o).run P w = .ok () (World.setO w r o) := by
  cases o0 <;> first | exact absurd rfl (hn _ _ _) | simp [setObj, Sem.run, World.setO, hb]
theorem run_getLoop {P : Program} {w : World} {l : Nat} {r : Loop} (h : w.heap[l]? = some (.loop r)) : (Instr.getLoop l).run P w = .ok r w := by
  simp [Instr.getLoop, getObj, Sem.run, h, Result.andThen]

/-- A loop's state put anew. -/
theorem loop_turn {φ : Lie} {h : Hp} {w : World} {i : Id} {ps : List P} {a c : CC} {f : Fr} {s s' : LS} (r : R φ h w) (hg : h.get i = .loop ps a c f s) {l l' : Loop} (hb : w.heap[φ.blk i]? = some (.loop l))
    (he : l'.tmps = l.tmps ∧ l'.params = l.params ∧ l'.assign = l.assign ∧ l'.body = l.body) (hs : loopIs s' l') :
    R φ (h.set i (.loop ps a c f s')) (World.setO w (φ.blk i) (.loop l')) ∧ Step φ h w φ (World.setO w (φ.blk i) (.loop l')) (h.set i (.loop ps a c f s')) := by
  classical
  have hlive : live (h.get i) = true := by rw [hg]; rfl
  have hlt : φ.blk i < w.heap.size := r.lt i hlive
  have ho := r.obj i
  rw [hg] at ho
  obtain ⟨h0, l0, h1, h2, h3⟩ := ho
  rw [hb] at h1; cases h1
  refine turn_R r hlive rfl (fun j => Hp.get_set h i j _) (by simp [World.setO]) (fun c hc => setO_ne w _ _ hc) ⟨h0, l', setO_get w _ _ hlt, hs, ?_⟩ (fun ents clk => by rw [setO_get w _ _ hlt]; simp) rfl rfl rfl
  obtain ⟨e1, e2, e3, e4⟩ := he
  exact ⟨by rw [e1]; exact h3.fr, by rw [e1, e2, e3, e4]; exact h3.code, by rw [e3]; exact h3.qa, by rw [e4]; exact h3.qc⟩
/-- A block that is given up. -/
theorem dead_turn {φ : Lie} {h : Hp} {w : World} {i : Id} (r : R φ h w) (hl : live (h.get i) = true) (o : Obj) (ho : ∀ ents clk, o ≠ .map ents clk) :
    R φ (h.set i .dead) (World.setO w (φ.blk i) o) ∧ Step φ h w φ (World.setO w (φ.blk i) o) (h.set i .dead) := by
  classical
  have hlt : φ.blk i < w.heap.size := r.lt i hl
  exact turn_R r hl rfl (fun j => Hp.get_set h i j _) (by simp [World.setO]) (fun c hc => setO_ne w _ _ hc) trivial (fun ents clk => by rw [setO_get w _ _ hlt]; intro e; cases e; exact ho _ _ rfl) rfl rfl rfl
end Xv
