/- Small laws on what holds from some number of rounds on (Ev), and on bits of whole numbers. No program stands in them. -/
import Derived.Test.YtacdaekigoldaaaWSlimMore
import Derived.Laws.BitsLemmas
import Derived.Laws.BitsAllLaws
namespace Go.Proofs.YtacdaekigoldaaaM
open Go Go.RowKit Go.Proofs.YtacdaekigoldaaaW.PrintWords Go.Proofs.YtacdaekigoldaaaW.PrintLast Go.Proofs.YtacdaekigoldaaaW.PrintMore
set_option linter.unusedVariables false
set_option linter.unusedSimpArgs false

theorem ev_pos {α : Type} {c : Prop} [Decidable c] {g f : Nat → Option α} {r : α} (h : c) (e : Ev g r) : Ev (fun k => if c then g k else f k) r :=
  Ev.congr (fun k => if_pos h) e
theorem ev_neg {α : Type} {c : Prop} [Decidable c] {g f : Nat → Option α} {r : α} (h : ¬ c) (e : Ev f r) : Ev (fun k => if c then g k else f k) r :=
  Ev.congr (fun k => if_neg h) e
theorem ev_ite {α : Type} {c : Prop} [Decidable c] {g f : Nat → Option α} {r : α} (h1 : c → Ev g r) (h2 : ¬ c → Ev f r) : Ev (fun k => if c then g k else f k) r := by
  by_cases h : c
  · exact ev_pos h (h1 h)
  · exact ev_neg h (h2 h)
theorem ev_bindo {α β : Type} {o : Option α} {f : Nat → α → Option β} {a : α} {r : β} (h : o = some a) (k : Ev (fun n => f n a) r) : Ev (fun n => o.bind (f n)) r :=
  Ev.congr (fun n => by rw [h]; rfl) k
theorem ev_eq {α : Type} {g : Nat → Option α} {r s : α} (h : Ev g r) (e : r = s) : Ev g s := e ▸ h
theorem ev_some {α : Type} {o : Option α} {r : α} (h : o = some r) : Ev (fun _ => o) r := ⟨0, fun _ _ => h⟩
theorem ev_both {α : Type} {g : Nat → Option α} {r s : α} (h : Ev g r) (k : Ev g s) : r = s := by
  obtain ⟨K, h⟩ := h
  obtain ⟨J, k⟩ := k
  have h1 := h (K + J) (by omega)
  have h2 := k (K + J) (by omega)
  rw [h1] at h2
  exact Option.some.inj h2
theorem ev_true {o : Option Bool} {b : Bool} (h : o = some b) (e : b = true) : o = some true := by rw [h, e]

theorem wf_bd {n : Int} (h : (Lit.int .i64 n).wf = true) : -9223372036854775808 ≤ n ∧ n ≤ 9223372036854775807 := by
  simp only [Lit.wf, Bool.and_eq_true, decide_eq_true_eq] at h
  exact h
theorem w64 {n : Int} (h0 : -9223372036854775808 ≤ n) (h1 : n ≤ 9223372036854775807) : wrap64 n = n := by unfold wrap64; omega
theorem wi64 {n : Int} (h0 : -9223372036854775808 ≤ n) (h1 : n ≤ 9223372036854775807) : IntKind.i64.wrap n = n := by rw [IntKind.wrap_i64]; omega
theorem wraps_i64 (n : Int) (h0 : 0 ≤ n) (h1 : n < 2 ^ 62) : IntKind.i64.wrap n = n := wi64 (by omega) (by omega)
/-- A number below 2^i, set behind a multiple of 2^i. -/
theorem or_add (i : Nat) (x y : Int) (hx0 : 0 ≤ x) (hx : x % 2 ^ i = 0) (hx1 : x < 2 ^ 62) (hy0 : 0 ≤ y) (hy : y < 2 ^ i) (hy1 : y < 2 ^ 62) : Go.bits .or .i64 x y = x + y :=
  bits_join .i64 62 (by decide) wraps_i64 i x y hx0 hx hx1 hy0 hy hy1

/-- A loop over 0 .. n - 1 that ends with false at the first place where P fails, and goes on with e behind the last. -/
theorem all_loop {g : Nat → Int → Option Bool} {e : Bool} (n : Nat) (P : Nat → Prop) [DecidablePred P] (hend : Ev (fun k => g k n) e)
    (hyes : ∀ i, i < n → P i → ∀ r, Ev (fun k => g k ((i + 1 : Nat) : Int)) r → Ev (fun k => g k (i : Int)) r) (hno : ∀ i, i < n → ¬ P i → Ev (fun k => g k (i : Int)) false) :
    ∀ d i, i + d = n → Ev (fun k => g k (i : Int)) (decide (∀ j, j < n → i ≤ j → P j) && e) := by
  intro d
  induction d with
  | zero =>
    intro i hi
    obtain rfl : i = n := by omega
    refine ev_eq hend ?_
    have : (∀ j, j < i → i ≤ j → P j) := fun j h1 h2 => by omega
    rw [decide_eq_true this, Bool.true_and]
  | succ d ih =>
    intro i hi
    by_cases hp : P i
    · refine ev_eq (hyes i (by omega) hp _ (ih (i + 1) (by omega))) ?_
      congr 1
      rw [decide_eq_decide]
      constructor
      · intro h j h1 h2
        by_cases he : j = i
        · subst he; exact hp
        · exact h j h1 (by omega)
      · intro h j h1 h2
        exact h j h1 (by omega)
    · refine ev_eq (hno i (by omega) hp) ?_
      have : ¬ (∀ j, j < n → i ≤ j → P j) := fun h => hp (h i (by omega) (Nat.le_refl _))
      rw [decide_eq_false this, Bool.false_and]
/-- The same from 0 on. -/
theorem all_loop0 {g : Nat → Int → Option Bool} {e : Bool} (n : Nat) (P : Nat → Prop) [DecidablePred P] (hend : Ev (fun k => g k n) e)
    (hyes : ∀ i, i < n → P i → ∀ r, Ev (fun k => g k ((i + 1 : Nat) : Int)) r → Ev (fun k => g k (i : Int)) r) (hno : ∀ i, i < n → ¬ P i → Ev (fun k => g k (i : Int)) false) :
    Ev (fun k => g k 0) (decide (∀ j, j < n → P j) && e) := by
  refine ev_eq (all_loop n P hend hyes hno n 0 (by omega)) ?_
  simp
/-- A loop over 0 .. n - 1 that ends at the first place where P holds, and with e behind the last. -/
theorem search_loop {β : Type} {g : Nat → Int → Option β} {e : β} (n : Nat) (P : Nat → Prop) [DecidablePred P] (hit : Nat → β) (hend : Ev (fun k => g k n) e)
    (hyes : ∀ i, i < n → P i → Ev (fun k => g k (i : Int)) (hit i)) (hno : ∀ i, i < n → ¬ P i → ∀ r, Ev (fun k => g k ((i + 1 : Nat) : Int)) r → Ev (fun k => g k (i : Int)) r) :
    ∀ d i, i + d = n → Ev (fun k => g k (i : Int)) (match (List.range' i d).find? (fun j => decide (P j)) with | some j => hit j | none => e) := by
  intro d
  induction d with
  | zero =>
    intro i hi
    obtain rfl : i = n := by omega
    exact hend
  | succ d ih =>
    intro i hi
    rw [List.range'_succ, List.find?_cons]
    by_cases hp : P i
    · rw [decide_eq_true hp]
      exact hyes i (by omega) hp
    · rw [decide_eq_false hp]
      exact hno i (by omega) hp _ (ih (i + 1) (by omega))
/-- The first place below n where P holds. -/
def fnd (n : Nat) (P : Nat → Prop) [DecidablePred P] : Option Nat := (List.range' 0 n).find? (fun j => decide (P j))
theorem search_loop0 {β : Type} {g : Nat → Int → Option β} {e : β} (n : Nat) (P : Nat → Prop) [DecidablePred P] (hit : Nat → β) (hend : Ev (fun k => g k n) e)
    (hyes : ∀ i, i < n → P i → Ev (fun k => g k (i : Int)) (hit i)) (hno : ∀ i, i < n → ¬ P i → ∀ r, Ev (fun k => g k ((i + 1 : Nat) : Int)) r → Ev (fun k => g k (i : Int)) r) :
    Ev (fun k => g k 0) (match fnd n P with | some j => hit j | none => e) := search_loop n P hit hend hyes hno n 0 (by omega)
theorem fnd_some {n : Nat} {P : Nat → Prop} [DecidablePred P] {j : Nat} (h : fnd n P = some j) : j < n ∧ P j ∧ ∀ i, i < j → ¬ P i := by
  unfold fnd at h
  rw [List.find?_eq_some_iff_getElem] at h
  obtain ⟨h1, i, hi, h2, h3⟩ := h
  simp only [List.length_range', List.getElem_range', Nat.zero_add, Nat.one_mul] at hi h2 h3
  subst h2
  refine ⟨hi, by simpa using h1, fun m hm => ?_⟩
  simpa using h3 m hm
theorem fnd_none {n : Nat} {P : Nat → Prop} [DecidablePred P] (h : fnd n P = none) : ∀ i, i < n → ¬ P i := by
  unfold fnd at h
  rw [List.find?_eq_none] at h
  intro i hi
  simpa using h i (by simp [List.mem_range']; omega)
/-- The last place below n where P holds, -1 if there is none. -/
def lastIdx (P : Nat → Prop) [DecidablePred P] : Nat → Int
  | 0 => -1
  | n + 1 => if P n then (n : Int) else lastIdx P n
theorem lastIdx_bd (P : Nat → Prop) [DecidablePred P] (n : Nat) : -1 ≤ lastIdx P n ∧ lastIdx P n < n := by
  induction n with
  | zero => exact ⟨Int.le_refl _, by simp [lastIdx]⟩
  | succ n ih =>
    simp only [lastIdx]
    split <;> omega
theorem up (i : Nat) (h : i < 9223372036854775807) : wrap64 ((i : Int) + 1) = ((i + 1 : Nat) : Int) := w64 (by omega) (by omega)
theorem down (i : Nat) (h0 : 0 < i) (h : i < 9223372036854775807) : wrap64 ((i : Int) - 1) = ((i - 1 : Nat) : Int) := by rw [w64 (by omega) (by omega)]; omega
theorem get_eq {α : Type} (l : List α) (z : α) (i : Nat) (h : i < l.length) : l.getD ((i : Int)).toNat z = l[i] := by
  simp [List.getD_eq_getElem?_getD, List.getElem?_eq_getElem h]
theorem ext_getD {α : Type} {a b : List α} (z : α) (hl : a.length = b.length) (h : ∀ i, i < a.length → a.getD i z = b.getD i z) : a = b := by
  apply List.ext_getElem hl
  intro i h1 h2
  have := h i h1
  simpa [List.getD_eq_getElem?_getD, List.getElem?_eq_getElem h1, List.getElem?_eq_getElem h2] using this
end Go.Proofs.YtacdaekigoldaaaM
