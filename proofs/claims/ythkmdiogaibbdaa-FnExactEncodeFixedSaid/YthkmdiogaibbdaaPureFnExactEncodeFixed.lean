/- EncodeFixed of the program and of the reference answer alike for every two ints. No condition. -/
import Derived.Test.YthkmdiogaibbdaaPFnExactEncodeFixedx1
import Derived.Test.YthkmdiogaibbdaaMEv
namespace Go.Proofs.Ythkmdiogaibbdaa.Pure
open Go Go.RowKit Go.Proofs.Ythkmdiogaibbdaa.PFnExactEncodeFixed Go.Proofs.YthkmdiogaibbdaaW.PrintWords Go.Proofs.YthkmdiogaibbdaaW.PrintLast Go.Proofs.YthkmdiogaibbdaaW.PrintMore Go.Proofs.YthkmdiogaibbdaaM
set_option linter.unusedVariables false
set_option linter.unusedSimpArgs false

/-- A number's low d bytes, the highest first. -/
def be : Nat → Int → List Int
  | 0, _ => []
  | d + 1, n => be d (n / 256) ++ [n % 256]
/-- A number without its low d bytes. -/
def dv : Nat → Int → Int
  | 0, n => n
  | d + 1, n => dv d (n / 256)
theorem be_len (d : Nat) : ∀ n, (be d n).length = d := by
  induction d with
  | zero => intro n; rfl
  | succ d ih => intro n; simp [be, ih]
theorem str_app (a b : List Int) : strOfNums (a ++ b) = strOfNums a ++ strOfNums b := by
  apply ByteArray.ext
  simp [strOfNums, ByteArray.data_append]
theorem str_nil : (⟨#[]⟩ : ByteArray) = strOfNums [] := rfl
theorem spec_loop (w : Int) (hw : w ≤ 7) (d : Nat) : ∀ (i n : Int) (l : List Int), 0 ≤ i → i + d = w → 0 ≤ n → n ≤ 9223372036854775807 → l.length ≤ i.toNat →
    Ev (fun k => spec_EncodeFixed.l0 k n w (strOfNums l) i) (if dv d n > 0 then strOfNums [] else strOfNums (be d n ++ l)) := by
  induction d with
  | zero =>
    intro i n l h0 h1 h2 h3 h4
    refine Ev.step (fun k => spec_EncodeFixed.l0.eq_2 ..) (ev_neg (by omega) ?_)
    show Ev _ (if n > 0 then strOfNums [] else strOfNums l)
    refine ev_ite (fun h => ?_) (fun h => ?_)
    · rw [if_pos h]
      exact Ev.now _
    · rw [if_neg h]
      exact Ev.now _
  | succ d ih =>
    intro i n l h0 h1 h2 h3 h4
    refine Ev.step (fun k => spec_EncodeFixed.l0.eq_2 ..) (ev_pos (by omega) (ev_bindo rfl (ev_pos ?_ ?_)))
    · rw [strOfNums_size, strOfNums_size]; simp; omega
    · have e1 : Int.tdiv n 256 = n / 256 := Int.tdiv_eq_ediv_of_nonneg h2
      have e2 : Int.tmod n 256 = n % 256 := Int.tmod_eq_emod_of_nonneg h2
      have e3 : n % 256 % 256 = n % 256 := by omega
      rw [e1, e2, e3, w64 (by omega) (by omega), w64 (n := i + 1) (by omega) (by omega), ← str_app]
      have := ih (i + 1) (n / 256) ([n % 256] ++ l) (by omega) (by omega) (by omega) (by omega) (by simp; omega)
      rw [← List.append_assoc] at this
      exact this
theorem impl_loop (d : Nat) : ∀ (n : Int) (a b : List Int), a.length = d → d ≤ 7 →
    Ev (fun k => impl_EncodeFixed.l0 k n (a ++ b) ((d : Int) - 1)) (strOfNums (be d n ++ b)) := by
  induction d with
  | zero =>
    intro n a b h1 h2
    refine Ev.step (fun k => impl_EncodeFixed.l0.eq_2 ..) (ev_neg (by omega) ?_)
    rw [List.eq_nil_of_length_eq_zero h1]
    exact Ev.now _
  | succ d ih =>
    intro n a b h1 h2
    refine Ev.step (fun k => impl_EncodeFixed.l0.eq_2 ..) (ev_pos (by omega) (ev_pos (by omega) (ev_pos (by simp [h1]; omega) ?_)))
    have e1 : ((d + 1 : Nat) : Int) - 1 = (d : Int) := by omega
    have e2 : ((d : Int)).toNat = d := by omega
    obtain ⟨a', x, rfl⟩ : ∃ a' x, a = a' ++ [x] := ⟨a.dropLast, a.getLast (by intro h; simp [h] at h1), (List.dropLast_concat_getLast _).symm⟩
    have h3 : a'.length = d := by simpa using h1
    have e3 : ((a' ++ [x]) ++ b).set d (n % 256) = a' ++ ([n % 256] ++ b) := by
      rw [List.append_assoc, List.set_append_right _ _ (by omega), h3, Nat.sub_self]
      rfl
    rw [e1, e2, e3, w64 (by omega) (by omega)]
    have := ih (n / 256) a' ([n % 256] ++ b) h3 (by omega)
    refine ev_eq this ?_
    simp only [be, List.append_assoc]
theorem dv_shl (d : Nat) (h1 : 1 ≤ d) (h2 : d ≤ 7) (n : Int) : dv d n > 0 ↔ ¬ n ≤ wrap64 ((shl .i64 1 (wrap64 (8 * (d : Int)))) - 1) := by
  match d, h1, h2 with
  | 1, _, _ => rw [show wrap64 ((shl .i64 1 (wrap64 (8 * ((1 : Nat) : Int)))) - 1) = 255 by decide +kernel]; simp only [dv]; omega
  | 2, _, _ => rw [show wrap64 ((shl .i64 1 (wrap64 (8 * ((2 : Nat) : Int)))) - 1) = 65535 by decide +kernel]; simp only [dv]; omega
  | 3, _, _ => rw [show wrap64 ((shl .i64 1 (wrap64 (8 * ((3 : Nat) : Int)))) - 1) = 16777215 by decide +kernel]; simp only [dv]; omega
  | 4, _, _ => rw [show wrap64 ((shl .i64 1 (wrap64 (8 * ((4 : Nat) : Int)))) - 1) = 4294967295 by decide +kernel]; simp only [dv]; omega
  | 5, _, _ => rw [show wrap64 ((shl .i64 1 (wrap64 (8 * ((5 : Nat) : Int)))) - 1) = 1099511627775 by decide +kernel]; simp only [dv]; omega
  | 6, _, _ => rw [show wrap64 ((shl .i64 1 (wrap64 (8 * ((6 : Nat) : Int)))) - 1) = 281474976710655 by decide +kernel]; simp only [dv]; omega
  | 7, _, _ => rw [show wrap64 ((shl .i64 1 (wrap64 (8 * ((7 : Nat) : Int)))) - 1) = 72057594037927935 by decide +kernel]; simp only [dv]; omega
/-- What both give. -/
def fixedOf (n w : Int) : ByteArray := if 1 ≤ w ∧ w ≤ 7 ∧ 0 ≤ n ∧ ¬ dv w.toNat n > 0 then strOfNums (be w.toNat n) else strOfNums []
theorem spec_fixed (n w : Int) (hn : n ≤ 9223372036854775807) : Ev (fun k => spec_EncodeFixed.f k n w) (fixedOf n w) := by
  unfold spec_EncodeFixed.f spec_l1In.f fixedOf
  by_cases h1 : 1 ≤ w
  · by_cases h2 : w ≤ 7
    · simp only [ge_iff_le, h1, h2, if_true, decide_true, Option.bind_some, true_and]
      refine Ev.step (fun k => spec_EncodeFixed.j0.eq_2 ..) ?_
      by_cases h3 : n < 0
      · refine ev_pos (by simp [h3]) ?_
        rw [if_neg (by omega)]
        exact Ev.now _
      · refine ev_neg (by simp [h3]) ?_
        have := spec_loop w h2 w.toNat 0 n [] (by omega) (by omega) (by omega) hn (by simp)
        refine ev_eq this ?_
        by_cases h4 : dv w.toNat n > 0
        · rw [if_pos h4, if_neg (by simp [h4])]
        · rw [if_neg h4, if_pos ⟨by omega, h4⟩, List.append_nil]
    · simp only [ge_iff_le, h1, h2, if_true, decide_false, Bool.false_eq_true, if_false, Option.bind_some, false_and, and_false]
      exact Ev.step (fun k => spec_EncodeFixed.j0.eq_2 ..) (ev_pos rfl (Ev.now _))
  · simp only [ge_iff_le, h1, if_false, Bool.false_eq_true, Option.bind_some, false_and]
    exact Ev.step (fun k => spec_EncodeFixed.j0.eq_2 ..) (ev_pos rfl (Ev.now _))
theorem impl_fixed (n w : Int) (hn : n ≤ 9223372036854775807) : Ev (fun k => impl_EncodeFixed.f k n w) (fixedOf n w) := by
  unfold impl_EncodeFixed.f impl_in.f fixedOf
  by_cases h1 : 1 ≤ w
  · by_cases h2 : w ≤ 7
    · simp only [h1, h2, if_true, decide_true, Option.bind_some, true_and]
      refine ev_pos (by rw [w64 (by omega) (by omega)]; omega) ?_
      have hd := dv_shl w.toNat (by omega) (by omega) n
      rw [show ((w.toNat : Nat) : Int) = w by omega] at hd
      by_cases h3 : 0 ≤ n
      · by_cases h4 : n ≤ wrap64 ((shl .i64 1 (wrap64 (8 * w))) - 1)
        · simp only [h3, h4, if_true, decide_true, Option.bind_some, true_and, Bool.not_true]
          have h5 : ¬ dv w.toNat n > 0 := fun h => hd.1 h h4
          refine Ev.step (fun k => impl_EncodeFixed.j0.eq_2 ..) (ev_neg (by simp) (ev_pos (by omega) (ev_pos (by omega) ?_)))
          rw [if_pos h5, w64 (by omega) (by omega)]
          have := impl_loop w.toNat n (List.replicate w.toNat 0) [] (by simp) (by omega)
          rw [List.append_nil, List.append_nil, show ((w.toNat : Nat) : Int) = w by omega] at this
          exact this
        · simp only [h3, h4, if_true, decide_false, Option.bind_some, true_and, Bool.not_false]
          have h5 : dv w.toNat n > 0 := hd.2 h4
          rw [if_neg (fun h => h h5)]
          exact Ev.step (fun k => impl_EncodeFixed.j0.eq_2 ..) (ev_pos rfl (Ev.now _))
      · simp only [h3, if_false, Option.bind_some, Bool.not_false, false_and]
        exact Ev.step (fun k => impl_EncodeFixed.j0.eq_2 ..) (ev_pos rfl (Ev.now _))
    · simp only [h1, h2, if_true, decide_false, Bool.false_eq_true, if_false, Option.bind_some, false_and, and_false]
      exact Ev.step (fun k => impl_EncodeFixed.j0.eq_2 ..) (ev_pos rfl (Ev.now _))
  · simp only [h1, if_false, Bool.false_eq_true, Option.bind_some, false_and]
    exact Ev.step (fun k => impl_EncodeFixed.j0.eq_2 ..) (ev_pos rfl (Ev.now _))
theorem FnExactEncodeFixed : laws_FnExactEncodeFixed.Pure := by
  intro n w hn hw
  have hb : n ≤ 9223372036854775807 := (wf_bd hn).2
  refine Ev.rounds (g := fun k => laws_FnExactEncodeFixed.f k n w) ?_
  exact Ev.bind (spec_fixed n w hb) (Ev.bind (impl_fixed n w hb) (ev_pos rfl (Ev.now _)))

end Go.Proofs.Ythkmdiogaibbdaa.Pure
