/- FormatMark returns what the reference's returns. -/
import Derived.Test.YtfinkjmfhnnleaaDoorPFnExactFormatMarkx1
import Derived.Test.YtfinkjmfhnnleaaDoorMEv
namespace Go.Proofs.YtfinkjmfhnnleaaDoor.Pure
open Go Go.RowKit Go.Proofs.YtfinkjmfhnnleaaDoor.PFnExactFormatMark Go.Proofs.YtfinkjmfhnnleaaDoorW.PrintWords Go.Proofs.YtfinkjmfhnnleaaDoorW.PrintLast Go.Proofs.YtfinkjmfhnnleaaDoorW.PrintMore Go.Proofs.YtfinkjmfhnnleaaDoorM
set_option linter.unusedVariables false
set_option linter.unusedSimpArgs false

theorem spec_in (a b c : Int) : spec_l1In.f a b c = some (decide (b ≤ a ∧ a ≤ c)) := by
  unfold spec_l1In.f
  by_cases h : b ≤ a <;> simp [h]
theorem impl_in_ (a b c : Int) : impl_in.f a b c = some (decide (b ≤ a ∧ a ≤ c)) := by
  unfold impl_in.f
  by_cases h : b ≤ a <;> simp [h]
/-- A string of these bytes. -/
def bs (l : List UInt8) : ByteArray := ⟨l.toArray⟩
theorem bs_append (a b : List UInt8) : bs a ++ bs b = bs (a ++ b) := by
  apply ByteArray.ext
  simp [bs]
theorem bs_size (a : List UInt8) : (bs a).size = a.length := by simp [bs, ByteArray.size]
/-- The digits of a number, none of nought. -/
def dd (u : Nat) : List UInt8 := if u = 0 then [] else Go.Lib.decDigits u
theorem dd_step (u : Nat) (h : u ≠ 0) : dd u = dd (u / 10) ++ [UInt8.ofNat (48 + u % 10)] := by
  unfold dd
  rw [if_neg h]
  by_cases h10 : u < 10
  · rw [Go.Lib.decDigits_one h10, if_pos (by omega), Nat.mod_eq_of_lt h10]
    rfl
  · rw [if_neg (by omega)]
    conv => lhs; rw [Go.Lib.decDigits, dif_neg h10]
theorem tmod_abs (n : Int) : (n < 0 → n.tmod 10 = -((n.natAbs % 10 : Nat) : Int)) ∧ (0 ≤ n → n.tmod 10 = ((n.natAbs % 10 : Nat) : Int)) ∧ (n < 0 → n.tdiv 10 = -((n.natAbs / 10 : Nat) : Int)) ∧ (0 ≤ n → n.tdiv 10 = ((n.natAbs / 10 : Nat) : Int)) := by
  have p : ∀ u : Nat, ((u : Int)).tmod 10 = ((u % 10 : Nat) : Int) ∧ ((u : Int)).tdiv 10 = ((u / 10 : Nat) : Int) := fun u => ⟨rfl, rfl⟩
  refine ⟨fun h => ?_, fun h => ?_, fun h => ?_, fun h => ?_⟩
  · have e : n = -(n.natAbs : Int) := by omega
    rw [e, Int.neg_tmod, (p _).1, Int.natAbs_neg, Int.natAbs_natCast]
  · have e : n = (n.natAbs : Int) := by omega
    rw [e, (p _).1, Int.natAbs_natCast]
  · have e : n = -(n.natAbs : Int) := by omega
    rw [e, Int.neg_tdiv, (p _).2, Int.natAbs_neg, Int.natAbs_natCast]
  · have e : n = (n.natAbs : Int) := by omega
    rw [e, (p _).2, Int.natAbs_natCast]
theorem fi_loop (neg : Bool) (m : Nat) : ∀ (n : Int), -9223372036854775808 ≤ n → n ≤ 9223372036854775807 → n.natAbs < 10 ^ m → ∀ l : List UInt8, l.length + m ≤ 30 →
    Ev (fun k => spec_FormatInt.l0 k n (bs l) neg) (bs ((if neg = true then [45] else []) ++ dd n.natAbs ++ l)) := by
  have zero : ∀ l : List UInt8, l.length ≤ 30 → Ev (fun k => spec_FormatInt.l0 k 0 (bs l) neg) (bs ((if neg = true then [45] else []) ++ dd 0 ++ l)) := by
    intro l hl
    refine Ev.step (fun k => spec_FormatInt.l0.eq_2 ..) (ev_pos rfl (ev_ite (fun h => ?_) (fun h => ?_)))
    · rw [if_pos h]
      refine ev_pos (by rw [bs_size]; omega) (ev_eq (Ev.now _) ?_)
      exact bs_append [45] l
    · rw [if_neg h]
      exact Ev.now _
  induction m with
  | zero =>
    intro n h0 h1 hm l hl
    obtain rfl : n = 0 := by omega
    exact zero l (by omega)
  | succ m ih =>
    intro n h0 h1 hm l hl
    by_cases hn : n = 0
    · subst hn
      exact zero l (by omega)
    · obtain ⟨t1, t2, t3, t4⟩ := tmod_abs n
      have ha : n.natAbs ≠ 0 := by omega
      have hd : (n.tdiv 10).natAbs = n.natAbs / 10 := by
        by_cases h : n < 0
        · rw [t3 h]; omega
        · rw [t4 (by omega)]; omega
      have hlt : n.natAbs / 10 < 10 ^ m := by
        rw [Nat.pow_succ] at hm
        omega
      have hw : wrap64 (n.tdiv 10) = n.tdiv 10 := w64 (by omega) (by omega)
      have hx := ih (n.tdiv 10) (by omega) (by omega) (by rw [hd]; exact hlt) (UInt8.ofNat (48 + n.natAbs % 10) :: l) (by simp; omega)
      rw [hd] at hx
      have er : bs ((if neg = true then [45] else []) ++ dd (n.natAbs / 10) ++ (UInt8.ofNat (48 + n.natAbs % 10) :: l)) = bs ((if neg = true then [45] else []) ++ dd n.natAbs ++ l) := by
        rw [dd_step n.natAbs ha]
        simp
      have hx := ev_eq hx er
      have es : ∀ c : Int, c = ((48 + n.natAbs % 10 : Nat) : Int) → strOfNums [c] ++ bs l = bs (UInt8.ofNat (48 + n.natAbs % 10) :: l) := by
        intro c hc
        subst hc
        exact bs_append [UInt8.ofNat (48 + n.natAbs % 10)] l
      refine Ev.step (fun k => spec_FormatInt.l0.eq_2 ..) (ev_neg hn (ev_ite (fun h => ?_) (fun h => ?_)))
      · have hneg : n < 0 := by
          by_cases h' : n < 0
          · exact h'
          · rw [t2 (by omega)] at h; omega
        have ec : (wrap64 (48 + wrap64 (-(n.tmod 10)))) % 256 = ((48 + n.natAbs % 10 : Nat) : Int) := by
          rw [t1 hneg, w64 (n := - -((n.natAbs % 10 : Nat) : Int)) (by omega) (by omega), w64 (by omega) (by omega)]
          omega
        refine ev_bindo rfl (ev_pos (by rw [strOfNums_size, bs_size]; simp; omega) ?_)
        rw [es _ ec, hw]
        exact hx
      · have hpos : n.tmod 10 = ((n.natAbs % 10 : Nat) : Int) := by
          by_cases h' : 0 ≤ n
          · exact t2 h'
          · have h10 := t1 (by omega)
            rw [h10] at h ⊢
            omega
        have ec : (wrap64 (48 + (n.tmod 10))) % 256 = ((48 + n.natAbs % 10 : Nat) : Int) := by
          rw [hpos, w64 (by omega) (by omega)]
          omega
        refine ev_bindo rfl (ev_pos (by rw [strOfNums_size, bs_size]; simp; omega) ?_)
        rw [es _ ec, hw]
        exact hx
theorem spec_fi (n : Int) (h0 : -9223372036854775808 ≤ n) (h1 : n ≤ 9223372036854775807) : Ev (fun k => spec_FormatInt.f k n) (bs (Go.Lib.itoa n)) := by
  unfold spec_FormatInt.f
  by_cases hn : n = 0
  · subst hn
    refine ev_pos rfl (ev_eq (Ev.now _) ?_)
    have : Go.Lib.itoa 0 = [48] := by
      unfold Go.Lib.itoa
      rw [if_neg (by omega)]
      exact Go.Lib.decDigits_one (by decide)
    rw [this]
    rfl
  · refine ev_neg hn (ev_eq (fi_loop (decide (n < 0)) 19 n h0 h1 (by omega) [] (by simp)) ?_)
    unfold Go.Lib.itoa dd
    rw [if_neg (show ¬ n.natAbs = 0 by omega)]
    by_cases h : n < 0
    · rw [if_pos (decide_eq_true h), if_pos h]
      simp
    · rw [if_neg (by simpa using h), if_neg h, show n.natAbs = n.toNat by omega]
      simp
theorem impl_fi (n : Int) (h0 : -9223372036854775808 ≤ n) (h1 : n ≤ 9223372036854775807) : strconv_Itoa.f n = some (bs (Go.Lib.itoa n)) := by
  unfold strconv_Itoa.f
  rw [if_pos ⟨h0, h1⟩]
  rfl
theorem impl_fi' (n : Int) (h0 : -9223372036854775808 ≤ n) (h1 : n ≤ 9223372036854775807) : impl_FormatInt.f n = some (bs (Go.Lib.itoa n)) := by
  unfold impl_FormatInt.f
  rw [impl_fi n h0 h1]
  rfl
/-- What a mark is written as. -/
def fmOf (n : Int) : List UInt8 := if 0 ≤ n ∧ n ≤ 1000 then (if n = 1000 then [105, 110, 102] else Go.Lib.itoa n) else []
theorem impl_fm (n : Int) : impl_FormatMark.f n = some (bs (fmOf n)) := by
  unfold impl_FormatMark.f impl_IsMark.f fmOf
  simp only [impl_in_, Option.bind_some]
  by_cases h : 0 ≤ n ∧ n ≤ 1000
  · rw [if_pos (decide_eq_true h), if_pos h]
    by_cases h2 : n = 1000
    · rw [if_pos h2, if_pos h2]
      rfl
    · rw [if_neg h2, if_neg h2, impl_fi' n (by omega) (by omega)]
      rfl
  · rw [if_neg (by simpa using h), if_neg h]
    rfl
theorem spec_fm (n : Int) : Ev (fun k => spec_FormatMark.f k n) (bs (fmOf n)) := by
  unfold spec_FormatMark.f spec_IsMark.f fmOf
  simp only [spec_in, Option.bind_some]
  by_cases h : 0 ≤ n ∧ n ≤ 1000
  · rw [if_pos h]
    refine ev_pos (decide_eq_true h) ?_
    by_cases h2 : n = 1000
    · rw [if_pos h2]
      exact ev_pos h2 (Ev.now _)
    · rw [if_neg h2]
      exact ev_neg h2 (Ev.bind (spec_fi n (by omega) (by omega)) (Ev.now _))
  · rw [if_neg h]
    exact ev_neg (by simpa using h) (Ev.now _)
theorem FnExactFormatMark : laws_FnExactFormatMark.Pure := by
  intro n hn
  refine Ev.rounds (g := fun k => laws_FnExactFormatMark.f k n) ?_
  exact Ev.bind (spec_fm n) (ev_bindo (impl_fm n) (ev_pos rfl (Ev.now _)))

end Go.Proofs.YtfinkjmfhnnleaaDoor.Pure
