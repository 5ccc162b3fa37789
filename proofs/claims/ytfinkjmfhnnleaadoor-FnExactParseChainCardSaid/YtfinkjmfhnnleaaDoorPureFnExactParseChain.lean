/- ParseChain returns what the reference's returns. -/
import Derived.Test.YtfinkjmfhnnleaaDoorPFnExactParseChainx10
import Derived.Test.YtfinkjmfhnnleaaDoorMEv
import Derived.Lib.SplitLaws
import Derived.Lib.IndexMore
import Derived.Lib.Join
namespace Go.Proofs.YtfinkjmfhnnleaaDoor.Pure
open Go Go.RowKit Go.Proofs.YtfinkjmfhnnleaaDoor.PFnExactParseChain Go.Proofs.YtfinkjmfhnnleaaDoorW.PrintWords Go.Proofs.YtfinkjmfhnnleaaDoorW.PrintLast Go.Proofs.YtfinkjmfhnnleaaDoorW.PrintMore Go.Proofs.YtfinkjmfhnnleaaDoorM
set_option linter.unusedVariables false
set_option linter.unusedSimpArgs false

theorem spec_in (a b c : Int) : spec_l1In.f a b c = some (decide (b ≤ a ∧ a ≤ c)) := by
  unfold spec_l1In.f
  by_cases h : b ≤ a <;> simp [h]
theorem impl_in_ (a b c : Int) : impl_in.f a b c = some (decide (b ≤ a ∧ a ≤ c)) := by
  unfold impl_in.f
  by_cases h : b ≤ a <;> simp [h]
/-- What a right version is. -/
def vv (a0 a1 a2 a3 a4 : Int) : Bool := decide ((-1 ≤ a1 ∧ a1 ≤ 99) ∧ (0 ≤ a2 ∧ a2 ≤ 999) ∧ (a2 ≤ a3 ∧ a3 ≤ 999) ∧ (1 ≤ a4 ∧ a4 ≤ 1000) ∧ (a2 = 0 → a0 = 0 ∧ a1 = -1) ∧ (a2 ≠ 0 → 1 ≤ a0 ∧ a0 ≤ 9))
theorem spec_vv (a0 a1 a2 a3 a4 : Int) : Ev (fun k => spec_IsValidVersion.f k a0 a1 a2 a3 a4) (vv a0 a1 a2 a3 a4) := by
  unfold spec_IsValidVersion.f
  simp only [spec_in, Option.bind_some]
  have hj : ∀ b : Bool, Ev (fun k => spec_IsValidVersion.j0 k b a0 a1 a2 a3 a4) (!b && decide ((a2 = 0 → a0 = 0 ∧ a1 = -1) ∧ (a2 ≠ 0 → 1 ≤ a0 ∧ a0 ≤ 9))) := by
    intro b
    refine Ev.step (fun k => spec_IsValidVersion.j0.eq_2 ..) ?_
    simp only [spec_in, Option.bind_some]
    repeat' refine ev_ite (fun h => ?_) (fun h => ?_)
    all_goals
      refine ev_eq (Ev.now _) ?_
      rw [Bool.eq_iff_iff]
      simp only [decide_eq_true_eq, beq_iff_eq, Bool.not_eq_true', Bool.and_eq_true, Bool.not_eq_true, Bool.false_eq_true, false_iff, true_iff] at *
      simp [*] <;> omega
  repeat' refine ev_ite (fun h => ?_) (fun h => ?_)
  all_goals
    refine ev_eq (hj _) ?_
    rw [Bool.eq_iff_iff]
    simp only [vv, decide_eq_true_eq, Bool.not_not, Bool.not_true, Bool.false_and, Bool.and_eq_true, Bool.false_eq_true, false_iff] at *
    omega
theorem impl_vv (a0 a1 a2 a3 a4 : Int) : Ev (fun k => impl_IsValidVersion.f k a0 a1 a2 a3 a4) (vv a0 a1 a2 a3 a4) := by
  unfold impl_IsValidVersion.f
  simp only [impl_isValue.f, impl_isID.f, impl_in_, Option.bind_some]
  have hj : ∀ b : Bool, Ev (fun k => impl_IsValidVersion.j0 k b a0 a1 a2 a3 a4) (!b && decide ((a2 = 0 → a0 = 0 ∧ a1 = -1) ∧ (a2 ≠ 0 → 1 ≤ a0 ∧ a0 ≤ 9))) := by
    intro b
    refine Ev.step (fun k => impl_IsValidVersion.j0.eq_2 ..) ?_
    simp only [impl_isValue.f, impl_isID.f, impl_in_, Option.bind_some]
    repeat' refine ev_ite (fun h => ?_) (fun h => ?_)
    all_goals
      refine ev_eq (Ev.now _) ?_
      rw [Bool.eq_iff_iff]
      simp only [decide_eq_true_eq, beq_iff_eq, Bool.not_eq_true', Bool.and_eq_true, Bool.not_eq_true, Bool.false_eq_true, false_iff, true_iff] at *
      simp [*] <;> omega
  repeat' refine ev_ite (fun h => ?_) (fun h => ?_)
  all_goals
    refine ev_eq (hj _) ?_
    rw [Bool.eq_iff_iff]
    simp only [vv, decide_eq_true_eq, Bool.not_not, Bool.not_true, Bool.false_and, Bool.and_eq_true, Bool.false_eq_true, false_iff] at *
    omega
theorem eq_vs (a : List S48) (hl : a.length ≤ 9223372036854775806) : Ev (fun k => laws_eqVersionS.f k a a) true := by
  unfold laws_eqVersionS.f
  refine ev_pos rfl ?_
  have h : ∀ d i, i + d = a.length → Ev (fun k => laws_eqVersionS.l0 k a a (i : Int)) true := by
    intro d
    induction d with
    | zero =>
      intro i hi
      exact Ev.step (fun k => laws_eqVersionS.l0.eq_2 ..) (ev_neg (by omega) (Ev.now _))
    | succ d ih =>
      intro i hi
      refine Ev.step (fun k => laws_eqVersionS.l0.eq_2 ..) (ev_pos (by omega) (ev_pos (by omega) (ev_pos (by omega) ?_)))
      simp only [laws_eqVersion.f, if_true, Option.bind_some]
      rw [up i (by omega)]
      exact ih (i + 1) (by omega)
  exact h a.length 0 (by omega)
/-- One version after another. -/
def Ord (u v : S48) : Prop := ¬ u.f2 ≥ v.f2 ∧ ¬ u.f4 > v.f2
instance (u v : S48) : Decidable (Ord u v) := by unfold Ord; exact inferInstance
def vvS (v : S48) : Bool := vv v.f0 v.f1 v.f2 v.f3 v.f4
def lastOk (l : List S48) : Bool := decide (0 < l.length) && (l.getD (l.length - 1) z48).f4 == 1000
/-- What a right chain is. -/
def vc (l : List S48) : Bool := decide (∀ j, j < l.length → vvS (l.getD j z48) = true ∧ (j + 1 < l.length → Ord (l.getD j z48) (l.getD (j + 1) z48))) && lastOk l
theorem rd_nat (l : List S48) (i : Nat) : rd_T48 l (i : Int) = l.getD i z48 := by unfold rd_T48; rw [Int.toNat_natCast]
theorem last_ev (l : List S48) (hl : l.length ≤ 9223372036854775806) : Ev (fun _ => if (l.length : Int) > 0 then (if 0 ≤ (wrap64 ((l.length : Int) - 1)) then (if (wrap64 ((l.length : Int) - 1)) < (l.length : Int) then (some (((rd_T48 l (wrap64 ((l.length : Int) - 1))).f4) == 1000)) else (none)) else (none)) else (some false)) (lastOk l) := by
  by_cases h : 0 < l.length
  · have e : wrap64 ((l.length : Int) - 1) = ((l.length - 1 : Nat) : Int) := by rw [w64 (by omega) (by omega)]; omega
    rw [e]
    refine ev_pos (by omega) (ev_pos (by omega) (ev_pos (by omega) ?_))
    rw [rd_nat]
    refine ev_eq (Ev.now _) ?_
    unfold lastOk
    rw [decide_eq_true h, Bool.true_and]
  · refine ev_neg (by omega) ?_
    refine ev_eq (Ev.now _) ?_
    unfold lastOk
    rw [decide_eq_false h, Bool.false_and]
theorem spec_vc (l : List S48) (hl : l.length ≤ 9223372036854775806) : Ev (fun k => spec_IsValidChain.f k l) (vc l) := by
  unfold spec_IsValidChain.f vc
  refine all_loop0 (g := fun k i => spec_IsValidChain.l0 k l i) l.length (fun j => vvS (l.getD j z48) = true ∧ (j + 1 < l.length → Ord (l.getD j z48) (l.getD (j + 1) z48))) ?_ ?_ ?_
  · exact Ev.step (fun k => spec_IsValidChain.l0.eq_2 ..) (ev_neg (by omega) (last_ev l hl))
  · intro i hi hp r hr
    refine Ev.step (fun k => spec_IsValidChain.l0.eq_2 ..) (ev_pos (by omega) (ev_pos (by omega) ?_))
    rw [rd_nat, up i (by omega), rd_nat]
    refine Ev.bind (spec_vv _ _ _ _ _) (ev_pos hp.1 (ev_ite (fun h => ?_) (fun _ => hr)))
    have ho := hp.2 (by omega)
    exact ev_pos (by omega) (ev_neg ho.1 (ev_neg ho.2 hr))
  · intro i hi hp
    refine Ev.step (fun k => spec_IsValidChain.l0.eq_2 ..) (ev_pos (by omega) (ev_pos (by omega) ?_))
    rw [rd_nat, up i (by omega), rd_nat]
    refine Ev.bind (spec_vv _ _ _ _ _) (ev_ite (fun h1 => ev_ite (fun h2 => ev_pos (by omega) (ev_ite (fun h3 => Ev.now _) (fun h3 => ev_ite (fun h4 => Ev.now _) (fun h4 => ?_)))) (fun h2 => ?_)) (fun _ => Ev.now _))
    · exact absurd ⟨h1, fun _ => ⟨h3, h4⟩⟩ hp
    · exact absurd ⟨h1, fun h => absurd h (by omega)⟩ hp
theorem impl_vc (l : List S48) (hl : l.length ≤ 9223372036854775806) : Ev (fun k => impl_IsValidChain.f k l) (vc l) := by
  have hv : vc l = (decide (∀ j, j < l.length → vvS (l.getD j z48) = true ∧ (0 < j → Ord (l.getD (j - 1) z48) (l.getD j z48))) && lastOk l) := by
    unfold vc
    congr 1
    rw [decide_eq_decide]
    constructor
    · intro h j hj
      refine ⟨(h j hj).1, fun h0 => ?_⟩
      have := (h (j - 1) (by omega)).2 (by omega)
      rwa [show j - 1 + 1 = j by omega] at this
    · intro h j hj
      refine ⟨(h j hj).1, fun h0 => ?_⟩
      have := (h (j + 1) h0).2 (by omega)
      rwa [show j + 1 - 1 = j by omega] at this
  rw [hv]
  unfold impl_IsValidChain.f
  refine all_loop0 (g := fun k i => impl_IsValidChain.l0 k l l (l.length : Int) i) l.length (fun j => vvS (l.getD j z48) = true ∧ (0 < j → Ord (l.getD (j - 1) z48) (l.getD j z48))) ?_ ?_ ?_
  · exact Ev.step (fun k => impl_IsValidChain.l0.eq_2 ..) (ev_neg (by omega) (last_ev l hl))
  · intro i hi hp r hr
    refine Ev.step (fun k => impl_IsValidChain.l0.eq_2 ..) (ev_pos (by omega) (ev_pos (by omega) (ev_pos (by omega) ?_)))
    rw [rd_nat, up i (by omega)]
    refine Ev.bind (impl_vv _ _ _ _ _) (ev_pos hp.1 (ev_ite (fun h => ?_) (fun _ => hr)))
    have e : wrap64 ((i : Int) - 1) = ((i - 1 : Nat) : Int) := by rw [w64 (by omega) (by omega)]; omega
    rw [e, rd_nat]
    have ho := hp.2 (by omega)
    exact ev_pos (by omega) (ev_pos (by omega) (ev_neg ho.1 (ev_neg ho.2 hr)))
  · intro i hi hp
    refine Ev.step (fun k => impl_IsValidChain.l0.eq_2 ..) (ev_pos (by omega) (ev_pos (by omega) (ev_pos (by omega) ?_)))
    rw [rd_nat, up i (by omega)]
    refine Ev.bind (impl_vv _ _ _ _ _) (ev_ite (fun h1 => ev_ite (fun h2 => ?_) (fun h2 => ?_)) (fun _ => Ev.now _))
    · have e : wrap64 ((i : Int) - 1) = ((i - 1 : Nat) : Int) := by rw [w64 (by omega) (by omega)]; omega
      rw [e, rd_nat]
      exact ev_pos (by omega) (ev_pos (by omega) (ev_ite (fun h3 => Ev.now _) (fun h3 => ev_ite (fun h4 => Ev.now _) (fun h4 => absurd ⟨h1, fun _ => ⟨h3, h4⟩⟩ hp))))
    · exact absurd ⟨h1, fun h => absurd h (by omega)⟩ hp
theorem vc_at {l : List S48} (h : vc l = true) (j : Nat) (hj : j < l.length) : vvS (l.getD j z48) = true := by
  unfold vc at h
  simp only [Bool.and_eq_true, decide_eq_true_eq] at h
  exact (h.1 j hj).1
/-- A string of these bytes. -/
def bs (l : List UInt8) : ByteArray := ⟨l.toArray⟩
theorem bs_append (a b : List UInt8) : bs a ++ bs b = bs (a ++ b) := by
  apply ByteArray.ext
  simp [bs]
theorem bs_size (a : List UInt8) : (bs a).size = a.length := by simp [bs, ByteArray.size]
/-- The digits of a number, none of nought. -/
def dd (u : Nat) : List UInt8 := if u = 0 then [] else Go.Lib.decDigits u
theorem dd_step (u : Nat) (h : u ≠ 0) : dd u = dd (u / 10) ++ [UInt8.ofNat (48 + u % 10)] := by
  unfold dd
  rw [if_neg h]
  by_cases h10 : u < 10
  · rw [Go.Lib.decDigits_one h10, if_pos (by omega), Nat.mod_eq_of_lt h10]
    rfl
  · rw [if_neg (by omega)]
    conv => lhs; rw [Go.Lib.decDigits, dif_neg h10]
theorem tmod_abs (n : Int) : (n < 0 → n.tmod 10 = -((n.natAbs % 10 : Nat) : Int)) ∧ (0 ≤ n → n.tmod 10 = ((n.natAbs % 10 : Nat) : Int)) ∧ (n < 0 → n.tdiv 10 = -((n.natAbs / 10 : Nat) : Int)) ∧ (0 ≤ n → n.tdiv 10 = ((n.natAbs / 10 : Nat) : Int)) := by
  have p : ∀ u : Nat, ((u : Int)).tmod 10 = ((u % 10 : Nat) : Int) ∧ ((u : Int)).tdiv 10 = ((u / 10 : Nat) : Int) := fun u => ⟨rfl, rfl⟩
  refine ⟨fun h => ?_, fun h => ?_, fun h => ?_, fun h => ?_⟩
  · have e : n = -(n.natAbs : Int) := by omega
    rw [e, Int.neg_tmod, (p _).1, Int.natAbs_neg, Int.natAbs_natCast]
  · have e : n = (n.natAbs : Int) := by omega
    rw [e, (p _).1, Int.natAbs_natCast]
  · have e : n = -(n.natAbs : Int) := by omega
    rw [e, Int.neg_tdiv, (p _).2, Int.natAbs_neg, Int.natAbs_natCast]
  · have e : n = (n.natAbs : Int) := by omega
    rw [e, (p _).2, Int.natAbs_natCast]
theorem fi_loop (neg : Bool) (m : Nat) : ∀ (n : Int), -9223372036854775808 ≤ n → n ≤ 9223372036854775807 → n.natAbs < 10 ^ m → ∀ l : List UInt8, l.length + m ≤ 30 →
    Ev (fun k => spec_FormatInt.l0 k n (bs l) neg) (bs ((if neg = true then [45] else []) ++ dd n.natAbs ++ l)) := by
  have zero : ∀ l : List UInt8, l.length ≤ 30 → Ev (fun k => spec_FormatInt.l0 k 0 (bs l) neg) (bs ((if neg = true then [45] else []) ++ dd 0 ++ l)) := by
    intro l hl
    refine Ev.step (fun k => spec_FormatInt.l0.eq_2 ..) (ev_pos rfl (ev_ite (fun h => ?_) (fun h => ?_)))
    · rw [if_pos h]
      refine ev_pos (by rw [bs_size]; omega) (ev_eq (Ev.now _) ?_)
      exact bs_append [45] l
    · rw [if_neg h]
      exact Ev.now _
  induction m with
  | zero =>
    intro n h0 h1 hm l hl
    obtain rfl : n = 0 := by omega
    exact zero l (by omega)
  | succ m ih =>
    intro n h0 h1 hm l hl
    by_cases hn : n = 0
    · subst hn
      exact zero l (by omega)
    · obtain ⟨t1, t2, t3, t4⟩ := tmod_abs n
      have ha : n.natAbs ≠ 0 := by omega
      have hd : (n.tdiv 10).natAbs = n.natAbs / 10 := by
        by_cases h : n < 0
        · rw [t3 h]; omega
        · rw [t4 (by omega)]; omega
      have hlt : n.natAbs / 10 < 10 ^ m := by
        rw [Nat.pow_succ] at hm
        omega
      have hw : wrap64 (n.tdiv 10) = n.tdiv 10 := w64 (by omega) (by omega)
      have hx := ih (n.tdiv 10) (by omega) (by omega) (by rw [hd]; exact hlt) (UInt8.ofNat (48 + n.natAbs % 10) :: l) (by simp; omega)
      rw [hd] at hx
      have er : bs ((if neg = true then [45] else []) ++ dd (n.natAbs / 10) ++ (UInt8.ofNat (48 + n.natAbs % 10) :: l)) = bs ((if neg = true then [45] else []) ++ dd n.natAbs ++ l) := by
        rw [dd_step n.natAbs ha]
        simp
      have hx := ev_eq hx er
      have es : ∀ c : Int, c = ((48 + n.natAbs % 10 : Nat) : Int) → strOfNums [c] ++ bs l = bs (UInt8.ofNat (48 + n.natAbs % 10) :: l) := by
        intro c hc
        subst hc
        exact bs_append [UInt8.ofNat (48 + n.natAbs % 10)] l
      refine Ev.step (fun k => spec_FormatInt.l0.eq_2 ..) (ev_neg hn (ev_ite (fun h => ?_) (fun h => ?_)))
      · have hneg : n < 0 := by
          by_cases h' : n < 0
          · exact h'
          · rw [t2 (by omega)] at h; omega
        have ec : (wrap64 (48 + wrap64 (-(n.tmod 10)))) % 256 = ((48 + n.natAbs % 10 : Nat) : Int) := by
          rw [t1 hneg, w64 (n := - -((n.natAbs % 10 : Nat) : Int)) (by omega) (by omega), w64 (by omega) (by omega)]
          omega
        refine ev_bindo rfl (ev_pos (by rw [strOfNums_size, bs_size]; simp; omega) ?_)
        rw [es _ ec, hw]
        exact hx
      · have hpos : n.tmod 10 = ((n.natAbs % 10 : Nat) : Int) := by
          by_cases h' : 0 ≤ n
          · exact t2 h'
          · have h10 := t1 (by omega)
            rw [h10] at h ⊢
            omega
        have ec : (wrap64 (48 + (n.tmod 10))) % 256 = ((48 + n.natAbs % 10 : Nat) : Int) := by
          rw [hpos, w64 (by omega) (by omega)]
          omega
        refine ev_bindo rfl (ev_pos (by rw [strOfNums_size, bs_size]; simp; omega) ?_)
        rw [es _ ec, hw]
        exact hx
theorem spec_fi (n : Int) (h0 : -9223372036854775808 ≤ n) (h1 : n ≤ 9223372036854775807) : Ev (fun k => spec_FormatInt.f k n) (bs (Go.Lib.itoa n)) := by
  unfold spec_FormatInt.f
  by_cases hn : n = 0
  · subst hn
    refine ev_pos rfl (ev_eq (Ev.now _) ?_)
    have : Go.Lib.itoa 0 = [48] := by
      unfold Go.Lib.itoa
      rw [if_neg (by omega)]
      exact Go.Lib.decDigits_one (by decide)
    rw [this]
    rfl
  · refine ev_neg hn (ev_eq (fi_loop (decide (n < 0)) 19 n h0 h1 (by omega) [] (by simp)) ?_)
    unfold Go.Lib.itoa dd
    rw [if_neg (show ¬ n.natAbs = 0 by omega)]
    by_cases h : n < 0
    · rw [if_pos (decide_eq_true h), if_pos h]
      simp
    · rw [if_neg (by simpa using h), if_neg h, show n.natAbs = n.toNat by omega]
      simp
theorem impl_fi (n : Int) (h0 : -9223372036854775808 ≤ n) (h1 : n ≤ 9223372036854775807) : strconv_Itoa.f n = some (bs (Go.Lib.itoa n)) := by
  unfold strconv_Itoa.f
  rw [if_pos ⟨h0, h1⟩]
  rfl
theorem impl_fi0 (n : Int) (h0 : -9223372036854775808 ≤ n) (h1 : n ≤ 9223372036854775807) : impl_FormatInt.f n = some (bs (Go.Lib.itoa n)) := by
  unfold impl_FormatInt.f
  rw [impl_fi n h0 h1]
  rfl
/-- What a mark is written as. -/
def fmOf (n : Int) : List UInt8 := if 0 ≤ n ∧ n ≤ 1000 then (if n = 1000 then [105, 110, 102] else Go.Lib.itoa n) else []
theorem impl_fm (n : Int) : impl_FormatMark.f n = some (bs (fmOf n)) := by
  unfold impl_FormatMark.f impl_IsMark.f fmOf
  simp only [impl_in_, Option.bind_some]
  by_cases h : 0 ≤ n ∧ n ≤ 1000
  · rw [if_pos (decide_eq_true h), if_pos h]
    by_cases h2 : n = 1000
    · rw [if_pos h2, if_pos h2]
      rfl
    · rw [if_neg h2, if_neg h2, impl_fi0 n (by omega) (by omega)]
      rfl
  · rw [if_neg (by simpa using h), if_neg h]
    rfl
theorem spec_fm (n : Int) : Ev (fun k => spec_FormatMark.f k n) (bs (fmOf n)) := by
  unfold spec_FormatMark.f spec_IsMark.f fmOf
  simp only [spec_in, Option.bind_some]
  by_cases h : 0 ≤ n ∧ n ≤ 1000
  · rw [if_pos h]
    refine ev_pos (decide_eq_true h) ?_
    by_cases h2 : n = 1000
    · rw [if_pos h2]
      exact ev_pos h2 (Ev.now _)
    · rw [if_neg h2]
      exact ev_neg h2 (Ev.bind (spec_fi n (by omega) (by omega)) (Ev.now _))
  · rw [if_neg h]
    exact ev_neg (by simpa using h) (Ev.now _)
/-- What a value is written as. -/
def vb (n : Int) : List UInt8 := if n = -1 then [45] else Go.Lib.itoa n
theorem itoa_len (n : Int) (h0 : 0 ≤ n) (h1 : n ≤ 99) : (Go.Lib.itoa n).length ≤ 2 := by
  unfold Go.Lib.itoa
  rw [if_neg (by omega)]
  by_cases h : n.toNat < 10
  · rw [Go.Lib.decDigits_one h]
    simp
  · rw [Go.Lib.decDigits_two h (by omega)]
    simp
theorem vb_len (n : Int) (h0 : -1 ≤ n) (h1 : n ≤ 99) : (vb n).length ≤ 2 := by
  unfold vb
  split
  · simp
  · exact itoa_len n (by omega) h1
theorem impl_fi' (n : Int) (h0 : -9223372036854775808 ≤ n) (h1 : n ≤ 9223372036854775807) : impl_FormatInt.f n = some (bs (Go.Lib.itoa n)) := by
  unfold impl_FormatInt.f
  rw [impl_fi n h0 h1]
  rfl
theorem spec_val (n : Int) (h0 : -1 ≤ n) (h1 : n ≤ 99) : Ev (fun k => spec_l3Value.f k n) (bs (vb n)) := by
  unfold spec_l3Value.f vb
  by_cases h : n = -1
  · rw [if_pos h]
    exact ev_pos h (Ev.now _)
  · rw [if_neg h]
    exact ev_neg h (Ev.bind (spec_fi n (by omega) (by omega)) (Ev.now _))
theorem impl_val (n : Int) (h0 : -1 ≤ n) (h1 : n ≤ 99) : impl_formatValue.f n = some (bs (vb n)) := by
  unfold impl_formatValue.f vb
  by_cases h : n = -1
  · rw [if_pos h, if_pos h]
    rfl
  · rw [if_neg h, if_neg h, impl_fi' n (by omega) (by omega)]
    rfl
theorem join_snoc (xs : List (List UInt8)) (x sep : List UInt8) (h : xs ≠ []) : Go.Lib.join (xs ++ [x]) sep = Go.Lib.join xs sep ++ sep ++ x := by
  cases xs with
  | nil => exact absurd rfl h
  | cons y r =>
    rw [List.cons_append, Go.Lib.join_cons, Go.Lib.join_cons]
    simp [Go.Lib.joinTail]
/-- Some texts put together, up to place i. -/
def jn (xs : List (List UInt8)) (i : Nat) : List UInt8 := Go.Lib.join (xs.take i) [32]
theorem take_nextL (xs : List (List UInt8)) (i : Nat) (h : i < xs.length) : xs.take (i + 1) = xs.take i ++ [xs.getD i []] := by
  rw [List.take_add_one, List.getElem?_eq_getElem h, List.getD_eq_getElem?_getD, List.getElem?_eq_getElem h]
  rfl
theorem jn_one (xs : List (List UInt8)) (h : 0 < xs.length) : jn xs 1 = xs.getD 0 [] := by
  unfold jn
  rw [take_nextL xs 0 h]
  exact Go.Lib.join_one _ _
theorem jn_next (xs : List (List UInt8)) (i : Nat) (h : i < xs.length) (h0 : 0 < i) : jn xs (i + 1) = jn xs i ++ [32] ++ xs.getD i [] := by
  unfold jn
  rw [take_nextL xs i h]
  refine join_snoc _ _ _ ?_
  intro e
  have := congrArg List.length e
  rw [List.length_take, List.length_nil] at this
  omega
theorem jn_len (xs : List (List UInt8)) (c : Nat) (hc : ∀ j, j < xs.length → (xs.getD j []).length ≤ c) (i : Nat) (h : i ≤ xs.length) : (jn xs i).length ≤ (c + 1) * i := by
  induction i with
  | zero => simp [jn, Go.Lib.join_nil]
  | succ i ih =>
    have h2 := hc i (by omega)
    by_cases h0 : i = 0
    · subst h0
      rw [jn_one xs (by omega)]
      omega
    · rw [jn_next xs i (by omega) (by omega)]
      have := ih (by omega)
      simp only [List.length_append, List.length_singleton]
      rw [Nat.mul_succ]
      omega
theorem decDigits_len (m : Nat) : ∀ u, u < 10 ^ (m + 1) → (Go.Lib.decDigits u).length ≤ m + 1 := by
  induction m with
  | zero =>
    intro u hu
    rw [Go.Lib.decDigits_one (by omega)]
    simp
  | succ m ih =>
    intro u hu
    by_cases h : u < 10
    · rw [Go.Lib.decDigits_one h]
      simp
    · rw [Go.Lib.decDigits, dif_neg h]
      have := ih (u / 10) (by rw [Nat.pow_succ] at hu; omega)
      simp only [List.length_append, List.length_singleton]
      omega
theorem itoa_len3 (n : Int) (h0 : 0 ≤ n) (h1 : n ≤ 999) : (Go.Lib.itoa n).length ≤ 3 := by
  unfold Go.Lib.itoa
  rw [if_neg (by omega)]
  exact decDigits_len 2 _ (by omega)
theorem fm_len (n : Int) : (fmOf n).length ≤ 3 := by
  unfold fmOf
  split
  · split
    · simp
    · exact itoa_len3 n (by omega) (by omega)
  · simp
/-- What a version is written as. -/
def vsb (v : S48) : List UInt8 := Go.Lib.itoa v.f0 ++ [58] ++ vb v.f1 ++ [64] ++ Go.Lib.itoa v.f2 ++ [44] ++ Go.Lib.itoa v.f3 ++ [44] ++ fmOf v.f4
theorem vsb_eq (v : S48) : vsb v = Go.Lib.itoa v.f0 ++ ([58] ++ (vb v.f1 ++ ([64] ++ (Go.Lib.itoa v.f2 ++ ([44] ++ (Go.Lib.itoa v.f3 ++ ([44] ++ fmOf v.f4))))))) := by
  unfold vsb
  simp only [List.append_assoc]
theorem v_bd {v : S48} (h : vvS v = true) : (0 ≤ v.f0 ∧ v.f0 ≤ 9) ∧ (-1 ≤ v.f1 ∧ v.f1 ≤ 99) ∧ (0 ≤ v.f2 ∧ v.f2 ≤ 999) ∧ (0 ≤ v.f3 ∧ v.f3 ≤ 999) := by
  unfold vvS vv at h
  rw [decide_eq_true_eq] at h
  by_cases h0 : v.f2 = 0
  · have := h.2.2.2.2.1 h0
    omega
  · have := h.2.2.2.2.2 h0
    omega
theorem v_len {v : S48} (h : vvS v = true) : (Go.Lib.itoa v.f0).length ≤ 3 ∧ (vb v.f1).length ≤ 3 ∧ (Go.Lib.itoa v.f2).length ≤ 3 ∧ (Go.Lib.itoa v.f3).length ≤ 3 ∧ (fmOf v.f4).length ≤ 3 := by
  obtain ⟨h0, h1, h2, h3⟩ := v_bd h
  have := vb_len v.f1 h1.1 h1.2
  exact ⟨itoa_len3 _ (by omega) (by omega), by omega, itoa_len3 _ h2.1 h2.2, itoa_len3 _ h3.1 h3.2, fm_len _⟩
theorem vsb_len {v : S48} (h : vvS v = true) : (vsb v).length ≤ 20 := by
  obtain ⟨h0, h1, h2, h3, h4⟩ := v_len h
  unfold vsb
  simp only [List.length_append, List.length_singleton]
  omega
theorem b58 : (⟨#[58]⟩ : ByteArray) = bs [58] := rfl
theorem b64 : (⟨#[64]⟩ : ByteArray) = bs [64] := rfl
theorem b44 : (⟨#[44]⟩ : ByteArray) = bs [44] := rfl
theorem b32 : (⟨#[32]⟩ : ByteArray) = bs [32] := rfl
theorem map_get (l : List S48) (i : Nat) (h : i < l.length) : (l.map vsb).getD i [] = vsb (l.getD i z48) := by
  rw [List.getD_eq_getElem?_getD, List.getElem?_map, List.getElem?_eq_getElem h, List.getD_eq_getElem?_getD, List.getElem?_eq_getElem h]
  rfl
theorem spec_fc (l : List S48) (hl : l.length ≤ 1048576) (hv : vc l = true) : ∀ d i, i + d = l.length → Ev (fun k => spec_FormatChain.l0 k l (bs (jn (l.map vsb) i)) (i : Int)) (bs (jn (l.map vsb) l.length)) := by
  intro d
  induction d with
  | zero =>
    intro i hi
    obtain rfl : i = l.length := by omega
    exact Ev.step (fun k => spec_FormatChain.l0.eq_2 ..) (ev_neg (by omega) (Ev.now _))
  | succ d ih =>
    intro i hi
    have hvi := vc_at hv i (by omega)
    obtain ⟨q0, q1, q2, q3⟩ := v_bd hvi
    obtain ⟨k0, k1, k2, k3, k4⟩ := v_len hvi
    have hs := jn_len (l.map vsb) 20 (fun j hj => by rw [map_get l j (by simpa using hj)]; exact vsb_len (vc_at hv j (by simpa using hj))) i (by simp; omega)
    have next := ih (i + 1) (by omega)
    have body : ∀ p : List UInt8, p.length ≤ 30000000 → bs (p ++ vsb (l.getD i z48)) = bs (jn (l.map vsb) (i + 1)) → Ev (fun k => spec_FormatChain.j1 k l (bs p) (i : Int)) (bs (jn (l.map vsb) l.length)) := by
      intro p hp he
      refine Ev.step (fun k => spec_FormatChain.j1.eq_2 ..) (ev_pos (by omega) (ev_pos (by omega) ?_))
      rw [rd_nat, up i (by omega)]
      refine Ev.bind (spec_fi _ (by omega) (by omega)) ?_
      simp only [b58, b64, b44, bs_append, bs_size, List.length_append, List.length_singleton]
      refine ev_pos (by omega) (ev_pos (by omega) (Ev.bind (spec_val _ q1.1 q1.2) ?_))
      simp only [bs_append, bs_size, List.length_append, List.length_singleton]
      refine ev_pos (by omega) (ev_pos (by omega) (Ev.bind (spec_fi _ (by omega) (by omega)) ?_))
      simp only [bs_append, bs_size, List.length_append, List.length_singleton]
      refine ev_pos (by omega) (ev_pos (by omega) (Ev.bind (spec_fi _ (by omega) (by omega)) ?_))
      simp only [bs_append, bs_size, List.length_append, List.length_singleton]
      refine ev_pos (by omega) (ev_pos (by omega) (Ev.bind (spec_fm _) ?_))
      simp only [bs_append, bs_size, List.length_append, List.length_singleton]
      refine ev_pos (by omega) ?_
      rw [← he, vsb_eq] at next
      simp only [List.append_assoc]
      exact next
    refine Ev.step (fun k => spec_FormatChain.l0.eq_2 ..) (ev_pos (by omega) ?_)
    by_cases h0 : i = 0
    · subst h0
      refine ev_neg (by omega) (body [] (by simp) ?_)
      rw [jn_one _ (by simp; omega), map_get l 0 (by omega)]
      rfl
    · refine ev_pos (by omega) (ev_pos (by rw [bs_size]; omega) ?_)
      rw [b32, bs_append]
      refine body _ (by simp; omega) ?_
      rw [jn_next _ i (by simp; omega) (by omega), map_get l i (by omega)]
theorem impl_fc (l : List S48) (hl : l.length ≤ 1048576) (hv : vc l = true) : ∀ d i, i + d = l.length → Ev (fun k => impl_FormatChain.l0 k ((l.take i).map (fun v => bs (vsb v))) l (l.length : Int) (i : Int)) (bs (jn (l.map vsb) l.length)) := by
  intro d
  induction d with
  | zero =>
    intro i hi
    obtain rfl : i = l.length := by omega
    have hs := jn_len (l.map vsb) 20 (fun j hj => by rw [map_get l j (by simpa using hj)]; exact vsb_len (vc_at hv j (by simpa using hj))) l.length (by simp)
    refine Ev.step (fun k => impl_FormatChain.l0.eq_2 ..) (ev_neg (by omega) (ev_bindo ?_ (Ev.now _)))
    unfold strings_Join.f
    have e : ((l.take l.length).map (fun v => bs (vsb v))).map (·.data.toList) = (l.map vsb).take l.length := by
      rw [List.map_map, ← List.map_take]
      refine List.map_congr_left (fun v _ => ?_)
      simp [bs]
    rw [e, show ((⟨#[32]⟩ : ByteArray).data.toList) = [32] from rfl]
    have h3 : (Go.Lib.join ((l.map vsb).take l.length) [32]) = jn (l.map vsb) l.length := rfl
    rw [h3, if_pos (by simp; omega)]
    rfl
  | succ d ih =>
    intro i hi
    have hvi := vc_at hv i (by omega)
    obtain ⟨q0, q1, q2, q3⟩ := v_bd hvi
    obtain ⟨k0, k1, k2, k3, k4⟩ := v_len hvi
    have next := ih (i + 1) (by omega)
    refine Ev.step (fun k => impl_FormatChain.l0.eq_2 ..) (ev_pos (by omega) (ev_pos (by omega) (ev_pos (by omega) ?_)))
    rw [rd_nat, up i (by omega)]
    refine ev_bindo (impl_fi' _ (by omega) (by omega)) ?_
    simp only [b58, b64, b44, bs_append, bs_size, List.length_append, List.length_singleton]
    refine ev_pos (by omega) (ev_bindo (impl_val _ q1.1 q1.2) ?_)
    simp only [bs_append, bs_size, List.length_append, List.length_singleton]
    refine ev_pos (by omega) (ev_pos (by omega) (ev_bindo (impl_fi' _ (by omega) (by omega)) ?_))
    simp only [bs_append, bs_size, List.length_append, List.length_singleton]
    refine ev_pos (by omega) (ev_pos (by omega) (ev_bindo (impl_fi' _ (by omega) (by omega)) ?_))
    simp only [bs_append, bs_size, List.length_append, List.length_singleton]
    refine ev_pos (by omega) (ev_pos (by omega) (ev_bindo (impl_fm _) ?_))
    simp only [bs_append, bs_size, List.length_append, List.length_singleton]
    refine ev_pos (by omega) (ev_pos (by simp; omega) ?_)
    have et : l.take (i + 1) = l.take i ++ [l.getD i z48] := by
      rw [List.take_add_one, List.getElem?_eq_getElem (show i < l.length by omega), List.getD_eq_getElem?_getD, List.getElem?_eq_getElem (show i < l.length by omega)]
      rfl
    rw [et, List.map_append, List.map_cons, List.map_nil, vsb_eq] at next
    simp only [List.append_assoc]
    exact next
/-- What a chain is written as. -/
def fcb (m : List S48) : List UInt8 := if vc m = true then jn (m.map vsb) m.length else []
theorem spec_fch (m : List S48) (h : m.length ≤ 1048576) : Ev (fun k => spec_FormatChain.f k m) (bs (fcb m)) := by
  unfold spec_FormatChain.f fcb
  by_cases hv : vc m = true
  · rw [if_pos hv]
    exact Ev.bind (spec_vc m (by omega)) (ev_pos hv (spec_fc m h hv m.length 0 (by omega)))
  · rw [if_neg hv]
    exact Ev.bind (spec_vc m (by omega)) (ev_neg hv (Ev.now _))
theorem impl_fch (m : List S48) (h : m.length ≤ 1048576) : Ev (fun k => impl_FormatChain.f k m) (bs (fcb m)) := by
  unfold impl_FormatChain.f fcb
  by_cases hv : vc m = true
  · rw [if_pos hv]
    exact Ev.bind (impl_vc m (by omega)) (ev_pos hv (impl_fc m h hv m.length 0 (by omega)))
  · rw [if_neg hv]
    exact Ev.bind (impl_vc m (by omega)) (ev_neg hv (Ev.now _))
/-- One byte read. -/
def stp (p : Nat × Nat) (b : UInt8) : Nat × Nat := if 48 ≤ b.toNat ∧ b.toNat ≤ 57 then (p.1 * 10 + (b.toNat - 48), p.2 + 1) else p
/-- The digits' number and how many they are. -/
def pvL (l : List UInt8) : Nat × Nat := l.foldl stp (0, 0)
theorem pv_snoc (l : List UInt8) (b : UInt8) : pvL (l ++ [b]) = stp (pvL l) b := by
  unfold pvL
  rw [List.foldl_append]
  rfl
theorem stp_bd (p : Nat × Nat) (b : UInt8) (h : p.1 < 10 ^ p.2) : (stp p b).1 < 10 ^ (stp p b).2 ∧ (stp p b).2 ≤ p.2 + 1 := by
  unfold stp
  split
  · refine ⟨?_, Nat.le_refl _⟩
    show p.1 * 10 + (b.toNat - 48) < 10 ^ (p.2 + 1)
    rw [Nat.pow_succ]
    omega
  · exact ⟨h, Nat.le_succ _⟩
theorem pv_bd0 (l : List UInt8) : ∀ p : Nat × Nat, p.1 < 10 ^ p.2 → (l.foldl stp p).1 < 10 ^ (l.foldl stp p).2 ∧ (l.foldl stp p).2 ≤ p.2 + l.length := by
  induction l with
  | nil => intro p h; exact ⟨h, Nat.le_refl _⟩
  | cons b l ih =>
    intro p h
    obtain ⟨h1, h2⟩ := stp_bd p b h
    obtain ⟨h3, h4⟩ := ih _ h1
    refine ⟨h3, ?_⟩
    show (l.foldl stp (stp p b)).2 ≤ p.2 + (l.length + 1)
    omega
theorem pv_bd (l : List UInt8) : (pvL l).1 < 10 ^ (pvL l).2 ∧ (pvL l).2 ≤ l.length := by
  have := pv_bd0 l (0, 0) (by decide)
  unfold pvL
  exact ⟨this.1, by have := this.2; omega⟩
theorem ofNat_dig (d : Nat) (h : d < 10) : (UInt8.ofNat (48 + d)).toNat = 48 + d := by
  rw [UInt8.toNat_ofNat']
  omega
theorem stp_dig (p : Nat × Nat) (d : Nat) (h : d < 10) : stp p (UInt8.ofNat (48 + d)) = (p.1 * 10 + d, p.2 + 1) := by
  unfold stp
  rw [ofNat_dig d h, if_pos (by omega), show 48 + d - 48 = d by omega]
theorem pv_dd (u : Nat) : pvL (Go.Lib.decDigits u) = (u, (Go.Lib.decDigits u).length) := by
  induction u using Nat.strongRecOn with
  | ind u ih =>
    by_cases h : u < 10
    · rw [Go.Lib.decDigits_one h]
      have := stp_dig (0, 0) u h
      show stp (0, 0) (UInt8.ofNat (48 + u)) = _
      rw [this]
      simp
    · rw [Go.Lib.decDigits, dif_neg h, pv_snoc, ih (u / 10) (by omega), stp_dig _ _ (by omega)]
      simp only [List.length_append, List.length_singleton]
      congr 1
      omega
theorem decFrom_append (a b : List UInt8) : ∀ acc, Go.Lib.decFrom acc (a ++ b) = (Go.Lib.decFrom acc a).bind (fun x => Go.Lib.decFrom x b) := by
  induction a with
  | nil => intro acc; rfl
  | cons c a ih =>
    intro acc
    show (match Go.Lib.digitVal c with | some d => Go.Lib.decFrom (acc * 10 + d) (a ++ b) | none => none) = (match Go.Lib.digitVal c with | some d => Go.Lib.decFrom (acc * 10 + d) a | none => none).bind (fun x => Go.Lib.decFrom x b)
    cases Go.Lib.digitVal c with
    | none => rfl
    | some d => exact ih _
theorem digitVal_dig (d : Nat) (h : d < 10) : Go.Lib.digitVal (UInt8.ofNat (48 + d)) = some d := by
  unfold Go.Lib.digitVal
  rw [ofNat_dig d h, if_pos (by omega), show 48 + d - 48 = d by omega]
theorem decFrom_dd (u : Nat) : Go.Lib.decFrom 0 (Go.Lib.decDigits u) = some u := by
  induction u using Nat.strongRecOn with
  | ind u ih =>
    by_cases h : u < 10
    · rw [Go.Lib.decDigits_one h]
      unfold Go.Lib.decFrom
      rw [digitVal_dig u h]
      simp [Go.Lib.decFrom]
    · rw [Go.Lib.decDigits, dif_neg h, decFrom_append, ih (u / 10) (by omega), Option.bind_some]
      unfold Go.Lib.decFrom
      rw [digitVal_dig _ (by omega)]
      simp only [Go.Lib.decFrom]
      congr 1
      omega
theorem dd_head (u : Nat) : ∃ b r, Go.Lib.decDigits u = b :: r ∧ 48 ≤ b.toNat := by
  induction u using Nat.strongRecOn with
  | ind u ih =>
    by_cases h : u < 10
    · exact ⟨_, _, Go.Lib.decDigits_one h, by rw [ofNat_dig u h]; omega⟩
    · obtain ⟨b, r, e, hb⟩ := ih (u / 10) (by omega)
      refine ⟨b, r ++ [UInt8.ofNat (48 + u % 10)], ?_, hb⟩
      rw [Go.Lib.decDigits, dif_neg h, e]
      rfl
theorem decNat_dd (u : Nat) : Go.Lib.decNat (Go.Lib.decDigits u) = some u := by
  unfold Go.Lib.decNat
  obtain ⟨b, r, e, _⟩ := dd_head u
  rw [if_neg (by rw [e]; simp), decFrom_dd]
theorem itoa_10 (n : Int) (h0 : -999999999 ≤ n) (h1 : n ≤ 999999999) : (Go.Lib.itoa n).length ≤ 10 := by
  unfold Go.Lib.itoa
  split
  · have := decDigits_len 8 n.natAbs (by omega)
    simp only [List.length_cons]
    omega
  · have := decDigits_len 8 n.toNat (by omega)
    omega
theorem atoi_itoa (n : Int) : Go.Lib.atoi (Go.Lib.itoa n) = some n := by
  unfold Go.Lib.itoa
  by_cases h : n < 0
  · rw [if_pos h]
    unfold Go.Lib.atoi
    simp only [beq_self_eq_true, if_true, decNat_dd, Option.map_some]
    congr 1
    omega
  · rw [if_neg h]
    obtain ⟨b, r, e, hb⟩ := dd_head n.toNat
    have hd := decNat_dd n.toNat
    rw [e] at hd ⊢
    unfold Go.Lib.atoi
    have h1 : ¬ b = 45 := fun h => by subst h; exact absurd hb (by decide)
    have h2 : ¬ b = 43 := fun h => by subst h; exact absurd hb (by decide)
    simp only [beq_iff_eq, h1, h2, if_false, hd, Option.map_some]
    congr 1
    omega
theorem atoiAll_itoa (n : Int) (h0 : -999999999 ≤ n) (h1 : n ≤ 999999999) : Go.Lib.atoiAll (Go.Lib.itoa n) = .ok n := by
  rw [Go.Lib.atoiAll_short _ (by have := itoa_10 n h0 h1; omega), atoi_itoa]
  rfl
/-- What the reference reckons. -/
def pm (L : List UInt8) : Int := if L.head? = some 45 then -((pvL (L.take 11)).1 : Int) else ((pvL (L.take 11)).1 : Int)
def piOf (L : List UInt8) : Int × Bool := if (pvL (L.take 11)).2 ≤ 9 ∧ L.length ≤ 10 ∧ Go.Lib.itoa (pm L) = L then (pm L, true) else (0, false)
theorem pm_itoa (n : Int) (h0 : -999999999 ≤ n) (h1 : n ≤ 999999999) : pm (Go.Lib.itoa n) = n ∧ (pvL ((Go.Lib.itoa n).take 11)).2 ≤ 9 := by
  have hl := itoa_10 n h0 h1
  unfold pm
  rw [List.take_of_length_le (by omega)]
  unfold Go.Lib.itoa at hl ⊢
  by_cases h : n < 0
  · rw [if_pos h] at hl ⊢
    have e : pvL (45 :: Go.Lib.decDigits n.natAbs) = pvL (Go.Lib.decDigits n.natAbs) := rfl
    have hd := decDigits_len 8 n.natAbs (by omega)
    rw [e, pv_dd, if_pos (show (45 :: Go.Lib.decDigits n.natAbs).head? = some 45 from rfl)]
    exact ⟨by omega, hd⟩
  · rw [if_neg h] at hl ⊢
    obtain ⟨b, r, e, hb⟩ := dd_head n.toNat
    have hd := decDigits_len 8 n.toNat (by omega)
    rw [pv_dd, if_neg (by rw [e]; intro h; have := Option.some.inj h; subst this; exact absurd hb (by decide))]
    exact ⟨by omega, hd⟩
theorem pi_itoa (n : Int) (h0 : -999999999 ≤ n) (h1 : n ≤ 999999999) : piOf (Go.Lib.itoa n) = (n, true) := by
  obtain ⟨h2, h3⟩ := pm_itoa n h0 h1
  unfold piOf
  rw [if_pos ⟨h3, itoa_10 n h0 h1, by rw [h2]⟩, h2]
theorem pm_bd (L : List UInt8) (h : (pvL (L.take 11)).2 ≤ 9) : -999999999 ≤ pm L ∧ pm L ≤ 999999999 := by
  have hb := (pv_bd (L.take 11)).1
  have h2 : 10 ^ (pvL (L.take 11)).2 ≤ 10 ^ 9 := Nat.pow_le_pow_right (by decide) h
  unfold pm
  split <;> omega
theorem pi_no (L : List UInt8) (h : ∀ n : Int, -999999999 ≤ n → n ≤ 999999999 → L ≠ Go.Lib.itoa n) : piOf L = (0, false) := by
  unfold piOf
  rw [if_neg]
  rintro ⟨h1, _, h3⟩
  obtain ⟨h4, h5⟩ := pm_bd L h1
  exact h _ h4 h5 h3.symm
theorem bt_at (s : ByteArray) (i : Nat) (h : i < s.data.toList.length) : bt s (i : Int) = ((s.data.toList[i]).toNat : Int) := by
  have hs : i < s.size := by
    have : s.data.toList.length = s.size := Array.length_toList
    omega
  unfold bt
  rw [dif_pos (by rw [Int.toNat_natCast]; exact hs)]
  rfl
theorem impl_pi (s : ByteArray) (hs : s.size ≤ 1048576) : impl_ParseInt.f s = some (piOf s.data.toList) := by
  unfold impl_ParseInt.f
  rw [if_pos (by omega)]
  by_cases hx : ∃ n : Int, -999999999 ≤ n ∧ n ≤ 999999999 ∧ s.data.toList = Go.Lib.itoa n
  · obtain ⟨n, h0, h1, e⟩ := hx
    rw [e, atoiAll_itoa n h0 h1, pi_itoa n h0 h1]
    show impl_ParseInt.g s n = _
    unfold impl_ParseInt.g
    rw [impl_in_, Option.bind_some, if_pos (decide_eq_true ⟨h0, h1⟩), impl_fi n (by omega) (by omega), Option.bind_some, if_pos]
    rw [Go.Lib.toList_data, Go.Lib.toList_data, e]
    simp [bs]
  · have hno : ∀ n : Int, -999999999 ≤ n → n ≤ 999999999 → s.data.toList ≠ Go.Lib.itoa n := fun n h0 h1 e => hx ⟨n, h0, h1, e⟩
    rw [pi_no _ hno]
    cases hv : Go.Lib.atoiAll s.data.toList with
    | ok v =>
      show impl_ParseInt.g s v = _
      unfold impl_ParseInt.g
      rw [impl_in_, Option.bind_some]
      by_cases hr : -999999999 ≤ v ∧ v ≤ 999999999
      · rw [if_pos (decide_eq_true hr), impl_fi v (by omega) (by omega), Option.bind_some, if_neg]
        rw [Go.Lib.toList_data, Go.Lib.toList_data]
        intro e
        refine hno v hr.1 hr.2 ?_
        rw [← e]
        simp [bs]
      · rw [if_neg (by simpa using hr)]
    | «syntax» => rfl
    | range => rfl
theorem spec_pi (s : ByteArray) (hs : s.size ≤ 1048576) : Ev (fun k => spec_ParseInt.f k s) (piOf s.data.toList) := by
  obtain ⟨L, hL⟩ : ∃ L, s.data.toList = L := ⟨_, rfl⟩
  have hlen : L.length = s.size := by rw [← hL]; exact Array.length_toList
  have hbt : ∀ i (h : i < L.length), bt s (i : Int) = ((L[i]).toNat : Int) := by
    subst hL
    exact fun i h => bt_at s i h
  have hst : s.toList = L := by rw [Go.Lib.toList_data]; exact hL
  rw [hL]
  have hbd := pv_bd (L.take 11)
  have hc11 : (pvL (L.take 11)).2 ≤ 11 := by
    have : (L.take 11).length ≤ 11 := by simp; omega
    omega
  have hv11 : (pvL (L.take 11)).1 < 100000000000 := by
    have : 10 ^ (pvL (L.take 11)).2 ≤ 10 ^ 11 := Nat.pow_le_pow_right (by decide) hc11
    omega
  have last : ∀ neg : Bool, neg = decide (L.head? = some 45) → Ev (fun k => spec_ParseInt.j2 k s ((pvL (L.take 11)).1 : Int) ((pvL (L.take 11)).2 : Int) neg) (piOf L) := by
    intro neg hneg
    have core : ∀ m : Int, m = pm L → Ev (fun k => if ((pvL (L.take 11)).2 : Int) > 9 then (some ((0 : Int), false)) else (if (s.size : Int) > 10 then (some (0, false)) else ((spec_FormatInt.f k m).bind fun t107 => (if t107.toList = s.toList then (some (m, true)) else (some (0, false)))))) (piOf L) := by
      intro m hm
      subst hm
      unfold piOf
      refine ev_ite (fun h => ?_) (fun h => ev_ite (fun h2 => ?_) (fun h2 => ?_))
      · rw [if_neg (fun h' => by omega)]
        exact Ev.now _
      · rw [if_neg (fun h' => by omega)]
        exact Ev.now _
      · have hb := pm_bd L (by omega)
        refine Ev.bind (spec_fi _ (by omega) (by omega)) (ev_ite (fun h3 => ?_) (fun h3 => ?_))
        · have hcond : Go.Lib.itoa (pm L) = L := by
            rw [Go.Lib.toList_data, hst] at h3
            simpa [bs] using h3
          rw [if_pos ⟨by omega, by omega, hcond⟩]
          exact Ev.now _
        · rw [if_neg]
          · exact Ev.now _
          · rintro ⟨_, _, h6⟩
            refine h3 ?_
            rw [Go.Lib.toList_data, hst]
            conv => rhs; rw [← h6]
            simp [bs]
    refine Ev.step (fun k => spec_ParseInt.j2.eq_2 ..) (ev_ite (fun h => ?_) (fun h => ?_))
    · have h4 : L.head? = some 45 := by rw [hneg] at h; exact of_decide_eq_true h
      exact core (wrap64 (-((pvL (L.take 11)).1 : Int))) (by unfold pm; rw [if_pos h4, w64 (by omega) (by omega)])
    · have h4 : ¬ L.head? = some 45 := by rw [hneg] at h; exact fun h' => h (decide_eq_true h')
      exact core _ (by unfold pm; rw [if_neg h4])
  have tail : ∀ i : Int, Ev (fun k => spec_ParseInt.j1 k s ((pvL (L.take 11)).1 : Int) ((pvL (L.take 11)).2 : Int) i false) (piOf L) := by
    intro i
    refine Ev.step (fun k => spec_ParseInt.j1.eq_2 ..) (ev_neg (by simp) (ev_ite (fun h => ?_) (fun h => ?_)))
    · refine ev_pos (by omega) (last _ ?_)
      have h0 : 0 < L.length := by omega
      have hb := hbt 0 h0
      rw [show ((0 : Nat) : Int) = 0 from rfl] at hb
      rw [hb]
      cases L with
      | nil => simp at h0
      | cons b r =>
        show (((b.toNat : Nat) : Int) == 45) = decide (some b = some 45)
        rw [Bool.eq_iff_iff, beq_iff_eq, decide_eq_true_eq, Option.some.injEq]
        constructor
        · intro h; exact UInt8.toNat_inj.1 (show b.toNat = (45 : UInt8).toNat from by have : (45 : UInt8).toNat = 45 := rfl; omega)
        · intro h; subst h; rfl
    · refine last _ ?_
      have : L = [] := List.eq_nil_of_length_eq_zero (by omega)
      rw [this]
      rfl
  have loop : ∀ d i : Nat, i + d = min L.length 11 → Ev (fun k => spec_ParseInt.l0 k s ((pvL (L.take i)).1 : Int) ((pvL (L.take i)).2 : Int) (i : Int)) (piOf L) := by
    intro d
    induction d with
    | zero =>
      intro i hi
      have et : L.take i = L.take 11 := by
        by_cases h : L.length ≤ 11
        · rw [List.take_of_length_le (by omega), List.take_of_length_le h]
        · rw [show i = 11 by omega]
      rw [et]
      refine Ev.step (fun k => spec_ParseInt.l0.eq_2 ..) (ev_ite (fun h => ?_) (fun h => tail _))
      rw [decide_eq_false (by omega)]
      exact tail _
    | succ d ih =>
      intro i hi
      have hil : i < L.length := by omega
      have next := ih (i + 1) (by omega)
      rw [List.take_add_one, List.getElem?_eq_getElem hil, show (some L[i]).toList = [L[i]] from rfl, pv_snoc] at next
      have hbi := pv_bd (L.take i)
      have hci : (pvL (L.take i)).2 ≤ 11 := by
        have : (L.take i).length ≤ 11 := by simp; omega
        omega
      have hvi : (pvL (L.take i)).1 < 100000000000 := by
        have : 10 ^ (pvL (L.take i)).2 ≤ 10 ^ 11 := Nat.pow_le_pow_right (by decide) hci
        omega
      refine Ev.step (fun k => spec_ParseInt.l0.eq_2 ..) (ev_pos (by omega) ?_)
      rw [decide_eq_true (by omega)]
      refine Ev.step (fun k => spec_ParseInt.j1.eq_2 ..) (ev_pos rfl (ev_pos (by omega) (ev_pos (by omega) ?_)))
      rw [hbt i hil, up i (by omega)]
      unfold stp at next
      by_cases h : 48 ≤ (L[i]).toNat ∧ (L[i]).toNat ≤ 57
      · rw [if_pos h] at next
        refine ev_pos (by omega) (ev_pos (by omega) ?_)
        have e1 : wrap64 (wrap64 (((pvL (L.take i)).1 : Int) * 10) + (((L[i]).toNat : Int) - 48) % 256) = (((pvL (L.take i)).1 * 10 + ((L[i]).toNat - 48) : Nat) : Int) := by
          rw [w64 (n := ((pvL (L.take i)).1 : Int) * 10) (by omega) (by omega), w64 (by omega) (by omega)]
          omega
        have e2 : wrap64 (((pvL (L.take i)).2 : Int) + 1) = (((pvL (L.take i)).2 + 1 : Nat) : Int) := by
          rw [w64 (by omega) (by omega)]
          omega
        rw [e1, e2]
        exact next
      · rw [if_neg h] at next
        refine ev_ite (fun h1 => ev_neg (by omega) next) (fun h1 => next)
  unfold spec_ParseInt.f
  exact loop (min L.length 11) 0 (by omega)
theorem pi_true (L : List UInt8) (h : (piOf L).2 = true) : Go.Lib.itoa (piOf L).1 = L ∧ -999999999 ≤ (piOf L).1 ∧ (piOf L).1 ≤ 999999999 := by
  unfold piOf at h ⊢
  by_cases hc : (pvL (L.take 11)).2 ≤ 9 ∧ L.length ≤ 10 ∧ Go.Lib.itoa (pm L) = L
  · rw [if_pos hc] at h ⊢
    exact ⟨hc.2.2, pm_bd L hc.1⟩
  · rw [if_neg hc] at h
    cases h
theorem pi_false (L : List UInt8) (h : (piOf L).2 = false) : (piOf L).1 = 0 := by
  unfold piOf at h ⊢
  by_cases hc : (pvL (L.take 11)).2 ≤ 9 ∧ L.length ≤ 10 ∧ Go.Lib.itoa (pm L) = L
  · rw [if_pos hc] at h
    cases h
  · rw [if_neg hc]
theorem itoa_zero : Go.Lib.itoa 0 = [48] := by
  unfold Go.Lib.itoa
  rw [if_neg (by omega)]
  exact Go.Lib.decDigits_one (by decide)
theorem bs_list (l : List UInt8) : (bs l).toList = l := by
  rw [Go.Lib.toList_data]
  simp [bs]
/-- The mark of a text. -/
def pmkOf (L : List UInt8) : Int × Bool := if L = [105, 110, 102] then (1000, true) else if (piOf L).2 = true ∧ 0 ≤ (piOf L).1 ∧ (piOf L).1 ≤ 999 then ((piOf L).1, true) else (0, false)
theorem spec_pmk (s : ByteArray) (hs : s.size ≤ 1048576) : Ev (fun k => spec_ParseMark.f k s) (pmkOf s.toList) := by
  have hsp := spec_pi s hs
  rw [← Go.Lib.toList_data] at hsp
  unfold spec_ParseMark.f pmkOf
  refine ev_ite (fun h => ?_) (fun h => ?_)
  · rw [if_pos h]
    exact Ev.now _
  · rw [if_neg h]
    refine Ev.bind hsp ?_
    simp only [spec_in, Option.bind_some]
    refine ev_ite (fun h1 => ev_ite (fun h2 => ?_) (fun h2 => ?_)) (fun h1 => ?_)
    · have h3 := of_decide_eq_true h2
      rw [if_pos ⟨h1, h3.1, h3.2⟩]
      exact Ev.now _
    · rw [if_neg (fun h4 => h2 (decide_eq_true ⟨h4.2.1, h4.2.2⟩))]
      exact Ev.now _
    · rw [if_neg (fun h4 => h1 h4.1)]
      exact Ev.now _
theorem impl_pmk (s : ByteArray) (hs : s.size ≤ 1048576) : impl_ParseMark.f s = some (pmkOf s.toList) := by
  have hsp := impl_pi s hs
  rw [← Go.Lib.toList_data] at hsp
  obtain ⟨L, hL⟩ : ∃ L, s.toList = L := ⟨_, rfl⟩
  unfold impl_ParseMark.f pmkOf
  rw [hsp, Option.bind_some, hL]
  by_cases h : L = [105, 110, 102]
  · rw [if_pos h, if_pos h, if_neg (by rw [h]; simp), impl_fm, Option.bind_some, if_pos]
    rw [bs_list, h]
    rfl
  · rw [if_neg h, if_neg h]
    by_cases h0 : L = []
    · rw [if_pos h0, if_neg]
      rintro ⟨h1, _, _⟩
      have := (pi_true L h1).1
      rw [h0] at this
      have hl := congrArg List.length this
      obtain ⟨b, r, e, _⟩ := dd_head (piOf ([] : List UInt8)).1.toNat
      unfold Go.Lib.itoa at this
      split at this
      · cases this
      · rw [e] at this; cases this
    · rw [if_neg h0, impl_fm, Option.bind_some, bs_list]
      by_cases h1 : (piOf L).2 = true
      · obtain ⟨e, h2, h3⟩ := pi_true L h1
        by_cases h4 : 0 ≤ (piOf L).1 ∧ (piOf L).1 ≤ 999
        · have hf : fmOf (piOf L).1 = L := by
            unfold fmOf
            rw [if_pos (by omega), if_neg (by omega)]
            exact e
          have hc : (piOf L).2 = true ∧ 0 ≤ (piOf L).1 ∧ (piOf L).1 ≤ 999 := ⟨h1, h4.1, h4.2⟩
          rw [if_pos hf, if_pos hc]
        · have hf : ¬ fmOf (piOf L).1 = L := by
            intro h6
            unfold fmOf at h6
            split at h6
            · split at h6
              · exact h h6.symm
              · omega
            · exact h0 h6.symm
          have hc : ¬ ((piOf L).2 = true ∧ 0 ≤ (piOf L).1 ∧ (piOf L).1 ≤ 999) := fun h5 => h4 h5.2
          rw [if_neg hf, if_neg hc]
      · have h1' : (piOf L).2 = false := Bool.eq_false_iff.2 h1
        have h2 := pi_false L h1'
        have hc : ¬ ((piOf L).2 = true ∧ 0 ≤ (piOf L).1 ∧ (piOf L).1 ≤ 999) := fun h5 => h1 h5.1
        have hf : ¬ fmOf (piOf L).1 = L := by
         rw [h2]
         intro h6
         have h7 : fmOf 0 = [48] := by
           unfold fmOf
           rw [if_pos (by omega), if_neg (by omega), itoa_zero]
         rw [h7] at h6
         have h8 := pi_itoa 0 (by omega) (by omega)
         rw [itoa_zero, h6] at h8
         rw [h8] at h1
         exact h1 rfl
        rw [if_neg hf, if_neg hc]
theorem vs_set (l : List S48) (i : Nat) (hi : i < l.length) (a : S48) : (l.set i a).getD i z48 = a := by
  rw [List.getD_eq_getElem?_getD, List.getElem?_set, if_pos rfl, if_pos hi]
  rfl
theorem vs_ne (l : List S48) (i j : Nat) (h : i ≠ j) (a : S48) : (l.set i a).getD j z48 = l.getD j z48 := by
  rw [List.getD_eq_getElem?_getD, List.getElem?_set, if_neg h, ← List.getD_eq_getElem?_getD]
/-- The numbers that the law writes. -/
def nv (j : Nat) : S48 := ⟨1 + 5 * (j : Int), 2 + 5 * (j : Int), 3 + 5 * (j : Int), 4 + 5 * (j : Int), 5 + 5 * (j : Int)⟩
theorem mark_vv (n : Nat) (hn : n ≤ 1000000000) (d : Nat) : ∀ (i : Nat) (l : List S48), l.length = n → i + d = n → (∀ j, j < i → l.getD j z48 = nv j) →
    ∃ l', Ev (fun k => laws_markVersionS.l0 k l (1 + 5 * (i : Int)) (i : Int)) (1 + 5 * (n : Int), l') ∧ l'.length = n ∧ ∀ j, j < n → l'.getD j z48 = nv j := by
  induction d with
  | zero =>
    intro i l hl hi hj
    obtain rfl : i = n := by omega
    exact ⟨l, Ev.step (fun k => laws_markVersionS.l0.eq_2 ..) (ev_neg (by omega) (Ev.now _)), hl, hj⟩
  | succ d ih =>
    intro i l hl hi hj
    obtain ⟨l', h1, h2, h3⟩ := ih (i + 1) (l.set i (nv i)) (by simpa using hl) (by omega) (by
      intro j hj'
      by_cases e : i = j
      · subst e
        exact vs_set _ _ (by omega) _
      · rw [vs_ne _ _ _ e]
        exact hj j (by omega))
    have e : ∀ a, rd_T48 (l.set i a) (i : Int) = a := fun a => by rw [rd_nat]; exact vs_set l i (by omega) a
    refine ⟨l', Ev.step (fun k => laws_markVersionS.l0.eq_2 ..) (ev_pos (by omega) (ev_pos (by omega) (ev_bindo rfl (ev_bindo rfl (ev_bindo rfl (ev_bindo rfl ?_)))))), h2, h3⟩
    simp only [Int.toNat_natCast, List.set_set, e]
    rw [up i (by omega), w64 (n := 1 + 5 * (i : Int) + 1) (by omega) (by omega), w64 (n := 1 + 5 * (i : Int) + 1 + 1) (by omega) (by omega), w64 (n := 1 + 5 * (i : Int) + 1 + 1 + 1) (by omega) (by omega), w64 (n := 1 + 5 * (i : Int) + 1 + 1 + 1 + 1) (by omega) (by omega), w64 (by omega) (by omega), show 1 + 5 * (i : Int) + 1 + 1 + 1 + 1 + 1 = 1 + 5 * ((i + 1 : Nat) : Int) by omega, show 1 + 5 * (i : Int) + 1 + 1 + 1 + 1 = 5 + 5 * (i : Int) by omega, show 1 + 5 * (i : Int) + 1 + 1 + 1 = 4 + 5 * (i : Int) by omega, show 1 + 5 * (i : Int) + 1 + 1 = 3 + 5 * (i : Int) by omega, show 1 + 5 * (i : Int) + 1 = 2 + 5 * (i : Int) by omega]
    exact h1
theorem held_vv (l : List S48) (hn : l.length ≤ 1000000000) (h : ∀ j, j < l.length → l.getD j z48 = nv j) (d : Nat) : ∀ i : Nat, i + d = l.length → Ev (fun k => laws_heldVersionS.l0 k l (1 + 5 * (i : Int)) (i : Int)) (1 + 5 * (l.length : Int)) := by
  induction d with
  | zero =>
    intro i hi
    obtain rfl : i = l.length := by omega
    exact Ev.step (fun k => laws_heldVersionS.l0.eq_2 ..) (ev_neg (by omega) (Ev.now _))
  | succ d ih =>
    intro i hi
    refine Ev.step (fun k => laws_heldVersionS.l0.eq_2 ..) (ev_pos (by omega) (ev_pos (by omega) ?_))
    rw [up i (by omega), rd_nat, h i (by omega), w64 (n := 1 + 5 * (i : Int) + 1) (by omega) (by omega), w64 (n := 1 + 5 * (i : Int) + 1 + 1) (by omega) (by omega), w64 (n := 1 + 5 * (i : Int) + 1 + 1 + 1) (by omega) (by omega), w64 (n := 1 + 5 * (i : Int) + 1 + 1 + 1 + 1) (by omega) (by omega), w64 (by omega) (by omega)]
    refine ev_pos rfl (ev_pos (by show 2 + 5 * (i : Int) = _; omega) (ev_pos (by show 3 + 5 * (i : Int) = _; omega) (ev_pos (by show 4 + 5 * (i : Int) = _; omega) (ev_pos (by show 5 + 5 * (i : Int) = _; omega) ?_))))
    rw [show 1 + 5 * (i : Int) + 1 + 1 + 1 + 1 + 1 = 1 + 5 * ((i + 1 : Nat) : Int) by omega]
    exact ih (i + 1) (by omega)
/-- Numbered from 1 on, and found so again. -/
theorem mark_held_vv (l : List S48) (hn : l.length ≤ 1000000000) : ∃ l', Ev (fun k => laws_markVersionS.f k l 1) (1 + 5 * (l.length : Int), l') ∧ Ev (fun k => laws_heldVersionS.f k l' 1) (1 + 5 * (l.length : Int)) := by
  obtain ⟨l', h1, h2, h3⟩ := mark_vv l.length hn l.length 0 l rfl (by omega) (fun j hj => by omega)
  refine ⟨l', h1, ?_⟩
  have := held_vv l' (by omega) (by rw [h2]; exact h3) l'.length 0 (by omega)
  rw [h2] at this
  exact this
theorem ix_no (c : UInt8) : ∀ w : List UInt8, c ∉ w → Go.Lib.index w [c] = -1
  | [], _ => by simp [Go.Lib.index]
  | b :: w, h => by
    have h1 := ix_no c w (fun e => h (List.mem_cons_of_mem _ e))
    have h2 : ¬ c = b := fun e => h (by rw [e]; exact List.mem_cons_self)
    rw [Go.Lib.index, if_neg (by simp [List.isPrefixOf, h2]), h1]
    rfl
theorem ix_at (c : UInt8) (r : List UInt8) : ∀ w : List UInt8, c ∉ w → Go.Lib.index (w ++ c :: r) [c] = (w.length : Int)
  | [], _ => by rw [List.nil_append, Go.Lib.index]; simp [List.isPrefixOf]
  | b :: w, h => by
    have h1 := ix_at c r w (fun e => h (List.mem_cons_of_mem _ e))
    have h2 : ¬ c = b := fun e => h (by rw [e]; exact List.mem_cons_self)
    rw [List.cons_append, Go.Lib.index, if_neg (by simp [List.isPrefixOf, h2]), h1, if_neg (fun e => by have := beq_iff_eq.1 e; omega)]
    simp
theorem drop_at (c : UInt8) (w r : List UInt8) : (w ++ c :: r).drop (w.length + 1) = r := by
  rw [show w ++ c :: r = (w ++ [c]) ++ r by simp]
  exact List.drop_left' (by simp)
theorem cut_at (c : UInt8) (w r : List UInt8) (h : c ∉ w) : Go.Lib.cut (w ++ c :: r) [c] = (w, r, true) := by
  unfold Go.Lib.cut
  rw [ix_at c r w h, if_pos (by omega), Int.toNat_natCast, List.take_left' rfl]
  exact congrArg (fun x => (w, x, true)) (drop_at c w r)
theorem tail_cons (c : UInt8) (x : List UInt8) (ws : List (List UInt8)) : Go.Lib.joinTail [c] (x :: ws) = c :: (x ++ Go.Lib.joinTail [c] ws) := by
  simp [Go.Lib.joinTail]
theorem splitK_ws (c : UInt8) (ws : List (List UInt8)) : ∀ w : List UInt8, c ∉ w → (∀ x ∈ ws, c ∉ x) → Go.Lib.splitK [c] 0 ws.length (w ++ Go.Lib.joinTail [c] ws) = w :: ws := by
  induction ws with
  | nil => intro w h _; simp [Go.Lib.splitK, Go.Lib.joinTail]
  | cons x ws ih =>
    intro w h hx
    have := ih x (hx x List.mem_cons_self) (fun y hy => hx y (List.mem_cons_of_mem _ hy))
    rw [tail_cons, List.length_cons, Go.Lib.splitK, ix_at c _ w h, if_neg (fun e => by have := beq_iff_eq.1 e; omega), Int.toNat_natCast, Nat.add_zero, List.take_left' rfl]
    congr 1
    rw [show ([c] : List UInt8).length = 1 from rfl, drop_at]
    exact this
theorem count_ws (c : UInt8) (ws : List (List UInt8)) : ∀ w : List UInt8, c ∉ w → (∀ x ∈ ws, c ∉ x) → (w ++ Go.Lib.joinTail [c] ws).count c = ws.length := by
  induction ws with
  | nil => intro w h _; simp [Go.Lib.joinTail, List.count_eq_zero_of_not_mem h]
  | cons x ws ih =>
    intro w h hx
    have := ih x (hx x List.mem_cons_self) (fun y hy => hx y (List.mem_cons_of_mem _ hy))
    rw [tail_cons, List.count_append, List.count_eq_zero_of_not_mem h, List.count_cons_self, this]
    simp
theorem bs_data (s : ByteArray) : bs s.data.toList = s := by
  unfold bs
  simp
theorem data_bs (l : List UInt8) : (bs l).data.toList = l := by simp [bs]
theorem split_ws (c : UInt8) (w : List UInt8) (ws : List (List UInt8)) (h : c ∉ w) (hx : ∀ x ∈ ws, c ∉ x) (hl : (w ++ Go.Lib.joinTail [c] ws).length ≤ 1048576) :
    strings_Split.f (bs (w ++ Go.Lib.joinTail [c] ws)) (bs [c]) = some ((w :: ws).map bs) := by
  unfold strings_Split.f
  rw [if_pos ⟨by rw [bs_size]; omega, by rw [bs_size]; simp⟩]
  have hc : Go.Lib.countB (bs (w ++ Go.Lib.joinTail [c] ws)) (bs [c]) = ws.length := by
    show Go.Lib.count (bs _).data.toList (bs [c]).data.toList = _
    rw [data_bs, data_bs, Go.Lib.count_one, count_ws c ws w h hx]
  rw [hc]
  have hd := Go.Lib.splitB_data (bs [c]) 0 ws.length (bs (w ++ Go.Lib.joinTail [c] ws))
  rw [data_bs, data_bs, splitK_ws c ws w h hx] at hd
  rw [← hd, List.map_map]
  congr 1
  exact ((List.map_congr_left (fun s _ => bs_data s)).trans (List.map_id _)).symm
theorem splitB_size (sep : ByteArray) (k : Nat) : ∀ s : ByteArray, ∀ x ∈ Go.Lib.splitB sep 0 k s, x.size ≤ s.size := by
  induction k with
  | zero => intro s x hx; simp only [Go.Lib.splitB, List.mem_singleton] at hx; rw [hx]; exact Nat.le_refl _
  | succ k ih =>
    intro s x hx
    unfold Go.Lib.splitB at hx
    split at hx
    · simp only [List.mem_singleton] at hx; rw [hx]; exact Nat.le_refl _
    · simp only [List.mem_cons] at hx
      rcases hx with rfl | hx
      · rw [ByteArray.size_extract]; omega
      · have := ih _ x hx
        rw [ByteArray.size_extract] at this
        omega
/-- The words of a text, 'cur' read already. -/
def wd (c : UInt8) : List UInt8 → List UInt8 → List (List UInt8)
  | cur, [] => [cur]
  | cur, b :: r => if b = c then cur :: wd c [] r else wd c (cur ++ [b]) r
theorem wd_word (c : UInt8) (r : List UInt8) : ∀ (w cur : List UInt8), c ∉ w → wd c cur (w ++ r) = wd c (cur ++ w) r
  | [], cur, _ => by simp
  | b :: w, cur, h => by
    have h2 : ¬ b = c := fun e => h (by rw [e]; exact List.mem_cons_self)
    have := wd_word c r w (cur ++ [b]) (fun e => h (List.mem_cons_of_mem _ e))
    rw [List.cons_append, wd, if_neg h2, this]
    simp
theorem wd_ws (c : UInt8) (ws : List (List UInt8)) : ∀ w : List UInt8, c ∉ w → (∀ x ∈ ws, c ∉ x) → wd c [] (w ++ Go.Lib.joinTail [c] ws) = w :: ws := by
  induction ws with
  | nil => intro w h _; rw [wd_word c _ w [] h]; simp [wd, Go.Lib.joinTail]
  | cons x ws ih =>
    intro w h hx
    have := ih x (hx x List.mem_cons_self) (fun y hy => hx y (List.mem_cons_of_mem _ hy))
    rw [wd_word c _ w [] h, tail_cons, wd, if_pos rfl, this]
    rfl
theorem wd_len (c : UInt8) (r : List UInt8) : ∀ cur : List UInt8, (∀ x ∈ wd c cur r, x.length ≤ cur.length + r.length) ∧ (wd c cur r).length ≤ r.length + 1 := by
  induction r with
  | nil => intro cur; simp [wd]
  | cons b r ih =>
    intro cur
    unfold wd
    split
    · obtain ⟨h1, h2⟩ := ih []
      refine ⟨fun x hx => ?_, by simp only [List.length_cons]; omega⟩
      simp only [List.mem_cons] at hx
      rcases hx with rfl | hx
      · simp
      · have := h1 x hx
        simp only [List.length_cons, List.length_nil] at this ⊢
        omega
    · obtain ⟨h1, h2⟩ := ih (cur ++ [b])
      refine ⟨fun x hx => ?_, by simp only [List.length_cons]; omega⟩
      have := h1 x hx
      simp only [List.length_append, List.length_cons, List.length_nil] at this ⊢
      omega
theorem ext_bs (L : List UInt8) (a b : Nat) : (bs L).extract a b = bs ((L.drop a).take (b - a)) := by
  apply ByteArray.ext
  apply Array.toList_inj.1
  rw [ByteArray.data_extract, Array.toList_extract, List.extract_eq_take_drop, data_bs, data_bs]
theorem bt_bs (p : List UInt8) (b : UInt8) (r : List UInt8) : bt (bs (p ++ b :: r)) ((p.length : Nat) : Int) = ((b.toNat : Nat) : Int) := by
  rw [bt_at _ _ (by rw [data_bs]; simp)]
  have : (bs (p ++ b :: r)).data.toList[p.length]'(by rw [data_bs]; simp) = b := by
    simp only [data_bs]
    rw [List.getElem_append_right (by simp)]
    simp
  rw [this]
theorem cut_loop (c : UInt8) (s : List UInt8) (hs : s.length ≤ 1048576) : ∀ (r p cur : List UInt8) (acc : List ByteArray), s = p ++ cur ++ r → acc.length ≤ p.length →
    Ev (fun k => spec_l2Cut.l0 k (bs s) ((c.toNat : Nat) : Int) acc ((p.length : Nat) : Int) ((p.length + cur.length : Nat) : Int)) (acc ++ (wd c cur r).map bs) := by
  intro r
  induction r with
  | nil =>
    intro p cur acc he ha
    have hl : s.length = p.length + cur.length := by rw [he]; simp
    refine Ev.step (fun k => spec_l2Cut.l0.eq_2 ..) (ev_neg (by rw [bs_size]; omega) (ev_pos (by omega) (ev_pos (by rw [bs_size]; omega) (ev_pos (by omega) (ev_eq (Ev.now _) ?_)))))
    rw [Int.toNat_natCast, ext_bs, bs_size, hl, he]
    simp [wd]
  | cons b r ih =>
    intro p cur acc he ha
    have hl : s.length = p.length + cur.length + (r.length + 1) := by rw [he]; simp; omega
    have hb : bt (bs s) ((p.length + cur.length : Nat) : Int) = ((b.toNat : Nat) : Int) := by
      have := bt_bs (p ++ cur) b r
      rw [← he, List.length_append] at this
      exact this
    refine Ev.step (fun k => spec_l2Cut.l0.eq_2 ..) (ev_pos (by rw [bs_size]; omega) (ev_pos (by omega) ?_))
    rw [hb, up (p.length + cur.length) (by omega)]
    unfold wd
    by_cases h : b = c
    · subst h
      have := ih (p ++ cur ++ [b]) [] (acc ++ [bs cur]) (by rw [he]; simp) (by simp; omega)
      refine ev_pos rfl (ev_pos (by omega) (ev_pos (by omega) (ev_pos (by rw [bs_size]; omega) (ev_pos (by omega) ?_))))
      rw [if_pos rfl, Int.toNat_natCast, Int.toNat_natCast, ext_bs, show ((s.drop p.length).take (p.length + cur.length - p.length)) = cur by rw [he]; simp]
      have e : (p ++ cur ++ [b]).length = p.length + cur.length + 1 := by simp; omega
      rw [e] at this
      rw [List.map_cons, show acc ++ bs cur :: (wd b [] r).map bs = (acc ++ [bs cur]) ++ (wd b [] r).map bs by simp]
      exact this
    · have := ih p (cur ++ [b]) acc (by rw [he]; simp) ha
      have e : p.length + (cur ++ [b]).length = p.length + cur.length + 1 := by simp; omega
      rw [e] at this
      refine ev_neg (fun e2 => h (UInt8.toNat_inj.1 (by omega))) ?_
      rw [if_neg h]
      exact this
theorem spec_cut (c : UInt8) (s : List UInt8) (hs : s.length ≤ 1048576) : Ev (fun k => spec_l2Cut.f k (bs s) ((c.toNat : Nat) : Int)) ((wd c [] s).map bs) := cut_loop c s hs s [] [] [] rfl (Nat.le_refl _)
theorem dd_chars (u : Nat) : ∀ b ∈ Go.Lib.decDigits u, 48 ≤ b.toNat ∧ b.toNat ≤ 57 := by
  induction u using Nat.strongRecOn with
  | ind u ih =>
    intro b hb
    by_cases h : u < 10
    · rw [Go.Lib.decDigits_one h, List.mem_singleton] at hb
      rw [hb, ofNat_dig u h]
      omega
    · rw [Go.Lib.decDigits, dif_neg h, List.mem_append, List.mem_singleton] at hb
      rcases hb with hb | rfl
      · exact ih (u / 10) (by omega) b hb
      · rw [ofNat_dig _ (by omega)]
        omega
theorem itoa_chars (n : Int) : ∀ b ∈ Go.Lib.itoa n, b.toNat = 45 ∨ (48 ≤ b.toNat ∧ b.toNat ≤ 57) := by
  intro b hb
  unfold Go.Lib.itoa at hb
  split at hb
  · rw [List.mem_cons] at hb
    rcases hb with rfl | hb
    · exact .inl rfl
    · exact .inr (dd_chars _ b hb)
  · exact .inr (dd_chars _ b hb)
/-- None of the four that stand between. -/
def Sep (c : UInt8) : Prop := c.toNat = 58 ∨ c.toNat = 64 ∨ c.toNat = 44 ∨ c.toNat = 32
theorem itoa_sep (n : Int) (c : UInt8) (hc : Sep c) : c ∉ Go.Lib.itoa n := by
  intro h
  have := itoa_chars n c h
  unfold Sep at hc
  omega
theorem vb_sep (n : Int) (c : UInt8) (hc : Sep c) : c ∉ vb n := by
  unfold vb
  split
  · intro h
    rw [List.mem_singleton] at h
    subst h
    exact absurd hc (by unfold Sep; decide)
  · exact itoa_sep n c hc
theorem fm_sep (n : Int) (c : UInt8) (hc : Sep c) : c ∉ fmOf n := by
  unfold fmOf
  split
  · split
    · intro h
      simp only [List.mem_cons, List.not_mem_nil, or_false] at h
      rcases h with rfl | rfl | rfl <;> exact absurd hc (by unfold Sep; decide)
    · exact itoa_sep n c hc
  · simp
/-- The parts of a version's text. -/
def r3 (v : S48) : List UInt8 := Go.Lib.itoa v.f3 ++ 44 :: fmOf v.f4
def r2 (v : S48) : List UInt8 := Go.Lib.itoa v.f2 ++ 44 :: r3 v
def r1 (v : S48) : List UInt8 := vb v.f1 ++ 64 :: r2 v
theorem vsb_r (v : S48) : vsb v = Go.Lib.itoa v.f0 ++ 58 :: r1 v := by
  unfold vsb r1 r2 r3
  simp
theorem r2_sep (v : S48) (c : UInt8) (hc : Sep c) (h : c ≠ 44) : c ∉ r2 v := by
  unfold r2 r3
  simp only [List.mem_append, List.mem_cons, not_or]
  exact ⟨itoa_sep _ c hc, h, itoa_sep _ c hc, h, fm_sep _ c hc⟩
theorem vsb_sep (v : S48) : (32 : UInt8) ∉ vsb v := by
  have hs : Sep 32 := by unfold Sep; decide
  rw [vsb_r]
  unfold r1
  simp only [List.mem_append, List.mem_cons, not_or]
  exact ⟨itoa_sep _ _ hs, by decide, vb_sep _ _ hs, by decide, r2_sep v _ hs (by decide)⟩
theorem pmk_fm (n : Int) (h0 : 0 ≤ n) (h1 : n ≤ 1000) : pmkOf (fmOf n) = (n, true) := by
  unfold fmOf
  rw [if_pos ⟨h0, h1⟩]
  by_cases h : n = 1000
  · rw [if_pos h, h]
    rfl
  · rw [if_neg h]
    unfold pmkOf
    have hne : ¬ Go.Lib.itoa n = [105, 110, 102] := fun e => by
      have := itoa_chars n 105 (by rw [e]; simp)
      revert this
      decide
    rw [if_neg hne, pi_itoa n (by omega) (by omega)]
    exact if_pos ⟨rfl, h0, by omega⟩
theorem f4_bd {v : S48} (h : vvS v = true) : 0 ≤ v.f4 ∧ v.f4 ≤ 1000 := by
  unfold vvS vv at h
  rw [decide_eq_true_eq] at h
  omega
/-- What the reference makes of a value's text. -/
def nm (L : List UInt8) : Int := if L = [45] then -1 else if (piOf L).2 = true then (if (piOf L).1 < 0 then -2 else (piOf L).1) else -2
theorem spec_nm (L : List UInt8) (h : L.length ≤ 1048576) : Ev (fun k => spec_l3Number.f k (bs L)) (nm L) := by
  have hp := spec_pi (bs L) (by rw [bs_size]; exact h)
  rw [data_bs] at hp
  unfold spec_l3Number.f nm
  rw [bs_list]
  refine ev_ite (fun h1 => ?_) (fun h1 => ?_)
  · rw [if_pos h1]; exact Ev.now _
  · rw [if_neg h1]
    refine Ev.bind hp (ev_ite (fun h2 => ev_ite (fun h3 => ?_) (fun h3 => ?_)) (fun h2 => ?_))
    · rw [if_pos h2, if_pos h3]; exact Ev.now _
    · rw [if_pos h2, if_neg h3]; exact Ev.now _
    · rw [if_neg h2]; exact Ev.now _
theorem itoa_not (n : Int) (h : 0 ≤ n) : ¬ Go.Lib.itoa n = [45] := by
  intro e
  unfold Go.Lib.itoa at e
  rw [if_neg (by omega)] at e
  have := dd_chars n.toNat 45 (by rw [e]; simp)
  revert this
  decide
theorem nm_vb (n : Int) (h0 : -1 ≤ n) (h1 : n ≤ 99) : nm (vb n) = n := by
  unfold nm vb
  by_cases h : n = -1
  · rw [if_pos h, if_pos rfl, h]
  · rw [if_neg h, if_neg (itoa_not n (by omega)), pi_itoa n (by omega) (by omega)]
    show (if true = true then (if n < 0 then -2 else n) else -2) = n
    rw [if_pos rfl, if_neg (by omega)]
/-- What the reference reads behind the first colon. -/
def rv (A R : List UInt8) : Int × Int × Int × Int × Int :=
  if (wd 64 [] R).length = 2 then
    (if (wd 44 [] ((wd 64 [] R).getD 1 [])).length = 3 then
      ((piOf A).1, nm ((wd 64 [] R).getD 0 []), (piOf ((wd 44 [] ((wd 64 [] R).getD 1 [])).getD 0 [])).1, (piOf ((wd 44 [] ((wd 64 [] R).getD 1 [])).getD 1 [])).1, (pmkOf ((wd 44 [] ((wd 64 [] R).getD 1 [])).getD 2 [])).1)
    else ((piOf A).1, nm ((wd 64 [] R).getD 0 []), 0, 0, 0))
  else ((piOf A).1, -2, 0, 0, 0)
theorem rd_bs (ws : List (List UInt8)) (i : Nat) : rdOf ByteArray.empty (ws.map bs) (i : Int) = bs (ws.getD i []) := by
  unfold rdOf
  rw [Int.toNat_natCast, List.getD_eq_getElem?_getD, List.getElem?_map, List.getD_eq_getElem?_getD]
  cases ws[i]? <;> rfl
theorem getD_len {ws : List (List UInt8)} {n : Nat} (h : ∀ x ∈ ws, x.length ≤ n) (i : Nat) : (ws.getD i []).length ≤ n := by
  rw [List.getD_eq_getElem?_getD]
  cases e : ws[i]? with
  | none => simp
  | some x => exact h x (List.mem_of_getElem? e)
theorem read_j1 (L : List UInt8) (hL : L.length ≤ 1048576) (n : Nat) (hn : n ≤ L.length) : Ev (fun k => spec_l3Read.j1 k (bs L) (n : Int)) (rv (L.take n) (L.drop (n + 1))) := by
  have hA := spec_pi (bs (L.take n)) (by rw [bs_size]; simp; omega)
  rw [data_bs] at hA
  have hmn : mn (wrap64 ((n : Int) + 1)) ((bs L).size : Int) = ((min (n + 1) L.length : Nat) : Int) := by
    rw [up n (by omega), bs_size]
    unfold mn
    split <;> omega
  have hd : L.drop (min (n + 1) L.length) = L.drop (n + 1) := by
    by_cases h : n + 1 ≤ L.length
    · rw [show min (n + 1) L.length = n + 1 by omega]
    · rw [show min (n + 1) L.length = L.length by omega, List.drop_length, List.drop_eq_nil_of_le (by omega)]
  obtain ⟨R, hR⟩ : ∃ R, L.drop (n + 1) = R := ⟨_, rfl⟩
  have hRl : R.length ≤ 1048576 := by rw [← hR]; simp; omega
  have e2 : (bs L).extract (((min (n + 1) L.length : Nat) : Int)).toNat (bs L).size = bs R := by
    rw [Int.toNat_natCast, ext_bs, hd, hR, bs_size, List.take_of_length_le (by rw [← hR]; simp; omega)]
  have e1 : (bs L).extract 0 ((n : Int)).toNat = bs (L.take n) := by
    rw [Int.toNat_natCast, ext_bs]; simp
  refine Ev.step (fun k => spec_l3Read.j1.eq_2 ..) (ev_pos (by omega) (ev_pos (by rw [bs_size]; omega) ?_))
  rw [e1, hmn, e2, hR]
  have c64 := spec_cut 64 R hRl
  have l64 := wd_len 64 R []
  obtain ⟨W, hW⟩ : ∃ W, wd 64 [] R = W := ⟨_, rfl⟩
  unfold rv
  rw [hW] at c64 l64 ⊢
  have w1 : ∀ i, (W.getD i []).length ≤ 1048576 := fun i => by have := getD_len l64.1 i; simp only [List.length_nil] at this; omega
  refine Ev.bind hA (ev_pos (by omega) (ev_pos (by rw [bs_size]; omega) (Ev.bind c64 ?_)))
  rw [List.length_map]
  refine ev_ite (fun h2 => ?_) (fun h2 => ?_)
  · have h2' : W.length = 2 := by omega
    rw [if_pos h2']
    refine ev_pos (by omega) ?_
    have g0 := rd_bs W 0
    have g1 := rd_bs W 1
    rw [show ((0 : Nat) : Int) = 0 from rfl] at g0
    rw [show ((1 : Nat) : Int) = 1 from rfl] at g1
    rw [g0, g1]
    refine Ev.bind (spec_nm _ (w1 0)) (ev_pos (by omega) ?_)
    have c44 := spec_cut 44 (W.getD 1 []) (w1 1)
    have l44 := wd_len 44 (W.getD 1 []) []
    obtain ⟨M, hM⟩ : ∃ M, wd 44 [] (W.getD 1 []) = M := ⟨_, rfl⟩
    rw [hM] at c44 l44 ⊢
    have m1 : ∀ i, (bs (M.getD i [])).size ≤ 1048576 := fun i => by have := getD_len l44.1 i; have := w1 1; simp only [List.length_nil] at *; rw [bs_size]; omega
    refine Ev.bind c44 ?_
    rw [List.length_map]
    refine ev_ite (fun h3 => ?_) (fun h3 => ?_)
    · have h3' : M.length = 3 := by omega
      rw [if_pos h3']
      have k0 := rd_bs M 0
      have k1 := rd_bs M 1
      have k2 := rd_bs M 2
      rw [show ((0 : Nat) : Int) = 0 from rfl] at k0
      rw [show ((1 : Nat) : Int) = 1 from rfl] at k1
      rw [show ((2 : Nat) : Int) = 2 from rfl] at k2
      rw [k0, k1, k2]
      have p0 := spec_pi _ (m1 0)
      have p1 := spec_pi _ (m1 1)
      have p2 := spec_pmk _ (m1 2)
      rw [data_bs] at p0 p1
      rw [bs_list] at p2
      exact ev_pos (by omega) (Ev.bind p0 (ev_pos (by omega) (Ev.bind p1 (ev_pos (by omega) (Ev.bind p2 (Ev.now _))))))
    · rw [if_neg (by omega)]
      exact Ev.now _
  · rw [if_neg (by omega)]
    exact Ev.now _
theorem read_scan (L : List UInt8) (hL : L.length ≤ 1048576) (n : Nat) (hn : n ≤ L.length) (hj : ∀ j : Nat, j < n → ¬ bt (bs L) (j : Int) = 58) (he : n < L.length → bt (bs L) (n : Int) = 58) (d : Nat) :
    ∀ i : Nat, i + d = n → Ev (fun k => spec_l3Read.l0 k (bs L) (i : Int)) (rv (L.take n) (L.drop (n + 1))) := by
  induction d with
  | zero =>
    intro i hi
    obtain rfl : i = n := by omega
    have := read_j1 L hL i hn
    by_cases h : i < L.length
    · exact Ev.step (fun k => spec_l3Read.l0.eq_2 ..) (ev_pos (by rw [bs_size]; omega) (ev_pos (by omega) (ev_pos (he h) this)))
    · exact Ev.step (fun k => spec_l3Read.l0.eq_2 ..) (ev_neg (by rw [bs_size]; omega) this)
  | succ d ih =>
    intro i hi
    refine Ev.step (fun k => spec_l3Read.l0.eq_2 ..) (ev_pos (by rw [bs_size]; omega) (ev_pos (by omega) (ev_neg (hj i (by omega)) ?_)))
    rw [up i (by omega)]
    exact ih (i + 1) (by omega)
theorem read_any (L : List UInt8) (hL : L.length ≤ 1048576) : ∃ r, Ev (fun k => spec_l3Read.f k (bs L)) r := by
  cases h : fnd L.length (fun j => bt (bs L) (j : Int) = 58) with
  | some n =>
    obtain ⟨h1, h2, h3⟩ := fnd_some h
    exact ⟨_, read_scan L hL n (by omega) h3 (fun _ => h2) n 0 (by omega)⟩
  | none =>
    exact ⟨_, read_scan L hL L.length (Nat.le_refl _) (fnd_none h) (fun h => absurd h (by omega)) L.length 0 (by omega)⟩
theorem read_v (v : S48) (hv : vvS v = true) : Ev (fun k => spec_l3Read.f k (bs (vsb v))) (v.f0, v.f1, v.f2, v.f3, v.f4) := by
  obtain ⟨q0, q1, q2, q3⟩ := v_bd hv
  have q4 := f4_bd hv
  have hl := vsb_len hv
  have s58 : Sep 58 := by unfold Sep; decide
  have s64 : Sep 64 := by unfold Sep; decide
  have s44 : Sep 44 := by unfold Sep; decide
  rw [vsb_r] at hl ⊢
  have := read_scan (Go.Lib.itoa v.f0 ++ 58 :: r1 v) (by omega) (Go.Lib.itoa v.f0).length (by simp) (fun j hj => by
    rw [bt_at _ _ (by rw [data_bs]; simp; omega)]
    intro h
    have hm : (bs (Go.Lib.itoa v.f0 ++ 58 :: r1 v)).data.toList[j]'(by rw [data_bs]; simp; omega) = (Go.Lib.itoa v.f0)[j] := by
      simp only [data_bs]
      rw [List.getElem_append_left hj]
    rw [hm] at h
    have := itoa_chars v.f0 _ (List.getElem_mem hj)
    omega) (fun _ => bt_bs _ 58 _) (Go.Lib.itoa v.f0).length 0 (by omega)
  rw [List.take_left' rfl, drop_at] at this
  refine ev_eq this ?_
  have e1 : wd 64 [] (r1 v) = [vb v.f1, r2 v] := by
    have := wd_ws 64 [r2 v] (vb v.f1) (vb_sep _ _ s64) (fun x hx => by rw [List.mem_singleton] at hx; rw [hx]; exact r2_sep v _ s64 (by decide))
    rw [tail_cons] at this
    simpa [Go.Lib.joinTail, r1] using this
  have e2 : wd 44 [] (r2 v) = [Go.Lib.itoa v.f2, Go.Lib.itoa v.f3, fmOf v.f4] := by
    have := wd_ws 44 [Go.Lib.itoa v.f3, fmOf v.f4] (Go.Lib.itoa v.f2) (itoa_sep _ _ s44) (fun x hx => by
      simp only [List.mem_cons, List.not_mem_nil, or_false] at hx
      rcases hx with rfl | rfl
      · exact itoa_sep _ _ s44
      · exact fm_sep _ _ s44)
    rw [tail_cons, tail_cons] at this
    simpa [Go.Lib.joinTail, r2, r3] using this
  unfold rv
  rw [e1, if_pos (show ([vb v.f1, r2 v] : List (List UInt8)).length = 2 from rfl)]
  have g : ([vb v.f1, r2 v] : List (List UInt8)).getD 1 [] = r2 v := rfl
  rw [g, e2, if_pos (show ([Go.Lib.itoa v.f2, Go.Lib.itoa v.f3, fmOf v.f4] : List (List UInt8)).length = 3 from rfl)]
  show ((piOf (Go.Lib.itoa v.f0)).1, nm (vb v.f1), (piOf (Go.Lib.itoa v.f2)).1, (piOf (Go.Lib.itoa v.f3)).1, (pmkOf (fmOf v.f4)).1) = _
  rw [pi_itoa _ (by omega) (by omega), nm_vb _ q1.1 q1.2, pi_itoa _ (by omega) (by omega), pi_itoa _ (by omega) (by omega), pmk_fm _ q4.1 q4.2]
/-- The program's. -/
theorem cut_some (L : List UInt8) (hL : L.length ≤ 1048576) (c : UInt8) : strings_Cut.f (bs L) (bs [c]) = some (bs (Go.Lib.cut L [c]).1, bs (Go.Lib.cut L [c]).2.1, (Go.Lib.cut L [c]).2.2) ∧ (Go.Lib.cut L [c]).1.length ≤ 1048576 ∧ (Go.Lib.cut L [c]).2.1.length ≤ 1048576 := by
  refine ⟨?_, ?_⟩
  · unfold strings_Cut.f
    rw [if_pos (by rw [bs_size]; omega), data_bs, data_bs]
    rfl
  · unfold Go.Lib.cut
    split
    · refine ⟨by show (List.take _ _).length ≤ _; simp; omega, by show (List.drop _ _).length ≤ _; simp; omega⟩
    · exact ⟨hL, by simp⟩
def pvv (X : List UInt8) : Int := if X = [45] then -1 else (piOf X).1
theorem impl_pv (X : List UInt8) (h : X.length ≤ 1048576) : ∃ b, impl_parseValue.f (bs X) = some (pvv X, b) := by
  have hp := impl_pi (bs X) (by rw [bs_size]; exact h)
  rw [data_bs] at hp
  unfold impl_parseValue.f pvv
  rw [hp, Option.bind_some, bs_list]
  by_cases h1 : X = [45]
  · rw [if_pos h1, if_pos h1]; exact ⟨_, rfl⟩
  · rw [if_neg h1, if_neg h1]
    by_cases h2 : (piOf X).2 = true
    · rw [if_pos h2, impl_in_, Option.bind_some]; exact ⟨_, rfl⟩
    · rw [if_neg h2]; exact ⟨_, rfl⟩
def iv (L : List UInt8) : Int × Int × Int × Int × Int :=
  ((piOf (Go.Lib.cut L [58]).1).1, pvv (Go.Lib.cut (Go.Lib.cut L [58]).2.1 [64]).1, (piOf (Go.Lib.cut (Go.Lib.cut (Go.Lib.cut L [58]).2.1 [64]).2.1 [44]).1).1,
    (piOf (Go.Lib.cut (Go.Lib.cut (Go.Lib.cut (Go.Lib.cut L [58]).2.1 [64]).2.1 [44]).2.1 [44]).1).1, (pmkOf (Go.Lib.cut (Go.Lib.cut (Go.Lib.cut (Go.Lib.cut L [58]).2.1 [64]).2.1 [44]).2.1 [44]).2.1).1)
theorem parse_any (L : List UInt8) (hL : L.length ≤ 1048576) : impl_parseVersion.f (bs L) = some (iv L) := by
  obtain ⟨c1, a1, b1⟩ := cut_some L hL 58
  obtain ⟨c2, a2, b2⟩ := cut_some _ b1 64
  obtain ⟨c3, a3, b3⟩ := cut_some _ b2 44
  obtain ⟨c4, a4, b4⟩ := cut_some _ b3 44
  obtain ⟨z, hz⟩ := impl_pv _ a2
  have p1 := impl_pi (bs _) (by rw [bs_size]; exact a1)
  have p3 := impl_pi (bs _) (by rw [bs_size]; exact a3)
  have p4 := impl_pi (bs _) (by rw [bs_size]; exact a4)
  have p5 := impl_pmk (bs _) (by rw [bs_size]; exact b4)
  rw [data_bs] at p1 p3 p4
  rw [bs_list] at p5
  unfold impl_parseVersion.f iv
  rw [b58, b64, b44, c1]
  simp only [Option.bind_some]
  rw [c2]
  simp only [Option.bind_some]
  rw [c3]
  simp only [Option.bind_some]
  rw [c4]
  simp only [Option.bind_some]
  rw [p1]
  simp only [Option.bind_some]
  rw [hz]
  simp only [Option.bind_some]
  rw [p3]
  simp only [Option.bind_some]
  rw [p4]
  simp only [Option.bind_some]
  rw [p5]
  rfl
theorem parse_v (v : S48) (hv : vvS v = true) : iv (vsb v) = (v.f0, v.f1, v.f2, v.f3, v.f4) := by
  obtain ⟨q0, q1, q2, q3⟩ := v_bd hv
  have q4 := f4_bd hv
  have s58 : Sep 58 := by unfold Sep; decide
  have s64 : Sep 64 := by unfold Sep; decide
  have s44 : Sep 44 := by unfold Sep; decide
  have e1 : Go.Lib.cut (vsb v) [58] = (Go.Lib.itoa v.f0, r1 v, true) := by rw [vsb_r]; exact cut_at 58 _ _ (itoa_sep _ _ s58)
  have e2 : Go.Lib.cut (r1 v) [64] = (vb v.f1, r2 v, true) := cut_at 64 _ _ (vb_sep _ _ s64)
  have e3 : Go.Lib.cut (r2 v) [44] = (Go.Lib.itoa v.f2, r3 v, true) := cut_at 44 _ _ (itoa_sep _ _ s44)
  have e4 : Go.Lib.cut (r3 v) [44] = (Go.Lib.itoa v.f3, fmOf v.f4, true) := cut_at 44 _ _ (itoa_sep _ _ s44)
  have ev : pvv (vb v.f1) = v.f1 := by
    unfold pvv vb
    by_cases h : v.f1 = -1
    · rw [if_pos h, if_pos rfl, h]
    · rw [if_neg h, if_neg (itoa_not _ (by omega)), pi_itoa _ (by omega) (by omega)]
  unfold iv
  rw [e1]
  simp only
  rw [e2]
  simp only
  rw [e3]
  simp only
  rw [e4]
  simp only
  rw [pi_itoa _ (by omega) (by omega), ev, pi_itoa _ (by omega) (by omega), pi_itoa _ (by omega) (by omega), pmk_fm _ q4.1 q4.2]
theorem vc_pos {l : List S48} (h : vc l = true) : 0 < l.length := by
  unfold vc lastOk at h
  simp only [Bool.and_eq_true, decide_eq_true_eq] at h
  exact h.2.1
theorem chain_eq (l : List S48) (h : vc l = true) : ∃ v t, l = v :: t ∧ jn (l.map vsb) l.length = vsb v ++ Go.Lib.joinTail [32] (t.map vsb) := by
  cases l with
  | nil => exact absurd (vc_pos h) (by simp)
  | cons v t =>
    refine ⟨v, t, rfl, ?_⟩
    unfold jn
    rw [List.take_of_length_le (by simp), List.map_cons, Go.Lib.join_cons]
theorem chain_sep (t : List S48) : ∀ x ∈ t.map vsb, (32 : UInt8) ∉ x := by
  intro x hx
  obtain ⟨v, _, rfl⟩ := List.mem_map.1 hx
  exact vsb_sep v
theorem chain_wd (l : List S48) (h : vc l = true) : wd 32 [] (jn (l.map vsb) l.length) = l.map vsb := by
  obtain ⟨v, t, rfl, e⟩ := chain_eq l h
  rw [e, wd_ws 32 _ _ (vsb_sep v) (chain_sep t)]
  rfl
theorem chain_split (l : List S48) (h : vc l = true) (hl : (jn (l.map vsb) l.length).length ≤ 1048576) : strings_Split.f (bs (jn (l.map vsb) l.length)) (bs [32]) = some ((l.map vsb).map bs) := by
  obtain ⟨v, t, rfl, e⟩ := chain_eq l h
  rw [e] at hl ⊢
  rw [split_ws 32 _ _ (vsb_sep v) (chain_sep t) hl]
  rfl
theorem chain_ne (l : List S48) (h : vc l = true) : jn (l.map vsb) l.length ≠ [] := by
  obtain ⟨v, t, rfl, e⟩ := chain_eq l h
  rw [e, vsb_r]
  simp
theorem fcb_len (a l : List S48) (h : vc l = true) (he : fcb a = jn (l.map vsb) l.length) : a.length = l.length := by
  unfold fcb at he
  by_cases ha : vc a = true
  · rw [if_pos ha] at he
    have h1 := chain_wd a ha
    rw [he, chain_wd l h] at h1
    have := congrArg List.length h1
    simpa using this.symm
  · rw [if_neg ha] at he
    exact absurd he.symm (chain_ne l h)
theorem words_len (l : List S48) (h : vc l = true) (hl : (jn (l.map vsb) l.length).length ≤ 1048576) : l.length ≤ 1048577 := by
  have := (wd_len 32 (jn (l.map vsb) l.length) []).2
  rw [chain_wd l h, List.length_map] at this
  omega
theorem take_snoc (l : List S48) (i : Nat) (h : i < l.length) : l.take (i + 1) = l.take i ++ [l.getD i z48] := by
  rw [List.take_add_one, List.getElem?_eq_getElem h, List.getD_eq_getElem?_getD, List.getElem?_eq_getElem h]
  rfl
/-- What both give for a chain's text. -/
def pcOf (l : List S48) : List S48 × Bool := if l.length ≤ 100 then (l, true) else ([], false)
theorem specA (l : List S48) (hv : vc l = true) (hS : (jn (l.map vsb) l.length).length ≤ 1048576) (d : Nat) : ∀ i : Nat, i + d = min l.length 100 →
    Ev (fun k => spec_ParseChain.l0 k (bs (jn (l.map vsb) l.length)) (l.take i) ((l.map vsb).map bs) (i : Int)) (pcOf l) := by
  have hne := chain_ne l hv
  have hwl := words_len l hv hS
  induction d with
  | zero =>
    intro i hi
    have hf := spec_fch (l.take i) (by simp; omega)
    have fin : Ev (fun k => if (bs (jn (l.map vsb) l.length)).toList = ([] : List UInt8) then (some ((([] : List S48)), false)) else ((spec_FormatChain.f k (l.take i)).bind fun t => (if t.toList = (bs (jn (l.map vsb) l.length)).toList then (some (l.take i, true)) else (some ((([] : List S48)), false))))) (pcOf l) := by
      rw [bs_list]
      refine ev_neg hne (Ev.bind hf ?_)
      rw [bs_list]
      unfold pcOf
      by_cases h : l.length ≤ 100
      · rw [if_pos h, List.take_of_length_le (by omega)]
        exact ev_pos (by unfold fcb; rw [if_pos hv]) (Ev.now _)
      · rw [if_neg h]
        refine ev_neg (fun e => ?_) (Ev.now _)
        have := fcb_len _ l hv e
        rw [List.length_take] at this
        omega
    by_cases h : i < l.length
    · exact Ev.step (fun k => spec_ParseChain.l0.eq_2 ..) (ev_pos (by simp; omega) (ev_neg (by omega) fin))
    · exact Ev.step (fun k => spec_ParseChain.l0.eq_2 ..) (ev_neg (by simp; omega) fin)
  | succ d ih =>
    intro i hi
    have hil : i < l.length := by omega
    have hr := read_v _ (vc_at hv i hil)
    have next := ih (i + 1) (by omega)
    rw [take_snoc l i hil] at next
    refine Ev.step (fun k => spec_ParseChain.l0.eq_2 ..) (ev_pos (by simp; omega) (ev_pos (by omega) (ev_pos (by omega) ?_)))
    rw [rd_bs, map_get l i hil, up i (by omega)]
    exact Ev.bind hr (ev_pos (by simp; omega) next)
theorem implA (l : List S48) (hv : vc l = true) (hS : (jn (l.map vsb) l.length).length ≤ 1048576) (d : Nat) : ∀ i : Nat, i + d = l.length →
    Ev (fun k => impl_ParseChain.l0 k (bs (jn (l.map vsb) l.length)) (l.take i) ((l.map vsb).map bs) (l.length : Int) (i : Int)) (pcOf l) := by
  have hne := chain_ne l hv
  have hwl := words_len l hv hS
  induction d with
  | zero =>
    intro i hi
    obtain rfl : i = l.length := by omega
    rw [List.take_length]
    refine Ev.step (fun k => impl_ParseChain.l0.eq_2 ..) (ev_neg (by omega) ?_)
    rw [bs_list]
    refine ev_neg hne ?_
    unfold pcOf
    by_cases h : l.length ≤ 100
    · rw [if_pos h]
      refine ev_neg (by omega) (Ev.bind (impl_fch l (by omega)) ?_)
      rw [bs_list]
      exact ev_pos (by unfold fcb; rw [if_pos hv]) (Ev.now _)
    · rw [if_neg h]
      exact ev_pos (by omega) (Ev.now _)
  | succ d ih =>
    intro i hi
    have hil : i < l.length := by omega
    have hvi := vc_at hv i hil
    have hr := parse_any (vsb (l.getD i z48)) (by have := vsb_len hvi; omega)
    rw [parse_v _ hvi] at hr
    have next := ih (i + 1) (by omega)
    rw [take_snoc l i hil] at next
    refine Ev.step (fun k => impl_ParseChain.l0.eq_2 ..) (ev_pos (by omega) (ev_pos (by omega) (ev_pos (by simp; omega) ?_)))
    rw [rd_bs, map_get l i hil, up i (by omega)]
    exact ev_bindo hr (ev_pos (by simp; omega) next)
theorem specB (S : List UInt8) (hB : ∀ m : List S48, fcb m = S → S = []) (W : List (List UInt8)) (hW : ∀ x ∈ W, x.length ≤ 1048576) (d : Nat) : ∀ (i : Nat) (acc : List S48), i + d = 100 → acc.length ≤ i →
    Ev (fun k => spec_ParseChain.l0 k (bs S) acc (W.map bs) (i : Int)) ([], false) := by
  have fin : ∀ acc : List S48, acc.length ≤ 100 → Ev (fun k => if (bs S).toList = ([] : List UInt8) then (some ((([] : List S48)), false)) else ((spec_FormatChain.f k acc).bind fun t => (if t.toList = (bs S).toList then (some (acc, true)) else (some ((([] : List S48)), false))))) ([], false) := by
    intro acc ha
    rw [bs_list]
    refine ev_ite (fun _ => Ev.now _) (fun h => Ev.bind (spec_fch acc (by omega)) ?_)
    rw [bs_list]
    exact ev_neg (fun e => h (hB acc e)) (Ev.now _)
  induction d with
  | zero =>
    intro i acc hi ha
    refine Ev.step (fun k => spec_ParseChain.l0.eq_2 ..) (ev_ite (fun _ => ev_neg (by omega) (fin acc (by omega))) (fun _ => fin acc (by omega)))
  | succ d ih =>
    intro i acc hi ha
    refine Ev.step (fun k => spec_ParseChain.l0.eq_2 ..) (ev_ite (fun _ => ev_pos (by omega) (ev_pos (by omega) ?_)) (fun _ => fin acc (by omega)))
    obtain ⟨r, hr⟩ := read_any (W.getD i []) (getD_len hW i)
    rw [rd_bs, up i (by omega)]
    exact Ev.bind hr (ev_pos (by omega) (ih (i + 1) _ (by omega) (by simp; omega)))
theorem implB (S : List UInt8) (hB : ∀ m : List S48, fcb m = S → S = []) (W : List (List UInt8)) (hW : ∀ x ∈ W, x.length ≤ 1048576) (hl : W.length ≤ 1048577) (d : Nat) : ∀ (i : Nat) (acc : List S48), i + d = W.length → acc.length ≤ i →
    Ev (fun k => impl_ParseChain.l0 k (bs S) acc (W.map bs) (W.length : Int) (i : Int)) ([], false) := by
  induction d with
  | zero =>
    intro i acc hi ha
    refine Ev.step (fun k => impl_ParseChain.l0.eq_2 ..) (ev_neg (by omega) ?_)
    rw [bs_list]
    refine ev_ite (fun _ => Ev.now _) (fun h => ev_ite (fun _ => Ev.now _) (fun h2 => Ev.bind (impl_fch acc (by omega)) ?_))
    rw [bs_list]
    exact ev_neg (fun e => h (hB acc e)) (Ev.now _)
  | succ d ih =>
    intro i acc hi ha
    refine Ev.step (fun k => impl_ParseChain.l0.eq_2 ..) (ev_pos (by omega) (ev_pos (by omega) (ev_pos (by simp; omega) ?_)))
    rw [rd_bs, up i (by omega)]
    exact ev_bindo (parse_any _ (getD_len hW i)) (ev_pos (by omega) (ih (i + 1) _ (by omega) (by simp; omega)))
theorem both (S : List UInt8) (hS : S.length ≤ 1048576) : ∃ r, Ev (fun k => spec_ParseChain.f k (bs S)) r ∧ Ev (fun k => impl_ParseChain.f k (bs S)) r ∧ r.1.length ≤ 100 := by
  have hcut : Ev (fun k => spec_l2Cut.f k (bs S) 32) ((wd 32 [] S).map bs) := spec_cut 32 S hS
  by_cases hA : ∃ l : List S48, vc l = true ∧ jn (l.map vsb) l.length = S
  · obtain ⟨l, hv, rfl⟩ := hA
    rw [chain_wd l hv] at hcut
    refine ⟨pcOf l, ?_, ?_, ?_⟩
    · unfold spec_ParseChain.f
      exact Ev.bind hcut (specA l hv hS (min l.length 100) 0 (by omega))
    · unfold impl_ParseChain.f
      rw [b32]
      refine ev_bindo (chain_split l hv hS) ?_
      rw [List.length_map, List.length_map]
      exact implA l hv hS l.length 0 (by omega)
    · unfold pcOf
      split
      · assumption
      · simp
  · have hB : ∀ m : List S48, fcb m = S → S = [] := by
      intro m hm
      unfold fcb at hm
      by_cases h : vc m = true
      · rw [if_pos h] at hm
        exact absurd ⟨m, h, hm⟩ hA
      · rw [if_neg h] at hm
        exact hm.symm
    refine ⟨([], false), ?_, ?_, by simp⟩
    · unfold spec_ParseChain.f
      exact Ev.bind hcut (specB S hB _ (fun x hx => by have := (wd_len 32 S []).1 x hx; simp only [List.length_nil] at this; omega) 100 0 [] (by omega) (by simp))
    · unfold impl_ParseChain.f
      rw [b32]
      have hsp : strings_Split.f (bs S) (bs [32]) = some (((Go.Lib.splitB (bs [32]) 0 (Go.Lib.countB (bs S) (bs [32])) (bs S)).map (·.data.toList)).map bs) := by
        unfold strings_Split.f
        rw [if_pos ⟨by rw [bs_size]; omega, by rw [bs_size]; simp⟩, List.map_map]
        congr 1
        exact ((List.map_congr_left (fun s _ => bs_data s)).trans (List.map_id _)).symm
      refine ev_bindo hsp ?_
      obtain ⟨W, hWe⟩ : ∃ W, (Go.Lib.splitB (bs [32]) 0 (Go.Lib.countB (bs S) (bs [32])) (bs S)).map (·.data.toList) = W := ⟨_, rfl⟩
      rw [hWe, List.length_map]
      refine implB S hB W ?_ ?_ W.length 0 [] (by omega) (by simp)
      · intro x hx
        rw [← hWe] at hx
        obtain ⟨y, hy, rfl⟩ := List.mem_map.1 hx
        have := splitB_size _ _ _ y hy
        rw [bs_size] at this
        have h2 : y.data.toList.length = y.size := Array.length_toList
        omega
      · rw [← hWe, List.length_map]
        have h1 := Go.Lib.splitB_length_le (bs [32]) 0 (Go.Lib.countB (bs S) (bs [32])) (bs S)
        have h2 := Go.Lib.countB_le (bs [32]) (by rw [bs_size]; simp) (bs S).size (bs S) (Nat.le_refl _)
        rw [bs_size] at h2
        omega
theorem FnExactParseChain : laws_FnExactParseChain.Pure := by
  intro s _
  refine Ev.rounds (g := fun k => laws_FnExactParseChain.f k s) ?_
  refine ev_ite (fun _ => Ev.now _) (fun h => ?_)
  have hs : s.data.toList.length = s.size := Array.length_toList
  obtain ⟨r, h1, h2, h3⟩ := both s.data.toList (by omega)
  rw [bs_data] at h1 h2
  have he := eq_vs r.1 (by omega)
  obtain ⟨l', m1, m2⟩ := mark_held_vv r.1 (by omega)
  refine Ev.bind h1 (Ev.bind h2 (Ev.bind he (ev_pos rfl ?_)))
  refine Ev.step (fun k => laws_FnExactParseChain.j0.eq_2 ..) (ev_neg (by simp) (Ev.bind m1 (Ev.bind m2 (ev_neg (by omega) (ev_pos rfl (Ev.bind h2 (Ev.bind he (ev_pos rfl ?_))))))))
  exact Ev.step (fun k => laws_FnExactParseChain.j1.eq_2 ..) (ev_neg (by simp) (Ev.bind m2 (ev_neg (by omega) (ev_pos rfl (Ev.now _)))))

end Go.Proofs.YtfinkjmfhnnleaaDoor.Pure
