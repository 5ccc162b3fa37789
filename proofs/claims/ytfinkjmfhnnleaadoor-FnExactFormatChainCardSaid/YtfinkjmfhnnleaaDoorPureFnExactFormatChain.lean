/- FormatChain returns what the reference's returns. -/
import Derived.Test.YtfinkjmfhnnleaaDoorPFnExactFormatChainx6
import Derived.Test.YtfinkjmfhnnleaaDoorMEv
namespace Go.Proofs.YtfinkjmfhnnleaaDoor.Pure
open Go Go.RowKit Go.Proofs.YtfinkjmfhnnleaaDoor.PFnExactFormatChain Go.Proofs.YtfinkjmfhnnleaaDoorW.PrintWords Go.Proofs.YtfinkjmfhnnleaaDoorW.PrintLast Go.Proofs.YtfinkjmfhnnleaaDoorW.PrintMore Go.Proofs.YtfinkjmfhnnleaaDoorM
set_option linter.unusedVariables false
set_option linter.unusedSimpArgs false

theorem spec_in (a b c : Int) : spec_l1In.f a b c = some (decide (b ≤ a ∧ a ≤ c)) := by
  unfold spec_l1In.f
  by_cases h : b ≤ a <;> simp [h]
theorem impl_in_ (a b c : Int) : impl_in.f a b c = some (decide (b ≤ a ∧ a ≤ c)) := by
  unfold impl_in.f
  by_cases h : b ≤ a <;> simp [h]
/-- What a right version is. -/
def vv (a0 a1 a2 a3 a4 : Int) : Bool := decide ((-1 ≤ a1 ∧ a1 ≤ 99) ∧ (0 ≤ a2 ∧ a2 ≤ 999) ∧ (a2 ≤ a3 ∧ a3 ≤ 999) ∧ (1 ≤ a4 ∧ a4 ≤ 1000) ∧ (a2 = 0 → a0 = 0 ∧ a1 = -1) ∧ (a2 ≠ 0 → 1 ≤ a0 ∧ a0 ≤ 9))
theorem spec_vv (a0 a1 a2 a3 a4 : Int) : Ev (fun k => spec_IsValidVersion.f k a0 a1 a2 a3 a4) (vv a0 a1 a2 a3 a4) := by
  unfold spec_IsValidVersion.f
  simp only [spec_in, Option.bind_some]
  have hj : ∀ b : Bool, Ev (fun k => spec_IsValidVersion.j0 k b a0 a1 a2 a3 a4) (!b && decide ((a2 = 0 → a0 = 0 ∧ a1 = -1) ∧ (a2 ≠ 0 → 1 ≤ a0 ∧ a0 ≤ 9))) := by
    intro b
    refine Ev.step (fun k => spec_IsValidVersion.j0.eq_2 ..) ?_
    simp only [spec_in, Option.bind_some]
    repeat' refine ev_ite (fun h => ?_) (fun h => ?_)
    all_goals
      refine ev_eq (Ev.now _) ?_
      rw [Bool.eq_iff_iff]
      simp only [decide_eq_true_eq, beq_iff_eq, Bool.not_eq_true', Bool.and_eq_true, Bool.not_eq_true, Bool.false_eq_true, false_iff, true_iff] at *
      simp [*] <;> omega
  repeat' refine ev_ite (fun h => ?_) (fun h => ?_)
  all_goals
    refine ev_eq (hj _) ?_
    rw [Bool.eq_iff_iff]
    simp only [vv, decide_eq_true_eq, Bool.not_not, Bool.not_true, Bool.false_and, Bool.and_eq_true, Bool.false_eq_true, false_iff] at *
    omega
theorem impl_vv (a0 a1 a2 a3 a4 : Int) : Ev (fun k => impl_IsValidVersion.f k a0 a1 a2 a3 a4) (vv a0 a1 a2 a3 a4) := by
  unfold impl_IsValidVersion.f
  simp only [impl_isValue.f, impl_isID.f, impl_in_, Option.bind_some]
  have hj : ∀ b : Bool, Ev (fun k => impl_IsValidVersion.j0 k b a0 a1 a2 a3 a4) (!b && decide ((a2 = 0 → a0 = 0 ∧ a1 = -1) ∧ (a2 ≠ 0 → 1 ≤ a0 ∧ a0 ≤ 9))) := by
    intro b
    refine Ev.step (fun k => impl_IsValidVersion.j0.eq_2 ..) ?_
    simp only [impl_isValue.f, impl_isID.f, impl_in_, Option.bind_some]
    repeat' refine ev_ite (fun h => ?_) (fun h => ?_)
    all_goals
      refine ev_eq (Ev.now _) ?_
      rw [Bool.eq_iff_iff]
      simp only [decide_eq_true_eq, beq_iff_eq, Bool.not_eq_true', Bool.and_eq_true, Bool.not_eq_true, Bool.false_eq_true, false_iff, true_iff] at *
      simp [*] <;> omega
  repeat' refine ev_ite (fun h => ?_) (fun h => ?_)
  all_goals
    refine ev_eq (hj _) ?_
    rw [Bool.eq_iff_iff]
    simp only [vv, decide_eq_true_eq, Bool.not_not, Bool.not_true, Bool.false_and, Bool.and_eq_true, Bool.false_eq_true, false_iff] at *
    omega
/-- A version of the law's as one of the program's. -/
def cv (v : S50) : S48 := ⟨v.f0, v.f1, v.f2, v.f3, v.f4⟩
theorem to_loop (l : List S50) (hl : l.length ≤ 1048576) (d : Nat) : ∀ i, i + d = l.length → Ev (fun k => laws_toVersionS.l0 k l ((l.take i).map cv ++ List.replicate d z48) (i : Int)) (l.map cv) := by
  induction d with
  | zero =>
    intro i hi
    refine Ev.step (fun k => laws_toVersionS.l0.eq_2 ..) (ev_neg (by omega) ?_)
    rw [List.take_of_length_le (by omega), List.replicate_zero, List.append_nil]
    exact Ev.now _
  | succ d ih =>
    intro i hi
    refine Ev.step (fun k => laws_toVersionS.l0.eq_2 ..) (ev_pos (by omega) (ev_pos (by omega) ?_))
    simp only [laws_toVersion.f, Option.bind_some]
    refine ev_pos (by simp; omega) ?_
    rw [up i (by omega)]
    have h1 : ((l.take i).map cv ++ List.replicate (d + 1) z48).set ((i : Int)).toNat (cv (rd_T50 l (i : Int))) = (l.take (i + 1)).map cv ++ List.replicate d z48 := by
      have h2 : rd_T50 l (i : Int) = l[i] := by unfold rd_T50; exact get_eq l _ i (by omega)
      have h3 : ((l.take i).map cv).length = i := by simp; omega
      rw [h2, Int.toNat_natCast, List.set_append_right _ _ (by omega), h3, Nat.sub_self, List.replicate_succ, List.set_cons_zero, List.take_succ_eq_append_getElem (by omega), List.map_append]
      simp
    exact h1 ▸ ih (i + 1) (by omega)
theorem to_vs (l : List S50) (hl : l.length ≤ 1048576) : Ev (fun k => laws_toVersionS.f k l) (l.map cv) := by
  unfold laws_toVersionS.f
  refine ev_pos (by omega) (ev_pos (by omega) ?_)
  have := to_loop l hl l.length 0 (by omega)
  rw [List.take_zero, List.map_nil, List.nil_append] at this
  exact this
theorem eq_vs (a : List S48) (hl : a.length ≤ 9223372036854775806) : Ev (fun k => laws_eqVersionS.f k a a) true := by
  unfold laws_eqVersionS.f
  refine ev_pos rfl ?_
  have h : ∀ d i, i + d = a.length → Ev (fun k => laws_eqVersionS.l0 k a a (i : Int)) true := by
    intro d
    induction d with
    | zero =>
      intro i hi
      exact Ev.step (fun k => laws_eqVersionS.l0.eq_2 ..) (ev_neg (by omega) (Ev.now _))
    | succ d ih =>
      intro i hi
      refine Ev.step (fun k => laws_eqVersionS.l0.eq_2 ..) (ev_pos (by omega) (ev_pos (by omega) (ev_pos (by omega) ?_)))
      simp only [laws_eqVersion.f, if_true, Option.bind_some]
      rw [up i (by omega)]
      exact ih (i + 1) (by omega)
  exact h a.length 0 (by omega)
/-- The size that the law allows. -/
theorem sz_vs (l : List S50) (hl : l.length ≤ 9223372036854775807) (n : Int) (h0 : 0 ≤ n) (hn : n ≤ 1048576) : ∃ r, laws_szVersionS.f l n = some r ∧ (0 ≤ r → r = n - l.length) ∧ (r < 0 → n < l.length) := by
  unfold laws_szVersionS.f
  rw [w64 (by omega) (by omega)]
  by_cases h : n - (l.length : Int) < 0
  · exact ⟨-1, by rw [if_pos h], fun h2 => by omega, fun _ => by omega⟩
  · exact ⟨n - l.length, by rw [if_neg h], fun _ => rfl, fun h2 => absurd h2 h⟩
/-- One version after another. -/
def Ord (u v : S48) : Prop := ¬ u.f2 ≥ v.f2 ∧ ¬ u.f4 > v.f2
instance (u v : S48) : Decidable (Ord u v) := by unfold Ord; exact inferInstance
def vvS (v : S48) : Bool := vv v.f0 v.f1 v.f2 v.f3 v.f4
def lastOk (l : List S48) : Bool := decide (0 < l.length) && (l.getD (l.length - 1) z48).f4 == 1000
/-- What a right chain is. -/
def vc (l : List S48) : Bool := decide (∀ j, j < l.length → vvS (l.getD j z48) = true ∧ (j + 1 < l.length → Ord (l.getD j z48) (l.getD (j + 1) z48))) && lastOk l
theorem rd_nat (l : List S48) (i : Nat) : rd_T48 l (i : Int) = l.getD i z48 := by unfold rd_T48; rw [Int.toNat_natCast]
theorem last_ev (l : List S48) (hl : l.length ≤ 9223372036854775806) : Ev (fun _ => if (l.length : Int) > 0 then (if 0 ≤ (wrap64 ((l.length : Int) - 1)) then (if (wrap64 ((l.length : Int) - 1)) < (l.length : Int) then (some (((rd_T48 l (wrap64 ((l.length : Int) - 1))).f4) == 1000)) else (none)) else (none)) else (some false)) (lastOk l) := by
  by_cases h : 0 < l.length
  · have e : wrap64 ((l.length : Int) - 1) = ((l.length - 1 : Nat) : Int) := by rw [w64 (by omega) (by omega)]; omega
    rw [e]
    refine ev_pos (by omega) (ev_pos (by omega) (ev_pos (by omega) ?_))
    rw [rd_nat]
    refine ev_eq (Ev.now _) ?_
    unfold lastOk
    rw [decide_eq_true h, Bool.true_and]
  · refine ev_neg (by omega) ?_
    refine ev_eq (Ev.now _) ?_
    unfold lastOk
    rw [decide_eq_false h, Bool.false_and]
theorem spec_vc (l : List S48) (hl : l.length ≤ 9223372036854775806) : Ev (fun k => spec_IsValidChain.f k l) (vc l) := by
  unfold spec_IsValidChain.f vc
  refine all_loop0 (g := fun k i => spec_IsValidChain.l0 k l i) l.length (fun j => vvS (l.getD j z48) = true ∧ (j + 1 < l.length → Ord (l.getD j z48) (l.getD (j + 1) z48))) ?_ ?_ ?_
  · exact Ev.step (fun k => spec_IsValidChain.l0.eq_2 ..) (ev_neg (by omega) (last_ev l hl))
  · intro i hi hp r hr
    refine Ev.step (fun k => spec_IsValidChain.l0.eq_2 ..) (ev_pos (by omega) (ev_pos (by omega) ?_))
    rw [rd_nat, up i (by omega), rd_nat]
    refine Ev.bind (spec_vv _ _ _ _ _) (ev_pos hp.1 (ev_ite (fun h => ?_) (fun _ => hr)))
    have ho := hp.2 (by omega)
    exact ev_pos (by omega) (ev_neg ho.1 (ev_neg ho.2 hr))
  · intro i hi hp
    refine Ev.step (fun k => spec_IsValidChain.l0.eq_2 ..) (ev_pos (by omega) (ev_pos (by omega) ?_))
    rw [rd_nat, up i (by omega), rd_nat]
    refine Ev.bind (spec_vv _ _ _ _ _) (ev_ite (fun h1 => ev_ite (fun h2 => ev_pos (by omega) (ev_ite (fun h3 => Ev.now _) (fun h3 => ev_ite (fun h4 => Ev.now _) (fun h4 => ?_)))) (fun h2 => ?_)) (fun _ => Ev.now _))
    · exact absurd ⟨h1, fun _ => ⟨h3, h4⟩⟩ hp
    · exact absurd ⟨h1, fun h => absurd h (by omega)⟩ hp
theorem impl_vc (l : List S48) (hl : l.length ≤ 9223372036854775806) : Ev (fun k => impl_IsValidChain.f k l) (vc l) := by
  have hv : vc l = (decide (∀ j, j < l.length → vvS (l.getD j z48) = true ∧ (0 < j → Ord (l.getD (j - 1) z48) (l.getD j z48))) && lastOk l) := by
    unfold vc
    congr 1
    rw [decide_eq_decide]
    constructor
    · intro h j hj
      refine ⟨(h j hj).1, fun h0 => ?_⟩
      have := (h (j - 1) (by omega)).2 (by omega)
      rwa [show j - 1 + 1 = j by omega] at this
    · intro h j hj
      refine ⟨(h j hj).1, fun h0 => ?_⟩
      have := (h (j + 1) h0).2 (by omega)
      rwa [show j + 1 - 1 = j by omega] at this
  rw [hv]
  unfold impl_IsValidChain.f
  refine all_loop0 (g := fun k i => impl_IsValidChain.l0 k l l (l.length : Int) i) l.length (fun j => vvS (l.getD j z48) = true ∧ (0 < j → Ord (l.getD (j - 1) z48) (l.getD j z48))) ?_ ?_ ?_
  · exact Ev.step (fun k => impl_IsValidChain.l0.eq_2 ..) (ev_neg (by omega) (last_ev l hl))
  · intro i hi hp r hr
    refine Ev.step (fun k => impl_IsValidChain.l0.eq_2 ..) (ev_pos (by omega) (ev_pos (by omega) (ev_pos (by omega) ?_)))
    rw [rd_nat, up i (by omega)]
    refine Ev.bind (impl_vv _ _ _ _ _) (ev_pos hp.1 (ev_ite (fun h => ?_) (fun _ => hr)))
    have e : wrap64 ((i : Int) - 1) = ((i - 1 : Nat) : Int) := by rw [w64 (by omega) (by omega)]; omega
    rw [e, rd_nat]
    have ho := hp.2 (by omega)
    exact ev_pos (by omega) (ev_pos (by omega) (ev_neg ho.1 (ev_neg ho.2 hr)))
  · intro i hi hp
    refine Ev.step (fun k => impl_IsValidChain.l0.eq_2 ..) (ev_pos (by omega) (ev_pos (by omega) (ev_pos (by omega) ?_)))
    rw [rd_nat, up i (by omega)]
    refine Ev.bind (impl_vv _ _ _ _ _) (ev_ite (fun h1 => ev_ite (fun h2 => ?_) (fun h2 => ?_)) (fun _ => Ev.now _))
    · have e : wrap64 ((i : Int) - 1) = ((i - 1 : Nat) : Int) := by rw [w64 (by omega) (by omega)]; omega
      rw [e, rd_nat]
      exact ev_pos (by omega) (ev_pos (by omega) (ev_ite (fun h3 => Ev.now _) (fun h3 => ev_ite (fun h4 => Ev.now _) (fun h4 => absurd ⟨h1, fun _ => ⟨h3, h4⟩⟩ hp))))
    · exact absurd ⟨h1, fun h => absurd h (by omega)⟩ hp
theorem vc_at {l : List S48} (h : vc l = true) (j : Nat) (hj : j < l.length) : vvS (l.getD j z48) = true := by
  unfold vc at h
  simp only [Bool.and_eq_true, decide_eq_true_eq] at h
  exact (h.1 j hj).1
/-- A string of these bytes. -/
def bs (l : List UInt8) : ByteArray := ⟨l.toArray⟩
theorem bs_append (a b : List UInt8) : bs a ++ bs b = bs (a ++ b) := by
  apply ByteArray.ext
  simp [bs]
theorem bs_size (a : List UInt8) : (bs a).size = a.length := by simp [bs, ByteArray.size]
/-- The digits of a number, none of nought. -/
def dd (u : Nat) : List UInt8 := if u = 0 then [] else Go.Lib.decDigits u
theorem dd_step (u : Nat) (h : u ≠ 0) : dd u = dd (u / 10) ++ [UInt8.ofNat (48 + u % 10)] := by
  unfold dd
  rw [if_neg h]
  by_cases h10 : u < 10
  · rw [Go.Lib.decDigits_one h10, if_pos (by omega), Nat.mod_eq_of_lt h10]
    rfl
  · rw [if_neg (by omega)]
    conv => lhs; rw [Go.Lib.decDigits, dif_neg h10]
theorem tmod_abs (n : Int) : (n < 0 → n.tmod 10 = -((n.natAbs % 10 : Nat) : Int)) ∧ (0 ≤ n → n.tmod 10 = ((n.natAbs % 10 : Nat) : Int)) ∧ (n < 0 → n.tdiv 10 = -((n.natAbs / 10 : Nat) : Int)) ∧ (0 ≤ n → n.tdiv 10 = ((n.natAbs / 10 : Nat) : Int)) := by
  have p : ∀ u : Nat, ((u : Int)).tmod 10 = ((u % 10 : Nat) : Int) ∧ ((u : Int)).tdiv 10 = ((u / 10 : Nat) : Int) := fun u => ⟨rfl, rfl⟩
  refine ⟨fun h => ?_, fun h => ?_, fun h => ?_, fun h => ?_⟩
  · have e : n = -(n.natAbs : Int) := by omega
    rw [e, Int.neg_tmod, (p _).1, Int.natAbs_neg, Int.natAbs_natCast]
  · have e : n = (n.natAbs : Int) := by omega
    rw [e, (p _).1, Int.natAbs_natCast]
  · have e : n = -(n.natAbs : Int) := by omega
    rw [e, Int.neg_tdiv, (p _).2, Int.natAbs_neg, Int.natAbs_natCast]
  · have e : n = (n.natAbs : Int) := by omega
    rw [e, (p _).2, Int.natAbs_natCast]
theorem fi_loop (neg : Bool) (m : Nat) : ∀ (n : Int), -9223372036854775808 ≤ n → n ≤ 9223372036854775807 → n.natAbs < 10 ^ m → ∀ l : List UInt8, l.length + m ≤ 30 →
    Ev (fun k => spec_FormatInt.l0 k n (bs l) neg) (bs ((if neg = true then [45] else []) ++ dd n.natAbs ++ l)) := by
  have zero : ∀ l : List UInt8, l.length ≤ 30 → Ev (fun k => spec_FormatInt.l0 k 0 (bs l) neg) (bs ((if neg = true then [45] else []) ++ dd 0 ++ l)) := by
    intro l hl
    refine Ev.step (fun k => spec_FormatInt.l0.eq_2 ..) (ev_pos rfl (ev_ite (fun h => ?_) (fun h => ?_)))
    · rw [if_pos h]
      refine ev_pos (by rw [bs_size]; omega) (ev_eq (Ev.now _) ?_)
      exact bs_append [45] l
    · rw [if_neg h]
      exact Ev.now _
  induction m with
  | zero =>
    intro n h0 h1 hm l hl
    obtain rfl : n = 0 := by omega
    exact zero l (by omega)
  | succ m ih =>
    intro n h0 h1 hm l hl
    by_cases hn : n = 0
    · subst hn
      exact zero l (by omega)
    · obtain ⟨t1, t2, t3, t4⟩ := tmod_abs n
      have ha : n.natAbs ≠ 0 := by omega
      have hd : (n.tdiv 10).natAbs = n.natAbs / 10 := by
        by_cases h : n < 0
        · rw [t3 h]; omega
        · rw [t4 (by omega)]; omega
      have hlt : n.natAbs / 10 < 10 ^ m := by
        rw [Nat.pow_succ] at hm
        omega
      have hw : wrap64 (n.tdiv 10) = n.tdiv 10 := w64 (by omega) (by omega)
      have hx := ih (n.tdiv 10) (by omega) (by omega) (by rw [hd]; exact hlt) (UInt8.ofNat (48 + n.natAbs % 10) :: l) (by simp; omega)
      rw [hd] at hx
      have er : bs ((if neg = true then [45] else []) ++ dd (n.natAbs / 10) ++ (UInt8.ofNat (48 + n.natAbs % 10) :: l)) = bs ((if neg = true then [45] else []) ++ dd n.natAbs ++ l) := by
        rw [dd_step n.natAbs ha]
        simp
      have hx := ev_eq hx er
      have es : ∀ c : Int, c = ((48 + n.natAbs % 10 : Nat) : Int) → strOfNums [c] ++ bs l = bs (UInt8.ofNat (48 + n.natAbs % 10) :: l) := by
        intro c hc
        subst hc
        exact bs_append [UInt8.ofNat (48 + n.natAbs % 10)] l
      refine Ev.step (fun k => spec_FormatInt.l0.eq_2 ..) (ev_neg hn (ev_ite (fun h => ?_) (fun h => ?_)))
      · have hneg : n < 0 := by
          by_cases h' : n < 0
          · exact h'
          · rw [t2 (by omega)] at h; omega
        have ec : (wrap64 (48 + wrap64 (-(n.tmod 10)))) % 256 = ((48 + n.natAbs % 10 : Nat) : Int) := by
          rw [t1 hneg, w64 (n := - -((n.natAbs % 10 : Nat) : Int)) (by omega) (by omega), w64 (by omega) (by omega)]
          omega
        refine ev_bindo rfl (ev_pos (by rw [strOfNums_size, bs_size]; simp; omega) ?_)
        rw [es _ ec, hw]
        exact hx
      · have hpos : n.tmod 10 = ((n.natAbs % 10 : Nat) : Int) := by
          by_cases h' : 0 ≤ n
          · exact t2 h'
          · have h10 := t1 (by omega)
            rw [h10] at h ⊢
            omega
        have ec : (wrap64 (48 + (n.tmod 10))) % 256 = ((48 + n.natAbs % 10 : Nat) : Int) := by
          rw [hpos, w64 (by omega) (by omega)]
          omega
        refine ev_bindo rfl (ev_pos (by rw [strOfNums_size, bs_size]; simp; omega) ?_)
        rw [es _ ec, hw]
        exact hx
theorem spec_fi (n : Int) (h0 : -9223372036854775808 ≤ n) (h1 : n ≤ 9223372036854775807) : Ev (fun k => spec_FormatInt.f k n) (bs (Go.Lib.itoa n)) := by
  unfold spec_FormatInt.f
  by_cases hn : n = 0
  · subst hn
    refine ev_pos rfl (ev_eq (Ev.now _) ?_)
    have : Go.Lib.itoa 0 = [48] := by
      unfold Go.Lib.itoa
      rw [if_neg (by omega)]
      exact Go.Lib.decDigits_one (by decide)
    rw [this]
    rfl
  · refine ev_neg hn (ev_eq (fi_loop (decide (n < 0)) 19 n h0 h1 (by omega) [] (by simp)) ?_)
    unfold Go.Lib.itoa dd
    rw [if_neg (show ¬ n.natAbs = 0 by omega)]
    by_cases h : n < 0
    · rw [if_pos (decide_eq_true h), if_pos h]
      simp
    · rw [if_neg (by simpa using h), if_neg h, show n.natAbs = n.toNat by omega]
      simp
theorem impl_fi (n : Int) (h0 : -9223372036854775808 ≤ n) (h1 : n ≤ 9223372036854775807) : strconv_Itoa.f n = some (bs (Go.Lib.itoa n)) := by
  unfold strconv_Itoa.f
  rw [if_pos ⟨h0, h1⟩]
  rfl
theorem impl_fi0 (n : Int) (h0 : -9223372036854775808 ≤ n) (h1 : n ≤ 9223372036854775807) : impl_FormatInt.f n = some (bs (Go.Lib.itoa n)) := by
  unfold impl_FormatInt.f
  rw [impl_fi n h0 h1]
  rfl
/-- What a mark is written as. -/
def fmOf (n : Int) : List UInt8 := if 0 ≤ n ∧ n ≤ 1000 then (if n = 1000 then [105, 110, 102] else Go.Lib.itoa n) else []
theorem impl_fm (n : Int) : impl_FormatMark.f n = some (bs (fmOf n)) := by
  unfold impl_FormatMark.f impl_IsMark.f fmOf
  simp only [impl_in_, Option.bind_some]
  by_cases h : 0 ≤ n ∧ n ≤ 1000
  · rw [if_pos (decide_eq_true h), if_pos h]
    by_cases h2 : n = 1000
    · rw [if_pos h2, if_pos h2]
      rfl
    · rw [if_neg h2, if_neg h2, impl_fi0 n (by omega) (by omega)]
      rfl
  · rw [if_neg (by simpa using h), if_neg h]
    rfl
theorem spec_fm (n : Int) : Ev (fun k => spec_FormatMark.f k n) (bs (fmOf n)) := by
  unfold spec_FormatMark.f spec_IsMark.f fmOf
  simp only [spec_in, Option.bind_some]
  by_cases h : 0 ≤ n ∧ n ≤ 1000
  · rw [if_pos h]
    refine ev_pos (decide_eq_true h) ?_
    by_cases h2 : n = 1000
    · rw [if_pos h2]
      exact ev_pos h2 (Ev.now _)
    · rw [if_neg h2]
      exact ev_neg h2 (Ev.bind (spec_fi n (by omega) (by omega)) (Ev.now _))
  · rw [if_neg h]
    exact ev_neg (by simpa using h) (Ev.now _)
/-- What a value is written as. -/
def vb (n : Int) : List UInt8 := if n = -1 then [45] else Go.Lib.itoa n
theorem itoa_len (n : Int) (h0 : 0 ≤ n) (h1 : n ≤ 99) : (Go.Lib.itoa n).length ≤ 2 := by
  unfold Go.Lib.itoa
  rw [if_neg (by omega)]
  by_cases h : n.toNat < 10
  · rw [Go.Lib.decDigits_one h]
    simp
  · rw [Go.Lib.decDigits_two h (by omega)]
    simp
theorem vb_len (n : Int) (h0 : -1 ≤ n) (h1 : n ≤ 99) : (vb n).length ≤ 2 := by
  unfold vb
  split
  · simp
  · exact itoa_len n (by omega) h1
theorem impl_fi' (n : Int) (h0 : -9223372036854775808 ≤ n) (h1 : n ≤ 9223372036854775807) : impl_FormatInt.f n = some (bs (Go.Lib.itoa n)) := by
  unfold impl_FormatInt.f
  rw [impl_fi n h0 h1]
  rfl
theorem spec_val (n : Int) (h0 : -1 ≤ n) (h1 : n ≤ 99) : Ev (fun k => spec_l3Value.f k n) (bs (vb n)) := by
  unfold spec_l3Value.f vb
  by_cases h : n = -1
  · rw [if_pos h]
    exact ev_pos h (Ev.now _)
  · rw [if_neg h]
    exact ev_neg h (Ev.bind (spec_fi n (by omega) (by omega)) (Ev.now _))
theorem impl_val (n : Int) (h0 : -1 ≤ n) (h1 : n ≤ 99) : impl_formatValue.f n = some (bs (vb n)) := by
  unfold impl_formatValue.f vb
  by_cases h : n = -1
  · rw [if_pos h, if_pos h]
    rfl
  · rw [if_neg h, if_neg h, impl_fi' n (by omega) (by omega)]
    rfl
theorem join_snoc (xs : List (List UInt8)) (x sep : List UInt8) (h : xs ≠ []) : Go.Lib.join (xs ++ [x]) sep = Go.Lib.join xs sep ++ sep ++ x := by
  cases xs with
  | nil => exact absurd rfl h
  | cons y r =>
    rw [List.cons_append, Go.Lib.join_cons, Go.Lib.join_cons]
    simp [Go.Lib.joinTail]
/-- Some texts put together, up to place i. -/
def jn (xs : List (List UInt8)) (i : Nat) : List UInt8 := Go.Lib.join (xs.take i) [32]
theorem take_nextL (xs : List (List UInt8)) (i : Nat) (h : i < xs.length) : xs.take (i + 1) = xs.take i ++ [xs.getD i []] := by
  rw [List.take_add_one, List.getElem?_eq_getElem h, List.getD_eq_getElem?_getD, List.getElem?_eq_getElem h]
  rfl
theorem jn_one (xs : List (List UInt8)) (h : 0 < xs.length) : jn xs 1 = xs.getD 0 [] := by
  unfold jn
  rw [take_nextL xs 0 h]
  exact Go.Lib.join_one _ _
theorem jn_next (xs : List (List UInt8)) (i : Nat) (h : i < xs.length) (h0 : 0 < i) : jn xs (i + 1) = jn xs i ++ [32] ++ xs.getD i [] := by
  unfold jn
  rw [take_nextL xs i h]
  refine join_snoc _ _ _ ?_
  intro e
  have := congrArg List.length e
  rw [List.length_take, List.length_nil] at this
  omega
theorem jn_len (xs : List (List UInt8)) (c : Nat) (hc : ∀ j, j < xs.length → (xs.getD j []).length ≤ c) (i : Nat) (h : i ≤ xs.length) : (jn xs i).length ≤ (c + 1) * i := by
  induction i with
  | zero => simp [jn, Go.Lib.join_nil]
  | succ i ih =>
    have h2 := hc i (by omega)
    by_cases h0 : i = 0
    · subst h0
      rw [jn_one xs (by omega)]
      omega
    · rw [jn_next xs i (by omega) (by omega)]
      have := ih (by omega)
      simp only [List.length_append, List.length_singleton]
      rw [Nat.mul_succ]
      omega
theorem decDigits_len (m : Nat) : ∀ u, u < 10 ^ (m + 1) → (Go.Lib.decDigits u).length ≤ m + 1 := by
  induction m with
  | zero =>
    intro u hu
    rw [Go.Lib.decDigits_one (by omega)]
    simp
  | succ m ih =>
    intro u hu
    by_cases h : u < 10
    · rw [Go.Lib.decDigits_one h]
      simp
    · rw [Go.Lib.decDigits, dif_neg h]
      have := ih (u / 10) (by rw [Nat.pow_succ] at hu; omega)
      simp only [List.length_append, List.length_singleton]
      omega
theorem itoa_len3 (n : Int) (h0 : 0 ≤ n) (h1 : n ≤ 999) : (Go.Lib.itoa n).length ≤ 3 := by
  unfold Go.Lib.itoa
  rw [if_neg (by omega)]
  exact decDigits_len 2 _ (by omega)
theorem fm_len (n : Int) : (fmOf n).length ≤ 3 := by
  unfold fmOf
  split
  · split
    · simp
    · exact itoa_len3 n (by omega) (by omega)
  · simp
/-- What a version is written as. -/
def vsb (v : S48) : List UInt8 := Go.Lib.itoa v.f0 ++ [58] ++ vb v.f1 ++ [64] ++ Go.Lib.itoa v.f2 ++ [44] ++ Go.Lib.itoa v.f3 ++ [44] ++ fmOf v.f4
theorem vsb_eq (v : S48) : vsb v = Go.Lib.itoa v.f0 ++ ([58] ++ (vb v.f1 ++ ([64] ++ (Go.Lib.itoa v.f2 ++ ([44] ++ (Go.Lib.itoa v.f3 ++ ([44] ++ fmOf v.f4))))))) := by
  unfold vsb
  simp only [List.append_assoc]
theorem v_bd {v : S48} (h : vvS v = true) : (0 ≤ v.f0 ∧ v.f0 ≤ 9) ∧ (-1 ≤ v.f1 ∧ v.f1 ≤ 99) ∧ (0 ≤ v.f2 ∧ v.f2 ≤ 999) ∧ (0 ≤ v.f3 ∧ v.f3 ≤ 999) := by
  unfold vvS vv at h
  rw [decide_eq_true_eq] at h
  by_cases h0 : v.f2 = 0
  · have := h.2.2.2.2.1 h0
    omega
  · have := h.2.2.2.2.2 h0
    omega
theorem v_len {v : S48} (h : vvS v = true) : (Go.Lib.itoa v.f0).length ≤ 3 ∧ (vb v.f1).length ≤ 3 ∧ (Go.Lib.itoa v.f2).length ≤ 3 ∧ (Go.Lib.itoa v.f3).length ≤ 3 ∧ (fmOf v.f4).length ≤ 3 := by
  obtain ⟨h0, h1, h2, h3⟩ := v_bd h
  have := vb_len v.f1 h1.1 h1.2
  exact ⟨itoa_len3 _ (by omega) (by omega), by omega, itoa_len3 _ h2.1 h2.2, itoa_len3 _ h3.1 h3.2, fm_len _⟩
theorem vsb_len {v : S48} (h : vvS v = true) : (vsb v).length ≤ 20 := by
  obtain ⟨h0, h1, h2, h3, h4⟩ := v_len h
  unfold vsb
  simp only [List.length_append, List.length_singleton]
  omega
theorem b58 : (⟨#[58]⟩ : ByteArray) = bs [58] := rfl
theorem b64 : (⟨#[64]⟩ : ByteArray) = bs [64] := rfl
theorem b44 : (⟨#[44]⟩ : ByteArray) = bs [44] := rfl
theorem b32 : (⟨#[32]⟩ : ByteArray) = bs [32] := rfl
theorem map_get (l : List S48) (i : Nat) (h : i < l.length) : (l.map vsb).getD i [] = vsb (l.getD i z48) := by
  rw [List.getD_eq_getElem?_getD, List.getElem?_map, List.getElem?_eq_getElem h, List.getD_eq_getElem?_getD, List.getElem?_eq_getElem h]
  rfl
theorem spec_fc (l : List S48) (hl : l.length ≤ 1048576) (hv : vc l = true) : ∀ d i, i + d = l.length → Ev (fun k => spec_FormatChain.l0 k l (bs (jn (l.map vsb) i)) (i : Int)) (bs (jn (l.map vsb) l.length)) := by
  intro d
  induction d with
  | zero =>
    intro i hi
    obtain rfl : i = l.length := by omega
    exact Ev.step (fun k => spec_FormatChain.l0.eq_2 ..) (ev_neg (by omega) (Ev.now _))
  | succ d ih =>
    intro i hi
    have hvi := vc_at hv i (by omega)
    obtain ⟨q0, q1, q2, q3⟩ := v_bd hvi
    obtain ⟨k0, k1, k2, k3, k4⟩ := v_len hvi
    have hs := jn_len (l.map vsb) 20 (fun j hj => by rw [map_get l j (by simpa using hj)]; exact vsb_len (vc_at hv j (by simpa using hj))) i (by simp; omega)
    have next := ih (i + 1) (by omega)
    have body : ∀ p : List UInt8, p.length ≤ 30000000 → bs (p ++ vsb (l.getD i z48)) = bs (jn (l.map vsb) (i + 1)) → Ev (fun k => spec_FormatChain.j1 k l (bs p) (i : Int)) (bs (jn (l.map vsb) l.length)) := by
      intro p hp he
      refine Ev.step (fun k => spec_FormatChain.j1.eq_2 ..) (ev_pos (by omega) (ev_pos (by omega) ?_))
      rw [rd_nat, up i (by omega)]
      refine Ev.bind (spec_fi _ (by omega) (by omega)) ?_
      simp only [b58, b64, b44, bs_append, bs_size, List.length_append, List.length_singleton]
      refine ev_pos (by omega) (ev_pos (by omega) (Ev.bind (spec_val _ q1.1 q1.2) ?_))
      simp only [bs_append, bs_size, List.length_append, List.length_singleton]
      refine ev_pos (by omega) (ev_pos (by omega) (Ev.bind (spec_fi _ (by omega) (by omega)) ?_))
      simp only [bs_append, bs_size, List.length_append, List.length_singleton]
      refine ev_pos (by omega) (ev_pos (by omega) (Ev.bind (spec_fi _ (by omega) (by omega)) ?_))
      simp only [bs_append, bs_size, List.length_append, List.length_singleton]
      refine ev_pos (by omega) (ev_pos (by omega) (Ev.bind (spec_fm _) ?_))
      simp only [bs_append, bs_size, List.length_append, List.length_singleton]
      refine ev_pos (by omega) ?_
      rw [← he, vsb_eq] at next
      simp only [List.append_assoc]
      exact next
    refine Ev.step (fun k => spec_FormatChain.l0.eq_2 ..) (ev_pos (by omega) ?_)
    by_cases h0 : i = 0
    · subst h0
      refine ev_neg (by omega) (body [] (by simp) ?_)
      rw [jn_one _ (by simp; omega), map_get l 0 (by omega)]
      rfl
    · refine ev_pos (by omega) (ev_pos (by rw [bs_size]; omega) ?_)
      rw [b32, bs_append]
      refine body _ (by simp; omega) ?_
      rw [jn_next _ i (by simp; omega) (by omega), map_get l i (by omega)]
theorem impl_fc (l : List S48) (hl : l.length ≤ 1048576) (hv : vc l = true) : ∀ d i, i + d = l.length → Ev (fun k => impl_FormatChain.l0 k ((l.take i).map (fun v => bs (vsb v))) l (l.length : Int) (i : Int)) (bs (jn (l.map vsb) l.length)) := by
  intro d
  induction d with
  | zero =>
    intro i hi
    obtain rfl : i = l.length := by omega
    have hs := jn_len (l.map vsb) 20 (fun j hj => by rw [map_get l j (by simpa using hj)]; exact vsb_len (vc_at hv j (by simpa using hj))) l.length (by simp)
    refine Ev.step (fun k => impl_FormatChain.l0.eq_2 ..) (ev_neg (by omega) (ev_bindo ?_ (Ev.now _)))
    unfold strings_Join.f
    have e : ((l.take l.length).map (fun v => bs (vsb v))).map (·.data.toList) = (l.map vsb).take l.length := by
      rw [List.map_map, ← List.map_take]
      refine List.map_congr_left (fun v _ => ?_)
      simp [bs]
    rw [e, show ((⟨#[32]⟩ : ByteArray).data.toList) = [32] from rfl]
    have h3 : (Go.Lib.join ((l.map vsb).take l.length) [32]) = jn (l.map vsb) l.length := rfl
    rw [h3, if_pos (by simp; omega)]
    rfl
  | succ d ih =>
    intro i hi
    have hvi := vc_at hv i (by omega)
    obtain ⟨q0, q1, q2, q3⟩ := v_bd hvi
    obtain ⟨k0, k1, k2, k3, k4⟩ := v_len hvi
    have next := ih (i + 1) (by omega)
    refine Ev.step (fun k => impl_FormatChain.l0.eq_2 ..) (ev_pos (by omega) (ev_pos (by omega) (ev_pos (by omega) ?_)))
    rw [rd_nat, up i (by omega)]
    refine ev_bindo (impl_fi' _ (by omega) (by omega)) ?_
    simp only [b58, b64, b44, bs_append, bs_size, List.length_append, List.length_singleton]
    refine ev_pos (by omega) (ev_bindo (impl_val _ q1.1 q1.2) ?_)
    simp only [bs_append, bs_size, List.length_append, List.length_singleton]
    refine ev_pos (by omega) (ev_pos (by omega) (ev_bindo (impl_fi' _ (by omega) (by omega)) ?_))
    simp only [bs_append, bs_size, List.length_append, List.length_singleton]
    refine ev_pos (by omega) (ev_pos (by omega) (ev_bindo (impl_fi' _ (by omega) (by omega)) ?_))
    simp only [bs_append, bs_size, List.length_append, List.length_singleton]
    refine ev_pos (by omega) (ev_pos (by omega) (ev_bindo (impl_fm _) ?_))
    simp only [bs_append, bs_size, List.length_append, List.length_singleton]
    refine ev_pos (by omega) (ev_pos (by simp; omega) ?_)
    have et : l.take (i + 1) = l.take i ++ [l.getD i z48] := by
      rw [List.take_add_one, List.getElem?_eq_getElem (show i < l.length by omega), List.getD_eq_getElem?_getD, List.getElem?_eq_getElem (show i < l.length by omega)]
      rfl
    rw [et, List.map_append, List.map_cons, List.map_nil, vsb_eq] at next
    simp only [List.append_assoc]
    exact next
theorem FnExactFormatChain : laws_FnExactFormatChain.Pure := by
  intro l hl
  refine Ev.rounds (g := fun k => laws_FnExactFormatChain.f k l) ?_
  obtain ⟨r, h1, h2, _⟩ := sz_vs l hl 1048576 (by omega) (by omega)
  refine ev_bindo h1 (ev_ite (fun _ => Ev.now _) (fun h3 => ?_))
  have hl' : l.length ≤ 1048576 := by have := h2 (by omega); omega
  have ht := to_vs l hl'
  obtain ⟨m, hm⟩ : ∃ m, l.map cv = m := ⟨_, rfl⟩
  have hml : m.length ≤ 1048576 := by rw [← hm]; simpa using hl'
  rw [hm] at ht
  obtain ⟨q, g1, g2⟩ : ∃ q, Ev (fun k => spec_FormatChain.f k m) q ∧ Ev (fun k => impl_FormatChain.f k m) q := by
    unfold spec_FormatChain.f impl_FormatChain.f
    by_cases hv : vc m = true
    · exact ⟨_, Ev.bind (spec_vc m (by omega)) (ev_pos hv (spec_fc m hml hv m.length 0 (by omega))), Ev.bind (impl_vc m (by omega)) (ev_pos hv (impl_fc m hml hv m.length 0 (by omega)))⟩
    · exact ⟨_, Ev.bind (spec_vc m (by omega)) (ev_neg hv (Ev.now _)), Ev.bind (impl_vc m (by omega)) (ev_neg hv (Ev.now _))⟩
  exact Ev.bind ht (Ev.bind g1 (Ev.bind ht (Ev.bind g2 (ev_pos rfl (Ev.bind ht (Ev.bind (eq_vs m (by omega)) (ev_pos rfl (Ev.now _))))))))

end Go.Proofs.YtfinkjmfhnnleaaDoor.Pure
