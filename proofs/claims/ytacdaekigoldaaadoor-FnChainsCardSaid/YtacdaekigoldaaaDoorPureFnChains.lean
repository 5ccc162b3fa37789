/- versions are found by their stamps, and chains are read back from their format. -/
import Derived.Test.YtacdaekigoldaaaDoorPFnChainsx10
import Derived.Test.YtacdaekigoldaaaDoorMEv
import Derived.Lib.SplitLaws
import Derived.Lib.IndexMore
import Derived.Lib.Join
namespace Go.Proofs.YtacdaekigoldaaaDoor.Pure
open Go Go.RowKit Go.Proofs.YtacdaekigoldaaaDoor.PFnChains Go.Proofs.YtacdaekigoldaaaDoorW.PrintWords Go.Proofs.YtacdaekigoldaaaDoorW.PrintLast Go.Proofs.YtacdaekigoldaaaDoorW.PrintMore Go.Proofs.YtacdaekigoldaaaDoorM
set_option linter.unusedVariables false
set_option linter.unusedSimpArgs false

theorem spec_in (a b c : Int) : spec_l1In.f a b c = some (decide (b ≤ a ∧ a ≤ c)) := by
  unfold spec_l1In.f
  by_cases h : b ≤ a <;> simp [h]
theorem impl_in_ (a b c : Int) : impl_in.f a b c = some (decide (b ≤ a ∧ a ≤ c)) := by
  unfold impl_in.f
  by_cases h : b ≤ a <;> simp [h]
/-- What a right version is. -/
def vv (a0 a1 a2 a3 a4 : Int) : Bool := decide ((-1 ≤ a1 ∧ a1 ≤ 99) ∧ (0 ≤ a2 ∧ a2 ≤ 999) ∧ (a2 ≤ a3 ∧ a3 ≤ 999) ∧ (1 ≤ a4 ∧ a4 ≤ 1000) ∧ (a2 = 0 → a0 = 0 ∧ a1 = -1) ∧ (a2 ≠ 0 → 1 ≤ a0 ∧ a0 ≤ 9))
theorem spec_vv (a0 a1 a2 a3 a4 : Int) : Ev (fun k => spec_IsValidVersion.f k a0 a1 a2 a3 a4) (vv a0 a1 a2 a3 a4) := by
  unfold spec_IsValidVersion.f
  simp only [spec_in, Option.bind_some]
  have hj : ∀ b : Bool, Ev (fun k => spec_IsValidVersion.j0 k b a0 a1 a2 a3 a4) (!b && decide ((a2 = 0 → a0 = 0 ∧ a1 = -1) ∧ (a2 ≠ 0 → 1 ≤ a0 ∧ a0 ≤ 9))) := by
    intro b
    refine Ev.step (fun k => spec_IsValidVersion.j0.eq_2 ..) ?_
    simp only [spec_in, Option.bind_some]
    repeat' refine ev_ite (fun h => ?_) (fun h => ?_)
    all_goals
      refine ev_eq (Ev.now _) ?_
      rw [Bool.eq_iff_iff]
      simp only [decide_eq_true_eq, beq_iff_eq, Bool.not_eq_true', Bool.and_eq_true, Bool.not_eq_true, Bool.false_eq_true, false_iff, true_iff] at *
      simp [*] <;> omega
  repeat' refine ev_ite (fun h => ?_) (fun h => ?_)
  all_goals
    refine ev_eq (hj _) ?_
    rw [Bool.eq_iff_iff]
    simp only [vv, decide_eq_true_eq, Bool.not_not, Bool.not_true, Bool.false_and, Bool.and_eq_true, Bool.false_eq_true, false_iff] at *
    omega
theorem impl_vv (a0 a1 a2 a3 a4 : Int) : Ev (fun k => impl_IsValidVersion.f k a0 a1 a2 a3 a4) (vv a0 a1 a2 a3 a4) := by
  unfold impl_IsValidVersion.f
  simp only [impl_isValue.f, impl_isID.f, impl_in_, Option.bind_some]
  have hj : ∀ b : Bool, Ev (fun k => impl_IsValidVersion.j0 k b a0 a1 a2 a3 a4) (!b && decide ((a2 = 0 → a0 = 0 ∧ a1 = -1) ∧ (a2 ≠ 0 → 1 ≤ a0 ∧ a0 ≤ 9))) := by
    intro b
    refine Ev.step (fun k => impl_IsValidVersion.j0.eq_2 ..) ?_
    simp only [impl_isValue.f, impl_isID.f, impl_in_, Option.bind_some]
    repeat' refine ev_ite (fun h => ?_) (fun h => ?_)
    all_goals
      refine ev_eq (Ev.now _) ?_
      rw [Bool.eq_iff_iff]
      simp only [decide_eq_true_eq, beq_iff_eq, Bool.not_eq_true', Bool.and_eq_true, Bool.not_eq_true, Bool.false_eq_true, false_iff, true_iff] at *
      simp [*] <;> omega
  repeat' refine ev_ite (fun h => ?_) (fun h => ?_)
  all_goals
    refine ev_eq (hj _) ?_
    rw [Bool.eq_iff_iff]
    simp only [vv, decide_eq_true_eq, Bool.not_not, Bool.not_true, Bool.false_and, Bool.and_eq_true, Bool.false_eq_true, false_iff] at *
    omega
/-- One version after another. -/
def Ord (u v : S43) : Prop := ¬ u.f2 ≥ v.f2 ∧ ¬ u.f4 > v.f2
instance (u v : S43) : Decidable (Ord u v) := by unfold Ord; exact inferInstance
def vvS (v : S43) : Bool := vv v.f0 v.f1 v.f2 v.f3 v.f4
def lastOk (l : List S43) : Bool := decide (0 < l.length) && (l.getD (l.length - 1) z43).f4 == 1000
/-- What a right chain is. -/
def vc (l : List S43) : Bool := decide (∀ j, j < l.length → vvS (l.getD j z43) = true ∧ (j + 1 < l.length → Ord (l.getD j z43) (l.getD (j + 1) z43))) && lastOk l
theorem rd_nat (l : List S43) (i : Nat) : rd_T43 l (i : Int) = l.getD i z43 := by unfold rd_T43; rw [Int.toNat_natCast]
theorem last_ev (l : List S43) (hl : l.length ≤ 9223372036854775806) : Ev (fun _ => if (l.length : Int) > 0 then (if 0 ≤ (wrap64 ((l.length : Int) - 1)) then (if (wrap64 ((l.length : Int) - 1)) < (l.length : Int) then (some (((rd_T43 l (wrap64 ((l.length : Int) - 1))).f4) == 1000)) else (none)) else (none)) else (some false)) (lastOk l) := by
  by_cases h : 0 < l.length
  · have e : wrap64 ((l.length : Int) - 1) = ((l.length - 1 : Nat) : Int) := by rw [w64 (by omega) (by omega)]; omega
    rw [e]
    refine ev_pos (by omega) (ev_pos (by omega) (ev_pos (by omega) ?_))
    rw [rd_nat]
    refine ev_eq (Ev.now _) ?_
    unfold lastOk
    rw [decide_eq_true h, Bool.true_and]
  · refine ev_neg (by omega) ?_
    refine ev_eq (Ev.now _) ?_
    unfold lastOk
    rw [decide_eq_false h, Bool.false_and]
theorem spec_vc (l : List S43) (hl : l.length ≤ 9223372036854775806) : Ev (fun k => spec_IsValidChain.f k l) (vc l) := by
  unfold spec_IsValidChain.f vc
  refine all_loop0 (g := fun k i => spec_IsValidChain.l0 k l i) l.length (fun j => vvS (l.getD j z43) = true ∧ (j + 1 < l.length → Ord (l.getD j z43) (l.getD (j + 1) z43))) ?_ ?_ ?_
  · exact Ev.step (fun k => spec_IsValidChain.l0.eq_2 ..) (ev_neg (by omega) (last_ev l hl))
  · intro i hi hp r hr
    refine Ev.step (fun k => spec_IsValidChain.l0.eq_2 ..) (ev_pos (by omega) (ev_pos (by omega) ?_))
    rw [rd_nat, up i (by omega), rd_nat]
    refine Ev.bind (spec_vv _ _ _ _ _) (ev_pos hp.1 (ev_ite (fun h => ?_) (fun _ => hr)))
    have ho := hp.2 (by omega)
    exact ev_pos (by omega) (ev_neg ho.1 (ev_neg ho.2 hr))
  · intro i hi hp
    refine Ev.step (fun k => spec_IsValidChain.l0.eq_2 ..) (ev_pos (by omega) (ev_pos (by omega) ?_))
    rw [rd_nat, up i (by omega), rd_nat]
    refine Ev.bind (spec_vv _ _ _ _ _) (ev_ite (fun h1 => ev_ite (fun h2 => ev_pos (by omega) (ev_ite (fun h3 => Ev.now _) (fun h3 => ev_ite (fun h4 => Ev.now _) (fun h4 => ?_)))) (fun h2 => ?_)) (fun _ => Ev.now _))
    · exact absurd ⟨h1, fun _ => ⟨h3, h4⟩⟩ hp
    · exact absurd ⟨h1, fun h => absurd h (by omega)⟩ hp
theorem impl_vc (l : List S43) (hl : l.length ≤ 9223372036854775806) : Ev (fun k => impl_IsValidChain.f k l) (vc l) := by
  have hv : vc l = (decide (∀ j, j < l.length → vvS (l.getD j z43) = true ∧ (0 < j → Ord (l.getD (j - 1) z43) (l.getD j z43))) && lastOk l) := by
    unfold vc
    congr 1
    rw [decide_eq_decide]
    constructor
    · intro h j hj
      refine ⟨(h j hj).1, fun h0 => ?_⟩
      have := (h (j - 1) (by omega)).2 (by omega)
      rwa [show j - 1 + 1 = j by omega] at this
    · intro h j hj
      refine ⟨(h j hj).1, fun h0 => ?_⟩
      have := (h (j + 1) h0).2 (by omega)
      rwa [show j + 1 - 1 = j by omega] at this
  rw [hv]
  unfold impl_IsValidChain.f
  refine all_loop0 (g := fun k i => impl_IsValidChain.l0 k l l (l.length : Int) i) l.length (fun j => vvS (l.getD j z43) = true ∧ (0 < j → Ord (l.getD (j - 1) z43) (l.getD j z43))) ?_ ?_ ?_
  · exact Ev.step (fun k => impl_IsValidChain.l0.eq_2 ..) (ev_neg (by omega) (last_ev l hl))
  · intro i hi hp r hr
    refine Ev.step (fun k => impl_IsValidChain.l0.eq_2 ..) (ev_pos (by omega) (ev_pos (by omega) (ev_pos (by omega) ?_)))
    rw [rd_nat, up i (by omega)]
    refine Ev.bind (impl_vv _ _ _ _ _) (ev_pos hp.1 (ev_ite (fun h => ?_) (fun _ => hr)))
    have e : wrap64 ((i : Int) - 1) = ((i - 1 : Nat) : Int) := by rw [w64 (by omega) (by omega)]; omega
    rw [e, rd_nat]
    have ho := hp.2 (by omega)
    exact ev_pos (by omega) (ev_pos (by omega) (ev_neg ho.1 (ev_neg ho.2 hr)))
  · intro i hi hp
    refine Ev.step (fun k => impl_IsValidChain.l0.eq_2 ..) (ev_pos (by omega) (ev_pos (by omega) (ev_pos (by omega) ?_)))
    rw [rd_nat, up i (by omega)]
    refine Ev.bind (impl_vv _ _ _ _ _) (ev_ite (fun h1 => ev_ite (fun h2 => ?_) (fun h2 => ?_)) (fun _ => Ev.now _))
    · have e : wrap64 ((i : Int) - 1) = ((i - 1 : Nat) : Int) := by rw [w64 (by omega) (by omega)]; omega
      rw [e, rd_nat]
      exact ev_pos (by omega) (ev_pos (by omega) (ev_ite (fun h3 => Ev.now _) (fun h3 => ev_ite (fun h4 => Ev.now _) (fun h4 => absurd ⟨h1, fun _ => ⟨h3, h4⟩⟩ hp))))
    · exact absurd ⟨h1, fun h => absurd h (by omega)⟩ hp
theorem vc_at {l : List S43} (h : vc l = true) (j : Nat) (hj : j < l.length) : vvS (l.getD j z43) = true := by
  unfold vc at h
  simp only [Bool.and_eq_true, decide_eq_true_eq] at h
  exact (h.1 j hj).1
theorem vc_pos {l : List S43} (h : vc l = true) : 0 < l.length := by
  unfold vc lastOk at h
  simp only [Bool.and_eq_true, decide_eq_true_eq] at h
  exact h.2.1
/-- What a chain's latest version is told as. -/
def latestOf (l : List S43) : Int × Int × Int × Int × Int :=
  if vc l = true then ((l.getD (l.length - 1) z43).f0, (l.getD (l.length - 1) z43).f1, (l.getD (l.length - 1) z43).f2, (l.getD (l.length - 1) z43).f3, (l.getD (l.length - 1) z43).f4) else (0, 0, 0, 0, 0)
theorem spec_latest (l : List S43) (hl : l.length ≤ 9223372036854775806) : Ev (fun k => spec_LatestVersion.f k l) (latestOf l) := by
  unfold spec_LatestVersion.f latestOf
  refine Ev.bind (spec_vc l hl) (ev_ite (fun h => ?_) (fun h => ?_))
  · have h0 := vc_pos h
    rw [if_pos h, down l.length h0 (by omega), rd_nat]
    exact ev_pos (by omega) (ev_pos (by omega) (Ev.now _))
  · rw [if_neg h]
    exact Ev.now _
theorem impl_latest (l : List S43) (hl : l.length ≤ 9223372036854775806) : Ev (fun k => impl_LatestVersion.f k l) (latestOf l) := by
  unfold impl_LatestVersion.f latestOf
  refine Ev.bind (impl_vc l hl) (ev_ite (fun h => ?_) (fun h => ?_))
  · have h0 := vc_pos h
    rw [if_pos h, down l.length h0 (by omega), rd_nat]
    exact ev_pos (by omega) (ev_pos (by omega) (Ev.now _))
  · rw [if_neg h]
    exact Ev.now _
/-- The index of a chain's last version that was made by a stamp. -/
def atOf (l : List S43) (s : Int) : Int := if vc l = true then lastIdx (fun j => (l.getD j z43).f2 ≤ s) l.length else -1
theorem spec_at (l : List S43) (hl : l.length ≤ 9223372036854775806) (s : Int) : Ev (fun k => spec_VersionAt.f k l s) (atOf l s) := by
  unfold spec_VersionAt.f atOf
  by_cases h : vc l = true
  · rw [if_pos h]
    have : ∀ d i, i + d = l.length → Ev (fun k => spec_VersionAt.l0 k l s (lastIdx (fun j => (l.getD j z43).f2 ≤ s) i) (i : Int)) (lastIdx (fun j => (l.getD j z43).f2 ≤ s) l.length) := by
      intro d
      induction d with
      | zero =>
        intro i hi
        obtain rfl : i = l.length := by omega
        exact Ev.step (fun k => spec_VersionAt.l0.eq_2 ..) (ev_neg (by omega) (Ev.step (fun k => spec_VersionAt.j1.eq_2 ..) (ev_neg (by simp) (Ev.now _))))
      | succ d ih =>
        intro i hi
        refine Ev.step (fun k => spec_VersionAt.l0.eq_2 ..) (ev_pos (by omega) (Ev.bind (spec_vc l hl) (Ev.step (fun k => spec_VersionAt.j1.eq_2 ..) (ev_pos h (ev_pos (by omega) (ev_pos (by omega) ?_))))))
        rw [rd_nat, up i (by omega)]
        have := ih (i + 1) (by omega)
        simp only [lastIdx] at this
        by_cases hp : (l.getD i z43).f2 ≤ s
        · rw [if_pos hp] at this
          exact ev_pos hp this
        · rw [if_neg hp] at this
          exact ev_neg hp this
    exact this l.length 0 (by omega)
  · rw [if_neg h]
    by_cases h0 : 0 < l.length
    · exact Ev.step (fun k => spec_VersionAt.l0.eq_2 ..) (ev_pos (by omega) (Ev.bind (spec_vc l hl) (Ev.step (fun k => spec_VersionAt.j1.eq_2 ..) (ev_neg h (Ev.now _)))))
    · exact Ev.step (fun k => spec_VersionAt.l0.eq_2 ..) (ev_neg (by omega) (Ev.step (fun k => spec_VersionAt.j1.eq_2 ..) (ev_neg (by simp) (Ev.now _))))
theorem impl_at0 (l : List S43) (hl : l.length ≤ 9223372036854775806) (s : Int) : Ev (fun k => impl_versionAt.f k l s) (lastIdx (fun j => (l.getD j z43).f2 ≤ s) l.length) := by
  unfold impl_versionAt.f
  have : ∀ m : Nat, m ≤ l.length → Ev (fun k => impl_versionAt.l0 k l s ((m : Int) - 1)) (lastIdx (fun j => (l.getD j z43).f2 ≤ s) m) := by
    intro m
    induction m with
    | zero => intro _; exact Ev.step (fun k => impl_versionAt.l0.eq_2 ..) (ev_neg (by omega) (Ev.now _))
    | succ m ih =>
      intro hm
      rw [show ((m + 1 : Nat) : Int) - 1 = (m : Int) by omega]
      refine Ev.step (fun k => impl_versionAt.l0.eq_2 ..) (ev_pos (by omega) (ev_pos (by omega) (ev_pos (by omega) ?_)))
      rw [rd_nat, w64 (n := (m : Int) - 1) (by omega) (by omega)]
      simp only [lastIdx]
      by_cases hp : (l.getD m z43).f2 ≤ s
      · rw [if_pos hp]
        exact ev_neg (by omega) (Ev.now _)
      · rw [if_neg hp]
        exact ev_pos (by omega) (ih (by omega))
  rw [w64 (by omega) (by omega)]
  exact this l.length (Nat.le_refl _)
theorem impl_at (l : List S43) (hl : l.length ≤ 9223372036854775806) (s : Int) : Ev (fun k => impl_VersionAt.f k l s) (atOf l s) := by
  unfold impl_VersionAt.f atOf
  refine Ev.bind (impl_vc l hl) (ev_ite (fun h => ?_) (fun h => ?_))
  · rw [if_pos h]
    exact Ev.bind (impl_at0 l hl s) (Ev.now _)
  · rw [if_neg h]
    exact Ev.now _
/-- Two versions differ, in the loops' own words. -/
def nev (u v : S43) : Bool := !(u.f0 == v.f0) || (!(u.f1 == v.f1) || (!(u.f2 == v.f2) || (!(u.f3 == v.f3) || (!(u.f4 == v.f4)))))
def ecOf (a b : List S43) : Bool := if a.length = b.length then (decide (∀ j, j < a.length → ¬ nev (a.getD j z43) (b.getD j z43) = true) && true) else false
theorem impl_ec (a b : List S43) (ha : a.length ≤ 9223372036854775806) : Ev (fun k => impl_EqualChains.f k a b) (ecOf a b) := by
  unfold impl_EqualChains.f
  refine Ev.bind (a := ecOf a b) ?_ (Ev.now _)
  unfold impl_Version_71.f ecOf
  refine ev_ite (fun h => ?_) (fun h => ?_)
  · rw [if_pos (by omega)]
    refine all_loop0 (g := fun k i => impl_Version_71.l0 k a b (a.length : Int) i) a.length _ ?_ ?_ ?_
    · exact Ev.step (fun k => impl_Version_71.l0.eq_2 ..) (ev_neg (by omega) (Ev.now _))
    · intro i hi hp r hr
      refine Ev.step (fun k => impl_Version_71.l0.eq_2 ..) (ev_pos (by omega) (ev_pos (by omega) (ev_pos (by omega) (ev_pos (by omega) ?_))))
      rw [rd_nat, rd_nat, up i (by omega)]
      exact ev_neg hp hr
    · intro i hi hp
      refine Ev.step (fun k => impl_Version_71.l0.eq_2 ..) (ev_pos (by omega) (ev_pos (by omega) (ev_pos (by omega) (ev_pos (by omega) ?_))))
      rw [rd_nat, rd_nat, up i (by omega)]
      exact ev_pos (Decidable.not_not.1 hp) (Ev.now _)
  · rw [if_neg (by omega)]
    exact Ev.now _
/-- A string of these bytes. -/
def bs (l : List UInt8) : ByteArray := ⟨l.toArray⟩
theorem bs_append (a b : List UInt8) : bs a ++ bs b = bs (a ++ b) := by
  apply ByteArray.ext
  simp [bs]
theorem bs_size (a : List UInt8) : (bs a).size = a.length := by simp [bs, ByteArray.size]
/-- The digits of a number, none of nought. -/
def dd (u : Nat) : List UInt8 := if u = 0 then [] else Go.Lib.decDigits u
theorem dd_step (u : Nat) (h : u ≠ 0) : dd u = dd (u / 10) ++ [UInt8.ofNat (48 + u % 10)] := by
  unfold dd
  rw [if_neg h]
  by_cases h10 : u < 10
  · rw [Go.Lib.decDigits_one h10, if_pos (by omega), Nat.mod_eq_of_lt h10]
    rfl
  · rw [if_neg (by omega)]
    conv => lhs; rw [Go.Lib.decDigits, dif_neg h10]
theorem tmod_abs (n : Int) : (n < 0 → n.tmod 10 = -((n.natAbs % 10 : Nat) : Int)) ∧ (0 ≤ n → n.tmod 10 = ((n.natAbs % 10 : Nat) : Int)) ∧ (n < 0 → n.tdiv 10 = -((n.natAbs / 10 : Nat) : Int)) ∧ (0 ≤ n → n.tdiv 10 = ((n.natAbs / 10 : Nat) : Int)) := by
  have p : ∀ u : Nat, ((u : Int)).tmod 10 = ((u % 10 : Nat) : Int) ∧ ((u : Int)).tdiv 10 = ((u / 10 : Nat) : Int) := fun u => ⟨rfl, rfl⟩
  refine ⟨fun h => ?_, fun h => ?_, fun h => ?_, fun h => ?_⟩
  · have e : n = -(n.natAbs : Int) := by omega
    rw [e, Int.neg_tmod, (p _).1, Int.natAbs_neg, Int.natAbs_natCast]
  · have e : n = (n.natAbs : Int) := by omega
    rw [e, (p _).1, Int.natAbs_natCast]
  · have e : n = -(n.natAbs : Int) := by omega
    rw [e, Int.neg_tdiv, (p _).2, Int.natAbs_neg, Int.natAbs_natCast]
  · have e : n = (n.natAbs : Int) := by omega
    rw [e, (p _).2, Int.natAbs_natCast]
theorem impl_fi (n : Int) (h0 : -9223372036854775808 ≤ n) (h1 : n ≤ 9223372036854775807) : strconv_Itoa.f n = some (bs (Go.Lib.itoa n)) := by
  unfold strconv_Itoa.f
  rw [if_pos ⟨h0, h1⟩]
  rfl
theorem impl_fi0 (n : Int) (h0 : -9223372036854775808 ≤ n) (h1 : n ≤ 9223372036854775807) : impl_FormatInt.f n = some (bs (Go.Lib.itoa n)) := by
  unfold impl_FormatInt.f
  rw [impl_fi n h0 h1]
  rfl
/-- What a mark is written as. -/
def fmOf (n : Int) : List UInt8 := if 0 ≤ n ∧ n ≤ 1000 then (if n = 1000 then [105, 110, 102] else Go.Lib.itoa n) else []
theorem impl_fm (n : Int) : impl_FormatMark.f n = some (bs (fmOf n)) := by
  unfold impl_FormatMark.f impl_IsMark.f fmOf
  simp only [impl_in_, Option.bind_some]
  by_cases h : 0 ≤ n ∧ n ≤ 1000
  · rw [if_pos (decide_eq_true h), if_pos h]
    by_cases h2 : n = 1000
    · rw [if_pos h2, if_pos h2]
      rfl
    · rw [if_neg h2, if_neg h2, impl_fi0 n (by omega) (by omega)]
      rfl
  · rw [if_neg (by simpa using h), if_neg h]
    rfl
/-- What a value is written as. -/
def vb (n : Int) : List UInt8 := if n = -1 then [45] else Go.Lib.itoa n
theorem itoa_len (n : Int) (h0 : 0 ≤ n) (h1 : n ≤ 99) : (Go.Lib.itoa n).length ≤ 2 := by
  unfold Go.Lib.itoa
  rw [if_neg (by omega)]
  by_cases h : n.toNat < 10
  · rw [Go.Lib.decDigits_one h]
    simp
  · rw [Go.Lib.decDigits_two h (by omega)]
    simp
theorem vb_len (n : Int) (h0 : -1 ≤ n) (h1 : n ≤ 99) : (vb n).length ≤ 2 := by
  unfold vb
  split
  · simp
  · exact itoa_len n (by omega) h1
theorem impl_fi' (n : Int) (h0 : -9223372036854775808 ≤ n) (h1 : n ≤ 9223372036854775807) : impl_FormatInt.f n = some (bs (Go.Lib.itoa n)) := by
  unfold impl_FormatInt.f
  rw [impl_fi n h0 h1]
  rfl
theorem impl_val (n : Int) (h0 : -1 ≤ n) (h1 : n ≤ 99) : impl_formatValue.f n = some (bs (vb n)) := by
  unfold impl_formatValue.f vb
  by_cases h : n = -1
  · rw [if_pos h, if_pos h]
    rfl
  · rw [if_neg h, if_neg h, impl_fi' n (by omega) (by omega)]
    rfl
theorem join_snoc (xs : List (List UInt8)) (x sep : List UInt8) (h : xs ≠ []) : Go.Lib.join (xs ++ [x]) sep = Go.Lib.join xs sep ++ sep ++ x := by
  cases xs with
  | nil => exact absurd rfl h
  | cons y r =>
    rw [List.cons_append, Go.Lib.join_cons, Go.Lib.join_cons]
    simp [Go.Lib.joinTail]
/-- Some texts put together, up to place i. -/
def jn (xs : List (List UInt8)) (i : Nat) : List UInt8 := Go.Lib.join (xs.take i) [32]
theorem take_nextL (xs : List (List UInt8)) (i : Nat) (h : i < xs.length) : xs.take (i + 1) = xs.take i ++ [xs.getD i []] := by
  rw [List.take_add_one, List.getElem?_eq_getElem h, List.getD_eq_getElem?_getD, List.getElem?_eq_getElem h]
  rfl
theorem jn_one (xs : List (List UInt8)) (h : 0 < xs.length) : jn xs 1 = xs.getD 0 [] := by
  unfold jn
  rw [take_nextL xs 0 h]
  exact Go.Lib.join_one _ _
theorem jn_next (xs : List (List UInt8)) (i : Nat) (h : i < xs.length) (h0 : 0 < i) : jn xs (i + 1) = jn xs i ++ [32] ++ xs.getD i [] := by
  unfold jn
  rw [take_nextL xs i h]
  refine join_snoc _ _ _ ?_
  intro e
  have := congrArg List.length e
  rw [List.length_take, List.length_nil] at this
  omega
theorem jn_len (xs : List (List UInt8)) (c : Nat) (hc : ∀ j, j < xs.length → (xs.getD j []).length ≤ c) (i : Nat) (h : i ≤ xs.length) : (jn xs i).length ≤ (c + 1) * i := by
  induction i with
  | zero => simp [jn, Go.Lib.join_nil]
  | succ i ih =>
    have h2 := hc i (by omega)
    by_cases h0 : i = 0
    · subst h0
      rw [jn_one xs (by omega)]
      omega
    · rw [jn_next xs i (by omega) (by omega)]
      have := ih (by omega)
      simp only [List.length_append, List.length_singleton]
      rw [Nat.mul_succ]
      omega
theorem decDigits_len (m : Nat) : ∀ u, u < 10 ^ (m + 1) → (Go.Lib.decDigits u).length ≤ m + 1 := by
  induction m with
  | zero =>
    intro u hu
    rw [Go.Lib.decDigits_one (by omega)]
    simp
  | succ m ih =>
    intro u hu
    by_cases h : u < 10
    · rw [Go.Lib.decDigits_one h]
      simp
    · rw [Go.Lib.decDigits, dif_neg h]
      have := ih (u / 10) (by rw [Nat.pow_succ] at hu; omega)
      simp only [List.length_append, List.length_singleton]
      omega
theorem itoa_len3 (n : Int) (h0 : 0 ≤ n) (h1 : n ≤ 999) : (Go.Lib.itoa n).length ≤ 3 := by
  unfold Go.Lib.itoa
  rw [if_neg (by omega)]
  exact decDigits_len 2 _ (by omega)
theorem fm_len (n : Int) : (fmOf n).length ≤ 3 := by
  unfold fmOf
  split
  · split
    · simp
    · exact itoa_len3 n (by omega) (by omega)
  · simp
/-- What a version is written as. -/
def vsb (v : S43) : List UInt8 := Go.Lib.itoa v.f0 ++ [58] ++ vb v.f1 ++ [64] ++ Go.Lib.itoa v.f2 ++ [44] ++ Go.Lib.itoa v.f3 ++ [44] ++ fmOf v.f4
theorem vsb_eq (v : S43) : vsb v = Go.Lib.itoa v.f0 ++ ([58] ++ (vb v.f1 ++ ([64] ++ (Go.Lib.itoa v.f2 ++ ([44] ++ (Go.Lib.itoa v.f3 ++ ([44] ++ fmOf v.f4))))))) := by
  unfold vsb
  simp only [List.append_assoc]
theorem v_bd {v : S43} (h : vvS v = true) : (0 ≤ v.f0 ∧ v.f0 ≤ 9) ∧ (-1 ≤ v.f1 ∧ v.f1 ≤ 99) ∧ (0 ≤ v.f2 ∧ v.f2 ≤ 999) ∧ (0 ≤ v.f3 ∧ v.f3 ≤ 999) := by
  unfold vvS vv at h
  rw [decide_eq_true_eq] at h
  by_cases h0 : v.f2 = 0
  · have := h.2.2.2.2.1 h0
    omega
  · have := h.2.2.2.2.2 h0
    omega
theorem v_len {v : S43} (h : vvS v = true) : (Go.Lib.itoa v.f0).length ≤ 3 ∧ (vb v.f1).length ≤ 3 ∧ (Go.Lib.itoa v.f2).length ≤ 3 ∧ (Go.Lib.itoa v.f3).length ≤ 3 ∧ (fmOf v.f4).length ≤ 3 := by
  obtain ⟨h0, h1, h2, h3⟩ := v_bd h
  have := vb_len v.f1 h1.1 h1.2
  exact ⟨itoa_len3 _ (by omega) (by omega), by omega, itoa_len3 _ h2.1 h2.2, itoa_len3 _ h3.1 h3.2, fm_len _⟩
theorem vsb_len {v : S43} (h : vvS v = true) : (vsb v).length ≤ 20 := by
  obtain ⟨h0, h1, h2, h3, h4⟩ := v_len h
  unfold vsb
  simp only [List.length_append, List.length_singleton]
  omega
theorem b58 : (⟨#[58]⟩ : ByteArray) = bs [58] := rfl
theorem b64 : (⟨#[64]⟩ : ByteArray) = bs [64] := rfl
theorem b44 : (⟨#[44]⟩ : ByteArray) = bs [44] := rfl
theorem b32 : (⟨#[32]⟩ : ByteArray) = bs [32] := rfl
theorem map_get (l : List S43) (i : Nat) (h : i < l.length) : (l.map vsb).getD i [] = vsb (l.getD i z43) := by
  rw [List.getD_eq_getElem?_getD, List.getElem?_map, List.getElem?_eq_getElem h, List.getD_eq_getElem?_getD, List.getElem?_eq_getElem h]
  rfl
theorem impl_fc (l : List S43) (hl : l.length ≤ 1048576) (hv : vc l = true) : ∀ d i, i + d = l.length → Ev (fun k => impl_FormatChain.l0 k ((l.take i).map (fun v => bs (vsb v))) l (l.length : Int) (i : Int)) (bs (jn (l.map vsb) l.length)) := by
  intro d
  induction d with
  | zero =>
    intro i hi
    obtain rfl : i = l.length := by omega
    have hs := jn_len (l.map vsb) 20 (fun j hj => by rw [map_get l j (by simpa using hj)]; exact vsb_len (vc_at hv j (by simpa using hj))) l.length (by simp)
    refine Ev.step (fun k => impl_FormatChain.l0.eq_2 ..) (ev_neg (by omega) (ev_bindo ?_ (Ev.now _)))
    unfold strings_Join.f
    have e : ((l.take l.length).map (fun v => bs (vsb v))).map (·.data.toList) = (l.map vsb).take l.length := by
      rw [List.map_map, ← List.map_take]
      refine List.map_congr_left (fun v _ => ?_)
      simp [bs]
    rw [e, show ((⟨#[32]⟩ : ByteArray).data.toList) = [32] from rfl]
    have h3 : (Go.Lib.join ((l.map vsb).take l.length) [32]) = jn (l.map vsb) l.length := rfl
    rw [h3, if_pos (by simp; omega)]
    rfl
  | succ d ih =>
    intro i hi
    have hvi := vc_at hv i (by omega)
    obtain ⟨q0, q1, q2, q3⟩ := v_bd hvi
    obtain ⟨k0, k1, k2, k3, k4⟩ := v_len hvi
    have next := ih (i + 1) (by omega)
    refine Ev.step (fun k => impl_FormatChain.l0.eq_2 ..) (ev_pos (by omega) (ev_pos (by omega) (ev_pos (by omega) ?_)))
    rw [rd_nat, up i (by omega)]
    refine ev_bindo (impl_fi' _ (by omega) (by omega)) ?_
    simp only [b58, b64, b44, bs_append, bs_size, List.length_append, List.length_singleton]
    refine ev_pos (by omega) (ev_bindo (impl_val _ q1.1 q1.2) ?_)
    simp only [bs_append, bs_size, List.length_append, List.length_singleton]
    refine ev_pos (by omega) (ev_pos (by omega) (ev_bindo (impl_fi' _ (by omega) (by omega)) ?_))
    simp only [bs_append, bs_size, List.length_append, List.length_singleton]
    refine ev_pos (by omega) (ev_pos (by omega) (ev_bindo (impl_fi' _ (by omega) (by omega)) ?_))
    simp only [bs_append, bs_size, List.length_append, List.length_singleton]
    refine ev_pos (by omega) (ev_pos (by omega) (ev_bindo (impl_fm _) ?_))
    simp only [bs_append, bs_size, List.length_append, List.length_singleton]
    refine ev_pos (by omega) (ev_pos (by simp; omega) ?_)
    have et : l.take (i + 1) = l.take i ++ [l.getD i z43] := by
      rw [List.take_add_one, List.getElem?_eq_getElem (show i < l.length by omega), List.getD_eq_getElem?_getD, List.getElem?_eq_getElem (show i < l.length by omega)]
      rfl
    rw [et, List.map_append, List.map_cons, List.map_nil, vsb_eq] at next
    simp only [List.append_assoc]
    exact next
/-- What a chain is written as. -/
def fcb (m : List S43) : List UInt8 := if vc m = true then jn (m.map vsb) m.length else []
theorem impl_fch (m : List S43) (h : m.length ≤ 1048576) : Ev (fun k => impl_FormatChain.f k m) (bs (fcb m)) := by
  unfold impl_FormatChain.f fcb
  by_cases hv : vc m = true
  · rw [if_pos hv]
    exact Ev.bind (impl_vc m (by omega)) (ev_pos hv (impl_fc m h hv m.length 0 (by omega)))
  · rw [if_neg hv]
    exact Ev.bind (impl_vc m (by omega)) (ev_neg hv (Ev.now _))
/-- One byte read. -/
def stp (p : Nat × Nat) (b : UInt8) : Nat × Nat := if 48 ≤ b.toNat ∧ b.toNat ≤ 57 then (p.1 * 10 + (b.toNat - 48), p.2 + 1) else p
/-- The digits' number and how many they are. -/
def pvL (l : List UInt8) : Nat × Nat := l.foldl stp (0, 0)
theorem pv_snoc (l : List UInt8) (b : UInt8) : pvL (l ++ [b]) = stp (pvL l) b := by
  unfold pvL
  rw [List.foldl_append]
  rfl
theorem stp_bd (p : Nat × Nat) (b : UInt8) (h : p.1 < 10 ^ p.2) : (stp p b).1 < 10 ^ (stp p b).2 ∧ (stp p b).2 ≤ p.2 + 1 := by
  unfold stp
  split
  · refine ⟨?_, Nat.le_refl _⟩
    show p.1 * 10 + (b.toNat - 48) < 10 ^ (p.2 + 1)
    rw [Nat.pow_succ]
    omega
  · exact ⟨h, Nat.le_succ _⟩
theorem pv_bd0 (l : List UInt8) : ∀ p : Nat × Nat, p.1 < 10 ^ p.2 → (l.foldl stp p).1 < 10 ^ (l.foldl stp p).2 ∧ (l.foldl stp p).2 ≤ p.2 + l.length := by
  induction l with
  | nil => intro p h; exact ⟨h, Nat.le_refl _⟩
  | cons b l ih =>
    intro p h
    obtain ⟨h1, h2⟩ := stp_bd p b h
    obtain ⟨h3, h4⟩ := ih _ h1
    refine ⟨h3, ?_⟩
    show (l.foldl stp (stp p b)).2 ≤ p.2 + (l.length + 1)
    omega
theorem pv_bd (l : List UInt8) : (pvL l).1 < 10 ^ (pvL l).2 ∧ (pvL l).2 ≤ l.length := by
  have := pv_bd0 l (0, 0) (by decide)
  unfold pvL
  exact ⟨this.1, by have := this.2; omega⟩
theorem ofNat_dig (d : Nat) (h : d < 10) : (UInt8.ofNat (48 + d)).toNat = 48 + d := by
  rw [UInt8.toNat_ofNat']
  omega
theorem stp_dig (p : Nat × Nat) (d : Nat) (h : d < 10) : stp p (UInt8.ofNat (48 + d)) = (p.1 * 10 + d, p.2 + 1) := by
  unfold stp
  rw [ofNat_dig d h, if_pos (by omega), show 48 + d - 48 = d by omega]
theorem pv_dd (u : Nat) : pvL (Go.Lib.decDigits u) = (u, (Go.Lib.decDigits u).length) := by
  induction u using Nat.strongRecOn with
  | ind u ih =>
    by_cases h : u < 10
    · rw [Go.Lib.decDigits_one h]
      have := stp_dig (0, 0) u h
      show stp (0, 0) (UInt8.ofNat (48 + u)) = _
      rw [this]
      simp
    · rw [Go.Lib.decDigits, dif_neg h, pv_snoc, ih (u / 10) (by omega), stp_dig _ _ (by omega)]
      simp only [List.length_append, List.length_singleton]
      congr 1
      omega
theorem decFrom_append (a b : List UInt8) : ∀ acc, Go.Lib.decFrom acc (a ++ b) = (Go.Lib.decFrom acc a).bind (fun x => Go.Lib.decFrom x b) := by
  induction a with
  | nil => intro acc; rfl
  | cons c a ih =>
    intro acc
    show (match Go.Lib.digitVal c with | some d => Go.Lib.decFrom (acc * 10 + d) (a ++ b) | none => none) = (match Go.Lib.digitVal c with | some d => Go.Lib.decFrom (acc * 10 + d) a | none => none).bind (fun x => Go.Lib.decFrom x b)
    cases Go.Lib.digitVal c with
    | none => rfl
    | some d => exact ih _
theorem digitVal_dig (d : Nat) (h : d < 10) : Go.Lib.digitVal (UInt8.ofNat (48 + d)) = some d := by
  unfold Go.Lib.digitVal
  rw [ofNat_dig d h, if_pos (by omega), show 48 + d - 48 = d by omega]
theorem decFrom_dd (u : Nat) : Go.Lib.decFrom 0 (Go.Lib.decDigits u) = some u := by
  induction u using Nat.strongRecOn with
  | ind u ih =>
    by_cases h : u < 10
    · rw [Go.Lib.decDigits_one h]
      unfold Go.Lib.decFrom
      rw [digitVal_dig u h]
      simp [Go.Lib.decFrom]
    · rw [Go.Lib.decDigits, dif_neg h, decFrom_append, ih (u / 10) (by omega), Option.bind_some]
      unfold Go.Lib.decFrom
      rw [digitVal_dig _ (by omega)]
      simp only [Go.Lib.decFrom]
      congr 1
      omega
theorem dd_head (u : Nat) : ∃ b r, Go.Lib.decDigits u = b :: r ∧ 48 ≤ b.toNat := by
  induction u using Nat.strongRecOn with
  | ind u ih =>
    by_cases h : u < 10
    · exact ⟨_, _, Go.Lib.decDigits_one h, by rw [ofNat_dig u h]; omega⟩
    · obtain ⟨b, r, e, hb⟩ := ih (u / 10) (by omega)
      refine ⟨b, r ++ [UInt8.ofNat (48 + u % 10)], ?_, hb⟩
      rw [Go.Lib.decDigits, dif_neg h, e]
      rfl
theorem decNat_dd (u : Nat) : Go.Lib.decNat (Go.Lib.decDigits u) = some u := by
  unfold Go.Lib.decNat
  obtain ⟨b, r, e, _⟩ := dd_head u
  rw [if_neg (by rw [e]; simp), decFrom_dd]
theorem itoa_10 (n : Int) (h0 : -999999999 ≤ n) (h1 : n ≤ 999999999) : (Go.Lib.itoa n).length ≤ 10 := by
  unfold Go.Lib.itoa
  split
  · have := decDigits_len 8 n.natAbs (by omega)
    simp only [List.length_cons]
    omega
  · have := decDigits_len 8 n.toNat (by omega)
    omega
theorem atoi_itoa (n : Int) : Go.Lib.atoi (Go.Lib.itoa n) = some n := by
  unfold Go.Lib.itoa
  by_cases h : n < 0
  · rw [if_pos h]
    unfold Go.Lib.atoi
    simp only [beq_self_eq_true, if_true, decNat_dd, Option.map_some]
    congr 1
    omega
  · rw [if_neg h]
    obtain ⟨b, r, e, hb⟩ := dd_head n.toNat
    have hd := decNat_dd n.toNat
    rw [e] at hd ⊢
    unfold Go.Lib.atoi
    have h1 : ¬ b = 45 := fun h => by subst h; exact absurd hb (by decide)
    have h2 : ¬ b = 43 := fun h => by subst h; exact absurd hb (by decide)
    simp only [beq_iff_eq, h1, h2, if_false, hd, Option.map_some]
    congr 1
    omega
theorem atoiAll_itoa (n : Int) (h0 : -999999999 ≤ n) (h1 : n ≤ 999999999) : Go.Lib.atoiAll (Go.Lib.itoa n) = .ok n := by
  rw [Go.Lib.atoiAll_short _ (by have := itoa_10 n h0 h1; omega), atoi_itoa]
  rfl
/-- What the reference reckons. -/
def pm (L : List UInt8) : Int := if L.head? = some 45 then -((pvL (L.take 11)).1 : Int) else ((pvL (L.take 11)).1 : Int)
def piOf (L : List UInt8) : Int × Bool := if (pvL (L.take 11)).2 ≤ 9 ∧ L.length ≤ 10 ∧ Go.Lib.itoa (pm L) = L then (pm L, true) else (0, false)
theorem pm_itoa (n : Int) (h0 : -999999999 ≤ n) (h1 : n ≤ 999999999) : pm (Go.Lib.itoa n) = n ∧ (pvL ((Go.Lib.itoa n).take 11)).2 ≤ 9 := by
  have hl := itoa_10 n h0 h1
  unfold pm
  rw [List.take_of_length_le (by omega)]
  unfold Go.Lib.itoa at hl ⊢
  by_cases h : n < 0
  · rw [if_pos h] at hl ⊢
    have e : pvL (45 :: Go.Lib.decDigits n.natAbs) = pvL (Go.Lib.decDigits n.natAbs) := rfl
    have hd := decDigits_len 8 n.natAbs (by omega)
    rw [e, pv_dd, if_pos (show (45 :: Go.Lib.decDigits n.natAbs).head? = some 45 from rfl)]
    exact ⟨by omega, hd⟩
  · rw [if_neg h] at hl ⊢
    obtain ⟨b, r, e, hb⟩ := dd_head n.toNat
    have hd := decDigits_len 8 n.toNat (by omega)
    rw [pv_dd, if_neg (by rw [e]; intro h; have := Option.some.inj h; subst this; exact absurd hb (by decide))]
    exact ⟨by omega, hd⟩
theorem pi_itoa (n : Int) (h0 : -999999999 ≤ n) (h1 : n ≤ 999999999) : piOf (Go.Lib.itoa n) = (n, true) := by
  obtain ⟨h2, h3⟩ := pm_itoa n h0 h1
  unfold piOf
  rw [if_pos ⟨h3, itoa_10 n h0 h1, by rw [h2]⟩, h2]
theorem pm_bd (L : List UInt8) (h : (pvL (L.take 11)).2 ≤ 9) : -999999999 ≤ pm L ∧ pm L ≤ 999999999 := by
  have hb := (pv_bd (L.take 11)).1
  have h2 : 10 ^ (pvL (L.take 11)).2 ≤ 10 ^ 9 := Nat.pow_le_pow_right (by decide) h
  unfold pm
  split <;> omega
theorem pi_no (L : List UInt8) (h : ∀ n : Int, -999999999 ≤ n → n ≤ 999999999 → L ≠ Go.Lib.itoa n) : piOf L = (0, false) := by
  unfold piOf
  rw [if_neg]
  rintro ⟨h1, _, h3⟩
  obtain ⟨h4, h5⟩ := pm_bd L h1
  exact h _ h4 h5 h3.symm
theorem bt_at (s : ByteArray) (i : Nat) (h : i < s.data.toList.length) : bt s (i : Int) = ((s.data.toList[i]).toNat : Int) := by
  have hs : i < s.size := by
    have : s.data.toList.length = s.size := Array.length_toList
    omega
  unfold bt
  rw [dif_pos (by rw [Int.toNat_natCast]; exact hs)]
  rfl
theorem impl_pi (s : ByteArray) (hs : s.size ≤ 1048576) : impl_ParseInt.f s = some (piOf s.data.toList) := by
  unfold impl_ParseInt.f
  rw [if_pos (by omega)]
  by_cases hx : ∃ n : Int, -999999999 ≤ n ∧ n ≤ 999999999 ∧ s.data.toList = Go.Lib.itoa n
  · obtain ⟨n, h0, h1, e⟩ := hx
    rw [e, atoiAll_itoa n h0 h1, pi_itoa n h0 h1]
    show impl_ParseInt.g s n = _
    unfold impl_ParseInt.g
    rw [impl_in_, Option.bind_some, if_pos (decide_eq_true ⟨h0, h1⟩), impl_fi n (by omega) (by omega), Option.bind_some, if_pos]
    rw [Go.Lib.toList_data, Go.Lib.toList_data, e]
    simp [bs]
  · have hno : ∀ n : Int, -999999999 ≤ n → n ≤ 999999999 → s.data.toList ≠ Go.Lib.itoa n := fun n h0 h1 e => hx ⟨n, h0, h1, e⟩
    rw [pi_no _ hno]
    cases hv : Go.Lib.atoiAll s.data.toList with
    | ok v =>
      show impl_ParseInt.g s v = _
      unfold impl_ParseInt.g
      rw [impl_in_, Option.bind_some]
      by_cases hr : -999999999 ≤ v ∧ v ≤ 999999999
      · rw [if_pos (decide_eq_true hr), impl_fi v (by omega) (by omega), Option.bind_some, if_neg]
        rw [Go.Lib.toList_data, Go.Lib.toList_data]
        intro e
        refine hno v hr.1 hr.2 ?_
        rw [← e]
        simp [bs]
      · rw [if_neg (by simpa using hr)]
    | «syntax» => rfl
    | range => rfl
theorem pi_true (L : List UInt8) (h : (piOf L).2 = true) : Go.Lib.itoa (piOf L).1 = L ∧ -999999999 ≤ (piOf L).1 ∧ (piOf L).1 ≤ 999999999 := by
  unfold piOf at h ⊢
  by_cases hc : (pvL (L.take 11)).2 ≤ 9 ∧ L.length ≤ 10 ∧ Go.Lib.itoa (pm L) = L
  · rw [if_pos hc] at h ⊢
    exact ⟨hc.2.2, pm_bd L hc.1⟩
  · rw [if_neg hc] at h
    cases h
theorem pi_false (L : List UInt8) (h : (piOf L).2 = false) : (piOf L).1 = 0 := by
  unfold piOf at h ⊢
  by_cases hc : (pvL (L.take 11)).2 ≤ 9 ∧ L.length ≤ 10 ∧ Go.Lib.itoa (pm L) = L
  · rw [if_pos hc] at h
    cases h
  · rw [if_neg hc]
theorem itoa_zero : Go.Lib.itoa 0 = [48] := by
  unfold Go.Lib.itoa
  rw [if_neg (by omega)]
  exact Go.Lib.decDigits_one (by decide)
theorem bs_list (l : List UInt8) : (bs l).toList = l := by
  rw [Go.Lib.toList_data]
  simp [bs]
/-- The mark of a text. -/
def pmkOf (L : List UInt8) : Int × Bool := if L = [105, 110, 102] then (1000, true) else if (piOf L).2 = true ∧ 0 ≤ (piOf L).1 ∧ (piOf L).1 ≤ 999 then ((piOf L).1, true) else (0, false)
theorem impl_pmk (s : ByteArray) (hs : s.size ≤ 1048576) : impl_ParseMark.f s = some (pmkOf s.toList) := by
  have hsp := impl_pi s hs
  rw [← Go.Lib.toList_data] at hsp
  obtain ⟨L, hL⟩ : ∃ L, s.toList = L := ⟨_, rfl⟩
  unfold impl_ParseMark.f pmkOf
  rw [hsp, Option.bind_some, hL]
  by_cases h : L = [105, 110, 102]
  · rw [if_pos h, if_pos h, if_neg (by rw [h]; simp), impl_fm, Option.bind_some, if_pos]
    rw [bs_list, h]
    rfl
  · rw [if_neg h, if_neg h]
    by_cases h0 : L = []
    · rw [if_pos h0, if_neg]
      rintro ⟨h1, _, _⟩
      have := (pi_true L h1).1
      rw [h0] at this
      have hl := congrArg List.length this
      obtain ⟨b, r, e, _⟩ := dd_head (piOf ([] : List UInt8)).1.toNat
      unfold Go.Lib.itoa at this
      split at this
      · cases this
      · rw [e] at this; cases this
    · rw [if_neg h0, impl_fm, Option.bind_some, bs_list]
      by_cases h1 : (piOf L).2 = true
      · obtain ⟨e, h2, h3⟩ := pi_true L h1
        by_cases h4 : 0 ≤ (piOf L).1 ∧ (piOf L).1 ≤ 999
        · have hf : fmOf (piOf L).1 = L := by
            unfold fmOf
            rw [if_pos (by omega), if_neg (by omega)]
            exact e
          have hc : (piOf L).2 = true ∧ 0 ≤ (piOf L).1 ∧ (piOf L).1 ≤ 999 := ⟨h1, h4.1, h4.2⟩
          rw [if_pos hf, if_pos hc]
        · have hf : ¬ fmOf (piOf L).1 = L := by
            intro h6
            unfold fmOf at h6
            split at h6
            · split at h6
              · exact h h6.symm
              · omega
            · exact h0 h6.symm
          have hc : ¬ ((piOf L).2 = true ∧ 0 ≤ (piOf L).1 ∧ (piOf L).1 ≤ 999) := fun h5 => h4 h5.2
          rw [if_neg hf, if_neg hc]
      · have h1' : (piOf L).2 = false := Bool.eq_false_iff.2 h1
        have h2 := pi_false L h1'
        have hc : ¬ ((piOf L).2 = true ∧ 0 ≤ (piOf L).1 ∧ (piOf L).1 ≤ 999) := fun h5 => h1 h5.1
        have hf : ¬ fmOf (piOf L).1 = L := by
         rw [h2]
         intro h6
         have h7 : fmOf 0 = [48] := by
           unfold fmOf
           rw [if_pos (by omega), if_neg (by omega), itoa_zero]
         rw [h7] at h6
         have h8 := pi_itoa 0 (by omega) (by omega)
         rw [itoa_zero, h6] at h8
         rw [h8] at h1
         exact h1 rfl
        rw [if_neg hf, if_neg hc]
theorem ix_no (c : UInt8) : ∀ w : List UInt8, c ∉ w → Go.Lib.index w [c] = -1
  | [], _ => by simp [Go.Lib.index]
  | b :: w, h => by
    have h1 := ix_no c w (fun e => h (List.mem_cons_of_mem _ e))
    have h2 : ¬ c = b := fun e => h (by rw [e]; exact List.mem_cons_self)
    rw [Go.Lib.index, if_neg (by simp [List.isPrefixOf, h2]), h1]
    rfl
theorem ix_at (c : UInt8) (r : List UInt8) : ∀ w : List UInt8, c ∉ w → Go.Lib.index (w ++ c :: r) [c] = (w.length : Int)
  | [], _ => by rw [List.nil_append, Go.Lib.index]; simp [List.isPrefixOf]
  | b :: w, h => by
    have h1 := ix_at c r w (fun e => h (List.mem_cons_of_mem _ e))
    have h2 : ¬ c = b := fun e => h (by rw [e]; exact List.mem_cons_self)
    rw [List.cons_append, Go.Lib.index, if_neg (by simp [List.isPrefixOf, h2]), h1, if_neg (fun e => by have := beq_iff_eq.1 e; omega)]
    simp
theorem drop_at (c : UInt8) (w r : List UInt8) : (w ++ c :: r).drop (w.length + 1) = r := by
  rw [show w ++ c :: r = (w ++ [c]) ++ r by simp]
  exact List.drop_left' (by simp)
theorem cut_at (c : UInt8) (w r : List UInt8) (h : c ∉ w) : Go.Lib.cut (w ++ c :: r) [c] = (w, r, true) := by
  unfold Go.Lib.cut
  rw [ix_at c r w h, if_pos (by omega), Int.toNat_natCast, List.take_left' rfl]
  exact congrArg (fun x => (w, x, true)) (drop_at c w r)
theorem tail_cons (c : UInt8) (x : List UInt8) (ws : List (List UInt8)) : Go.Lib.joinTail [c] (x :: ws) = c :: (x ++ Go.Lib.joinTail [c] ws) := by
  simp [Go.Lib.joinTail]
theorem splitK_ws (c : UInt8) (ws : List (List UInt8)) : ∀ w : List UInt8, c ∉ w → (∀ x ∈ ws, c ∉ x) → Go.Lib.splitK [c] 0 ws.length (w ++ Go.Lib.joinTail [c] ws) = w :: ws := by
  induction ws with
  | nil => intro w h _; simp [Go.Lib.splitK, Go.Lib.joinTail]
  | cons x ws ih =>
    intro w h hx
    have := ih x (hx x List.mem_cons_self) (fun y hy => hx y (List.mem_cons_of_mem _ hy))
    rw [tail_cons, List.length_cons, Go.Lib.splitK, ix_at c _ w h, if_neg (fun e => by have := beq_iff_eq.1 e; omega), Int.toNat_natCast, Nat.add_zero, List.take_left' rfl]
    congr 1
    rw [show ([c] : List UInt8).length = 1 from rfl, drop_at]
    exact this
theorem count_ws (c : UInt8) (ws : List (List UInt8)) : ∀ w : List UInt8, c ∉ w → (∀ x ∈ ws, c ∉ x) → (w ++ Go.Lib.joinTail [c] ws).count c = ws.length := by
  induction ws with
  | nil => intro w h _; simp [Go.Lib.joinTail, List.count_eq_zero_of_not_mem h]
  | cons x ws ih =>
    intro w h hx
    have := ih x (hx x List.mem_cons_self) (fun y hy => hx y (List.mem_cons_of_mem _ hy))
    rw [tail_cons, List.count_append, List.count_eq_zero_of_not_mem h, List.count_cons_self, this]
    simp
theorem bs_data (s : ByteArray) : bs s.data.toList = s := by
  unfold bs
  simp
theorem data_bs (l : List UInt8) : (bs l).data.toList = l := by simp [bs]
theorem split_ws (c : UInt8) (w : List UInt8) (ws : List (List UInt8)) (h : c ∉ w) (hx : ∀ x ∈ ws, c ∉ x) (hl : (w ++ Go.Lib.joinTail [c] ws).length ≤ 1048576) :
    strings_Split.f (bs (w ++ Go.Lib.joinTail [c] ws)) (bs [c]) = some ((w :: ws).map bs) := by
  unfold strings_Split.f
  rw [if_pos ⟨by rw [bs_size]; omega, by rw [bs_size]; simp⟩]
  have hc : Go.Lib.countB (bs (w ++ Go.Lib.joinTail [c] ws)) (bs [c]) = ws.length := by
    show Go.Lib.count (bs _).data.toList (bs [c]).data.toList = _
    rw [data_bs, data_bs, Go.Lib.count_one, count_ws c ws w h hx]
  rw [hc]
  have hd := Go.Lib.splitB_data (bs [c]) 0 ws.length (bs (w ++ Go.Lib.joinTail [c] ws))
  rw [data_bs, data_bs, splitK_ws c ws w h hx] at hd
  rw [← hd, List.map_map]
  congr 1
  exact ((List.map_congr_left (fun s _ => bs_data s)).trans (List.map_id _)).symm
theorem splitB_size (sep : ByteArray) (k : Nat) : ∀ s : ByteArray, ∀ x ∈ Go.Lib.splitB sep 0 k s, x.size ≤ s.size := by
  induction k with
  | zero => intro s x hx; simp only [Go.Lib.splitB, List.mem_singleton] at hx; rw [hx]; exact Nat.le_refl _
  | succ k ih =>
    intro s x hx
    unfold Go.Lib.splitB at hx
    split at hx
    · simp only [List.mem_singleton] at hx; rw [hx]; exact Nat.le_refl _
    · simp only [List.mem_cons] at hx
      rcases hx with rfl | hx
      · rw [ByteArray.size_extract]; omega
      · have := ih _ x hx
        rw [ByteArray.size_extract] at this
        omega
/-- The words of a text, 'cur' read already. -/
def wd (c : UInt8) : List UInt8 → List UInt8 → List (List UInt8)
  | cur, [] => [cur]
  | cur, b :: r => if b = c then cur :: wd c [] r else wd c (cur ++ [b]) r
theorem wd_word (c : UInt8) (r : List UInt8) : ∀ (w cur : List UInt8), c ∉ w → wd c cur (w ++ r) = wd c (cur ++ w) r
  | [], cur, _ => by simp
  | b :: w, cur, h => by
    have h2 : ¬ b = c := fun e => h (by rw [e]; exact List.mem_cons_self)
    have := wd_word c r w (cur ++ [b]) (fun e => h (List.mem_cons_of_mem _ e))
    rw [List.cons_append, wd, if_neg h2, this]
    simp
theorem wd_ws (c : UInt8) (ws : List (List UInt8)) : ∀ w : List UInt8, c ∉ w → (∀ x ∈ ws, c ∉ x) → wd c [] (w ++ Go.Lib.joinTail [c] ws) = w :: ws := by
  induction ws with
  | nil => intro w h _; rw [wd_word c _ w [] h]; simp [wd, Go.Lib.joinTail]
  | cons x ws ih =>
    intro w h hx
    have := ih x (hx x List.mem_cons_self) (fun y hy => hx y (List.mem_cons_of_mem _ hy))
    rw [wd_word c _ w [] h, tail_cons, wd, if_pos rfl, this]
    rfl
theorem wd_len (c : UInt8) (r : List UInt8) : ∀ cur : List UInt8, (∀ x ∈ wd c cur r, x.length ≤ cur.length + r.length) ∧ (wd c cur r).length ≤ r.length + 1 := by
  induction r with
  | nil => intro cur; simp [wd]
  | cons b r ih =>
    intro cur
    unfold wd
    split
    · obtain ⟨h1, h2⟩ := ih []
      refine ⟨fun x hx => ?_, by simp only [List.length_cons]; omega⟩
      simp only [List.mem_cons] at hx
      rcases hx with rfl | hx
      · simp
      · have := h1 x hx
        simp only [List.length_cons, List.length_nil] at this ⊢
        omega
    · obtain ⟨h1, h2⟩ := ih (cur ++ [b])
      refine ⟨fun x hx => ?_, by simp only [List.length_cons]; omega⟩
      have := h1 x hx
      simp only [List.length_append, List.length_cons, List.length_nil] at this ⊢
      omega
theorem ext_bs (L : List UInt8) (a b : Nat) : (bs L).extract a b = bs ((L.drop a).take (b - a)) := by
  apply ByteArray.ext
  apply Array.toList_inj.1
  rw [ByteArray.data_extract, Array.toList_extract, List.extract_eq_take_drop, data_bs, data_bs]
theorem bt_bs (p : List UInt8) (b : UInt8) (r : List UInt8) : bt (bs (p ++ b :: r)) ((p.length : Nat) : Int) = ((b.toNat : Nat) : Int) := by
  rw [bt_at _ _ (by rw [data_bs]; simp)]
  have : (bs (p ++ b :: r)).data.toList[p.length]'(by rw [data_bs]; simp) = b := by
    simp only [data_bs]
    rw [List.getElem_append_right (by simp)]
    simp
  rw [this]
theorem dd_chars (u : Nat) : ∀ b ∈ Go.Lib.decDigits u, 48 ≤ b.toNat ∧ b.toNat ≤ 57 := by
  induction u using Nat.strongRecOn with
  | ind u ih =>
    intro b hb
    by_cases h : u < 10
    · rw [Go.Lib.decDigits_one h, List.mem_singleton] at hb
      rw [hb, ofNat_dig u h]
      omega
    · rw [Go.Lib.decDigits, dif_neg h, List.mem_append, List.mem_singleton] at hb
      rcases hb with hb | rfl
      · exact ih (u / 10) (by omega) b hb
      · rw [ofNat_dig _ (by omega)]
        omega
theorem itoa_chars (n : Int) : ∀ b ∈ Go.Lib.itoa n, b.toNat = 45 ∨ (48 ≤ b.toNat ∧ b.toNat ≤ 57) := by
  intro b hb
  unfold Go.Lib.itoa at hb
  split at hb
  · rw [List.mem_cons] at hb
    rcases hb with rfl | hb
    · exact .inl rfl
    · exact .inr (dd_chars _ b hb)
  · exact .inr (dd_chars _ b hb)
/-- None of the four that stand between. -/
def Sep (c : UInt8) : Prop := c.toNat = 58 ∨ c.toNat = 64 ∨ c.toNat = 44 ∨ c.toNat = 32
theorem itoa_sep (n : Int) (c : UInt8) (hc : Sep c) : c ∉ Go.Lib.itoa n := by
  intro h
  have := itoa_chars n c h
  unfold Sep at hc
  omega
theorem vb_sep (n : Int) (c : UInt8) (hc : Sep c) : c ∉ vb n := by
  unfold vb
  split
  · intro h
    rw [List.mem_singleton] at h
    subst h
    exact absurd hc (by unfold Sep; decide)
  · exact itoa_sep n c hc
theorem fm_sep (n : Int) (c : UInt8) (hc : Sep c) : c ∉ fmOf n := by
  unfold fmOf
  split
  · split
    · intro h
      simp only [List.mem_cons, List.not_mem_nil, or_false] at h
      rcases h with rfl | rfl | rfl <;> exact absurd hc (by unfold Sep; decide)
    · exact itoa_sep n c hc
  · simp
/-- The parts of a version's text. -/
def r3 (v : S43) : List UInt8 := Go.Lib.itoa v.f3 ++ 44 :: fmOf v.f4
def r2 (v : S43) : List UInt8 := Go.Lib.itoa v.f2 ++ 44 :: r3 v
def r1 (v : S43) : List UInt8 := vb v.f1 ++ 64 :: r2 v
theorem vsb_r (v : S43) : vsb v = Go.Lib.itoa v.f0 ++ 58 :: r1 v := by
  unfold vsb r1 r2 r3
  simp
theorem r2_sep (v : S43) (c : UInt8) (hc : Sep c) (h : c ≠ 44) : c ∉ r2 v := by
  unfold r2 r3
  simp only [List.mem_append, List.mem_cons, not_or]
  exact ⟨itoa_sep _ c hc, h, itoa_sep _ c hc, h, fm_sep _ c hc⟩
theorem vsb_sep (v : S43) : (32 : UInt8) ∉ vsb v := by
  have hs : Sep 32 := by unfold Sep; decide
  rw [vsb_r]
  unfold r1
  simp only [List.mem_append, List.mem_cons, not_or]
  exact ⟨itoa_sep _ _ hs, by decide, vb_sep _ _ hs, by decide, r2_sep v _ hs (by decide)⟩
theorem pmk_fm (n : Int) (h0 : 0 ≤ n) (h1 : n ≤ 1000) : pmkOf (fmOf n) = (n, true) := by
  unfold fmOf
  rw [if_pos ⟨h0, h1⟩]
  by_cases h : n = 1000
  · rw [if_pos h, h]
    rfl
  · rw [if_neg h]
    unfold pmkOf
    have hne : ¬ Go.Lib.itoa n = [105, 110, 102] := fun e => by
      have := itoa_chars n 105 (by rw [e]; simp)
      revert this
      decide
    rw [if_neg hne, pi_itoa n (by omega) (by omega)]
    exact if_pos ⟨rfl, h0, by omega⟩
theorem f4_bd {v : S43} (h : vvS v = true) : 0 ≤ v.f4 ∧ v.f4 ≤ 1000 := by
  unfold vvS vv at h
  rw [decide_eq_true_eq] at h
  omega
/-- What the reference makes of a value's text. -/
def nm (L : List UInt8) : Int := if L = [45] then -1 else if (piOf L).2 = true then (if (piOf L).1 < 0 then -2 else (piOf L).1) else -2
theorem itoa_not (n : Int) (h : 0 ≤ n) : ¬ Go.Lib.itoa n = [45] := by
  intro e
  unfold Go.Lib.itoa at e
  rw [if_neg (by omega)] at e
  have := dd_chars n.toNat 45 (by rw [e]; simp)
  revert this
  decide
theorem nm_vb (n : Int) (h0 : -1 ≤ n) (h1 : n ≤ 99) : nm (vb n) = n := by
  unfold nm vb
  by_cases h : n = -1
  · rw [if_pos h, if_pos rfl, h]
  · rw [if_neg h, if_neg (itoa_not n (by omega)), pi_itoa n (by omega) (by omega)]
    show (if true = true then (if n < 0 then -2 else n) else -2) = n
    rw [if_pos rfl, if_neg (by omega)]
/-- What the reference reads behind the first colon. -/
def rv (A R : List UInt8) : Int × Int × Int × Int × Int :=
  if (wd 64 [] R).length = 2 then
    (if (wd 44 [] ((wd 64 [] R).getD 1 [])).length = 3 then
      ((piOf A).1, nm ((wd 64 [] R).getD 0 []), (piOf ((wd 44 [] ((wd 64 [] R).getD 1 [])).getD 0 [])).1, (piOf ((wd 44 [] ((wd 64 [] R).getD 1 [])).getD 1 [])).1, (pmkOf ((wd 44 [] ((wd 64 [] R).getD 1 [])).getD 2 [])).1)
    else ((piOf A).1, nm ((wd 64 [] R).getD 0 []), 0, 0, 0))
  else ((piOf A).1, -2, 0, 0, 0)
theorem rd_bs (ws : List (List UInt8)) (i : Nat) : rdOf ByteArray.empty (ws.map bs) (i : Int) = bs (ws.getD i []) := by
  unfold rdOf
  rw [Int.toNat_natCast, List.getD_eq_getElem?_getD, List.getElem?_map, List.getD_eq_getElem?_getD]
  cases ws[i]? <;> rfl
theorem getD_len {ws : List (List UInt8)} {n : Nat} (h : ∀ x ∈ ws, x.length ≤ n) (i : Nat) : (ws.getD i []).length ≤ n := by
  rw [List.getD_eq_getElem?_getD]
  cases e : ws[i]? with
  | none => simp
  | some x => exact h x (List.mem_of_getElem? e)
/-- The program's. -/
theorem cut_some (L : List UInt8) (hL : L.length ≤ 1048576) (c : UInt8) : strings_Cut.f (bs L) (bs [c]) = some (bs (Go.Lib.cut L [c]).1, bs (Go.Lib.cut L [c]).2.1, (Go.Lib.cut L [c]).2.2) ∧ (Go.Lib.cut L [c]).1.length ≤ 1048576 ∧ (Go.Lib.cut L [c]).2.1.length ≤ 1048576 := by
  refine ⟨?_, ?_⟩
  · unfold strings_Cut.f
    rw [if_pos (by rw [bs_size]; omega), data_bs, data_bs]
    rfl
  · unfold Go.Lib.cut
    split
    · refine ⟨by show (List.take _ _).length ≤ _; simp; omega, by show (List.drop _ _).length ≤ _; simp; omega⟩
    · exact ⟨hL, by simp⟩
def pvv (X : List UInt8) : Int := if X = [45] then -1 else (piOf X).1
theorem impl_pv (X : List UInt8) (h : X.length ≤ 1048576) : ∃ b, impl_parseValue.f (bs X) = some (pvv X, b) := by
  have hp := impl_pi (bs X) (by rw [bs_size]; exact h)
  rw [data_bs] at hp
  unfold impl_parseValue.f pvv
  rw [hp, Option.bind_some, bs_list]
  by_cases h1 : X = [45]
  · rw [if_pos h1, if_pos h1]; exact ⟨_, rfl⟩
  · rw [if_neg h1, if_neg h1]
    by_cases h2 : (piOf X).2 = true
    · rw [if_pos h2, impl_in_, Option.bind_some]; exact ⟨_, rfl⟩
    · rw [if_neg h2]; exact ⟨_, rfl⟩
def iv (L : List UInt8) : Int × Int × Int × Int × Int :=
  ((piOf (Go.Lib.cut L [58]).1).1, pvv (Go.Lib.cut (Go.Lib.cut L [58]).2.1 [64]).1, (piOf (Go.Lib.cut (Go.Lib.cut (Go.Lib.cut L [58]).2.1 [64]).2.1 [44]).1).1,
    (piOf (Go.Lib.cut (Go.Lib.cut (Go.Lib.cut (Go.Lib.cut L [58]).2.1 [64]).2.1 [44]).2.1 [44]).1).1, (pmkOf (Go.Lib.cut (Go.Lib.cut (Go.Lib.cut (Go.Lib.cut L [58]).2.1 [64]).2.1 [44]).2.1 [44]).2.1).1)
theorem parse_any (L : List UInt8) (hL : L.length ≤ 1048576) : impl_parseVersion.f (bs L) = some (iv L) := by
  obtain ⟨c1, a1, b1⟩ := cut_some L hL 58
  obtain ⟨c2, a2, b2⟩ := cut_some _ b1 64
  obtain ⟨c3, a3, b3⟩ := cut_some _ b2 44
  obtain ⟨c4, a4, b4⟩ := cut_some _ b3 44
  obtain ⟨z, hz⟩ := impl_pv _ a2
  have p1 := impl_pi (bs _) (by rw [bs_size]; exact a1)
  have p3 := impl_pi (bs _) (by rw [bs_size]; exact a3)
  have p4 := impl_pi (bs _) (by rw [bs_size]; exact a4)
  have p5 := impl_pmk (bs _) (by rw [bs_size]; exact b4)
  rw [data_bs] at p1 p3 p4
  rw [bs_list] at p5
  unfold impl_parseVersion.f iv
  rw [b58, b64, b44, c1]
  simp only [Option.bind_some]
  rw [c2]
  simp only [Option.bind_some]
  rw [c3]
  simp only [Option.bind_some]
  rw [c4]
  simp only [Option.bind_some]
  rw [p1]
  simp only [Option.bind_some]
  rw [hz]
  simp only [Option.bind_some]
  rw [p3]
  simp only [Option.bind_some]
  rw [p4]
  simp only [Option.bind_some]
  rw [p5]
  rfl
theorem parse_v (v : S43) (hv : vvS v = true) : iv (vsb v) = (v.f0, v.f1, v.f2, v.f3, v.f4) := by
  obtain ⟨q0, q1, q2, q3⟩ := v_bd hv
  have q4 := f4_bd hv
  have s58 : Sep 58 := by unfold Sep; decide
  have s64 : Sep 64 := by unfold Sep; decide
  have s44 : Sep 44 := by unfold Sep; decide
  have e1 : Go.Lib.cut (vsb v) [58] = (Go.Lib.itoa v.f0, r1 v, true) := by rw [vsb_r]; exact cut_at 58 _ _ (itoa_sep _ _ s58)
  have e2 : Go.Lib.cut (r1 v) [64] = (vb v.f1, r2 v, true) := cut_at 64 _ _ (vb_sep _ _ s64)
  have e3 : Go.Lib.cut (r2 v) [44] = (Go.Lib.itoa v.f2, r3 v, true) := cut_at 44 _ _ (itoa_sep _ _ s44)
  have e4 : Go.Lib.cut (r3 v) [44] = (Go.Lib.itoa v.f3, fmOf v.f4, true) := cut_at 44 _ _ (itoa_sep _ _ s44)
  have ev : pvv (vb v.f1) = v.f1 := by
    unfold pvv vb
    by_cases h : v.f1 = -1
    · rw [if_pos h, if_pos rfl, h]
    · rw [if_neg h, if_neg (itoa_not _ (by omega)), pi_itoa _ (by omega) (by omega)]
  unfold iv
  rw [e1]
  simp only
  rw [e2]
  simp only
  rw [e3]
  simp only
  rw [e4]
  simp only
  rw [pi_itoa _ (by omega) (by omega), ev, pi_itoa _ (by omega) (by omega), pi_itoa _ (by omega) (by omega), pmk_fm _ q4.1 q4.2]
theorem vc_pos2 {l : List S43} (h : vc l = true) : 0 < l.length := by
  unfold vc lastOk at h
  simp only [Bool.and_eq_true, decide_eq_true_eq] at h
  exact h.2.1
theorem chain_eq (l : List S43) (h : vc l = true) : ∃ v t, l = v :: t ∧ jn (l.map vsb) l.length = vsb v ++ Go.Lib.joinTail [32] (t.map vsb) := by
  cases l with
  | nil => exact absurd (vc_pos2 h) (by simp)
  | cons v t =>
    refine ⟨v, t, rfl, ?_⟩
    unfold jn
    rw [List.take_of_length_le (by simp), List.map_cons, Go.Lib.join_cons]
theorem chain_sep (t : List S43) : ∀ x ∈ t.map vsb, (32 : UInt8) ∉ x := by
  intro x hx
  obtain ⟨v, _, rfl⟩ := List.mem_map.1 hx
  exact vsb_sep v
theorem chain_wd (l : List S43) (h : vc l = true) : wd 32 [] (jn (l.map vsb) l.length) = l.map vsb := by
  obtain ⟨v, t, rfl, e⟩ := chain_eq l h
  rw [e, wd_ws 32 _ _ (vsb_sep v) (chain_sep t)]
  rfl
theorem chain_split (l : List S43) (h : vc l = true) (hl : (jn (l.map vsb) l.length).length ≤ 1048576) : strings_Split.f (bs (jn (l.map vsb) l.length)) (bs [32]) = some ((l.map vsb).map bs) := by
  obtain ⟨v, t, rfl, e⟩ := chain_eq l h
  rw [e] at hl ⊢
  rw [split_ws 32 _ _ (vsb_sep v) (chain_sep t) hl]
  rfl
theorem chain_ne (l : List S43) (h : vc l = true) : jn (l.map vsb) l.length ≠ [] := by
  obtain ⟨v, t, rfl, e⟩ := chain_eq l h
  rw [e, vsb_r]
  simp
theorem fcb_len (a l : List S43) (h : vc l = true) (he : fcb a = jn (l.map vsb) l.length) : a.length = l.length := by
  unfold fcb at he
  by_cases ha : vc a = true
  · rw [if_pos ha] at he
    have h1 := chain_wd a ha
    rw [he, chain_wd l h] at h1
    have := congrArg List.length h1
    simpa using this.symm
  · rw [if_neg ha] at he
    exact absurd he.symm (chain_ne l h)
theorem words_len (l : List S43) (h : vc l = true) (hl : (jn (l.map vsb) l.length).length ≤ 1048576) : l.length ≤ 1048577 := by
  have := (wd_len 32 (jn (l.map vsb) l.length) []).2
  rw [chain_wd l h, List.length_map] at this
  omega
theorem take_snoc (l : List S43) (i : Nat) (h : i < l.length) : l.take (i + 1) = l.take i ++ [l.getD i z43] := by
  rw [List.take_add_one, List.getElem?_eq_getElem h, List.getD_eq_getElem?_getD, List.getElem?_eq_getElem h]
  rfl
theorem implB (S : List UInt8) (hB : ∀ m : List S43, fcb m = S → S = []) (W : List (List UInt8)) (hW : ∀ x ∈ W, x.length ≤ 1048576) (hl : W.length ≤ 1048577) (d : Nat) : ∀ (i : Nat) (acc : List S43), i + d = W.length → acc.length ≤ i →
    Ev (fun k => impl_ParseChain.l0 k (bs S) acc (W.map bs) (W.length : Int) (i : Int)) ([], false) := by
  induction d with
  | zero =>
    intro i acc hi ha
    refine Ev.step (fun k => impl_ParseChain.l0.eq_2 ..) (ev_neg (by omega) ?_)
    rw [bs_list]
    refine ev_ite (fun _ => Ev.now _) (fun h => ev_ite (fun _ => Ev.now _) (fun h2 => Ev.bind (impl_fch acc (by omega)) ?_))
    rw [bs_list]
    exact ev_neg (fun e => h (hB acc e)) (Ev.now _)
  | succ d ih =>
    intro i acc hi ha
    refine Ev.step (fun k => impl_ParseChain.l0.eq_2 ..) (ev_pos (by omega) (ev_pos (by omega) (ev_pos (by simp; omega) ?_)))
    rw [rd_bs, up i (by omega)]
    exact ev_bindo (parse_any _ (getD_len hW i)) (ev_pos (by omega) (ih (i + 1) _ (by omega) (by simp; omega)))
theorem i64_and255 (n : Int) : Go.bits .and .i64 n 255 = n % 256 := by
  have h255 : (BitVec.ofInt 64 255).toNat = 2 ^ 8 - 1 := by decide
  have key : (BitVec.ofInt 64 n &&& BitVec.ofInt 64 255).toNat = (n % ((2 ^ 64 : Nat) : Int)).toNat % 2 ^ 8 := by
    rw [BitVec.toNat_and, BitVec.toNat_ofInt, h255, Nat.and_two_pow_sub_one_eq_mod]
  show IntKind.i64.wrap ((BitVec.ofInt 64 n &&& BitVec.ofInt 64 255).toNat : Nat) = n % 256
  rw [key, IntKind.wrap_i64]
  omega
/-- A reader's place stands in its text. -/
def Cur (l : List Int) (p : Int) : Prop := 0 ≤ p ∧ p ≤ (l.length : Int)
theorem byte_ok (l : List Int) (hl : l.length ≤ 140737488351232) (p s : Int) (hp : Cur l p) : ∃ b q t, spec_l1Byte.f l p s = some (b, q, t) ∧ 0 ≤ b ∧ b ≤ 255 ∧ Cur l q := by
  unfold spec_l1Byte.f
  simp only [i64_and255]
  by_cases h : p < (l.length : Int)
  · rw [if_pos h, if_pos hp.1]
    exact ⟨_, _, _, rfl, by omega, by omega, by rw [w64 (by have := hp.1; omega) (by omega)]; exact ⟨by have := hp.1; omega, by omega⟩⟩
  · rw [if_neg h]
    exact ⟨_, _, _, rfl, by omega, by omega, hp⟩
theorem tmod_bd {b a : Int} (h0 : 0 ≤ b) (h : 0 < a) : 0 ≤ Int.tmod b a ∧ Int.tmod b a < a := by
  rw [Int.tmod_eq_emod_of_nonneg h0]
  exact ⟨Int.emod_nonneg _ (by omega), Int.emod_lt_of_pos _ h⟩
theorem below_ok (l : List Int) (hl : l.length ≤ 140737488351232) (p s : Int) (hp : Cur l p) (a : Int) (h0 : 0 < a) (h1 : a ≤ 4294967296) : ∃ b q t, spec_l1Below.f l p s a = some (b, q, t) ∧ 0 ≤ b ∧ b < a ∧ Cur l q := by
  unfold spec_l1Below.f
  rw [if_neg (by omega)]
  by_cases h : a ≤ 256
  · rw [if_pos h]
    obtain ⟨b, q, t, e, b0, b1, hq⟩ := byte_ok l hl p s hp
    rw [e, Option.bind_some, if_neg (by omega)]
    have := tmod_bd b0 h0
    exact ⟨_, _, _, rfl, this.1, this.2, hq⟩
  · rw [if_neg h]
    obtain ⟨b, q, t, e, b0, b1, hq⟩ := byte_ok l hl p s hp
    obtain ⟨c, q2, t2, e2, c0, c1, hq2⟩ := byte_ok l hl q t hq
    obtain ⟨d, q3, t3, e3, d0, d1, hq3⟩ := byte_ok l hl q2 t2 hq2
    obtain ⟨f, q4, t4, e4, f0, f1, hq4⟩ := byte_ok l hl q3 t3 hq3
    rw [e, Option.bind_some, e2, Option.bind_some, e3, Option.bind_some, e4, Option.bind_some, if_neg (by omega)]
    have hw : wrap64 ((wrap64 ((wrap64 ((wrap64 (b * 16777216)) + (wrap64 (c * 65536)))) + (wrap64 (d * 256)))) + f) = b * 16777216 + c * 65536 + d * 256 + f := by
      rw [w64 (n := b * 16777216) (by omega) (by omega), w64 (n := c * 65536) (by omega) (by omega), w64 (n := d * 256) (by omega) (by omega), w64 (n := b * 16777216 + c * 65536) (by omega) (by omega), w64 (n := b * 16777216 + c * 65536 + d * 256) (by omega) (by omega), w64 (by omega) (by omega)]
    have hz : 0 ≤ b * 16777216 + c * 65536 + d * 256 + f := by omega
    have := tmod_bd hz h0
    exact ⟨_, _, _, rfl, by show 0 ≤ Int.tmod (wrap64 _) a; rw [hw]; exact this.1, by show Int.tmod (wrap64 _) a < a; rw [hw]; exact this.2, hq4⟩
theorem pick_ok (l : List Int) (hl : l.length ≤ 140737488351232) (p s : Int) (hp : Cur l p) (m : List Int) (h0 : 0 < m.length) (h1 : m.length ≤ 1000) : ∃ b q t, spec_l1PickInt.f l p s m = some (b, q, t) ∧ b ∈ m ∧ Cur l q := by
  unfold spec_l1PickInt.f
  obtain ⟨b, q, t, e, b0, b1, hq⟩ := below_ok l hl p s hp (m.length : Int) (by omega) (by omega)
  rw [e, Option.bind_some, if_pos b0, if_pos b1]
  refine ⟨_, _, _, rfl, ?_, hq⟩
  show rd m b ∈ m
  unfold rd
  have hb : b.toNat < m.length := by omega
  rw [show m.getD b.toNat _ = m[b.toNat] from by simp [List.getD, hb]]
  exact List.getElem_mem hb
theorem wrap_bd (x : Int) : -9223372036854775808 ≤ wrap64 x ∧ wrap64 x ≤ 9223372036854775807 := by unfold wrap64; omega
theorem new_loop (l : List Int) (d : Nat) : ∀ (i : Nat) (x : Int), i + d = min l.length 4000 → ∃ t, Ev (fun k => spec_l1New.l0 k l x (i : Int)) (l, 0, t) := by
  induction d with
  | zero =>
    intro i x hi
    by_cases h : (i : Int) < (l.length : Int)
    · exact ⟨_, Ev.step (fun k => spec_l1New.l0.eq_2 ..) (ev_pos h (ev_neg (by omega) (Ev.now _)))⟩
    · exact ⟨_, Ev.step (fun k => spec_l1New.l0.eq_2 ..) (ev_neg h (Ev.now _))⟩
  | succ d ih =>
    intro i x hi
    obtain ⟨t, ht⟩ := ih (i + 1) (Go.bits .and .i64 (wrap64 ((wrap64 ((wrap64 (x * 131)) + (wrap64 (rd l (i : Int))))) + 7)) 1073741823) (by omega)
    refine ⟨t, Ev.step (fun k => spec_l1New.l0.eq_2 ..) (ev_pos (by omega) (ev_pos (by omega) (ev_pos (by omega) ?_)))⟩
    rw [w64 (n := (i : Int) + 1) (by omega) (by omega)]
    exact ht
theorem new_ok (l : List Int) : ∃ t, Ev (fun k => spec_l1New.f k l) (l, 0, t) := new_loop l (min l.length 4000) 0 _ (by omega)
theorem cur0 (l : List Int) : Cur l 0 := ⟨Int.le_refl _, Int.natCast_nonneg _⟩
theorem chain_draw (l : List Int) (hl : l.length ≤ 140737488351232) (d : Nat) : ∀ (x : List S43) (st p s : Int), 0 < x.length → x.length + d ≤ 1000 → Cur l p →
    ∃ m q t, Ev (fun k => spec_l3Chain.l0 k x st (d : Int) l p s) (m, q, t) ∧ 0 < m.length ∧ m.length ≤ x.length + d ∧ Cur l q := by
  induction d with
  | zero =>
    intro x st p s h0 h1 hp
    exact ⟨x, p, s, Ev.step (fun k => spec_l3Chain.l0.eq_2 ..) (ev_neg (by omega) (Ev.now _)), h0, by omega, hp⟩
  | succ d ih =>
    intro x st p s h0 h1 hp
    have e0 : wrap64 ((x.length : Int) - 1) = (x.length : Int) - 1 := w64 (by omega) (by omega)
    obtain ⟨b1, q1, s1, e1, _, _, hq1⟩ := below_ok l hl p s hp 3 (by omega) (by omega)
    obtain ⟨b2, q2, s2, e2, _, _, hq2⟩ := below_ok l hl q1 s1 hq1 2 (by omega) (by omega)
    obtain ⟨b3, q3, s3, e3, _, _, hq3⟩ := below_ok l hl q2 s2 hq2 4 (by omega) (by omega)
    obtain ⟨b4, q4, s4, e4, _, _, hq4⟩ := below_ok l hl q3 s3 hq3 9 (by omega) (by omega)
    obtain ⟨b5, q5, s5, e5, _, hq5⟩ := pick_ok l hl q4 s4 hq4 ([(-1), 0, 5, 7, 42, 99] : List Int) (by decide) (by decide)
    have key : ∀ (y : List S43) (st' : Int), y.length = x.length + 1 → ∃ m q t, Ev (fun k => spec_l3Chain.l0 k y st' (wrap64 (((d + 1 : Nat) : Int) - 1)) l q5 s5) (m, q, t) ∧ 0 < m.length ∧ m.length ≤ x.length + (d + 1) ∧ Cur l q := by
      intro y st' hy
      obtain ⟨m, q, t, g1, g2, g3, g4⟩ := ih y st' q5 s5 (by omega) (by omega) hq5
      refine ⟨m, q, t, ?_, g2, by omega, g4⟩
      rw [w64 (by omega) (by omega), show ((d + 1 : Nat) : Int) - 1 = (d : Int) by omega]
      exact g1
    have go : ∀ (m : List S43) (q t : Int) (y : List S43) (z : S43) (st' : Int), True := fun _ _ _ _ _ _ => trivial
    refine (fun (H : ∃ r : List S43 × Int × Int, Ev (fun k => spec_l3Chain.l0 k x st ((d + 1 : Nat) : Int) l p s) r ∧ 0 < r.1.length ∧ r.1.length ≤ x.length + (d + 1) ∧ Cur l r.2.1) => ⟨H.choose.1, H.choose.2.1, H.choose.2.2, H.choose_spec.1, H.choose_spec.2.1, H.choose_spec.2.2.1, H.choose_spec.2.2.2⟩) ?_
    have fin : ∀ (g : Nat → Option (List S43 × Int × Int)) (y : List S43) (st' : Int), y.length = x.length + 1 → (∀ r, Ev (fun k => spec_l3Chain.l0 k y st' (wrap64 (((d + 1 : Nat) : Int) - 1)) l q5 s5) r → Ev g r) → ∃ r : List S43 × Int × Int, Ev g r ∧ 0 < r.1.length ∧ r.1.length ≤ x.length + (d + 1) ∧ Cur l r.2.1 := by
      intro g y st' hy h
      obtain ⟨m, q, t, g1, g2, g3, g4⟩ := key y st' hy
      exact ⟨(m, q, t), h _ g1, g2, g3, g4⟩
    refine fin _ _ _ ?_ (fun r h => Ev.step (fun k => spec_l3Chain.l0.eq_2 ..) (ev_pos (by omega) (ev_pos (by rw [e0]; omega) (ev_pos (by rw [e0]; omega) (ev_bindo e1 (ev_bindo rfl (ev_bindo e2 (ev_bindo e3 (ev_bindo rfl (ev_bindo e4 (ev_bindo e5 (ev_pos (by simp; omega) h))))))))))))
    simp
theorem any_draw (l : List Int) (hl : l.length ≤ 140737488351232) (p s : Int) (hp : Cur l p) : ∃ m q t, Ev (fun k => spec_l3Any.f k l p s) (m, q, t) ∧ m.length ≤ 100 ∧ Cur l q := by
  obtain ⟨b0, q0, s0, e0, c0, c1, hq0⟩ := below_ok l hl p s hp 5 (by omega) (by omega)
  obtain ⟨m, q, t, h1, h2, h3, hq⟩ := chain_draw l hl b0.toNat ([(⟨0, (-1), 0, 0, 1000⟩ : S43)] : List S43) 0 q0 s0 (by simp) (by simp; omega) hq0
  rw [Int.toNat_of_nonneg c0] at h1
  have hc : Ev (fun k => spec_l3Chain.f k l p s) (m, q, t) := by
    unfold spec_l3Chain.f
    exact ev_bindo e0 h1
  have hm : m.length ≤ 100 := by simp only [List.length_singleton] at h3; omega
  obtain ⟨i, q1, s1, e1, i0, i1, hq1⟩ := below_ok l hl q t hq (m.length : Int) (by omega) (by omega)
  obtain ⟨c, q2, s2, e2, c2, c3, hq2⟩ := below_ok l hl q1 s1 hq1 16 (by omega) (by omega)
  refine (fun (H : ∃ r : List S43 × Int × Int, Ev (fun k => spec_l3Any.f k l p s) r ∧ r.1.length ≤ 100 ∧ Cur l r.2.1) => ⟨H.choose.1, H.choose.2.1, H.choose.2.2, H.choose_spec.1, H.choose_spec.2.1, H.choose_spec.2.2⟩) ?_
  have base : ∀ r, Ev (fun k => if c = 0 then ((spec_l1PickInt.f l q2 s2 (([0, 1, 3, 1000, 1001] : List Int))).bind fun b => (if 0 ≤ i then (if i < (m.length : Int) then (some ((m.set (i : Int).toNat (⟨(rd_T43 m i).f0, (rd_T43 m i).f1, (rd_T43 m i).f2, (rd_T43 m i).f3, b.1⟩ : S43)), b.2.1, b.2.2)) else (none)) else (none))) else (if c = 1 then ((spec_l1PickInt.f l q2 s2 (([(-1), 0, 999, 1000] : List Int))).bind fun b => (if 0 ≤ i then (if i < (m.length : Int) then (some ((m.set (i : Int).toNat (⟨(rd_T43 m i).f0, (rd_T43 m i).f1, (rd_T43 m i).f2, b.1, (rd_T43 m i).f4⟩ : S43)), b.2.1, b.2.2)) else (none)) else (none))) else (if c = 2 then ((spec_l1PickInt.f l q2 s2 (([(-2), 100, 99] : List Int))).bind fun b => (if 0 ≤ i then (if i < (m.length : Int) then (some ((m.set (i : Int).toNat (⟨(rd_T43 m i).f0, b.1, (rd_T43 m i).f2, (rd_T43 m i).f3, (rd_T43 m i).f4⟩ : S43)), b.2.1, b.2.2)) else (none)) else (none))) else (if c = 3 then (if 1 ≤ (m.length : Int) then (some ((m.drop (1 : Int).toNat), q2, s2)) else (none)) else (if c = 4 then ((spec_l1PickInt.f l q2 s2 (([0, 9, 10] : List Int))).bind fun b => (if 0 ≤ i then (if i < (m.length : Int) then (some ((m.set (i : Int).toNat (⟨b.1, (rd_T43 m i).f1, (rd_T43 m i).f2, (rd_T43 m i).f3, (rd_T43 m i).f4⟩ : S43)), b.2.1, b.2.2)) else (none)) else (none))) else (some (m, q2, s2))))))) r → Ev (fun k => spec_l3Any.f k l p s) r := by
    intro r h
    unfold spec_l3Any.f
    exact Ev.bind hc (ev_bindo e1 (ev_bindo e2 h))
  have set_len : ∀ z : S43, (m.set (i : Int).toNat z).length ≤ 100 := fun z => by rw [List.length_set]; exact hm
  by_cases h : c = 0
  · obtain ⟨b, q3, s3, e3, _, hq3⟩ := pick_ok l hl q2 s2 hq2 ([0, 1, 3, 1000, 1001] : List Int) (by decide) (by decide)
    exact ⟨_, base _ (ev_pos h (ev_bindo e3 (ev_pos i0 (ev_pos i1 (Ev.now _))))), set_len _, hq3⟩
  · by_cases g : c = 1
    · obtain ⟨b, q3, s3, e3, _, hq3⟩ := pick_ok l hl q2 s2 hq2 ([(-1), 0, 999, 1000] : List Int) (by decide) (by decide)
      exact ⟨_, base _ (ev_neg h (ev_pos g (ev_bindo e3 (ev_pos i0 (ev_pos i1 (Ev.now _)))))), set_len _, hq3⟩
    · by_cases g2 : c = 2
      · obtain ⟨b, q3, s3, e3, _, hq3⟩ := pick_ok l hl q2 s2 hq2 ([(-2), 100, 99] : List Int) (by decide) (by decide)
        exact ⟨_, base _ (ev_neg h (ev_neg g (ev_pos g2 (ev_bindo e3 (ev_pos i0 (ev_pos i1 (Ev.now _))))))), set_len _, hq3⟩
      · by_cases g3 : c = 3
        · exact ⟨_, base _ (ev_neg h (ev_neg g (ev_neg g2 (ev_pos g3 (ev_pos (by omega) (Ev.now _)))))), by show (m.drop _).length ≤ 100; rw [List.length_drop]; omega, hq2⟩
        · by_cases g4 : c = 4
          · obtain ⟨b, q3, s3, e3, _, hq3⟩ := pick_ok l hl q2 s2 hq2 ([0, 9, 10] : List Int) (by decide) (by decide)
            exact ⟨_, base _ (ev_neg h (ev_neg g (ev_neg g2 (ev_neg g3 (ev_pos g4 (ev_bindo e3 (ev_pos i0 (ev_pos i1 (Ev.now _))))))))), set_len _, hq3⟩
          · exact ⟨_, base _ (ev_neg h (ev_neg g (ev_neg g2 (ev_neg g3 (ev_neg g4 (Ev.now _)))))), hm, hq2⟩
/-- A right chain's versions go up. -/
theorem vc_up {l : List S43} (h : vc l = true) (d : Nat) : ∀ i : Nat, i + d + 1 < l.length → (l.getD i z43).f2 < (l.getD (i + d + 1) z43).f2 := by
  have one : ∀ j, j + 1 < l.length → (l.getD j z43).f2 < (l.getD (j + 1) z43).f2 := by
    intro j hj
    unfold vc at h
    simp only [Bool.and_eq_true, decide_eq_true_eq] at h
    have := (h.1 j (by omega)).2 hj
    unfold Ord at this
    omega
  induction d with
  | zero => intro i hi; exact one i hi
  | succ d ih =>
    intro i hi
    have h1 := ih i (by omega)
    have h2 := one (i + d + 1) (by omega)
    rw [show i + (d + 1) + 1 = i + d + 1 + 1 by omega]
    omega
theorem find_up {l : List S43} (h : vc l = true) (k : Nat) (hk : k < l.length) : impl_FindVersion.frm l (l.getD k z43).f2 0 = (k : Int) := by
  unfold impl_FindVersion.frm
  cases e : (List.range' 0 (l.length - 0)).find? (fun j => decide ((l.getD j z43).f2 = (l.getD k z43).f2)) with
  | none =>
    rw [List.find?_eq_none] at e
    exact absurd (decide_eq_true rfl) (e k (by simp [List.mem_range']; omega))
  | some j =>
    have h1 := List.find?_some e
    have h2 := List.mem_of_find?_eq_some e
    rw [decide_eq_true_eq] at h1
    have hj : j < l.length := by
      simp [List.mem_range'] at h2
      omega
    show (j : Int) = (k : Int)
    rcases Nat.lt_trichotomy j k with hlt | rfl | hlt
    · have := vc_up h (k - j - 1) j (by omega)
      rw [show j + (k - j - 1) + 1 = k by omega] at this
      omega
    · rfl
    · have := vc_up h (j - k - 1) k (by omega)
      rw [show k + (j - k - 1) + 1 = j by omega] at this
      omega
theorem lastIdx_spec (P : Nat → Prop) [DecidablePred P] (n : Nat) : (lastIdx P n = -1 ∨ ∃ k : Nat, lastIdx P n = (k : Int) ∧ k < n ∧ P k ∧ ∀ j, k < j → j < n → ¬ P j) := by
  induction n with
  | zero => exact .inl rfl
  | succ n ih =>
    by_cases h : P n
    · exact .inr ⟨n, by simp only [lastIdx]; rw [if_pos h], by omega, h, fun j h1 h2 => by omega⟩
    · have e : lastIdx P (n + 1) = lastIdx P n := by simp only [lastIdx]; rw [if_neg h]
      rcases ih with ih | ⟨k, h1, h2, h3, h4⟩
      · exact .inl (e.trans ih)
      · refine .inr ⟨k, e.trans h1, by omega, h3, fun j h5 h6 => ?_⟩
        by_cases hj : j = n
        · rw [hj]; exact h
        · exact h4 j h5 (by omega)
theorem ec_self (l : List S43) : ecOf l l = true := by
  unfold ecOf
  rw [if_pos rfl, Bool.and_true, decide_eq_true_eq]
  intro j _
  unfold nev
  simp
theorem implA2 (l : List S43) (hv : vc l = true) (h100 : l.length ≤ 100) (hS : (jn (l.map vsb) l.length).length ≤ 1048576) (d : Nat) : ∀ i : Nat, i + d = l.length →
    Ev (fun k => impl_ParseChain.l0 k (bs (jn (l.map vsb) l.length)) (l.take i) ((l.map vsb).map bs) (l.length : Int) (i : Int)) (l, true) := by
  have hne := chain_ne l hv
  induction d with
  | zero =>
    intro i hi
    obtain rfl : i = l.length := by omega
    rw [List.take_length]
    refine Ev.step (fun k => impl_ParseChain.l0.eq_2 ..) (ev_neg (by omega) ?_)
    rw [bs_list]
    refine ev_neg hne (ev_neg (by omega) (Ev.bind (impl_fch l (by omega)) ?_))
    rw [bs_list]
    exact ev_pos (by unfold fcb; rw [if_pos hv]) (Ev.now _)
  | succ d ih =>
    intro i hi
    have hil : i < l.length := by omega
    have hvi := vc_at hv i hil
    have hr := parse_any (vsb (l.getD i z43)) (by have := vsb_len hvi; omega)
    rw [parse_v _ hvi] at hr
    have next := ih (i + 1) (by omega)
    rw [take_snoc l i hil] at next
    refine Ev.step (fun k => impl_ParseChain.l0.eq_2 ..) (ev_pos (by omega) (ev_pos (by omega) (ev_pos (by simp; omega) ?_)))
    rw [rd_bs, map_get l i hil, up i (by omega)]
    exact ev_bindo hr (ev_pos (by simp; omega) next)
theorem parse_back (l : List S43) (h100 : l.length ≤ 100) : ∃ m, Ev (fun k => impl_ParseChain.f k (bs (fcb l))) (m, vc l) ∧ (vc l = true → m = l) := by
  by_cases hv : vc l = true
  · have hS : (jn (l.map vsb) l.length).length ≤ 1048576 := by
      have := jn_len (l.map vsb) 20 (fun j hj => by rw [map_get l j (by simpa using hj)]; exact vsb_len (vc_at hv j (by simpa using hj))) l.length (by simp)
      omega
    refine ⟨l, ?_, fun _ => rfl⟩
    unfold fcb impl_ParseChain.f
    rw [if_pos hv, hv, b32]
    refine ev_bindo (chain_split l hv hS) ?_
    rw [List.length_map, List.length_map]
    exact implA2 l hv h100 hS l.length 0 (by omega)
  · have hf : vc l = false := Bool.eq_false_iff.2 hv
    refine ⟨[], ?_, fun h => absurd h hv⟩
    unfold fcb impl_ParseChain.f
    rw [if_neg hv, hf, b32]
    have hsp := split_ws 32 [] [] (by simp) (by simp) (by simp [Go.Lib.joinTail])
    rw [show ([] : List UInt8) ++ Go.Lib.joinTail [32] [] = [] from rfl] at hsp
    refine ev_bindo hsp ?_
    exact implB [] (fun _ _ => rfl) [[]] (by simp) (by simp) 1 0 [] (by simp) (by simp)
theorem pmk_nil : pmkOf [] = (0, false) := by
  unfold pmkOf
  rw [if_neg (by simp), if_neg]
  rintro ⟨h, _, _⟩
  have := (pi_true [] h).1
  have h2 := itoa_chars (piOf ([] : List UInt8)).1
  unfold Go.Lib.itoa at this
  split at this
  · cases this
  · obtain ⟨b, r, e, _⟩ := dd_head (piOf ([] : List UInt8)).1.toNat
    rw [e] at this
    cases this
theorem fm_parts (l : List Int) (hl : l.length ≤ 140737488351232) : ∃ n, Ev (fun k => spec_DrawFormatMark.f k l) n := by
  obtain ⟨s0, hnew⟩ := new_ok l
  obtain ⟨b, q, t, e, _, _⟩ := pick_ok l hl 0 s0 (cur0 l) ([0, 1, 5, 12, 998, 999, 1000, 1001, (-1)] : List Int) (by decide) (by decide)
  refine ⟨b, ?_⟩
  unfold spec_DrawFormatMark.f spec_l2Int.f
  exact Ev.bind hnew (ev_bindo (by rw [e]; rfl) (Ev.now _))
theorem tail1 (l : List Int) (hl : l.length ≤ 140737488351232) (x : List S43) (hx : x.length ≤ 100) : Ev (fun k => laws_FnChains.j1 k l x false) true := by
  obtain ⟨m, hp, hm⟩ := parse_back x hx
  obtain ⟨n, hn⟩ := fm_parts l hl
  have hpm := impl_pmk (bs (fmOf n)) (by have := fm_len n; rw [bs_size]; omega)
  rw [bs_list] at hpm
  have hpm2 : (pmkOf (fmOf n)).2 = decide (0 ≤ n ∧ n ≤ 1000) ∧ ((pmkOf (fmOf n)).2 = true → (pmkOf (fmOf n)).1 = n) := by
    by_cases h : 0 ≤ n ∧ n ≤ 1000
    · rw [pmk_fm n h.1 h.2]
      exact ⟨(decide_eq_true h).symm, fun _ => rfl⟩
    · have : fmOf n = [] := by unfold fmOf; rw [if_neg h]
      rw [this, pmk_nil]
      exact ⟨(decide_eq_false h).symm, fun h => by cases h⟩
  have him : spec_IsMark.f n = some (decide (0 ≤ n ∧ n ≤ 1000)) := by
    unfold spec_IsMark.f
    rw [spec_in]
    rfl
  have last : Ev (fun _ => (spec_IsMark.f n).bind fun t => (if ((pmkOf (fmOf n)).2 == t) = true then (if (pmkOf (fmOf n)).2 = true then (some ((pmkOf (fmOf n)).1 == n)) else (some true)) else (some false))) true := by
    refine ev_bindo him (ev_pos (by rw [hpm2.1]; simp) (ev_ite (fun h => ev_eq (Ev.now _) ?_) (fun _ => Ev.now _)))
    rw [hpm2.2 h]
    simp
  refine Ev.step (fun k => laws_FnChains.j1.eq_2 ..) (ev_neg (by simp) (Ev.bind (impl_fch x (by omega)) (Ev.bind hp (Ev.bind hn (ev_bindo (impl_fm n) (ev_bindo hpm (Ev.bind (spec_vc x (by omega)) (ev_pos (by simp) (ev_ite (fun h => ?_) (fun h => last))))))))))
  have := hm h
  subst this
  have he := impl_ec m m (by omega)
  rw [ec_self] at he
  exact Ev.bind he (ev_pos rfl last)
theorem FnChains : laws_FnChains.Pure := by
  intro l _ hl _
  refine Ev.rounds (g := fun k => laws_FnChains.f k l) ?_
  refine ev_bindo rfl ?_
  refine ev_ite (fun _ => Ev.now _) (fun _ => ?_)
  obtain ⟨s0, hnew⟩ := new_ok l
  obtain ⟨x, q, t, h1, h2, hq⟩ := any_draw l (by omega) 0 s0 (cur0 l)
  obtain ⟨b, q2, t2, e2, b0, b1, hq2⟩ := below_ok l (by omega) q t hq 14 (by omega) (by omega)
  have hd : Ev (fun k => spec_DrawVersionAt.f k l) (x, wrap64 (b - 1)) := by
    unfold spec_DrawVersionAt.f
    exact Ev.bind hnew (Ev.bind h1 (ev_bindo e2 (Ev.now _)))
  rw [w64 (by omega) (by omega)] at hd
  have t1 := tail1 l (by omega) x h2
  have zero : Ev (fun k => laws_FnChains.j0 k l x (b - 1) (atOf x (b - 1)) false) true := by
    refine Ev.step (fun k => laws_FnChains.j0.eq_2 ..) (ev_neg (by simp) (ev_ite (fun h => ?_) (fun _ => t1)))
    unfold atOf at h ⊢
    by_cases hv : vc x = true
    · rw [if_pos hv] at h ⊢
      rcases lastIdx_spec (fun j => (x.getD j z43).f2 ≤ b - 1) x.length with h3 | ⟨k, h3, h4, h5, h6⟩
      · rw [h3] at h; omega
      · rw [h3] at h ⊢
        rw [rd_nat, up k (by omega)]
        refine ev_pos h (ev_pos (by omega) (ev_neg (by omega) ?_))
        have hf := find_up hv k h4
        have fin : Ev (fun n => ((impl_FindVersion.f x (x.getD k z43).f2).bind fun t => (laws_FnChains.j1 n l x (t != (k : Int))))) true := by
          refine ev_bindo rfl ?_
          rw [hf, bne_self_eq_false]
          exact t1
        refine ev_ite (fun h7 => ev_pos (by omega) ?_) (fun _ => fin)
        rw [rd_nat]
        exact ev_neg (h6 (k + 1) (by omega) (by omega)) fin
    · rw [if_neg hv] at h
      omega
  refine Ev.bind hd (Ev.bind (impl_at x (by omega) _) (Ev.bind (spec_at x (by omega) _) (ev_pos rfl (Ev.bind (impl_vc x (by omega)) (Ev.bind (spec_vc x (by omega)) (ev_neg (by simp) (Ev.bind (impl_latest x (by omega)) (Ev.bind (spec_latest x (by omega)) ?_)))))))) 
  refine Ev.congr (fun k => ?_) zero
  simp


end Go.Proofs.YtacdaekigoldaaaDoor.Pure
