/- the state at a stamp consists of the versions that are visible at it. -/
import Derived.Test.YtacdaekigoldaaaDoorPFnStoresx12
import Derived.Test.YtacdaekigoldaaaDoorMEv
namespace Go.Proofs.YtacdaekigoldaaaDoor.Pure
open Go Go.RowKit Go.Proofs.YtacdaekigoldaaaDoor.PFnStores Go.Proofs.YtacdaekigoldaaaDoorW.PrintWords Go.Proofs.YtacdaekigoldaaaDoorW.PrintLast Go.Proofs.YtacdaekigoldaaaDoorW.PrintMore Go.Proofs.YtacdaekigoldaaaDoorM
set_option linter.unusedVariables false
set_option linter.unusedSimpArgs false

theorem spec_in (a b c : Int) : spec_l1In.f a b c = some (decide (b ≤ a ∧ a ≤ c)) := by
  unfold spec_l1In.f
  by_cases h : b ≤ a <;> simp [h]
theorem impl_in_ (a b c : Int) : impl_in.f a b c = some (decide (b ≤ a ∧ a ≤ c)) := by
  unfold impl_in.f
  by_cases h : b ≤ a <;> simp [h]
/-- What a right version is. -/
def vv (a0 a1 a2 a3 a4 : Int) : Bool := decide ((-1 ≤ a1 ∧ a1 ≤ 99) ∧ (0 ≤ a2 ∧ a2 ≤ 999) ∧ (a2 ≤ a3 ∧ a3 ≤ 999) ∧ (1 ≤ a4 ∧ a4 ≤ 1000) ∧ (a2 = 0 → a0 = 0 ∧ a1 = -1) ∧ (a2 ≠ 0 → 1 ≤ a0 ∧ a0 ≤ 9))
theorem spec_vv (a0 a1 a2 a3 a4 : Int) : Ev (fun k => spec_IsValidVersion.f k a0 a1 a2 a3 a4) (vv a0 a1 a2 a3 a4) := by
  unfold spec_IsValidVersion.f
  simp only [spec_in, Option.bind_some]
  have hj : ∀ b : Bool, Ev (fun k => spec_IsValidVersion.j0 k b a0 a1 a2 a3 a4) (!b && decide ((a2 = 0 → a0 = 0 ∧ a1 = -1) ∧ (a2 ≠ 0 → 1 ≤ a0 ∧ a0 ≤ 9))) := by
    intro b
    refine Ev.step (fun k => spec_IsValidVersion.j0.eq_2 ..) ?_
    simp only [spec_in, Option.bind_some]
    repeat' refine ev_ite (fun h => ?_) (fun h => ?_)
    all_goals
      refine ev_eq (Ev.now _) ?_
      rw [Bool.eq_iff_iff]
      simp only [decide_eq_true_eq, beq_iff_eq, Bool.not_eq_true', Bool.and_eq_true, Bool.not_eq_true, Bool.false_eq_true, false_iff, true_iff] at *
      simp [*] <;> omega
  repeat' refine ev_ite (fun h => ?_) (fun h => ?_)
  all_goals
    refine ev_eq (hj _) ?_
    rw [Bool.eq_iff_iff]
    simp only [vv, decide_eq_true_eq, Bool.not_not, Bool.not_true, Bool.false_and, Bool.and_eq_true, Bool.false_eq_true, false_iff] at *
    omega
theorem impl_vv (a0 a1 a2 a3 a4 : Int) : Ev (fun k => impl_IsValidVersion.f k a0 a1 a2 a3 a4) (vv a0 a1 a2 a3 a4) := by
  unfold impl_IsValidVersion.f
  simp only [impl_isValue.f, impl_isID.f, impl_in_, Option.bind_some]
  have hj : ∀ b : Bool, Ev (fun k => impl_IsValidVersion.j0 k b a0 a1 a2 a3 a4) (!b && decide ((a2 = 0 → a0 = 0 ∧ a1 = -1) ∧ (a2 ≠ 0 → 1 ≤ a0 ∧ a0 ≤ 9))) := by
    intro b
    refine Ev.step (fun k => impl_IsValidVersion.j0.eq_2 ..) ?_
    simp only [impl_isValue.f, impl_isID.f, impl_in_, Option.bind_some]
    repeat' refine ev_ite (fun h => ?_) (fun h => ?_)
    all_goals
      refine ev_eq (Ev.now _) ?_
      rw [Bool.eq_iff_iff]
      simp only [decide_eq_true_eq, beq_iff_eq, Bool.not_eq_true', Bool.and_eq_true, Bool.not_eq_true, Bool.false_eq_true, false_iff, true_iff] at *
      simp [*] <;> omega
  repeat' refine ev_ite (fun h => ?_) (fun h => ?_)
  all_goals
    refine ev_eq (hj _) ?_
    rw [Bool.eq_iff_iff]
    simp only [vv, decide_eq_true_eq, Bool.not_not, Bool.not_true, Bool.false_and, Bool.and_eq_true, Bool.false_eq_true, false_iff] at *
    omega
theorem rd_L3_at (l : List (List S43)) (i : Nat) (h : i < l.length) : rd_L3 l (i : Int) = l[i] := by unfold rd_L3; exact get_eq l _ i h
/-- One version after another. -/
def Ord (u v : S43) : Prop := ¬ u.f2 ≥ v.f2 ∧ ¬ u.f4 > v.f2
instance (u v : S43) : Decidable (Ord u v) := by unfold Ord; exact inferInstance
def vvS (v : S43) : Bool := vv v.f0 v.f1 v.f2 v.f3 v.f4
def lastOk (l : List S43) : Bool := decide (0 < l.length) && (l.getD (l.length - 1) z43).f4 == 1000
/-- What a right chain is. -/
def vc (l : List S43) : Bool := decide (∀ j, j < l.length → vvS (l.getD j z43) = true ∧ (j + 1 < l.length → Ord (l.getD j z43) (l.getD (j + 1) z43))) && lastOk l
theorem rd_nat (l : List S43) (i : Nat) : rd_T43 l (i : Int) = l.getD i z43 := by unfold rd_T43; rw [Int.toNat_natCast]
theorem last_ev (l : List S43) (hl : l.length ≤ 9223372036854775806) : Ev (fun _ => if (l.length : Int) > 0 then (if 0 ≤ (wrap64 ((l.length : Int) - 1)) then (if (wrap64 ((l.length : Int) - 1)) < (l.length : Int) then (some (((rd_T43 l (wrap64 ((l.length : Int) - 1))).f4) == 1000)) else (none)) else (none)) else (some false)) (lastOk l) := by
  by_cases h : 0 < l.length
  · have e : wrap64 ((l.length : Int) - 1) = ((l.length - 1 : Nat) : Int) := by rw [w64 (by omega) (by omega)]; omega
    rw [e]
    refine ev_pos (by omega) (ev_pos (by omega) (ev_pos (by omega) ?_))
    rw [rd_nat]
    refine ev_eq (Ev.now _) ?_
    unfold lastOk
    rw [decide_eq_true h, Bool.true_and]
  · refine ev_neg (by omega) ?_
    refine ev_eq (Ev.now _) ?_
    unfold lastOk
    rw [decide_eq_false h, Bool.false_and]
theorem spec_vc (l : List S43) (hl : l.length ≤ 9223372036854775806) : Ev (fun k => spec_IsValidChain.f k l) (vc l) := by
  unfold spec_IsValidChain.f vc
  refine all_loop0 (g := fun k i => spec_IsValidChain.l0 k l i) l.length (fun j => vvS (l.getD j z43) = true ∧ (j + 1 < l.length → Ord (l.getD j z43) (l.getD (j + 1) z43))) ?_ ?_ ?_
  · exact Ev.step (fun k => spec_IsValidChain.l0.eq_2 ..) (ev_neg (by omega) (last_ev l hl))
  · intro i hi hp r hr
    refine Ev.step (fun k => spec_IsValidChain.l0.eq_2 ..) (ev_pos (by omega) (ev_pos (by omega) ?_))
    rw [rd_nat, up i (by omega), rd_nat]
    refine Ev.bind (spec_vv _ _ _ _ _) (ev_pos hp.1 (ev_ite (fun h => ?_) (fun _ => hr)))
    have ho := hp.2 (by omega)
    exact ev_pos (by omega) (ev_neg ho.1 (ev_neg ho.2 hr))
  · intro i hi hp
    refine Ev.step (fun k => spec_IsValidChain.l0.eq_2 ..) (ev_pos (by omega) (ev_pos (by omega) ?_))
    rw [rd_nat, up i (by omega), rd_nat]
    refine Ev.bind (spec_vv _ _ _ _ _) (ev_ite (fun h1 => ev_ite (fun h2 => ev_pos (by omega) (ev_ite (fun h3 => Ev.now _) (fun h3 => ev_ite (fun h4 => Ev.now _) (fun h4 => ?_)))) (fun h2 => ?_)) (fun _ => Ev.now _))
    · exact absurd ⟨h1, fun _ => ⟨h3, h4⟩⟩ hp
    · exact absurd ⟨h1, fun h => absurd h (by omega)⟩ hp
theorem impl_vc (l : List S43) (hl : l.length ≤ 9223372036854775806) : Ev (fun k => impl_IsValidChain.f k l) (vc l) := by
  have hv : vc l = (decide (∀ j, j < l.length → vvS (l.getD j z43) = true ∧ (0 < j → Ord (l.getD (j - 1) z43) (l.getD j z43))) && lastOk l) := by
    unfold vc
    congr 1
    rw [decide_eq_decide]
    constructor
    · intro h j hj
      refine ⟨(h j hj).1, fun h0 => ?_⟩
      have := (h (j - 1) (by omega)).2 (by omega)
      rwa [show j - 1 + 1 = j by omega] at this
    · intro h j hj
      refine ⟨(h j hj).1, fun h0 => ?_⟩
      have := (h (j + 1) h0).2 (by omega)
      rwa [show j + 1 - 1 = j by omega] at this
  rw [hv]
  unfold impl_IsValidChain.f
  refine all_loop0 (g := fun k i => impl_IsValidChain.l0 k l l (l.length : Int) i) l.length (fun j => vvS (l.getD j z43) = true ∧ (0 < j → Ord (l.getD (j - 1) z43) (l.getD j z43))) ?_ ?_ ?_
  · exact Ev.step (fun k => impl_IsValidChain.l0.eq_2 ..) (ev_neg (by omega) (last_ev l hl))
  · intro i hi hp r hr
    refine Ev.step (fun k => impl_IsValidChain.l0.eq_2 ..) (ev_pos (by omega) (ev_pos (by omega) (ev_pos (by omega) ?_)))
    rw [rd_nat, up i (by omega)]
    refine Ev.bind (impl_vv _ _ _ _ _) (ev_pos hp.1 (ev_ite (fun h => ?_) (fun _ => hr)))
    have e : wrap64 ((i : Int) - 1) = ((i - 1 : Nat) : Int) := by rw [w64 (by omega) (by omega)]; omega
    rw [e, rd_nat]
    have ho := hp.2 (by omega)
    exact ev_pos (by omega) (ev_pos (by omega) (ev_neg ho.1 (ev_neg ho.2 hr)))
  · intro i hi hp
    refine Ev.step (fun k => impl_IsValidChain.l0.eq_2 ..) (ev_pos (by omega) (ev_pos (by omega) (ev_pos (by omega) ?_)))
    rw [rd_nat, up i (by omega)]
    refine Ev.bind (impl_vv _ _ _ _ _) (ev_ite (fun h1 => ev_ite (fun h2 => ?_) (fun h2 => ?_)) (fun _ => Ev.now _))
    · have e : wrap64 ((i : Int) - 1) = ((i - 1 : Nat) : Int) := by rw [w64 (by omega) (by omega)]; omega
      rw [e, rd_nat]
      exact ev_pos (by omega) (ev_pos (by omega) (ev_ite (fun h3 => Ev.now _) (fun h3 => ev_ite (fun h4 => Ev.now _) (fun h4 => absurd ⟨h1, fun _ => ⟨h3, h4⟩⟩ hp))))
    · exact absurd ⟨h1, fun h => absurd h (by omega)⟩ hp
theorem vc_pos {l : List S43} (h : vc l = true) : 0 < l.length := by
  unfold vc lastOk at h
  simp only [Bool.and_eq_true, decide_eq_true_eq] at h
  exact h.2.1
def chainOk (l : List S43) : Bool := vc l && decide (l.length ≤ 50)
/-- What a right store is. -/
def vs (l : List (List S43)) : Bool := decide (l.length = 6) && l.all chainOk
theorem all_get {α : Type} (l : List α) (p : α → Bool) : l.all p = decide (∀ j (h : j < l.length), p l[j] = true) := by
  rw [Bool.eq_iff_iff, List.all_eq_true, decide_eq_true_eq]
  constructor
  · intro h j hj
    exact h _ (List.getElem_mem hj)
  · intro h x hx
    obtain ⟨j, hj, rfl⟩ := List.mem_iff_getElem.1 hx
    exact h j hj
theorem spec_vs (l : List (List S43)) (hl : l.length ≤ 9223372036854775806) (hin : ∀ x ∈ l, x.length ≤ 9223372036854775806) : Ev (fun k => spec_IsValidStore.f k l) (vs l) := by
  have e : vs l = (decide (∀ j, j < l.length → chainOk (l.getD j []) = true) && ((l.length : Int) == 6)) := by
    unfold vs
    rw [all_get, Bool.and_comm]
    congr 1
    · rw [decide_eq_decide]
      constructor
      · intro h j hj
        rw [List.getD_eq_getElem?_getD, List.getElem?_eq_getElem hj]
        exact h j hj
      · intro h j hj
        have := h j hj
        rwa [List.getD_eq_getElem?_getD, List.getElem?_eq_getElem hj] at this
    · rw [Bool.eq_iff_iff, decide_eq_true_eq, beq_iff_eq]
      omega
  rw [e]
  unfold spec_IsValidStore.f
  have hr : ∀ i, i < l.length → rd_L3 l (i : Int) = l.getD i [] := by intro i hi; unfold rd_L3; rw [Int.toNat_natCast]
  have hi' : ∀ i, i < l.length → (l.getD i []).length ≤ 9223372036854775806 := by
    intro i hi
    rw [List.getD_eq_getElem?_getD, List.getElem?_eq_getElem hi]
    exact hin _ (List.getElem_mem hi)
  refine all_loop0 (g := fun k i => spec_IsValidStore.l0 k i l) l.length _ ?_ ?_ ?_
  · exact Ev.step (fun k => spec_IsValidStore.l0.eq_2 ..) (ev_neg (by omega) (Ev.now _))
  · intro i hi hp r h
    unfold chainOk at hp
    simp only [Bool.and_eq_true, decide_eq_true_eq] at hp
    have h0 := vc_pos hp.1
    refine Ev.step (fun k => spec_IsValidStore.l0.eq_2 ..) (ev_pos (by omega) (ev_pos (by omega) ?_))
    rw [hr i hi, up i (by omega)]
    exact Ev.bind (spec_vc _ (hi' i hi)) (ev_pos hp.1 (ev_pos (by omega) (ev_ite (fun _ => ev_neg (by omega) h) (fun _ => ev_neg (by omega) h))))
  · intro i hi hp
    unfold chainOk at hp
    simp only [Bool.and_eq_true, decide_eq_true_eq] at hp
    refine Ev.step (fun k => spec_IsValidStore.l0.eq_2 ..) (ev_pos (by omega) (ev_pos (by omega) ?_))
    rw [hr i hi, up i (by omega)]
    refine Ev.bind (spec_vc _ (hi' i hi)) (ev_ite (fun h => ?_) (fun _ => Ev.now _))
    have h0 := vc_pos h
    have h1 : ¬ (l.getD i []).length ≤ 50 := fun h2 => hp ⟨h, h2⟩
    exact ev_pos (by omega) (ev_ite (fun _ => ev_pos (by omega) (Ev.now _)) (fun _ => ev_pos (by omega) (Ev.now _)))
theorem impl_chainOk (l : List S43) (hl : l.length ≤ 9223372036854775806) : Ev (fun k => impl_IsValidStore_1.f k l) (!chainOk l) := by
  unfold impl_IsValidStore_1.f chainOk
  refine Ev.bind (impl_vc l hl) (ev_ite (fun h => ?_) (fun h => ?_))
  · rw [h]
    refine ev_eq (Ev.now _) ?_
    rw [Bool.eq_iff_iff]
    simp
    omega
  · rw [Bool.not_eq_true] at h
    rw [h]
    exact Ev.now _
theorem impl_any (l : List (List S43)) (hin : ∀ x ∈ l, x.length ≤ 9223372036854775806) : Ev (fun k => impl_IsValidStore.any k l) (!l.all chainOk) := by
  induction l with
  | nil => exact Ev.now _
  | cons x l ih =>
    refine Ev.congr (fun k => impl_IsValidStore.any.eq_2 ..) ?_
    refine Ev.bind (impl_chainOk x (hin x (by simp))) (ev_ite (fun h => ?_) (fun h => ?_))
    · refine ev_eq (Ev.now _) ?_
      simp at h
      simp [h]
    · refine ev_eq (ih (fun y hy => hin y (by simp [hy]))) ?_
      simp at h
      simp [h]
theorem impl_vs (l : List (List S43)) (hin : ∀ x ∈ l, x.length ≤ 9223372036854775806) : Ev (fun k => impl_IsValidStore.f k l) (vs l) := by
  unfold impl_IsValidStore.f vs
  refine ev_ite (fun h => ?_) (fun h => ?_)
  · refine Ev.bind (impl_any l hin) (ev_eq (Ev.now _) ?_)
    simp [h]
  · refine ev_eq (Ev.now _) ?_
    simp [h]
theorem vs_len {l : List (List S43)} (h : vs l = true) : l.length = 6 := by
  unfold vs at h
  simp only [Bool.and_eq_true, decide_eq_true_eq] at h
  exact h.1
theorem vs_chain {l : List (List S43)} (h : vs l = true) (i : Nat) (hi : i < l.length) : vc l[i] = true ∧ l[i].length ≤ 50 := by
  unfold vs at h
  simp only [Bool.and_eq_true] at h
  have := List.all_eq_true.1 h.2 _ (List.getElem_mem hi)
  unfold chainOk at this
  simpa only [Bool.and_eq_true, decide_eq_true_eq] using this
theorem vc_at {l : List S43} (h : vc l = true) (j : Nat) (hj : j < l.length) : vvS (l.getD j z43) = true := by
  unfold vc at h
  simp only [Bool.and_eq_true, decide_eq_true_eq] at h
  exact (h.1 j hj).1
theorem vvS_use {v : S43} (h : vvS v = true) : (-1 ≤ v.f1 ∧ v.f1 ≤ 99) ∧ (0 ≤ v.f2 ∧ v.f2 ≤ 999) ∧ (v.f2 ≤ v.f3 ∧ v.f3 ≤ 999) ∧ (1 ≤ v.f4 ∧ v.f4 ≤ 1000) := by
  unfold vvS vv at h
  rw [decide_eq_true_eq] at h
  omega
/-- The index of a chain's last version that was made by a stamp. -/
def atOf (l : List S43) (s : Int) : Int := if vc l = true then lastIdx (fun j => (l.getD j z43).f2 ≤ s) l.length else -1
theorem spec_at (l : List S43) (hl : l.length ≤ 9223372036854775806) (s : Int) : Ev (fun k => spec_VersionAt.f k l s) (atOf l s) := by
  unfold spec_VersionAt.f atOf
  by_cases h : vc l = true
  · rw [if_pos h]
    have : ∀ d i, i + d = l.length → Ev (fun k => spec_VersionAt.l0 k l s (lastIdx (fun j => (l.getD j z43).f2 ≤ s) i) (i : Int)) (lastIdx (fun j => (l.getD j z43).f2 ≤ s) l.length) := by
      intro d
      induction d with
      | zero =>
        intro i hi
        obtain rfl : i = l.length := by omega
        exact Ev.step (fun k => spec_VersionAt.l0.eq_2 ..) (ev_neg (by omega) (Ev.step (fun k => spec_VersionAt.j1.eq_2 ..) (ev_neg (by simp) (Ev.now _))))
      | succ d ih =>
        intro i hi
        refine Ev.step (fun k => spec_VersionAt.l0.eq_2 ..) (ev_pos (by omega) (Ev.bind (spec_vc l hl) (Ev.step (fun k => spec_VersionAt.j1.eq_2 ..) (ev_pos h (ev_pos (by omega) (ev_pos (by omega) ?_))))))
        rw [rd_nat, up i (by omega)]
        have := ih (i + 1) (by omega)
        simp only [lastIdx] at this
        by_cases hp : (l.getD i z43).f2 ≤ s
        · rw [if_pos hp] at this
          exact ev_pos hp this
        · rw [if_neg hp] at this
          exact ev_neg hp this
    exact this l.length 0 (by omega)
  · rw [if_neg h]
    by_cases h0 : 0 < l.length
    · exact Ev.step (fun k => spec_VersionAt.l0.eq_2 ..) (ev_pos (by omega) (Ev.bind (spec_vc l hl) (Ev.step (fun k => spec_VersionAt.j1.eq_2 ..) (ev_neg h (Ev.now _)))))
    · exact Ev.step (fun k => spec_VersionAt.l0.eq_2 ..) (ev_neg (by omega) (Ev.step (fun k => spec_VersionAt.j1.eq_2 ..) (ev_neg (by simp) (Ev.now _))))
theorem impl_at0 (l : List S43) (hl : l.length ≤ 9223372036854775806) (s : Int) : Ev (fun k => impl_versionAt.f k l s) (lastIdx (fun j => (l.getD j z43).f2 ≤ s) l.length) := by
  unfold impl_versionAt.f
  have : ∀ m : Nat, m ≤ l.length → Ev (fun k => impl_versionAt.l0 k l s ((m : Int) - 1)) (lastIdx (fun j => (l.getD j z43).f2 ≤ s) m) := by
    intro m
    induction m with
    | zero => intro _; exact Ev.step (fun k => impl_versionAt.l0.eq_2 ..) (ev_neg (by omega) (Ev.now _))
    | succ m ih =>
      intro hm
      rw [show ((m + 1 : Nat) : Int) - 1 = (m : Int) by omega]
      refine Ev.step (fun k => impl_versionAt.l0.eq_2 ..) (ev_pos (by omega) (ev_pos (by omega) (ev_pos (by omega) ?_)))
      rw [rd_nat, w64 (n := (m : Int) - 1) (by omega) (by omega)]
      simp only [lastIdx]
      by_cases hp : (l.getD m z43).f2 ≤ s
      · rw [if_pos hp]
        exact ev_neg (by omega) (Ev.now _)
      · rw [if_neg hp]
        exact ev_pos (by omega) (ih (by omega))
  rw [w64 (by omega) (by omega)]
  exact this l.length (Nat.le_refl _)
theorem ReadAt_both (l : List (List S43)) (hl : l.length ≤ 9223372036854775806) (hin : ∀ x ∈ l, x.length ≤ 9223372036854775806) (key s : Int) :
    ∃ r, Ev (fun k => spec_ReadAt.f k l key s) r ∧ Ev (fun k => impl_ReadAt.f k l key s) r ∧ (vs l = true ∧ 0 ≤ key ∧ key ≤ 5 → 0 ≤ key ∧ r.2.2.2.2.2 = decide (0 ≤ atOf (rd_L3 l key) s) ∧ (0 ≤ atOf (rd_L3 l key) s → r = ((rd_T43 (rd_L3 l key) (atOf (rd_L3 l key) s)).f0, (rd_T43 (rd_L3 l key) (atOf (rd_L3 l key) s)).f1, (rd_T43 (rd_L3 l key) (atOf (rd_L3 l key) s)).f2, (rd_T43 (rd_L3 l key) (atOf (rd_L3 l key) s)).f3, (rd_T43 (rd_L3 l key) (atOf (rd_L3 l key) s)).f4, true))) ∧ (¬ (vs l = true ∧ 0 ≤ key ∧ key ≤ 5) → r.2.2.2.2.2 = false) := by
  unfold spec_ReadAt.f impl_ReadAt.f impl_isKey.f
  simp only [spec_in, impl_in_, Option.bind_some]
  by_cases hv : vs l = true
  · by_cases hk : 0 ≤ key ∧ key ≤ 5
    · have h6 := vs_len hv
      obtain ⟨i, rfl⟩ : ∃ i : Nat, key = (i : Int) := ⟨key.toNat, by omega⟩
      have hi : i < l.length := by omega
      obtain ⟨hc, h50⟩ := vs_chain hv i hi
      have hr := rd_L3_at l i hi
      rw [hr]
      have e : atOf l[i] s = lastIdx (fun j => (l[i].getD j z43).f2 ≤ s) l[i].length := by unfold atOf; rw [if_pos hc]
      have hb := lastIdx_bd (fun j => (l[i].getD j z43).f2 ≤ s) l[i].length
      rw [← e] at hb
      have g1 := spec_at l[i] (by omega) s
      have g2 := impl_at0 l[i] (by omega) s
      rw [← e] at g2
      by_cases hneg : atOf l[i] s < 0
      · refine ⟨(0, 0, 0, 0, 0, false), ?_, ?_, fun _ => ⟨by omega, by rw [decide_eq_false (by omega)], fun h => absurd h (by omega)⟩, fun _ => rfl⟩
        · refine Ev.bind (spec_vs l hl hin) (ev_pos hv (Ev.step (fun k => spec_ReadAt.j0.eq_2 ..) (ev_neg (by simp; omega) (ev_pos (by omega) (ev_pos (by omega) ?_)))))
          rw [hr]
          exact Ev.bind g1 (ev_pos hneg (Ev.now _))
        · refine Ev.bind (impl_vs l hin) (ev_pos hv (Ev.step (fun k => impl_ReadAt.j0.eq_2 ..) (ev_neg (by simp; omega) (ev_pos (by omega) (ev_pos (by omega) ?_)))))
          rw [hr]
          exact Ev.bind g2 (ev_pos hneg (Ev.now _))
      · refine ⟨_, ?_, ?_, fun _ => ⟨by omega, by rw [decide_eq_true (by omega)], fun _ => rfl⟩, fun h => absurd ⟨hv, hk⟩ h⟩
        · refine Ev.bind (spec_vs l hl hin) (ev_pos hv (Ev.step (fun k => spec_ReadAt.j0.eq_2 ..) (ev_neg (by simp; omega) (ev_pos (by omega) (ev_pos (by omega) ?_)))))
          rw [hr]
          exact Ev.bind g1 (ev_neg hneg (ev_pos (by omega) (ev_pos (by omega) (Ev.now _))))
        · refine Ev.bind (impl_vs l hin) (ev_pos hv (Ev.step (fun k => impl_ReadAt.j0.eq_2 ..) (ev_neg (by simp; omega) (ev_pos (by omega) (ev_pos (by omega) ?_)))))
          rw [hr]
          exact Ev.bind g2 (ev_neg hneg (ev_pos (by omega) (ev_pos (by omega) (Ev.now _))))
    · refine ⟨(0, 0, 0, 0, 0, false), ?_, ?_, fun h => absurd h.2 hk, fun _ => rfl⟩
      · exact Ev.bind (spec_vs l hl hin) (ev_pos hv (Ev.step (fun k => spec_ReadAt.j0.eq_2 ..) (ev_pos (by simp; omega) (Ev.now _))))
      · exact Ev.bind (impl_vs l hin) (ev_pos hv (Ev.step (fun k => impl_ReadAt.j0.eq_2 ..) (ev_pos (by simp; omega) (Ev.now _))))
  · refine ⟨(0, 0, 0, 0, 0, false), ?_, ?_, fun h => absurd h.1 hv, fun _ => rfl⟩
    · exact Ev.bind (spec_vs l hl hin) (ev_neg hv (Ev.step (fun k => spec_ReadAt.j0.eq_2 ..) (ev_pos rfl (Ev.now _))))
    · exact Ev.bind (impl_vs l hin) (ev_neg hv (Ev.step (fun k => impl_ReadAt.j0.eq_2 ..) (ev_pos rfl (Ev.now _))))
/-- A string of these bytes. -/
def bs (l : List UInt8) : ByteArray := ⟨l.toArray⟩
theorem bs_append (a b : List UInt8) : bs a ++ bs b = bs (a ++ b) := by
  apply ByteArray.ext
  simp [bs]
theorem bs_size (a : List UInt8) : (bs a).size = a.length := by simp [bs, ByteArray.size]
/-- The digits of a number, none of nought. -/
def dd (u : Nat) : List UInt8 := if u = 0 then [] else Go.Lib.decDigits u
theorem dd_step (u : Nat) (h : u ≠ 0) : dd u = dd (u / 10) ++ [UInt8.ofNat (48 + u % 10)] := by
  unfold dd
  rw [if_neg h]
  by_cases h10 : u < 10
  · rw [Go.Lib.decDigits_one h10, if_pos (by omega), Nat.mod_eq_of_lt h10]
    rfl
  · rw [if_neg (by omega)]
    conv => lhs; rw [Go.Lib.decDigits, dif_neg h10]
theorem tmod_abs (n : Int) : (n < 0 → n.tmod 10 = -((n.natAbs % 10 : Nat) : Int)) ∧ (0 ≤ n → n.tmod 10 = ((n.natAbs % 10 : Nat) : Int)) ∧ (n < 0 → n.tdiv 10 = -((n.natAbs / 10 : Nat) : Int)) ∧ (0 ≤ n → n.tdiv 10 = ((n.natAbs / 10 : Nat) : Int)) := by
  have p : ∀ u : Nat, ((u : Int)).tmod 10 = ((u % 10 : Nat) : Int) ∧ ((u : Int)).tdiv 10 = ((u / 10 : Nat) : Int) := fun u => ⟨rfl, rfl⟩
  refine ⟨fun h => ?_, fun h => ?_, fun h => ?_, fun h => ?_⟩
  · have e : n = -(n.natAbs : Int) := by omega
    rw [e, Int.neg_tmod, (p _).1, Int.natAbs_neg, Int.natAbs_natCast]
  · have e : n = (n.natAbs : Int) := by omega
    rw [e, (p _).1, Int.natAbs_natCast]
  · have e : n = -(n.natAbs : Int) := by omega
    rw [e, Int.neg_tdiv, (p _).2, Int.natAbs_neg, Int.natAbs_natCast]
  · have e : n = (n.natAbs : Int) := by omega
    rw [e, (p _).2, Int.natAbs_natCast]
theorem fi_loop (neg : Bool) (m : Nat) : ∀ (n : Int), -9223372036854775808 ≤ n → n ≤ 9223372036854775807 → n.natAbs < 10 ^ m → ∀ l : List UInt8, l.length + m ≤ 30 →
    Ev (fun k => spec_FormatInt.l0 k n (bs l) neg) (bs ((if neg = true then [45] else []) ++ dd n.natAbs ++ l)) := by
  have zero : ∀ l : List UInt8, l.length ≤ 30 → Ev (fun k => spec_FormatInt.l0 k 0 (bs l) neg) (bs ((if neg = true then [45] else []) ++ dd 0 ++ l)) := by
    intro l hl
    refine Ev.step (fun k => spec_FormatInt.l0.eq_2 ..) (ev_pos rfl (ev_ite (fun h => ?_) (fun h => ?_)))
    · rw [if_pos h]
      refine ev_pos (by rw [bs_size]; omega) (ev_eq (Ev.now _) ?_)
      exact bs_append [45] l
    · rw [if_neg h]
      exact Ev.now _
  induction m with
  | zero =>
    intro n h0 h1 hm l hl
    obtain rfl : n = 0 := by omega
    exact zero l (by omega)
  | succ m ih =>
    intro n h0 h1 hm l hl
    by_cases hn : n = 0
    · subst hn
      exact zero l (by omega)
    · obtain ⟨t1, t2, t3, t4⟩ := tmod_abs n
      have ha : n.natAbs ≠ 0 := by omega
      have hd : (n.tdiv 10).natAbs = n.natAbs / 10 := by
        by_cases h : n < 0
        · rw [t3 h]; omega
        · rw [t4 (by omega)]; omega
      have hlt : n.natAbs / 10 < 10 ^ m := by
        rw [Nat.pow_succ] at hm
        omega
      have hw : wrap64 (n.tdiv 10) = n.tdiv 10 := w64 (by omega) (by omega)
      have hx := ih (n.tdiv 10) (by omega) (by omega) (by rw [hd]; exact hlt) (UInt8.ofNat (48 + n.natAbs % 10) :: l) (by simp; omega)
      rw [hd] at hx
      have er : bs ((if neg = true then [45] else []) ++ dd (n.natAbs / 10) ++ (UInt8.ofNat (48 + n.natAbs % 10) :: l)) = bs ((if neg = true then [45] else []) ++ dd n.natAbs ++ l) := by
        rw [dd_step n.natAbs ha]
        simp
      have hx := ev_eq hx er
      have es : ∀ c : Int, c = ((48 + n.natAbs % 10 : Nat) : Int) → strOfNums [c] ++ bs l = bs (UInt8.ofNat (48 + n.natAbs % 10) :: l) := by
        intro c hc
        subst hc
        exact bs_append [UInt8.ofNat (48 + n.natAbs % 10)] l
      refine Ev.step (fun k => spec_FormatInt.l0.eq_2 ..) (ev_neg hn (ev_ite (fun h => ?_) (fun h => ?_)))
      · have hneg : n < 0 := by
          by_cases h' : n < 0
          · exact h'
          · rw [t2 (by omega)] at h; omega
        have ec : (wrap64 (48 + wrap64 (-(n.tmod 10)))) % 256 = ((48 + n.natAbs % 10 : Nat) : Int) := by
          rw [t1 hneg, w64 (n := - -((n.natAbs % 10 : Nat) : Int)) (by omega) (by omega), w64 (by omega) (by omega)]
          omega
        refine ev_bindo rfl (ev_pos (by rw [strOfNums_size, bs_size]; simp; omega) ?_)
        rw [es _ ec, hw]
        exact hx
      · have hpos : n.tmod 10 = ((n.natAbs % 10 : Nat) : Int) := by
          by_cases h' : 0 ≤ n
          · exact t2 h'
          · have h10 := t1 (by omega)
            rw [h10] at h ⊢
            omega
        have ec : (wrap64 (48 + (n.tmod 10))) % 256 = ((48 + n.natAbs % 10 : Nat) : Int) := by
          rw [hpos, w64 (by omega) (by omega)]
          omega
        refine ev_bindo rfl (ev_pos (by rw [strOfNums_size, bs_size]; simp; omega) ?_)
        rw [es _ ec, hw]
        exact hx
theorem spec_fi (n : Int) (h0 : -9223372036854775808 ≤ n) (h1 : n ≤ 9223372036854775807) : Ev (fun k => spec_FormatInt.f k n) (bs (Go.Lib.itoa n)) := by
  unfold spec_FormatInt.f
  by_cases hn : n = 0
  · subst hn
    refine ev_pos rfl (ev_eq (Ev.now _) ?_)
    have : Go.Lib.itoa 0 = [48] := by
      unfold Go.Lib.itoa
      rw [if_neg (by omega)]
      exact Go.Lib.decDigits_one (by decide)
    rw [this]
    rfl
  · refine ev_neg hn (ev_eq (fi_loop (decide (n < 0)) 19 n h0 h1 (by omega) [] (by simp)) ?_)
    unfold Go.Lib.itoa dd
    rw [if_neg (show ¬ n.natAbs = 0 by omega)]
    by_cases h : n < 0
    · rw [if_pos (decide_eq_true h), if_pos h]
      simp
    · rw [if_neg (by simpa using h), if_neg h, show n.natAbs = n.toNat by omega]
      simp
theorem impl_fi (n : Int) (h0 : -9223372036854775808 ≤ n) (h1 : n ≤ 9223372036854775807) : strconv_Itoa.f n = some (bs (Go.Lib.itoa n)) := by
  unfold strconv_Itoa.f
  rw [if_pos ⟨h0, h1⟩]
  rfl
/-- What a value is written as. -/
def vb (n : Int) : List UInt8 := if n = -1 then [45] else Go.Lib.itoa n
theorem itoa_len (n : Int) (h0 : 0 ≤ n) (h1 : n ≤ 99) : (Go.Lib.itoa n).length ≤ 2 := by
  unfold Go.Lib.itoa
  rw [if_neg (by omega)]
  by_cases h : n.toNat < 10
  · rw [Go.Lib.decDigits_one h]
    simp
  · rw [Go.Lib.decDigits_two h (by omega)]
    simp
theorem vb_len (n : Int) (h0 : -1 ≤ n) (h1 : n ≤ 99) : (vb n).length ≤ 2 := by
  unfold vb
  split
  · simp
  · exact itoa_len n (by omega) h1
theorem impl_fi' (n : Int) (h0 : -9223372036854775808 ≤ n) (h1 : n ≤ 9223372036854775807) : impl_FormatInt.f n = some (bs (Go.Lib.itoa n)) := by
  unfold impl_FormatInt.f
  rw [impl_fi n h0 h1]
  rfl
theorem spec_val (n : Int) (h0 : -1 ≤ n) (h1 : n ≤ 99) : Ev (fun k => spec_l3Value.f k n) (bs (vb n)) := by
  unfold spec_l3Value.f vb
  by_cases h : n = -1
  · rw [if_pos h]
    exact ev_pos h (Ev.now _)
  · rw [if_neg h]
    exact ev_neg h (Ev.bind (spec_fi n (by omega) (by omega)) (Ev.now _))
theorem impl_val (n : Int) (h0 : -1 ≤ n) (h1 : n ≤ 99) : impl_formatValue.f n = some (bs (vb n)) := by
  unfold impl_formatValue.f vb
  by_cases h : n = -1
  · rw [if_pos h, if_pos h]
    rfl
  · rw [if_neg h, if_neg h, impl_fi' n (by omega) (by omega)]
    rfl
theorem join_snoc (xs : List (List UInt8)) (x sep : List UInt8) (h : xs ≠ []) : Go.Lib.join (xs ++ [x]) sep = Go.Lib.join xs sep ++ sep ++ x := by
  cases xs with
  | nil => exact absurd rfl h
  | cons y r =>
    rw [List.cons_append, Go.Lib.join_cons, Go.Lib.join_cons]
    simp [Go.Lib.joinTail]
theorem last_both (l : List (List S43)) (hv : vs l = true) (hin : ∀ x ∈ l, x.length ≤ 9223372036854775806) :
    ∃ r, Ev (fun k => spec_LastStamp.l0 k 0 0 l) r ∧ Ev (fun k => impl_Store_lastStamp.l0 k 0 l (l.length : Int) 0) r := by
  have h6 := vs_len hv
  have hin' := hin
  have h : ∀ d (i : Nat) (m : Int), i + d = l.length → ∃ r, Ev (fun k => spec_LastStamp.l0 k m (i : Int) l) r ∧ Ev (fun k => impl_Store_lastStamp.l0 k m l (l.length : Int) (i : Int)) r := by
    intro d
    induction d with
    | zero =>
      intro i m hi
      exact ⟨m, Ev.step (fun k => spec_LastStamp.l0.eq_2 ..) (ev_neg (by omega) (Ev.step (fun k => spec_LastStamp.j1.eq_2 ..) (ev_neg (by simp) (Ev.now _)))), Ev.step (fun k => impl_Store_lastStamp.l0.eq_2 ..) (ev_neg (by omega) (Ev.now _))⟩
    | succ d ih =>
      intro i m hi
      have hi' : i < l.length := by omega
      obtain ⟨hc, h50⟩ := vs_chain hv i hi'
      have hr := rd_L3_at l i hi'
      have inner : ∀ d (j : Nat) (m : Int), j + d = l[i].length → ∃ r, Ev (fun k => spec_LastStamp.l1 k m (i : Int) (j : Int) l) r ∧ Ev (fun k => impl_Store_lastStamp.l1 k m l (l.length : Int) (i : Int) (rd_L3 l (i : Int)) ((rd_L3 l (i : Int)).length : Int) (j : Int)) r := by
        intro d
        induction d with
        | zero =>
          intro j m hj
          obtain ⟨r, h1, h2⟩ := ih (i + 1) m (by omega)
          refine ⟨r, Ev.step (fun k => spec_LastStamp.l1.eq_2 ..) (ev_pos (by omega) (ev_pos (by omega) (ev_neg (by rw [hr]; omega) ?_))), Ev.step (fun k => impl_Store_lastStamp.l1.eq_2 ..) (ev_neg (by rw [hr]; omega) ?_)⟩
          · rw [up i (by omega)]; exact h1
          · rw [up i (by omega)]; exact h2
        | succ d ihd =>
          intro j m hj
          have hv1 := vvS_use (vc_at hc j (by omega))
          obtain ⟨r, h1, h2⟩ := ihd (j + 1) (mx m (l[i].getD j z43).f3) (by omega)
          refine ⟨r, Ev.step (fun k => spec_LastStamp.l1.eq_2 ..) (ev_pos (by omega) (ev_pos (by omega) (ev_pos (by rw [hr]; omega) (ev_pos (by omega) ?_)))), Ev.step (fun k => impl_Store_lastStamp.l1.eq_2 ..) (ev_pos (by rw [hr]; omega) (ev_pos (by omega) (ev_pos (by rw [hr]; omega) ?_)))⟩
          · rw [up j (by omega)]
            rw [show mx (mx m (rd_T43 (rd_L3 l (i : Int)) (j : Int)).f2) (rd_T43 (rd_L3 l (i : Int)) (j : Int)).f3 = mx m (l[i].getD j z43).f3 by rw [hr, rd_nat]; unfold mx; omega]
            exact h1
          · rw [up j (by omega)]
            rw [show (rd_T43 (rd_L3 l (i : Int)) (j : Int)).f3 = (l[i].getD j z43).f3 by rw [hr, rd_nat]]
            exact h2
      obtain ⟨r, h1, h2⟩ := inner l[i].length 0 m (by omega)
      exact ⟨r, Ev.step (fun k => spec_LastStamp.l0.eq_2 ..) (ev_pos (by omega) (Ev.bind (spec_vs l (by omega) hin') (Ev.step (fun k => spec_LastStamp.j1.eq_2 ..) (ev_pos hv h1)))), Ev.step (fun k => impl_Store_lastStamp.l0.eq_2 ..) (ev_pos (by omega) (ev_pos (by omega) (ev_pos (by omega) h2)))⟩
  exact h l.length 0 0 (by omega)
/-- The last stamp, and that no version's reader lies above it. -/
theorem last_low (l : List (List S43)) (hv : vs l = true) (hin : ∀ x ∈ l, x.length ≤ 9223372036854775806) :
    ∃ r, Ev (fun k => spec_LastStamp.l0 k 0 0 l) r ∧ Ev (fun k => impl_Store_lastStamp.l0 k 0 l (l.length : Int) 0) r ∧ ∀ (a : Nat) (ha : a < l.length) (b : Nat), b < l[a].length → (l[a].getD b z43).f3 ≤ r := by
  have h6 := vs_len hv
  have h : ∀ d (i : Nat) (m : Int), i + d = l.length → ∃ r, Ev (fun k => spec_LastStamp.l0 k m (i : Int) l) r ∧ Ev (fun k => impl_Store_lastStamp.l0 k m l (l.length : Int) (i : Int)) r ∧ m ≤ r ∧ ∀ (a : Nat) (ha : a < l.length) (b : Nat), i ≤ a → b < l[a].length → (l[a].getD b z43).f3 ≤ r := by
    intro d
    induction d with
    | zero =>
      intro i m hi
      exact ⟨m, Ev.step (fun k => spec_LastStamp.l0.eq_2 ..) (ev_neg (by omega) (Ev.step (fun k => spec_LastStamp.j1.eq_2 ..) (ev_neg (by simp) (Ev.now _)))), Ev.step (fun k => impl_Store_lastStamp.l0.eq_2 ..) (ev_neg (by omega) (Ev.now _)), Int.le_refl _, fun a ha b h1 _ => by omega⟩
    | succ d ih =>
      intro i m hi
      have hi' : i < l.length := by omega
      obtain ⟨hc, h50⟩ := vs_chain hv i hi'
      have hr := rd_L3_at l i hi'
      have inner : ∀ d (j : Nat) (m : Int), j + d = l[i].length → ∃ r, Ev (fun k => spec_LastStamp.l1 k m (i : Int) (j : Int) l) r ∧ Ev (fun k => impl_Store_lastStamp.l1 k m l (l.length : Int) (i : Int) (rd_L3 l (i : Int)) ((rd_L3 l (i : Int)).length : Int) (j : Int)) r ∧ m ≤ r ∧ (∀ b : Nat, j ≤ b → b < l[i].length → (l[i].getD b z43).f3 ≤ r) ∧ ∀ (a : Nat) (ha : a < l.length) (b : Nat), i + 1 ≤ a → b < l[a].length → (l[a].getD b z43).f3 ≤ r := by
        intro d
        induction d with
        | zero =>
          intro j m hj
          obtain ⟨r, h1, h2, h3, h4⟩ := ih (i + 1) m (by omega)
          refine ⟨r, Ev.step (fun k => spec_LastStamp.l1.eq_2 ..) (ev_pos (by omega) (ev_pos (by omega) (ev_neg (by rw [hr]; omega) ?_))), Ev.step (fun k => impl_Store_lastStamp.l1.eq_2 ..) (ev_neg (by rw [hr]; omega) ?_), h3, fun b hb1 hb2 => by omega, h4⟩
          · rw [up i (by omega)]; exact h1
          · rw [up i (by omega)]; exact h2
        | succ d ihd =>
          intro j m hj
          have hv1 := vvS_use (vc_at hc j (by omega))
          obtain ⟨r, h1, h2, h3, h4, h5⟩ := ihd (j + 1) (mx m (l[i].getD j z43).f3) (by omega)
          have hm : m ≤ mx m (l[i].getD j z43).f3 ∧ (l[i].getD j z43).f3 ≤ mx m (l[i].getD j z43).f3 := by unfold mx; omega
          refine ⟨r, Ev.step (fun k => spec_LastStamp.l1.eq_2 ..) (ev_pos (by omega) (ev_pos (by omega) (ev_pos (by rw [hr]; omega) (ev_pos (by omega) ?_)))), Ev.step (fun k => impl_Store_lastStamp.l1.eq_2 ..) (ev_pos (by rw [hr]; omega) (ev_pos (by omega) (ev_pos (by rw [hr]; omega) ?_))), by omega, fun b hb1 hb2 => ?_, h5⟩
          · rw [up j (by omega)]
            rw [show mx (mx m (rd_T43 (rd_L3 l (i : Int)) (j : Int)).f2) (rd_T43 (rd_L3 l (i : Int)) (j : Int)).f3 = mx m (l[i].getD j z43).f3 by rw [hr, rd_nat]; unfold mx; omega]
            exact h1
          · rw [up j (by omega)]
            rw [show (rd_T43 (rd_L3 l (i : Int)) (j : Int)).f3 = (l[i].getD j z43).f3 by rw [hr, rd_nat]]
            exact h2
          · by_cases hb : b = j
            · subst hb; omega
            · exact h4 b (by omega) hb2
      obtain ⟨r, h1, h2, h3, h4, h5⟩ := inner l[i].length 0 m (by omega)
      refine ⟨r, Ev.step (fun k => spec_LastStamp.l0.eq_2 ..) (ev_pos (by omega) (Ev.bind (spec_vs l (by omega) hin) (Ev.step (fun k => spec_LastStamp.j1.eq_2 ..) (ev_pos hv h1)))), Ev.step (fun k => impl_Store_lastStamp.l0.eq_2 ..) (ev_pos (by omega) (ev_pos (by omega) (ev_pos (by omega) h2))), h3, fun a ha b hb1 hb2 => ?_⟩
      by_cases e : a = i
      · subst e; exact h4 b (by omega) hb2
      · exact h5 a ha b (by omega) hb2
  obtain ⟨r, h1, h2, _, h4⟩ := h l.length 0 0 (by omega)
  exact ⟨r, h1, h2, fun a ha b hb => h4 a ha b (by omega) hb⟩
theorem LastStamp_both (l : List (List S43)) (hl : l.length ≤ 9223372036854775806) (hin : ∀ x ∈ l, x.length ≤ 9223372036854775806) :
    ∃ r, Ev (fun k => spec_LastStamp.f k l) r ∧ Ev (fun k => impl_LastStamp.f k l) r := by
  unfold spec_LastStamp.f impl_LastStamp.f impl_Store_lastStamp.f
  by_cases hv : vs l = true
  · obtain ⟨r, h1, h2⟩ := last_both l hv hin
    exact ⟨r, h1, Ev.bind (impl_vs l hin) (ev_pos hv (Ev.bind h2 (Ev.now _)))⟩
  · refine ⟨0, ?_, Ev.bind (impl_vs l hin) (ev_neg hv (Ev.now _))⟩
    refine Ev.step (fun k => spec_LastStamp.l0.eq_2 ..) (ev_ite (fun h => ?_) (fun h => ?_))
    · exact Ev.bind (spec_vs l hl hin) (Ev.step (fun k => spec_LastStamp.j1.eq_2 ..) (ev_neg hv (Ev.now _)))
    · exact Ev.step (fun k => spec_LastStamp.j1.eq_2 ..) (ev_neg (by simp) (Ev.now _))
theorem count_both (l : List (List S43)) (hl : l.length ≤ 9223372036854775806) : ∃ r, Ev (fun k => spec_CountVersions.f k l) r ∧ Ev (fun k => impl_CountVersions.f k l) r := by
  have h : ∀ d (i : Nat) (n : Int), i + d = l.length → ∃ r, Ev (fun k => spec_CountVersions.l0 k n (i : Int) l) r ∧ Ev (fun k => impl_CountVersions.l0 k n l (l.length : Int) (i : Int)) r := by
    intro d
    induction d with
    | zero =>
      intro i n hi
      exact ⟨n, Ev.step (fun k => spec_CountVersions.l0.eq_2 ..) (ev_neg (by omega) (Ev.now _)), Ev.step (fun k => impl_CountVersions.l0.eq_2 ..) (ev_neg (by omega) (Ev.now _))⟩
    | succ d ih =>
      intro i n hi
      obtain ⟨r, h1, h2⟩ := ih (i + 1) (wrap64 (n + ((rd_L3 l (i : Int)).length : Int))) (by omega)
      refine ⟨r, Ev.step (fun k => spec_CountVersions.l0.eq_2 ..) (ev_pos (by omega) (ev_pos (by omega) ?_)), Ev.step (fun k => impl_CountVersions.l0.eq_2 ..) (ev_pos (by omega) (ev_pos (by omega) (ev_pos (by omega) ?_)))⟩
      · rw [up i (by omega)]; exact h1
      · rw [up i (by omega)]; exact h2
  exact h l.length 0 0 (by omega)
theorem sa_loop (l : List (List S43)) (hl : l.length ≤ 9223372036854775806) (hin : ∀ x ∈ l, x.length ≤ 9223372036854775806) (s : Int) (d : Nat) : ∀ (i : Nat) (acc : List Int), i + d = 6 → acc.length = i →
    ∃ r, Ev (fun k => spec_StateAt.l0 k s acc (i : Int) l) r ∧ Ev (fun k => impl_StateAt.l0 k s acc (i : Int) l) r ∧ r.length ≤ 6 := by
  induction d with
  | zero =>
    intro i acc hi ha
    exact ⟨acc, Ev.step (fun k => spec_StateAt.l0.eq_2 ..) (ev_neg (by omega) (Ev.now _)), Ev.step (fun k => impl_StateAt.l0.eq_2 ..) (ev_neg (by omega) (Ev.now _)), by omega⟩
  | succ d ih =>
    intro i acc hi ha
    obtain ⟨q, g1, g2, _⟩ := ReadAt_both l hl hin (i : Int) s
    by_cases hb : q.2.2.2.2.2 = true
    · obtain ⟨r, h1, h2, h3⟩ := ih (i + 1) (acc ++ [q.2.1]) (by omega) (by simp; omega)
      refine ⟨r, Ev.step (fun k => spec_StateAt.l0.eq_2 ..) (ev_pos (by omega) (Ev.bind g1 (ev_pos hb (ev_pos (by omega) ?_)))), Ev.step (fun k => impl_StateAt.l0.eq_2 ..) (ev_pos (by omega) (Ev.bind g2 (ev_pos hb (ev_pos (by omega) ?_)))), h3⟩
      · rw [up i (by omega)]; exact h1
      · rw [up i (by omega)]; exact h2
    · exact ⟨[], Ev.step (fun k => spec_StateAt.l0.eq_2 ..) (ev_pos (by omega) (Ev.bind g1 (ev_neg hb (Ev.now _)))), Ev.step (fun k => impl_StateAt.l0.eq_2 ..) (ev_pos (by omega) (Ev.bind g2 (ev_neg hb (Ev.now _)))), by simp⟩
theorem rd_i (l : List Int) (i : Nat) : rd l (i : Int) = l.getD i 0 := by unfold rd; rw [Int.toNat_natCast]
theorem take_next (l : List Int) (i : Nat) (h : i < l.length) : l.take (i + 1) = l.take i ++ [l.getD i 0] := by
  rw [List.take_add_one, List.getElem?_eq_getElem h, List.getD_eq_getElem?_getD, List.getElem?_eq_getElem h]
  rfl
/-- A state's text up to place i. -/
def fsS (l : List Int) (i : Nat) : List UInt8 := Go.Lib.join ((l.take i).map vb) [32]
def okF (l : List Int) (i : Nat) : Prop := ∀ j, i ≤ j → j < l.length → -1 ≤ l.getD j 0 ∧ l.getD j 0 ≤ 99
theorem fs_zero (l : List Int) (h : 0 < l.length) : fsS l 1 = vb (l.getD 0 0) := by
  unfold fsS
  rw [take_next l 0 h]
  exact Go.Lib.join_one _ _
theorem fs_next (l : List Int) (i : Nat) (h : i < l.length) (h0 : 0 < i) : fsS l (i + 1) = fsS l i ++ [32] ++ vb (l.getD i 0) := by
  unfold fsS
  rw [take_next l i h, List.map_append]
  refine join_snoc _ _ _ ?_
  intro e
  have := congrArg List.length e
  rw [List.length_map, List.length_take, List.length_nil] at this
  omega
theorem fs_len (l : List Int) (i : Nat) (h : i ≤ l.length) (hk : ∀ j, j < i → -1 ≤ l.getD j 0 ∧ l.getD j 0 ≤ 99) : (fsS l i).length ≤ 3 * i := by
  induction i with
  | zero => simp [fsS, Go.Lib.join_nil]
  | succ i ih =>
    have h1 := hk i (by omega)
    have h2 := vb_len _ h1.1 h1.2
    by_cases h0 : i = 0
    · subst h0
      rw [fs_zero l (by omega)]
      omega
    · rw [fs_next l i (by omega) (by omega)]
      have := ih (by omega) (fun j hj => hk j (by omega))
      simp only [List.length_append, List.length_singleton]
      omega
theorem spec_fs (l : List Int) (hl : l.length ≤ 1048576) (r : List UInt8) : ∀ d i, i + d = l.length → (∀ j, j < i → -1 ≤ l.getD j 0 ∧ l.getD j 0 ≤ 99) → (okF l i → r = fsS l l.length) → (¬ okF l i → r = []) → Ev (fun k => spec_FormatState.l0 k l (bs (fsS l i)) (i : Int)) (bs r) := by
  intro d
  induction d with
  | zero =>
    intro i hi hk h1 _
    obtain rfl : i = l.length := by omega
    rw [h1 (fun j h2 h3 => by omega)]
    exact Ev.step (fun k => spec_FormatState.l0.eq_2 ..) (ev_neg (by omega) (Ev.now _))
  | succ d ih =>
    intro i hi hk h1 h2
    refine Ev.step (fun k => spec_FormatState.l0.eq_2 ..) (ev_pos (by omega) (ev_pos (by omega) ?_))
    rw [rd_i, up i (by omega)]
    simp only [spec_in, Option.bind_some]
    by_cases hv : -1 ≤ l.getD i 0 ∧ l.getD i 0 ≤ 99
    · have hk' : ∀ j, j < i + 1 → -1 ≤ l.getD j 0 ∧ l.getD j 0 ≤ 99 := fun j hj => by
        by_cases e : j = i
        · subst e; exact hv
        · exact hk j (by omega)
      have next := ih (i + 1) (by omega) hk' (fun h => h1 (fun j h3 h4 => by
        by_cases e : j = i
        · subst e; exact hv
        · exact h j (by omega) h4)) (fun h => h2 (fun h' => h (fun j h3 h4 => h' j (by omega) h4)))
      have hs := fs_len l i (by omega) hk
      have hv2 := vb_len _ hv.1 hv.2
      refine ev_pos (decide_eq_true hv) ?_
      by_cases h0 : i = 0
      · subst h0
        refine ev_neg (by omega) (Ev.bind (spec_val _ hv.1 hv.2) (ev_pos (by rw [bs_size, bs_size]; omega) ?_))
        rw [fs_zero l (by omega)] at next
        exact next
      · refine ev_pos (by omega) (ev_pos (by rw [bs_size]; omega) (Ev.bind (spec_val _ hv.1 hv.2) (ev_pos ?_ ?_)))
        · rw [ByteArray.size_append, bs_size, bs_size]
          show (fsS l i).length + 1 + (vb (l.getD i 0)).length ≤ _
          omega
        · rw [fs_next l i (by omega) (by omega)] at next
          have e : bs (fsS l i) ++ (⟨#[32]⟩ : ByteArray) ++ bs (vb (l.getD i 0)) = bs (fsS l i ++ [32] ++ vb (l.getD i 0)) := by
            rw [← bs_append, ← bs_append]
            rfl
          rw [e]
          exact next
    · refine ev_neg (by simpa using hv) ?_
      rw [h2 (fun h => hv (h i (by omega) (by omega)))]
      exact Ev.now _
theorem impl_fs (l : List Int) (hl : l.length ≤ 1048576) (r : List UInt8) : ∀ d i, i + d = l.length → (∀ j, j < i → -1 ≤ l.getD j 0 ∧ l.getD j 0 ≤ 99) → (okF l i → r = fsS l l.length) → (¬ okF l i → r = []) → Ev (fun k => impl_FormatState.l0 k ((l.take i).map (fun n => bs (vb n))) l (l.length : Int) (i : Int)) (bs r) := by
  intro d
  induction d with
  | zero =>
    intro i hi hk h1 _
    obtain rfl : i = l.length := by omega
    rw [h1 (fun j h2 h3 => by omega)]
    have hs := fs_len l l.length (by omega) hk
    refine Ev.step (fun k => impl_FormatState.l0.eq_2 ..) (ev_neg (by omega) (ev_bindo ?_ (Ev.now _)))
    unfold strings_Join.f
    have e : ((l.take l.length).map (fun n => bs (vb n))).map (·.data.toList) = (l.take l.length).map vb := by
      rw [List.map_map]
      refine List.map_congr_left (fun n _ => ?_)
      simp [bs]
    rw [e, show ((⟨#[32]⟩ : ByteArray).data.toList) = [32] from rfl]
    have h3 : (Go.Lib.join ((l.take l.length).map vb) [32]) = fsS l l.length := rfl
    rw [h3, if_pos (by simp; omega)]
    rfl
  | succ d ih =>
    intro i hi hk h1 h2
    refine Ev.step (fun k => impl_FormatState.l0.eq_2 ..) (ev_pos (by omega) (ev_pos (by omega) (ev_pos (by omega) ?_)))
    rw [rd_i, up i (by omega)]
    unfold impl_isValue.f
    simp only [impl_in_, Option.bind_some]
    by_cases hv : -1 ≤ l.getD i 0 ∧ l.getD i 0 ≤ 99
    · have hk' : ∀ j, j < i + 1 → -1 ≤ l.getD j 0 ∧ l.getD j 0 ≤ 99 := fun j hj => by
        by_cases e : j = i
        · subst e; exact hv
        · exact hk j (by omega)
      have next := ih (i + 1) (by omega) hk' (fun h => h1 (fun j h3 h4 => by
        by_cases e : j = i
        · subst e; exact hv
        · exact h j (by omega) h4)) (fun h => h2 (fun h' => h (fun j h3 h4 => h' j (by omega) h4)))
      rw [take_next l i (by omega), List.map_append] at next
      exact ev_pos (decide_eq_true hv) (ev_bindo (impl_val _ hv.1 hv.2) (ev_pos (by simp; omega) next))
    · refine ev_neg (by simpa using hv) ?_
      rw [h2 (fun h => hv (h i (by omega) (by omega)))]
      exact Ev.now _
theorem i64_and255 (n : Int) : Go.bits .and .i64 n 255 = n % 256 := by
  have h255 : (BitVec.ofInt 64 255).toNat = 2 ^ 8 - 1 := by decide
  have key : (BitVec.ofInt 64 n &&& BitVec.ofInt 64 255).toNat = (n % ((2 ^ 64 : Nat) : Int)).toNat % 2 ^ 8 := by
    rw [BitVec.toNat_and, BitVec.toNat_ofInt, h255, Nat.and_two_pow_sub_one_eq_mod]
  show IntKind.i64.wrap ((BitVec.ofInt 64 n &&& BitVec.ofInt 64 255).toNat : Nat) = n % 256
  rw [key, IntKind.wrap_i64]
  omega
/-- A reader's place stands in its text. -/
def Cur (l : List Int) (p : Int) : Prop := 0 ≤ p ∧ p ≤ (l.length : Int)
theorem byte_ok (l : List Int) (hl : l.length ≤ 140737488351232) (p s : Int) (hp : Cur l p) : ∃ b q t, spec_l1Byte.f l p s = some (b, q, t) ∧ 0 ≤ b ∧ b ≤ 255 ∧ Cur l q := by
  unfold spec_l1Byte.f
  simp only [i64_and255]
  by_cases h : p < (l.length : Int)
  · rw [if_pos h, if_pos hp.1]
    exact ⟨_, _, _, rfl, by omega, by omega, by rw [w64 (by have := hp.1; omega) (by omega)]; exact ⟨by have := hp.1; omega, by omega⟩⟩
  · rw [if_neg h]
    exact ⟨_, _, _, rfl, by omega, by omega, hp⟩
theorem tmod_bd {b a : Int} (h0 : 0 ≤ b) (h : 0 < a) : 0 ≤ Int.tmod b a ∧ Int.tmod b a < a := by
  rw [Int.tmod_eq_emod_of_nonneg h0]
  exact ⟨Int.emod_nonneg _ (by omega), Int.emod_lt_of_pos _ h⟩
theorem below_ok (l : List Int) (hl : l.length ≤ 140737488351232) (p s : Int) (hp : Cur l p) (a : Int) (h0 : 0 < a) (h1 : a ≤ 4294967296) : ∃ b q t, spec_l1Below.f l p s a = some (b, q, t) ∧ 0 ≤ b ∧ b < a ∧ Cur l q := by
  unfold spec_l1Below.f
  rw [if_neg (by omega)]
  by_cases h : a ≤ 256
  · rw [if_pos h]
    obtain ⟨b, q, t, e, b0, b1, hq⟩ := byte_ok l hl p s hp
    rw [e, Option.bind_some, if_neg (by omega)]
    have := tmod_bd b0 h0
    exact ⟨_, _, _, rfl, this.1, this.2, hq⟩
  · rw [if_neg h]
    obtain ⟨b, q, t, e, b0, b1, hq⟩ := byte_ok l hl p s hp
    obtain ⟨c, q2, t2, e2, c0, c1, hq2⟩ := byte_ok l hl q t hq
    obtain ⟨d, q3, t3, e3, d0, d1, hq3⟩ := byte_ok l hl q2 t2 hq2
    obtain ⟨f, q4, t4, e4, f0, f1, hq4⟩ := byte_ok l hl q3 t3 hq3
    rw [e, Option.bind_some, e2, Option.bind_some, e3, Option.bind_some, e4, Option.bind_some, if_neg (by omega)]
    have hw : wrap64 ((wrap64 ((wrap64 ((wrap64 (b * 16777216)) + (wrap64 (c * 65536)))) + (wrap64 (d * 256)))) + f) = b * 16777216 + c * 65536 + d * 256 + f := by
      rw [w64 (n := b * 16777216) (by omega) (by omega), w64 (n := c * 65536) (by omega) (by omega), w64 (n := d * 256) (by omega) (by omega), w64 (n := b * 16777216 + c * 65536) (by omega) (by omega), w64 (n := b * 16777216 + c * 65536 + d * 256) (by omega) (by omega), w64 (by omega) (by omega)]
    have hz : 0 ≤ b * 16777216 + c * 65536 + d * 256 + f := by omega
    have := tmod_bd hz h0
    exact ⟨_, _, _, rfl, by show 0 ≤ Int.tmod (wrap64 _) a; rw [hw]; exact this.1, by show Int.tmod (wrap64 _) a < a; rw [hw]; exact this.2, hq4⟩
theorem pick_ok (l : List Int) (hl : l.length ≤ 140737488351232) (p s : Int) (hp : Cur l p) (m : List Int) (h0 : 0 < m.length) (h1 : m.length ≤ 1000) : ∃ b q t, spec_l1PickInt.f l p s m = some (b, q, t) ∧ b ∈ m ∧ Cur l q := by
  unfold spec_l1PickInt.f
  obtain ⟨b, q, t, e, b0, b1, hq⟩ := below_ok l hl p s hp (m.length : Int) (by omega) (by omega)
  rw [e, Option.bind_some, if_pos b0, if_pos b1]
  refine ⟨_, _, _, rfl, ?_, hq⟩
  show rd m b ∈ m
  unfold rd
  have hb : b.toNat < m.length := by omega
  rw [show m.getD b.toNat _ = m[b.toNat] from by simp [List.getD, hb]]
  exact List.getElem_mem hb
theorem wrap_bd (x : Int) : -9223372036854775808 ≤ wrap64 x ∧ wrap64 x ≤ 9223372036854775807 := by unfold wrap64; omega
theorem new_loop (l : List Int) (d : Nat) : ∀ (i : Nat) (x : Int), i + d = min l.length 4000 → ∃ t, Ev (fun k => spec_l1New.l0 k l x (i : Int)) (l, 0, t) := by
  induction d with
  | zero =>
    intro i x hi
    by_cases h : (i : Int) < (l.length : Int)
    · exact ⟨_, Ev.step (fun k => spec_l1New.l0.eq_2 ..) (ev_pos h (ev_neg (by omega) (Ev.now _)))⟩
    · exact ⟨_, Ev.step (fun k => spec_l1New.l0.eq_2 ..) (ev_neg h (Ev.now _))⟩
  | succ d ih =>
    intro i x hi
    obtain ⟨t, ht⟩ := ih (i + 1) (Go.bits .and .i64 (wrap64 ((wrap64 ((wrap64 (x * 131)) + (wrap64 (rd l (i : Int))))) + 7)) 1073741823) (by omega)
    refine ⟨t, Ev.step (fun k => spec_l1New.l0.eq_2 ..) (ev_pos (by omega) (ev_pos (by omega) (ev_pos (by omega) ?_)))⟩
    rw [w64 (n := (i : Int) + 1) (by omega) (by omega)]
    exact ht
theorem new_ok (l : List Int) : ∃ t, Ev (fun k => spec_l1New.f k l) (l, 0, t) := new_loop l (min l.length 4000) 0 _ (by omega)
theorem cur0 (l : List Int) : Cur l 0 := ⟨Int.le_refl _, Int.natCast_nonneg _⟩
theorem chain_draw (l : List Int) (hl : l.length ≤ 140737488351232) (d : Nat) : ∀ (x : List S43) (st p s : Int), 0 < x.length → x.length + d ≤ 1000 → Cur l p →
    ∃ m q t, Ev (fun k => spec_l3Chain.l0 k x st (d : Int) l p s) (m, q, t) ∧ 0 < m.length ∧ m.length ≤ x.length + d ∧ Cur l q := by
  induction d with
  | zero =>
    intro x st p s h0 h1 hp
    exact ⟨x, p, s, Ev.step (fun k => spec_l3Chain.l0.eq_2 ..) (ev_neg (by omega) (Ev.now _)), h0, by omega, hp⟩
  | succ d ih =>
    intro x st p s h0 h1 hp
    have e0 : wrap64 ((x.length : Int) - 1) = (x.length : Int) - 1 := w64 (by omega) (by omega)
    obtain ⟨b1, q1, s1, e1, _, _, hq1⟩ := below_ok l hl p s hp 3 (by omega) (by omega)
    obtain ⟨b2, q2, s2, e2, _, _, hq2⟩ := below_ok l hl q1 s1 hq1 2 (by omega) (by omega)
    obtain ⟨b3, q3, s3, e3, _, _, hq3⟩ := below_ok l hl q2 s2 hq2 4 (by omega) (by omega)
    obtain ⟨b4, q4, s4, e4, _, _, hq4⟩ := below_ok l hl q3 s3 hq3 9 (by omega) (by omega)
    obtain ⟨b5, q5, s5, e5, _, hq5⟩ := pick_ok l hl q4 s4 hq4 ([(-1), 0, 5, 7, 42, 99] : List Int) (by decide) (by decide)
    have key : ∀ (y : List S43) (st' : Int), y.length = x.length + 1 → ∃ m q t, Ev (fun k => spec_l3Chain.l0 k y st' (wrap64 (((d + 1 : Nat) : Int) - 1)) l q5 s5) (m, q, t) ∧ 0 < m.length ∧ m.length ≤ x.length + (d + 1) ∧ Cur l q := by
      intro y st' hy
      obtain ⟨m, q, t, g1, g2, g3, g4⟩ := ih y st' q5 s5 (by omega) (by omega) hq5
      refine ⟨m, q, t, ?_, g2, by omega, g4⟩
      rw [w64 (by omega) (by omega), show ((d + 1 : Nat) : Int) - 1 = (d : Int) by omega]
      exact g1
    have go : ∀ (m : List S43) (q t : Int) (y : List S43) (z : S43) (st' : Int), True := fun _ _ _ _ _ _ => trivial
    refine (fun (H : ∃ r : List S43 × Int × Int, Ev (fun k => spec_l3Chain.l0 k x st ((d + 1 : Nat) : Int) l p s) r ∧ 0 < r.1.length ∧ r.1.length ≤ x.length + (d + 1) ∧ Cur l r.2.1) => ⟨H.choose.1, H.choose.2.1, H.choose.2.2, H.choose_spec.1, H.choose_spec.2.1, H.choose_spec.2.2.1, H.choose_spec.2.2.2⟩) ?_
    have fin : ∀ (g : Nat → Option (List S43 × Int × Int)) (y : List S43) (st' : Int), y.length = x.length + 1 → (∀ r, Ev (fun k => spec_l3Chain.l0 k y st' (wrap64 (((d + 1 : Nat) : Int) - 1)) l q5 s5) r → Ev g r) → ∃ r : List S43 × Int × Int, Ev g r ∧ 0 < r.1.length ∧ r.1.length ≤ x.length + (d + 1) ∧ Cur l r.2.1 := by
      intro g y st' hy h
      obtain ⟨m, q, t, g1, g2, g3, g4⟩ := key y st' hy
      exact ⟨(m, q, t), h _ g1, g2, g3, g4⟩
    refine fin _ _ _ ?_ (fun r h => Ev.step (fun k => spec_l3Chain.l0.eq_2 ..) (ev_pos (by omega) (ev_pos (by rw [e0]; omega) (ev_pos (by rw [e0]; omega) (ev_bindo e1 (ev_bindo rfl (ev_bindo e2 (ev_bindo e3 (ev_bindo rfl (ev_bindo e4 (ev_bindo e5 (ev_pos (by simp; omega) h))))))))))))
    simp
theorem any_draw (l : List Int) (hl : l.length ≤ 140737488351232) (p s : Int) (hp : Cur l p) : ∃ m q t, Ev (fun k => spec_l3Any.f k l p s) (m, q, t) ∧ m.length ≤ 100 ∧ Cur l q := by
  obtain ⟨b0, q0, s0, e0, c0, c1, hq0⟩ := below_ok l hl p s hp 5 (by omega) (by omega)
  obtain ⟨m, q, t, h1, h2, h3, hq⟩ := chain_draw l hl b0.toNat ([(⟨0, (-1), 0, 0, 1000⟩ : S43)] : List S43) 0 q0 s0 (by simp) (by simp; omega) hq0
  rw [Int.toNat_of_nonneg c0] at h1
  have hc : Ev (fun k => spec_l3Chain.f k l p s) (m, q, t) := by
    unfold spec_l3Chain.f
    exact ev_bindo e0 h1
  have hm : m.length ≤ 100 := by simp only [List.length_singleton] at h3; omega
  obtain ⟨i, q1, s1, e1, i0, i1, hq1⟩ := below_ok l hl q t hq (m.length : Int) (by omega) (by omega)
  obtain ⟨c, q2, s2, e2, c2, c3, hq2⟩ := below_ok l hl q1 s1 hq1 16 (by omega) (by omega)
  refine (fun (H : ∃ r : List S43 × Int × Int, Ev (fun k => spec_l3Any.f k l p s) r ∧ r.1.length ≤ 100 ∧ Cur l r.2.1) => ⟨H.choose.1, H.choose.2.1, H.choose.2.2, H.choose_spec.1, H.choose_spec.2.1, H.choose_spec.2.2⟩) ?_
  have base : ∀ r, Ev (fun k => if c = 0 then ((spec_l1PickInt.f l q2 s2 (([0, 1, 3, 1000, 1001] : List Int))).bind fun b => (if 0 ≤ i then (if i < (m.length : Int) then (some ((m.set (i : Int).toNat (⟨(rd_T43 m i).f0, (rd_T43 m i).f1, (rd_T43 m i).f2, (rd_T43 m i).f3, b.1⟩ : S43)), b.2.1, b.2.2)) else (none)) else (none))) else (if c = 1 then ((spec_l1PickInt.f l q2 s2 (([(-1), 0, 999, 1000] : List Int))).bind fun b => (if 0 ≤ i then (if i < (m.length : Int) then (some ((m.set (i : Int).toNat (⟨(rd_T43 m i).f0, (rd_T43 m i).f1, (rd_T43 m i).f2, b.1, (rd_T43 m i).f4⟩ : S43)), b.2.1, b.2.2)) else (none)) else (none))) else (if c = 2 then ((spec_l1PickInt.f l q2 s2 (([(-2), 100, 99] : List Int))).bind fun b => (if 0 ≤ i then (if i < (m.length : Int) then (some ((m.set (i : Int).toNat (⟨(rd_T43 m i).f0, b.1, (rd_T43 m i).f2, (rd_T43 m i).f3, (rd_T43 m i).f4⟩ : S43)), b.2.1, b.2.2)) else (none)) else (none))) else (if c = 3 then (if 1 ≤ (m.length : Int) then (some ((m.drop (1 : Int).toNat), q2, s2)) else (none)) else (if c = 4 then ((spec_l1PickInt.f l q2 s2 (([0, 9, 10] : List Int))).bind fun b => (if 0 ≤ i then (if i < (m.length : Int) then (some ((m.set (i : Int).toNat (⟨b.1, (rd_T43 m i).f1, (rd_T43 m i).f2, (rd_T43 m i).f3, (rd_T43 m i).f4⟩ : S43)), b.2.1, b.2.2)) else (none)) else (none))) else (some (m, q2, s2))))))) r → Ev (fun k => spec_l3Any.f k l p s) r := by
    intro r h
    unfold spec_l3Any.f
    exact Ev.bind hc (ev_bindo e1 (ev_bindo e2 h))
  have set_len : ∀ z : S43, (m.set (i : Int).toNat z).length ≤ 100 := fun z => by rw [List.length_set]; exact hm
  by_cases h : c = 0
  · obtain ⟨b, q3, s3, e3, _, hq3⟩ := pick_ok l hl q2 s2 hq2 ([0, 1, 3, 1000, 1001] : List Int) (by decide) (by decide)
    exact ⟨_, base _ (ev_pos h (ev_bindo e3 (ev_pos i0 (ev_pos i1 (Ev.now _))))), set_len _, hq3⟩
  · by_cases g : c = 1
    · obtain ⟨b, q3, s3, e3, _, hq3⟩ := pick_ok l hl q2 s2 hq2 ([(-1), 0, 999, 1000] : List Int) (by decide) (by decide)
      exact ⟨_, base _ (ev_neg h (ev_pos g (ev_bindo e3 (ev_pos i0 (ev_pos i1 (Ev.now _)))))), set_len _, hq3⟩
    · by_cases g2 : c = 2
      · obtain ⟨b, q3, s3, e3, _, hq3⟩ := pick_ok l hl q2 s2 hq2 ([(-2), 100, 99] : List Int) (by decide) (by decide)
        exact ⟨_, base _ (ev_neg h (ev_neg g (ev_pos g2 (ev_bindo e3 (ev_pos i0 (ev_pos i1 (Ev.now _))))))), set_len _, hq3⟩
      · by_cases g3 : c = 3
        · exact ⟨_, base _ (ev_neg h (ev_neg g (ev_neg g2 (ev_pos g3 (ev_pos (by omega) (Ev.now _)))))), by show (m.drop _).length ≤ 100; rw [List.length_drop]; omega, hq2⟩
        · by_cases g4 : c = 4
          · obtain ⟨b, q3, s3, e3, _, hq3⟩ := pick_ok l hl q2 s2 hq2 ([0, 9, 10] : List Int) (by decide) (by decide)
            exact ⟨_, base _ (ev_neg h (ev_neg g (ev_neg g2 (ev_neg g3 (ev_pos g4 (ev_bindo e3 (ev_pos i0 (ev_pos i1 (Ev.now _))))))))), set_len _, hq3⟩
          · exact ⟨_, base _ (ev_neg h (ev_neg g (ev_neg g2 (ev_neg g3 (ev_neg g4 (Ev.now _)))))), hm, hq2⟩
theorem chain_whole (l : List Int) (hl : l.length ≤ 140737488351232) (p s : Int) (hp : Cur l p) : ∃ m q t, Ev (fun k => spec_l3Chain.f k l p s) (m, q, t) ∧ m.length ≤ 100 ∧ Cur l q := by
  obtain ⟨b0, q0, s0, e0, c0, c1, hq0⟩ := below_ok l hl p s hp 5 (by omega) (by omega)
  obtain ⟨m, q, t, h1, h2, h3, hq⟩ := chain_draw l hl b0.toNat ([(⟨0, (-1), 0, 0, 1000⟩ : S43)] : List S43) 0 q0 s0 (by simp) (by simp; omega) hq0
  rw [Int.toNat_of_nonneg c0] at h1
  refine ⟨m, q, t, ?_, by simp only [List.length_singleton] at h3; omega, hq⟩
  unfold spec_l3Chain.f
  exact ev_bindo e0 h1
theorem store_draw (l : List Int) (hl : l.length ≤ 140737488351232) (d : Nat) : ∀ (i : Nat) (p s : Int) (acc : List (List S43)), i + d = 6 → acc.length = i → (∀ x ∈ acc, x.length ≤ 100) → Cur l p →
    ∃ m q t, Ev (fun k => spec_l4Store.l0 k (i : Int) l p s acc) (m, q, t) ∧ m.length = 6 ∧ (∀ x ∈ m, x.length ≤ 100) ∧ Cur l q := by
  induction d with
  | zero =>
    intro i p s acc hi ha hx hp
    exact ⟨acc, p, s, Ev.step (fun k => spec_l4Store.l0.eq_2 ..) (ev_neg (by omega) (Ev.now _)), by omega, hx, hp⟩
  | succ d ih =>
    intro i p s acc hi ha hx hp
    obtain ⟨c, q, t, h1, h2, hq⟩ := chain_whole l hl p s hp
    obtain ⟨m, q2, t2, g1, g2, g3, g4⟩ := ih (i + 1) q t (acc ++ [c]) (by omega) (by simp; omega) (by
      intro x hx'
      rw [List.mem_append, List.mem_singleton] at hx'
      rcases hx' with h | h
      · exact hx x h
      · rw [h]; exact h2) hq
    refine ⟨m, q2, t2, Ev.step (fun k => spec_l4Store.l0.eq_2 ..) (ev_pos (by omega) (Ev.bind h1 (ev_pos (by omega) ?_))), g2, g3, g4⟩
    rw [up i (by omega)]
    exact g1
theorem any4_draw (l : List Int) (hl : l.length ≤ 140737488351232) (p s : Int) (hp : Cur l p) : ∃ m q t, Ev (fun k => spec_l4Any.f k l p s) (m, q, t) ∧ m.length ≤ 6 ∧ (∀ x ∈ m, x.length ≤ 100) ∧ Cur l q := by
  obtain ⟨m, q, t, h1, h2, h3, hq⟩ := store_draw l hl 6 0 p s [] (by omega) rfl (by simp) hp
  have hs : Ev (fun k => spec_l4Store.f k l p s) (m, q, t) := h1
  obtain ⟨c, q1, s1, e1, c0, c1, hq1⟩ := below_ok l hl q t hq 12 (by omega) (by omega)
  by_cases h : c = 0
  · obtain ⟨i, q2, s2, e2, i0, i1, hq2⟩ := below_ok l hl q1 s1 hq1 6 (by omega) (by omega)
    obtain ⟨x, q3, s3, e3, hx, hq3⟩ := any_draw l hl q2 s2 hq2
    refine ⟨m.set i.toNat x, q3, s3, ?_, by rw [List.length_set]; omega, ?_, hq3⟩
    · unfold spec_l4Any.f
      exact Ev.bind hs (ev_bindo e1 (ev_pos h (ev_bindo e2 (Ev.bind e3 (ev_pos i0 (ev_pos (by show i < (m.length : Int); omega) (Ev.now _)))))))
    · intro y hy
      rcases List.mem_or_eq_of_mem_set hy with hy | rfl
      · exact h3 y hy
      · exact hx
  · by_cases g : c = 1
    · refine ⟨m.drop 1, q1, s1, ?_, by rw [List.length_drop]; omega, fun y hy => h3 y (List.mem_of_mem_drop hy), hq1⟩
      unfold spec_l4Any.f
      exact Ev.bind hs (ev_bindo e1 (ev_neg h (ev_pos g (ev_pos (by show 1 ≤ (m.length : Int); omega) (Ev.now _)))))
    · refine ⟨m, q1, s1, ?_, by omega, h3, hq1⟩
      unfold spec_l4Any.f
      exact Ev.bind hs (ev_bindo e1 (ev_neg h (ev_neg g (Ev.now _))))
theorem state_draw (l : List Int) (hl : l.length ≤ 140737488351232) : ∃ m s, Ev (fun k => spec_DrawStateAt.f k l) (m, s) ∧ m.length ≤ 6 ∧ (∀ x ∈ m, x.length ≤ 100) := by
  obtain ⟨s0, hnew⟩ := new_ok l
  obtain ⟨m, q, t, h1, h2, h3, hq⟩ := any4_draw l hl 0 s0 (cur0 l)
  obtain ⟨b, q2, t2, e2, b0, b1, hq2⟩ := below_ok l hl q t hq 14 (by omega) (by omega)
  refine ⟨m, wrap64 (b - 1), ?_, h2, h3⟩
  unfold spec_DrawStateAt.f
  exact Ev.bind hnew (Ev.bind h1 (ev_bindo e2 (Ev.now _)))
/-- A right chain's versions go up. -/
theorem vc_up {l : List S43} (h : vc l = true) (d : Nat) : ∀ i : Nat, i + d + 1 < l.length → (l.getD i z43).f2 < (l.getD (i + d + 1) z43).f2 := by
  have one : ∀ j, j + 1 < l.length → (l.getD j z43).f2 < (l.getD (j + 1) z43).f2 := by
    intro j hj
    unfold vc at h
    simp only [Bool.and_eq_true, decide_eq_true_eq] at h
    have := (h.1 j (by omega)).2 hj
    unfold Ord at this
    omega
  induction d with
  | zero => intro i hi; exact one i hi
  | succ d ih =>
    intro i hi
    have h1 := ih i (by omega)
    have h2 := one (i + d + 1) (by omega)
    rw [show i + (d + 1) + 1 = i + d + 1 + 1 by omega]
    omega
theorem lastIdx_spec (P : Nat → Prop) [DecidablePred P] (n : Nat) : (lastIdx P n = -1 ∨ ∃ k : Nat, lastIdx P n = (k : Int) ∧ k < n ∧ P k ∧ ∀ j, k < j → j < n → ¬ P j) := by
  induction n with
  | zero => exact .inl rfl
  | succ n ih =>
    by_cases h : P n
    · exact .inr ⟨n, by simp only [lastIdx]; rw [if_pos h], by omega, h, fun j h1 h2 => by omega⟩
    · have e : lastIdx P (n + 1) = lastIdx P n := by simp only [lastIdx]; rw [if_neg h]
      rcases ih with ih | ⟨k, h1, h2, h3, h4⟩
      · exact .inl (e.trans ih)
      · refine .inr ⟨k, e.trans h1, by omega, h3, fun j h5 h6 => ?_⟩
        by_cases hj : j = n
        · rw [hj]; exact h
        · exact h4 j h5 (by omega)
theorem latest_impl (l : List (List S43)) (hin : ∀ x ∈ l, x.length ≤ 9223372036854775806) (hv : vs l = true) (i : Nat) (hi : i < l.length) :
    Ev (fun k => impl_ReadLatest.f k l (i : Int)) ((l[i].getD (l[i].length - 1) z43).f0, (l[i].getD (l[i].length - 1) z43).f1, (l[i].getD (l[i].length - 1) z43).f2, (l[i].getD (l[i].length - 1) z43).f3, (l[i].getD (l[i].length - 1) z43).f4, true) := by
  unfold impl_ReadLatest.f impl_isKey.f
  simp only [impl_in_, Option.bind_some]
  have h6 := vs_len hv
  obtain ⟨hc, h50⟩ := vs_chain hv i hi
  have hp := vc_pos hc
  have hr := rd_L3_at l i hi
  have e : wrap64 ((l[i].length : Int) - 1) = ((l[i].length - 1 : Nat) : Int) := by rw [w64 (by omega) (by omega)]; omega
  have hk : 0 ≤ (i : Int) ∧ (i : Int) ≤ 5 := by omega
  simp only [hr, e, rd_nat]
  exact Ev.bind (impl_vs l hin) (ev_pos hv (ev_pos (decide_eq_true hk) (ev_pos ⟨by omega, by omega, by omega, by omega⟩ (Ev.now _))))
theorem rd_j (l : List Int) (i : Nat) : rd l (i : Int) = l.getD i 0 := by unfold rd; rw [Int.toNat_natCast]
theorem same_self (q : List Int) (hq : q.length ≤ 1000) : Ev (fun k => laws_sameInts.f k q q) true := by
  unfold laws_sameInts.f
  refine ev_pos rfl ?_
  have h : ∀ d i : Nat, i + d = q.length → Ev (fun k => laws_sameInts.l0 k q q (i : Int)) true := by
    intro d
    induction d with
    | zero => intro i hi; exact Ev.step (fun k => laws_sameInts.l0.eq_2 ..) (ev_neg (by omega) (Ev.now _))
    | succ d ih =>
      intro i hi
      refine Ev.step (fun k => laws_sameInts.l0.eq_2 ..) (ev_pos (by omega) (ev_pos (by omega) (ev_pos (by omega) (ev_pos rfl ?_))))
      rw [up i (by omega)]
      exact ih (i + 1) (by omega)
  exact h q.length 0 (by omega)
def v0 : S43 := ⟨0, -1, 0, 0, 1000⟩
theorem new_six : Ev (fun k => impl_NewStore.f k) [[v0], [v0], [v0], [v0], [v0], [v0]] := Ev.of impl_NewStore.mono (k := 20) (by kernel_rfl)
theorem six_ok : vs [[v0], [v0], [v0], [v0], [v0], [v0]] = true := by decide
theorem six_last : Ev (fun k => impl_Store_lastStamp.f k [[v0], [v0], [v0], [v0], [v0], [v0]]) 0 := Ev.of (impl_Store_lastStamp.mono _) (k := 40) (by kernel_rfl)
theorem six_count : Ev (fun k => impl_CountVersions.f k [[v0], [v0], [v0], [v0], [v0], [v0]]) 6 := Ev.of (impl_CountVersions.mono _) (k := 40) (by kernel_rfl)
theorem six_in : ∀ x ∈ ([[v0], [v0], [v0], [v0], [v0], [v0]] : List (List S43)), x.length ≤ 9223372036854775806 := by
  intro x hx
  simp only [List.mem_cons, List.not_mem_nil, or_false, or_self] at hx
  subst hx
  simp
/-- What the state says of one key. -/
def Q (l : List (List S43)) (s : Int) (r : List Int) (j : Nat) : Prop := ∃ q, Ev (fun k => impl_ReadAt.f k l (j : Int) s) q ∧ q.2.2.2.2.2 = true ∧ q.2.1 = r.getD j 0
theorem sa_char (l : List (List S43)) (hl : l.length ≤ 9223372036854775806) (hin : ∀ x ∈ l, x.length ≤ 9223372036854775806) (s : Int) (d : Nat) : ∀ (i : Nat) (acc : List Int), i + d = 6 → acc.length = i → (∀ j, j < i → Q l s acc j) →
    ∃ r, Ev (fun k => spec_StateAt.l0 k s acc (i : Int) l) r ∧ Ev (fun k => impl_StateAt.l0 k s acc (i : Int) l) r ∧ r.length ≤ 6 ∧ ∀ j, j < r.length → Q l s r j := by
  induction d with
  | zero =>
    intro i acc hi ha hq
    exact ⟨acc, Ev.step (fun k => spec_StateAt.l0.eq_2 ..) (ev_neg (by omega) (Ev.now _)), Ev.step (fun k => impl_StateAt.l0.eq_2 ..) (ev_neg (by omega) (Ev.now _)), by omega, fun j hj => hq j (by omega)⟩
  | succ d ih =>
    intro i acc hi ha hq
    obtain ⟨q, g1, g2, _⟩ := ReadAt_both l hl hin (i : Int) s
    by_cases hb : q.2.2.2.2.2 = true
    · obtain ⟨r, h1, h2, h3⟩ := ih (i + 1) (acc ++ [q.2.1]) (by omega) (by simp; omega) (by
        intro j hj
        by_cases e : j = i
        · subst e
          refine ⟨q, g2, hb, ?_⟩
          rw [List.getD_eq_getElem?_getD, List.getElem?_append_right (by omega), ha, Nat.sub_self]
          rfl
        · obtain ⟨p, p1, p2, p3⟩ := hq j (by omega)
          refine ⟨p, p1, p2, ?_⟩
          rw [p3, List.getD_eq_getElem?_getD, List.getD_eq_getElem?_getD, List.getElem?_append_left (by omega)])
      refine ⟨r, Ev.step (fun k => spec_StateAt.l0.eq_2 ..) (ev_pos (by omega) (Ev.bind g1 (ev_pos hb (ev_pos (by omega) ?_)))), Ev.step (fun k => impl_StateAt.l0.eq_2 ..) (ev_pos (by omega) (Ev.bind g2 (ev_pos hb (ev_pos (by omega) ?_)))), h3⟩
      · rw [up i (by omega)]; exact h1
      · rw [up i (by omega)]; exact h2
    · exact ⟨[], Ev.step (fun k => spec_StateAt.l0.eq_2 ..) (ev_pos (by omega) (Ev.bind g1 (ev_neg hb (Ev.now _)))), Ev.step (fun k => impl_StateAt.l0.eq_2 ..) (ev_pos (by omega) (Ev.bind g2 (ev_neg hb (Ev.now _)))), by simp, fun j hj => by simp at hj⟩
theorem key_facts (l : List (List S43)) (hl : l.length ≤ 9223372036854775806) (hin : ∀ x ∈ l, x.length ≤ 9223372036854775806) (s : Int) (j : Nat) (q : Int × Int × Int × Int × Int × Bool) (hq : Ev (fun k => impl_ReadAt.f k l (j : Int) s) q) (ok : q.2.2.2.2.2 = true) :
    vs l = true ∧ ∃ (hj : j < l.length) (k : Nat), k < l[j].length ∧ q = ((l[j].getD k z43).f0, (l[j].getD k z43).f1, (l[j].getD k z43).f2, (l[j].getD k z43).f3, (l[j].getD k z43).f4, true) ∧ (l[j].getD k z43).f2 ≤ s ∧ ∀ b, k < b → b < l[j].length → ¬ (l[j].getD b z43).f2 ≤ s := by
  obtain ⟨r, _, g2, h1, h2⟩ := ReadAt_both l hl hin (j : Int) s
  obtain rfl := ev_both hq g2
  by_cases hc : vs l = true ∧ 0 ≤ (j : Int) ∧ (j : Int) ≤ 5
  · obtain ⟨hv, hk⟩ := hc
    have h6 := vs_len hv
    have hj : j < l.length := by omega
    obtain ⟨_, h3, h4⟩ := h1 ⟨hv, hk⟩
    rw [ok] at h3
    have h5 := of_decide_eq_true h3.symm
    have h7 := h4 h5
    have hr := rd_L3_at l j hj
    rw [hr] at h5 h7
    obtain ⟨hc, _⟩ := vs_chain hv j hj
    unfold atOf at h5 h7
    rw [if_pos hc] at h5 h7
    rcases lastIdx_spec (fun b => (l[j].getD b z43).f2 ≤ s) l[j].length with e | ⟨k, e, k1, k2, k3⟩
    · rw [e] at h5; omega
    · rw [e, rd_nat] at h7
      exact ⟨hv, hj, k, k1, h7, k2, k3⟩
  · rw [h2 hc] at ok
    cases ok
theorem end_six (s : Int) (r : List Int) (l : List (List S43)) : Ev (fun k => laws_FnStores.l0 k s r (r.length : Int) l) true := by
  refine Ev.step (fun k => laws_FnStores.l0.eq_2 ..) (ev_neg (by omega) (Ev.bind new_six (Ev.bind (impl_vs _ six_in) (ev_pos six_ok (Ev.bind (a := 0) ?_ (ev_pos rfl (Ev.bind six_count (Ev.now _))))))))
  show Ev (fun k => impl_LastStamp.f k _) 0
  unfold impl_LastStamp.f
  exact Ev.bind (impl_vs _ six_in) (ev_pos six_ok (Ev.bind six_last (Ev.now _)))
theorem keys_loop (l : List (List S43)) (hl : l.length ≤ 9223372036854775806) (hin : ∀ x ∈ l, x.length ≤ 9223372036854775806) (s : Int) (r : List Int) (hr : r.length ≤ 6) (hQ : ∀ j, j < r.length → Q l s r j) (d : Nat) : ∀ j : Nat, j + d = r.length →
    Ev (fun k => laws_FnStores.l0 k s r (j : Int) l) true := by
  induction d with
  | zero =>
    intro j hj
    obtain rfl : j = r.length := by omega
    exact end_six s r l
  | succ d ih =>
    intro j hj
    have next := ih (j + 1) (by omega)
    obtain ⟨q, h1, h2, h3⟩ := hQ j (by omega)
    obtain ⟨hv, hjl, k, k1, rfl, k3, k4⟩ := key_facts l hl hin s j q h1 h2
    obtain ⟨hc, h50⟩ := vs_chain hv j hjl
    have hw := latest_impl l hin hv j hjl
    obtain ⟨z, hz, _, hz3⟩ := last_low l hv hin
    have hs : Ev (fun k => spec_LastStamp.f k l) z := hz
    have hle : (l[j].getD k z43).f2 ≤ (l[j].getD (l[j].length - 1) z43).f2 := by
      by_cases e : k = l[j].length - 1
      · rw [← e]; exact Int.le_refl _
      · have := vc_up hc (l[j].length - 1 - k - 1) k (by omega)
        rw [show k + (l[j].length - 1 - k - 1) + 1 = l[j].length - 1 by omega] at this
        omega
    have tail : Ev (fun n => laws_FnStores.j2 n s r (j : Int) (decide ((l[j].getD k z43).f2 > (l[j].getD (l[j].length - 1) z43).f2)) l (l[j].getD k z43).f0 (l[j].getD k z43).f1 (l[j].getD k z43).f2 (l[j].getD k z43).f3 (l[j].getD k z43).f4 (l[j].getD (l[j].length - 1) z43).f0 (l[j].getD (l[j].length - 1) z43).f1 (l[j].getD (l[j].length - 1) z43).f2 (l[j].getD (l[j].length - 1) z43).f3 (l[j].getD (l[j].length - 1) z43).f4) true := by
      refine Ev.step (fun k => laws_FnStores.j2.eq_2 ..) (ev_neg (by rw [decide_eq_false (by omega)]; simp) (Ev.bind hs (ev_ite (fun h => ?_) (fun h => ?_))))
      · have e : k = l[j].length - 1 := by
          by_cases e : k = l[j].length - 1
          · exact e
          · have h5 := hz3 j hjl (l[j].length - 1) (by omega)
            have h6 := vvS_use (vc_at hc (l[j].length - 1) (by omega))
            exact absurd (show (l[j].getD (l[j].length - 1) z43).f2 ≤ s by omega) (k4 _ (by omega) (by omega))
        rw [← e]
        refine ev_neg (by simp) ?_
        rw [up j (by omega)]
        exact next
      · rw [up j (by omega)]
        exact next
    refine Ev.step (fun k => laws_FnStores.l0.eq_2 ..) (ev_pos (by omega) (Ev.bind h1 (Ev.bind hw (ev_pos rfl (ev_pos rfl (ev_pos (by omega) (ev_pos ?_ (ev_neg ?_ tail))))))))
    · rw [rd_j]; exact h3
    · show ¬ (l[j].getD k z43).f2 > s
      omega
theorem FnStores : laws_FnStores.Pure := by
  intro l _ hl _
  refine Ev.rounds (g := fun k => laws_FnStores.f k l) ?_
  refine ev_bindo rfl ?_
  refine ev_ite (fun _ => Ev.now _) (fun _ => ?_)
  obtain ⟨m, s, hd, m1, m2⟩ := state_draw l (by omega)
  have hm : m.length ≤ 9223372036854775806 := by omega
  have hin : ∀ x ∈ m, x.length ≤ 9223372036854775806 := fun x hx => by have := m2 x hx; omega
  obtain ⟨q, q1, q2, q3, q4⟩ := sa_char m hm hin s 6 0 [] (by omega) rfl (fun j hj => by omega)
  obtain ⟨z, z1, z2⟩ := LastStamp_both m hm hin
  obtain ⟨c, c1, c2⟩ := count_both m hm
  classical
  obtain ⟨r, h1, h2⟩ : ∃ r, (okF q 0 → r = fsS q q.length) ∧ (¬ okF q 0 → r = []) := by
    by_cases h : okF q 0
    · exact ⟨_, fun _ => rfl, fun h' => absurd h h'⟩
    · exact ⟨_, fun h' => absurd h' h, fun _ => rfl⟩
  have g1 : Ev (fun k => spec_FormatState.f k q) (bs r) := spec_fs q (by omega) r q.length 0 (by omega) (fun j hj => by omega) h1 h2
  have g2 : Ev (fun k => impl_FormatState.f k q) (bs r) := impl_fs q (by omega) r q.length 0 (by omega) (fun j hj => by omega) h1 h2
  refine Ev.bind hd (Ev.bind (a := q) q2 (Ev.bind (a := q) q1 (Ev.bind (same_self q (by omega)) (ev_pos rfl (Ev.bind z2 (Ev.bind z1 (ev_pos rfl (Ev.bind c2 (Ev.bind c1 (ev_pos rfl (Ev.bind (impl_vs m hin) (Ev.bind (spec_vs m hm hin) (ev_neg (by simp) (Ev.bind g2 (Ev.bind g1 ?_)))))))))))))))
  exact Ev.step (fun k => laws_FnStores.j0.eq_2 ..) (ev_neg (by simp) (keys_loop m hm hin s q q3 q4 q.length 0 (by omega)))


end Go.Proofs.YtacdaekigoldaaaDoor.Pure
