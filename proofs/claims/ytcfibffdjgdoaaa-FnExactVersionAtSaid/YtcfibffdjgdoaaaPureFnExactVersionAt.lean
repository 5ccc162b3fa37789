/- VersionAt of the program and of the reference answer alike for every list of versions and every stamp. No condition. -/
import Derived.Test.YtcfibffdjgdoaaaPFnExactVersionAtx5
import Derived.Test.YtcfibffdjgdoaaaMEv
namespace Go.Proofs.Ytcfibffdjgdoaaa.Pure
open Go Go.RowKit Go.Proofs.Ytcfibffdjgdoaaa.PFnExactVersionAt Go.Proofs.YtcfibffdjgdoaaaW.PrintWords Go.Proofs.YtcfibffdjgdoaaaW.PrintLast Go.Proofs.YtcfibffdjgdoaaaW.PrintMore Go.Proofs.YtcfibffdjgdoaaaM
set_option linter.unusedVariables false
set_option linter.unusedSimpArgs false

theorem spec_in (a b c : Int) : spec_l1In.f a b c = some (decide (b ≤ a ∧ a ≤ c)) := by
  unfold spec_l1In.f
  by_cases h : b ≤ a <;> simp [h]
theorem impl_in_ (a b c : Int) : impl_in.f a b c = some (decide (b ≤ a ∧ a ≤ c)) := by
  unfold impl_in.f
  by_cases h : b ≤ a <;> simp [h]
/-- What a right version is. -/
def vv (a0 a1 a2 a3 a4 : Int) : Bool := decide ((-1 ≤ a1 ∧ a1 ≤ 99) ∧ (0 ≤ a2 ∧ a2 ≤ 999) ∧ (a2 ≤ a3 ∧ a3 ≤ 999) ∧ (1 ≤ a4 ∧ a4 ≤ 1000) ∧ (a2 = 0 → a0 = 0 ∧ a1 = -1) ∧ (a2 ≠ 0 → 1 ≤ a0 ∧ a0 ≤ 9))
theorem spec_vv (a0 a1 a2 a3 a4 : Int) : Ev (fun k => spec_IsValidVersion.f k a0 a1 a2 a3 a4) (vv a0 a1 a2 a3 a4) := by
  unfold spec_IsValidVersion.f
  simp only [spec_in, Option.bind_some]
  have hj : ∀ b : Bool, Ev (fun k => spec_IsValidVersion.j0 k b a0 a1 a2 a3 a4) (!b && decide ((a2 = 0 → a0 = 0 ∧ a1 = -1) ∧ (a2 ≠ 0 → 1 ≤ a0 ∧ a0 ≤ 9))) := by
    intro b
    refine Ev.step (fun k => spec_IsValidVersion.j0.eq_2 ..) ?_
    simp only [spec_in, Option.bind_some]
    repeat' refine ev_ite (fun h => ?_) (fun h => ?_)
    all_goals
      refine ev_eq (Ev.now _) ?_
      rw [Bool.eq_iff_iff]
      simp only [decide_eq_true_eq, beq_iff_eq, Bool.not_eq_true', Bool.and_eq_true, Bool.not_eq_true, Bool.false_eq_true, false_iff, true_iff] at *
      simp [*] <;> omega
  repeat' refine ev_ite (fun h => ?_) (fun h => ?_)
  all_goals
    refine ev_eq (hj _) ?_
    rw [Bool.eq_iff_iff]
    simp only [vv, decide_eq_true_eq, Bool.not_not, Bool.not_true, Bool.false_and, Bool.and_eq_true, Bool.false_eq_true, false_iff] at *
    omega
theorem impl_vv (a0 a1 a2 a3 a4 : Int) : Ev (fun k => impl_IsValidVersion.f k a0 a1 a2 a3 a4) (vv a0 a1 a2 a3 a4) := by
  unfold impl_IsValidVersion.f
  simp only [impl_isValue.f, impl_isID.f, impl_in_, Option.bind_some]
  have hj : ∀ b : Bool, Ev (fun k => impl_IsValidVersion.j0 k b a0 a1 a2 a3 a4) (!b && decide ((a2 = 0 → a0 = 0 ∧ a1 = -1) ∧ (a2 ≠ 0 → 1 ≤ a0 ∧ a0 ≤ 9))) := by
    intro b
    refine Ev.step (fun k => impl_IsValidVersion.j0.eq_2 ..) ?_
    simp only [impl_isValue.f, impl_isID.f, impl_in_, Option.bind_some]
    repeat' refine ev_ite (fun h => ?_) (fun h => ?_)
    all_goals
      refine ev_eq (Ev.now _) ?_
      rw [Bool.eq_iff_iff]
      simp only [decide_eq_true_eq, beq_iff_eq, Bool.not_eq_true', Bool.and_eq_true, Bool.not_eq_true, Bool.false_eq_true, false_iff, true_iff] at *
      simp [*] <;> omega
  repeat' refine ev_ite (fun h => ?_) (fun h => ?_)
  all_goals
    refine ev_eq (hj _) ?_
    rw [Bool.eq_iff_iff]
    simp only [vv, decide_eq_true_eq, Bool.not_not, Bool.not_true, Bool.false_and, Bool.and_eq_true, Bool.false_eq_true, false_iff] at *
    omega
/-- A version of the law's as one of the program's. -/
def cv (v : S73) : S33 := ⟨v.f0, v.f1, v.f2, v.f3, v.f4⟩
theorem to_loop (l : List S73) (hl : l.length ≤ 1048576) (d : Nat) : ∀ i, i + d = l.length → Ev (fun k => laws_toVersionS.l0 k l ((l.take i).map cv ++ List.replicate d z33) (i : Int)) (l.map cv) := by
  induction d with
  | zero =>
    intro i hi
    refine Ev.step (fun k => laws_toVersionS.l0.eq_2 ..) (ev_neg (by omega) ?_)
    rw [List.take_of_length_le (by omega), List.replicate_zero, List.append_nil]
    exact Ev.now _
  | succ d ih =>
    intro i hi
    refine Ev.step (fun k => laws_toVersionS.l0.eq_2 ..) (ev_pos (by omega) (ev_pos (by omega) ?_))
    simp only [laws_toVersion.f, Option.bind_some]
    refine ev_pos (by simp; omega) ?_
    rw [up i (by omega)]
    have h1 : ((l.take i).map cv ++ List.replicate (d + 1) z33).set ((i : Int)).toNat (cv (rd_T73 l (i : Int))) = (l.take (i + 1)).map cv ++ List.replicate d z33 := by
      have h2 : rd_T73 l (i : Int) = l[i] := by unfold rd_T73; exact get_eq l _ i (by omega)
      have h3 : ((l.take i).map cv).length = i := by simp; omega
      rw [h2, Int.toNat_natCast, List.set_append_right _ _ (by omega), h3, Nat.sub_self, List.replicate_succ, List.set_cons_zero, List.take_succ_eq_append_getElem (by omega), List.map_append]
      simp
    exact h1 ▸ ih (i + 1) (by omega)
theorem to_vs (l : List S73) (hl : l.length ≤ 1048576) : Ev (fun k => laws_toVersionS.f k l) (l.map cv) := by
  unfold laws_toVersionS.f
  refine ev_pos (by omega) (ev_pos (by omega) ?_)
  have := to_loop l hl l.length 0 (by omega)
  rw [List.take_zero, List.map_nil, List.nil_append] at this
  exact this
theorem eq_vs (a : List S33) (hl : a.length ≤ 9223372036854775806) : Ev (fun k => laws_eqVersionS.f k a a) true := by
  unfold laws_eqVersionS.f
  refine ev_pos rfl ?_
  have h : ∀ d i, i + d = a.length → Ev (fun k => laws_eqVersionS.l0 k a a (i : Int)) true := by
    intro d
    induction d with
    | zero =>
      intro i hi
      exact Ev.step (fun k => laws_eqVersionS.l0.eq_2 ..) (ev_neg (by omega) (Ev.now _))
    | succ d ih =>
      intro i hi
      refine Ev.step (fun k => laws_eqVersionS.l0.eq_2 ..) (ev_pos (by omega) (ev_pos (by omega) (ev_pos (by omega) ?_)))
      simp only [laws_eqVersion.f, if_true, Option.bind_some]
      rw [up i (by omega)]
      exact ih (i + 1) (by omega)
  exact h a.length 0 (by omega)
/-- The size that the law allows. -/
theorem sz_vs (l : List S73) (hl : l.length ≤ 9223372036854775807) (n : Int) (h0 : 0 ≤ n) (hn : n ≤ 1048576) : ∃ r, laws_szVersionS.f l n = some r ∧ (0 ≤ r → r = n - l.length) ∧ (r < 0 → n < l.length) := by
  unfold laws_szVersionS.f
  rw [w64 (by omega) (by omega)]
  by_cases h : n - (l.length : Int) < 0
  · exact ⟨-1, by rw [if_pos h], fun h2 => by omega, fun _ => by omega⟩
  · exact ⟨n - l.length, by rw [if_neg h], fun _ => rfl, fun h2 => absurd h2 h⟩
/-- One version after another. -/
def Ord (u v : S33) : Prop := ¬ u.f2 ≥ v.f2 ∧ ¬ u.f4 > v.f2
instance (u v : S33) : Decidable (Ord u v) := by unfold Ord; exact inferInstance
def vvS (v : S33) : Bool := vv v.f0 v.f1 v.f2 v.f3 v.f4
def lastOk (l : List S33) : Bool := decide (0 < l.length) && (l.getD (l.length - 1) z33).f4 == 1000
/-- What a right chain is. -/
def vc (l : List S33) : Bool := decide (∀ j, j < l.length → vvS (l.getD j z33) = true ∧ (j + 1 < l.length → Ord (l.getD j z33) (l.getD (j + 1) z33))) && lastOk l
theorem rd_nat (l : List S33) (i : Nat) : rd_T33 l (i : Int) = l.getD i z33 := by unfold rd_T33; rw [Int.toNat_natCast]
theorem last_ev (l : List S33) (hl : l.length ≤ 9223372036854775806) : Ev (fun _ => if (l.length : Int) > 0 then (if 0 ≤ (wrap64 ((l.length : Int) - 1)) then (if (wrap64 ((l.length : Int) - 1)) < (l.length : Int) then (some (((rd_T33 l (wrap64 ((l.length : Int) - 1))).f4) == 1000)) else (none)) else (none)) else (some false)) (lastOk l) := by
  by_cases h : 0 < l.length
  · have e : wrap64 ((l.length : Int) - 1) = ((l.length - 1 : Nat) : Int) := by rw [w64 (by omega) (by omega)]; omega
    rw [e]
    refine ev_pos (by omega) (ev_pos (by omega) (ev_pos (by omega) ?_))
    rw [rd_nat]
    refine ev_eq (Ev.now _) ?_
    unfold lastOk
    rw [decide_eq_true h, Bool.true_and]
  · refine ev_neg (by omega) ?_
    refine ev_eq (Ev.now _) ?_
    unfold lastOk
    rw [decide_eq_false h, Bool.false_and]
theorem spec_vc (l : List S33) (hl : l.length ≤ 9223372036854775806) : Ev (fun k => spec_IsValidChain.f k l) (vc l) := by
  unfold spec_IsValidChain.f vc
  refine all_loop0 (g := fun k i => spec_IsValidChain.l0 k l i) l.length (fun j => vvS (l.getD j z33) = true ∧ (j + 1 < l.length → Ord (l.getD j z33) (l.getD (j + 1) z33))) ?_ ?_ ?_
  · exact Ev.step (fun k => spec_IsValidChain.l0.eq_2 ..) (ev_neg (by omega) (last_ev l hl))
  · intro i hi hp r hr
    refine Ev.step (fun k => spec_IsValidChain.l0.eq_2 ..) (ev_pos (by omega) (ev_pos (by omega) ?_))
    rw [rd_nat, up i (by omega), rd_nat]
    refine Ev.bind (spec_vv _ _ _ _ _) (ev_pos hp.1 (ev_ite (fun h => ?_) (fun _ => hr)))
    have ho := hp.2 (by omega)
    exact ev_pos (by omega) (ev_neg ho.1 (ev_neg ho.2 hr))
  · intro i hi hp
    refine Ev.step (fun k => spec_IsValidChain.l0.eq_2 ..) (ev_pos (by omega) (ev_pos (by omega) ?_))
    rw [rd_nat, up i (by omega), rd_nat]
    refine Ev.bind (spec_vv _ _ _ _ _) (ev_ite (fun h1 => ev_ite (fun h2 => ev_pos (by omega) (ev_ite (fun h3 => Ev.now _) (fun h3 => ev_ite (fun h4 => Ev.now _) (fun h4 => ?_)))) (fun h2 => ?_)) (fun _ => Ev.now _))
    · exact absurd ⟨h1, fun _ => ⟨h3, h4⟩⟩ hp
    · exact absurd ⟨h1, fun h => absurd h (by omega)⟩ hp
theorem impl_vc (l : List S33) (hl : l.length ≤ 9223372036854775806) : Ev (fun k => impl_IsValidChain.f k l) (vc l) := by
  have hv : vc l = (decide (∀ j, j < l.length → vvS (l.getD j z33) = true ∧ (0 < j → Ord (l.getD (j - 1) z33) (l.getD j z33))) && lastOk l) := by
    unfold vc
    congr 1
    rw [decide_eq_decide]
    constructor
    · intro h j hj
      refine ⟨(h j hj).1, fun h0 => ?_⟩
      have := (h (j - 1) (by omega)).2 (by omega)
      rwa [show j - 1 + 1 = j by omega] at this
    · intro h j hj
      refine ⟨(h j hj).1, fun h0 => ?_⟩
      have := (h (j + 1) h0).2 (by omega)
      rwa [show j + 1 - 1 = j by omega] at this
  rw [hv]
  unfold impl_IsValidChain.f
  refine all_loop0 (g := fun k i => impl_IsValidChain.l0 k l l (l.length : Int) i) l.length (fun j => vvS (l.getD j z33) = true ∧ (0 < j → Ord (l.getD (j - 1) z33) (l.getD j z33))) ?_ ?_ ?_
  · exact Ev.step (fun k => impl_IsValidChain.l0.eq_2 ..) (ev_neg (by omega) (last_ev l hl))
  · intro i hi hp r hr
    refine Ev.step (fun k => impl_IsValidChain.l0.eq_2 ..) (ev_pos (by omega) (ev_pos (by omega) (ev_pos (by omega) ?_)))
    rw [rd_nat, up i (by omega)]
    refine Ev.bind (impl_vv _ _ _ _ _) (ev_pos hp.1 (ev_ite (fun h => ?_) (fun _ => hr)))
    have e : wrap64 ((i : Int) - 1) = ((i - 1 : Nat) : Int) := by rw [w64 (by omega) (by omega)]; omega
    rw [e, rd_nat]
    have ho := hp.2 (by omega)
    exact ev_pos (by omega) (ev_pos (by omega) (ev_neg ho.1 (ev_neg ho.2 hr)))
  · intro i hi hp
    refine Ev.step (fun k => impl_IsValidChain.l0.eq_2 ..) (ev_pos (by omega) (ev_pos (by omega) (ev_pos (by omega) ?_)))
    rw [rd_nat, up i (by omega)]
    refine Ev.bind (impl_vv _ _ _ _ _) (ev_ite (fun h1 => ev_ite (fun h2 => ?_) (fun h2 => ?_)) (fun _ => Ev.now _))
    · have e : wrap64 ((i : Int) - 1) = ((i - 1 : Nat) : Int) := by rw [w64 (by omega) (by omega)]; omega
      rw [e, rd_nat]
      exact ev_pos (by omega) (ev_pos (by omega) (ev_ite (fun h3 => Ev.now _) (fun h3 => ev_ite (fun h4 => Ev.now _) (fun h4 => absurd ⟨h1, fun _ => ⟨h3, h4⟩⟩ hp))))
    · exact absurd ⟨h1, fun h => absurd h (by omega)⟩ hp
/-- The index of a chain's last version that was made by a stamp. -/
def atOf (l : List S33) (s : Int) : Int := if vc l = true then lastIdx (fun j => (l.getD j z33).f2 ≤ s) l.length else -1
theorem spec_at (l : List S33) (hl : l.length ≤ 9223372036854775806) (s : Int) : Ev (fun k => spec_VersionAt.f k l s) (atOf l s) := by
  unfold spec_VersionAt.f atOf
  by_cases h : vc l = true
  · rw [if_pos h]
    have : ∀ d i, i + d = l.length → Ev (fun k => spec_VersionAt.l0 k l s (lastIdx (fun j => (l.getD j z33).f2 ≤ s) i) (i : Int)) (lastIdx (fun j => (l.getD j z33).f2 ≤ s) l.length) := by
      intro d
      induction d with
      | zero =>
        intro i hi
        obtain rfl : i = l.length := by omega
        exact Ev.step (fun k => spec_VersionAt.l0.eq_2 ..) (ev_neg (by omega) (Ev.step (fun k => spec_VersionAt.j1.eq_2 ..) (ev_neg (by simp) (Ev.now _))))
      | succ d ih =>
        intro i hi
        refine Ev.step (fun k => spec_VersionAt.l0.eq_2 ..) (ev_pos (by omega) (Ev.bind (spec_vc l hl) (Ev.step (fun k => spec_VersionAt.j1.eq_2 ..) (ev_pos h (ev_pos (by omega) (ev_pos (by omega) ?_))))))
        rw [rd_nat, up i (by omega)]
        have := ih (i + 1) (by omega)
        simp only [lastIdx] at this
        by_cases hp : (l.getD i z33).f2 ≤ s
        · rw [if_pos hp] at this
          exact ev_pos hp this
        · rw [if_neg hp] at this
          exact ev_neg hp this
    exact this l.length 0 (by omega)
  · rw [if_neg h]
    by_cases h0 : 0 < l.length
    · exact Ev.step (fun k => spec_VersionAt.l0.eq_2 ..) (ev_pos (by omega) (Ev.bind (spec_vc l hl) (Ev.step (fun k => spec_VersionAt.j1.eq_2 ..) (ev_neg h (Ev.now _)))))
    · exact Ev.step (fun k => spec_VersionAt.l0.eq_2 ..) (ev_neg (by omega) (Ev.step (fun k => spec_VersionAt.j1.eq_2 ..) (ev_neg (by simp) (Ev.now _))))
theorem impl_at0 (l : List S33) (hl : l.length ≤ 9223372036854775806) (s : Int) : Ev (fun k => impl_versionAt.f k l s) (lastIdx (fun j => (l.getD j z33).f2 ≤ s) l.length) := by
  unfold impl_versionAt.f
  have : ∀ m : Nat, m ≤ l.length → Ev (fun k => impl_versionAt.l0 k l s ((m : Int) - 1)) (lastIdx (fun j => (l.getD j z33).f2 ≤ s) m) := by
    intro m
    induction m with
    | zero => intro _; exact Ev.step (fun k => impl_versionAt.l0.eq_2 ..) (ev_neg (by omega) (Ev.now _))
    | succ m ih =>
      intro hm
      rw [show ((m + 1 : Nat) : Int) - 1 = (m : Int) by omega]
      refine Ev.step (fun k => impl_versionAt.l0.eq_2 ..) (ev_pos (by omega) (ev_pos (by omega) (ev_pos (by omega) ?_)))
      rw [rd_nat, w64 (n := (m : Int) - 1) (by omega) (by omega)]
      simp only [lastIdx]
      by_cases hp : (l.getD m z33).f2 ≤ s
      · rw [if_pos hp]
        exact ev_neg (by omega) (Ev.now _)
      · rw [if_neg hp]
        exact ev_pos (by omega) (ih (by omega))
  rw [w64 (by omega) (by omega)]
  exact this l.length (Nat.le_refl _)
theorem impl_at (l : List S33) (hl : l.length ≤ 9223372036854775806) (s : Int) : Ev (fun k => impl_VersionAt.f k l s) (atOf l s) := by
  unfold impl_VersionAt.f atOf
  refine Ev.bind (impl_vc l hl) (ev_ite (fun h => ?_) (fun h => ?_))
  · rw [if_pos h]
    exact Ev.bind (impl_at0 l hl s) (Ev.now _)
  · rw [if_neg h]
    exact Ev.now _
theorem FnExactVersionAt : laws_FnExactVersionAt.Pure := by
  intro l s hl _
  refine Ev.rounds (g := fun k => laws_FnExactVersionAt.f k l s) ?_
  obtain ⟨r, h1, h2, _⟩ := sz_vs l hl 1048576 (by omega) (by omega)
  refine ev_bindo h1 (ev_ite (fun _ => Ev.now _) (fun h3 => ?_))
  have hl' : l.length ≤ 1048576 := by have := h2 (by omega); omega
  have ht := to_vs l hl'
  exact Ev.bind ht (Ev.bind (spec_at _ (by simp; omega) s) (Ev.bind ht (Ev.bind (impl_at _ (by simp; omega) s) (ev_pos rfl (Ev.bind ht (Ev.bind (eq_vs _ (by simp; omega)) (ev_pos rfl (Ev.now _))))))))

end Go.Proofs.Ytcfibffdjgdoaaa.Pure
