/- Both read the same version. -/
import Derived.Test.YtlnglooomeliiaaPFnExactReadLatestx7
import Derived.Test.YtlnglooomeliiaaMEv
namespace Go.Proofs.Ytlnglooomeliiaa.Pure
open Go Go.RowKit Go.Proofs.Ytlnglooomeliiaa.PFnExactReadLatest Go.Proofs.YtlnglooomeliiaaW.PrintWords Go.Proofs.YtlnglooomeliiaaW.PrintLast Go.Proofs.YtlnglooomeliiaaW.PrintMore Go.Proofs.YtlnglooomeliiaaM
set_option linter.unusedVariables false
set_option linter.unusedSimpArgs false

theorem spec_in (a b c : Int) : spec_l1In.f a b c = some (decide (b ≤ a ∧ a ≤ c)) := by
  unfold spec_l1In.f
  by_cases h : b ≤ a <;> simp [h]
theorem impl_in_ (a b c : Int) : impl_in.f a b c = some (decide (b ≤ a ∧ a ≤ c)) := by
  unfold impl_in.f
  by_cases h : b ≤ a <;> simp [h]
/-- What a right version is. -/
def vv (a0 a1 a2 a3 a4 : Int) : Bool := decide ((-1 ≤ a1 ∧ a1 ≤ 99) ∧ (0 ≤ a2 ∧ a2 ≤ 999) ∧ (a2 ≤ a3 ∧ a3 ≤ 999) ∧ (1 ≤ a4 ∧ a4 ≤ 1000) ∧ (a2 = 0 → a0 = 0 ∧ a1 = -1) ∧ (a2 ≠ 0 → 1 ≤ a0 ∧ a0 ≤ 9))
theorem spec_vv (a0 a1 a2 a3 a4 : Int) : Ev (fun k => spec_IsValidVersion.f k a0 a1 a2 a3 a4) (vv a0 a1 a2 a3 a4) := by
  unfold spec_IsValidVersion.f
  simp only [spec_in, Option.bind_some]
  have hj : ∀ b : Bool, Ev (fun k => spec_IsValidVersion.j0 k b a0 a1 a2 a3 a4) (!b && decide ((a2 = 0 → a0 = 0 ∧ a1 = -1) ∧ (a2 ≠ 0 → 1 ≤ a0 ∧ a0 ≤ 9))) := by
    intro b
    refine Ev.step (fun k => spec_IsValidVersion.j0.eq_2 ..) ?_
    simp only [spec_in, Option.bind_some]
    repeat' refine ev_ite (fun h => ?_) (fun h => ?_)
    all_goals
      refine ev_eq (Ev.now _) ?_
      rw [Bool.eq_iff_iff]
      simp only [decide_eq_true_eq, beq_iff_eq, Bool.not_eq_true', Bool.and_eq_true, Bool.not_eq_true, Bool.false_eq_true, false_iff, true_iff] at *
      simp [*] <;> omega
  repeat' refine ev_ite (fun h => ?_) (fun h => ?_)
  all_goals
    refine ev_eq (hj _) ?_
    rw [Bool.eq_iff_iff]
    simp only [vv, decide_eq_true_eq, Bool.not_not, Bool.not_true, Bool.false_and, Bool.and_eq_true, Bool.false_eq_true, false_iff] at *
    omega
theorem impl_vv (a0 a1 a2 a3 a4 : Int) : Ev (fun k => impl_IsValidVersion.f k a0 a1 a2 a3 a4) (vv a0 a1 a2 a3 a4) := by
  unfold impl_IsValidVersion.f
  simp only [impl_isValue.f, impl_isID.f, impl_in_, Option.bind_some]
  have hj : ∀ b : Bool, Ev (fun k => impl_IsValidVersion.j0 k b a0 a1 a2 a3 a4) (!b && decide ((a2 = 0 → a0 = 0 ∧ a1 = -1) ∧ (a2 ≠ 0 → 1 ≤ a0 ∧ a0 ≤ 9))) := by
    intro b
    refine Ev.step (fun k => impl_IsValidVersion.j0.eq_2 ..) ?_
    simp only [impl_isValue.f, impl_isID.f, impl_in_, Option.bind_some]
    repeat' refine ev_ite (fun h => ?_) (fun h => ?_)
    all_goals
      refine ev_eq (Ev.now _) ?_
      rw [Bool.eq_iff_iff]
      simp only [decide_eq_true_eq, beq_iff_eq, Bool.not_eq_true', Bool.and_eq_true, Bool.not_eq_true, Bool.false_eq_true, false_iff, true_iff] at *
      simp [*] <;> omega
  repeat' refine ev_ite (fun h => ?_) (fun h => ?_)
  all_goals
    refine ev_eq (hj _) ?_
    rw [Bool.eq_iff_iff]
    simp only [vv, decide_eq_true_eq, Bool.not_not, Bool.not_true, Bool.false_and, Bool.and_eq_true, Bool.false_eq_true, false_iff] at *
    omega
/-- A version of the law's as one of the program's. -/
def cv (v : S117) : S27 := ⟨v.f0, v.f1, v.f2, v.f3, v.f4⟩
theorem to_loop (l : List S117) (hl : l.length ≤ 1048576) (d : Nat) : ∀ i, i + d = l.length → Ev (fun k => laws_toVersionS.l0 k l ((l.take i).map cv ++ List.replicate d z27) (i : Int)) (l.map cv) := by
  induction d with
  | zero =>
    intro i hi
    refine Ev.step (fun k => laws_toVersionS.l0.eq_2 ..) (ev_neg (by omega) ?_)
    rw [List.take_of_length_le (by omega), List.replicate_zero, List.append_nil]
    exact Ev.now _
  | succ d ih =>
    intro i hi
    refine Ev.step (fun k => laws_toVersionS.l0.eq_2 ..) (ev_pos (by omega) (ev_pos (by omega) ?_))
    simp only [laws_toVersion.f, Option.bind_some]
    refine ev_pos (by simp; omega) ?_
    rw [up i (by omega)]
    have h1 : ((l.take i).map cv ++ List.replicate (d + 1) z27).set ((i : Int)).toNat (cv (rd_T117 l (i : Int))) = (l.take (i + 1)).map cv ++ List.replicate d z27 := by
      have h2 : rd_T117 l (i : Int) = l[i] := by unfold rd_T117; exact get_eq l _ i (by omega)
      have h3 : ((l.take i).map cv).length = i := by simp; omega
      rw [h2, Int.toNat_natCast, List.set_append_right _ _ (by omega), h3, Nat.sub_self, List.replicate_succ, List.set_cons_zero, List.take_succ_eq_append_getElem (by omega), List.map_append]
      simp
    exact h1 ▸ ih (i + 1) (by omega)
theorem to_vs (l : List S117) (hl : l.length ≤ 1048576) : Ev (fun k => laws_toVersionS.f k l) (l.map cv) := by
  unfold laws_toVersionS.f
  refine ev_pos (by omega) (ev_pos (by omega) ?_)
  have := to_loop l hl l.length 0 (by omega)
  rw [List.take_zero, List.map_nil, List.nil_append] at this
  exact this
theorem eq_vs (a : List S27) (hl : a.length ≤ 9223372036854775806) : Ev (fun k => laws_eqVersionS.f k a a) true := by
  unfold laws_eqVersionS.f
  refine ev_pos rfl ?_
  have h : ∀ d i, i + d = a.length → Ev (fun k => laws_eqVersionS.l0 k a a (i : Int)) true := by
    intro d
    induction d with
    | zero =>
      intro i hi
      exact Ev.step (fun k => laws_eqVersionS.l0.eq_2 ..) (ev_neg (by omega) (Ev.now _))
    | succ d ih =>
      intro i hi
      refine Ev.step (fun k => laws_eqVersionS.l0.eq_2 ..) (ev_pos (by omega) (ev_pos (by omega) (ev_pos (by omega) ?_)))
      simp only [laws_eqVersion.f, if_true, Option.bind_some]
      rw [up i (by omega)]
      exact ih (i + 1) (by omega)
  exact h a.length 0 (by omega)
/-- The size that the law allows. -/
theorem sz_vs (l : List S117) (hl : l.length ≤ 9223372036854775807) (n : Int) (h0 : 0 ≤ n) (hn : n ≤ 1048576) : ∃ r, laws_szVersionS.f l n = some r ∧ (0 ≤ r → r = n - l.length) ∧ (r < 0 → n < l.length) := by
  unfold laws_szVersionS.f
  rw [w64 (by omega) (by omega)]
  by_cases h : n - (l.length : Int) < 0
  · exact ⟨-1, by rw [if_pos h], fun h2 => by omega, fun _ => by omega⟩
  · exact ⟨n - l.length, by rw [if_neg h], fun _ => rfl, fun h2 => absurd h2 h⟩
theorem rd_L2_at (l : List (List S117)) (i : Nat) (h : i < l.length) : rd_L2 l (i : Int) = l[i] := by unfold rd_L2; exact get_eq l _ i h
theorem rd_L4_at (l : List (List S27)) (i : Nat) (h : i < l.length) : rd_L4 l (i : Int) = l[i] := by unfold rd_L4; exact get_eq l _ i h
/-- A store's size. -/
theorem sz_loop (l : List (List S117)) (hl : l.length ≤ 1048576) (hin : ∀ x ∈ l, x.length ≤ 9223372036854775807) (d : Nat) : ∀ (i : Nat) (n : Int), 0 ≤ n → n ≤ 1048576 → i + d = l.length →
    ∃ r, Ev (fun k => laws_szVersionSS.l0 k l n (i : Int)) r ∧ (0 ≤ r → r ≤ n ∧ ∀ j (h : j < l.length), i ≤ j → (l[j].length : Int) ≤ n) := by
  induction d with
  | zero =>
    intro i n h0 h1 hi
    exact ⟨n, Ev.step (fun k => laws_szVersionSS.l0.eq_2 ..) (ev_neg (by omega) (Ev.now _)), fun _ => ⟨Int.le_refl _, fun j h1 h2 => by omega⟩⟩
  | succ d ih =>
    intro i n h0 h1 hi
    obtain ⟨q, hq, hq1, hq2⟩ := sz_vs l[i] (hin _ (List.getElem_mem (by omega))) n h0 h1
    by_cases hneg : q < 0
    · refine ⟨-1, Ev.step (fun k => laws_szVersionSS.l0.eq_2 ..) (ev_pos (by omega) (ev_pos (by omega) ?_)), fun h => by omega⟩
      rw [rd_L2_at l i (by omega)]
      exact ev_bindo hq (ev_pos hneg (Ev.now _))
    · have hq3 := hq1 (by omega)
      obtain ⟨r, hr, hr1⟩ := ih (i + 1) q (by omega) (by omega) (by omega)
      refine ⟨r, Ev.step (fun k => laws_szVersionSS.l0.eq_2 ..) (ev_pos (by omega) (ev_pos (by omega) ?_)), fun h => ?_⟩
      · rw [rd_L2_at l i (by omega), up i (by omega)]
        exact ev_bindo hq (ev_neg hneg hr)
      · obtain ⟨h2, h3⟩ := hr1 h
        refine ⟨by omega, fun j hj hij => ?_⟩
        by_cases e : j = i
        · subst e; omega
        · have := h3 j hj (by omega); omega
theorem sz_store (l : List (List S117)) (hl : l.length ≤ 9223372036854775807) (hin : ∀ x ∈ l, x.length ≤ 9223372036854775807) (n : Int) (h0 : 0 ≤ n) (h1 : n ≤ 1048576) :
    ∃ r, Ev (fun k => laws_szStore.f k l n) r ∧ (0 ≤ r → r ≤ n ∧ (l.length : Int) ≤ n ∧ ∀ x ∈ l, (x.length : Int) ≤ n) := by
  unfold laws_szStore.f laws_szVersionSS.f
  rw [w64 (by omega) (by omega)]
  by_cases h : n - (l.length : Int) < 0
  · refine ⟨-1, Ev.bind (a := -1) (ev_pos h (Ev.now _)) (ev_pos (by omega) (Ev.now _)), fun h => by omega⟩
  · obtain ⟨r, hr, hr1⟩ := sz_loop l (by omega) hin l.length 0 (n - l.length) (by omega) (by omega) (by omega)
    by_cases hneg : r < 0
    · exact ⟨-1, Ev.bind (a := r) (ev_neg h hr) (ev_pos hneg (Ev.now _)), fun h => by omega⟩
    · refine ⟨r, Ev.bind (a := r) (ev_neg h hr) (ev_neg hneg (Ev.now _)), fun h2 => ?_⟩
      obtain ⟨h3, h4⟩ := hr1 h2
      refine ⟨by omega, by omega, fun x hx => ?_⟩
      obtain ⟨j, hj, rfl⟩ := List.mem_iff_getElem.1 hx
      have := h4 j hj (by omega)
      omega
/-- A store of the law's as one of the program's. -/
def cs (l : List (List S117)) : List (List S27) := l.map fun x => x.map cv
theorem cs_len (l : List (List S117)) : (cs l).length = l.length := by simp [cs]
theorem cs_in {l : List (List S117)} {n : Nat} (h : ∀ x ∈ l, x.length ≤ n) : ∀ x ∈ cs l, x.length ≤ n := by
  intro x hx
  simp only [cs, List.mem_map] at hx
  obtain ⟨y, hy, rfl⟩ := hx
  simpa using h y hy
theorem tos_loop (l : List (List S117)) (hl : l.length ≤ 1048576) (hin : ∀ x ∈ l, x.length ≤ 1048576) (d : Nat) : ∀ i, i + d = l.length → Ev (fun k => laws_toVersionSS.l0 k l (cs (l.take i) ++ List.replicate d []) (i : Int)) (cs l) := by
  induction d with
  | zero =>
    intro i hi
    refine Ev.step (fun k => laws_toVersionSS.l0.eq_2 ..) (ev_neg (by omega) ?_)
    rw [List.take_of_length_le (by omega), List.replicate_zero, List.append_nil]
    exact Ev.now _
  | succ d ih =>
    intro i hi
    have h3 : (cs (l.take i)).length = i := by simp [cs]; omega
    refine Ev.step (fun k => laws_toVersionSS.l0.eq_2 ..) (ev_pos (by omega) (ev_pos (by omega) ?_))
    rw [rd_L2_at l i (by omega), up i (by omega)]
    refine Ev.bind (to_vs l[i] (hin _ (List.getElem_mem (by omega)))) (ev_pos (by rw [List.length_append, h3, List.length_replicate]; omega) ?_)
    have h1 : (cs (l.take i) ++ List.replicate (d + 1) []).set ((i : Int)).toNat (l[i].map cv) = cs (l.take (i + 1)) ++ List.replicate d [] := by
      rw [Int.toNat_natCast, List.set_append_right _ _ (by omega), h3, Nat.sub_self, List.replicate_succ, List.set_cons_zero, List.take_succ_eq_append_getElem (by omega)]
      simp only [cs, List.map_append, List.map_cons, List.map_nil, List.append_assoc, List.singleton_append]
    exact h1 ▸ ih (i + 1) (by omega)
theorem to_store (l : List (List S117)) (hl : l.length ≤ 1048576) (hin : ∀ x ∈ l, x.length ≤ 1048576) : Ev (fun k => laws_toStore.f k l) (cs l) := by
  unfold laws_toStore.f laws_toVersionSS.f
  refine Ev.bind (a := cs l) (ev_pos (by omega) (ev_pos (by omega) ?_)) (Ev.now _)
  have := tos_loop l hl hin l.length 0 (by omega)
  rw [List.take_zero] at this
  exact this
theorem eq_store (a : List (List S27)) (hl : a.length ≤ 9223372036854775806) (hin : ∀ x ∈ a, x.length ≤ 9223372036854775806) : Ev (fun k => laws_eqStore.f k a a) true := by
  unfold laws_eqStore.f laws_eqVersionSS.f
  have h : ∀ d i, i + d = a.length → Ev (fun k => laws_eqVersionSS.l0 k a a (i : Int)) true := by
    intro d
    induction d with
    | zero =>
      intro i hi
      exact Ev.step (fun k => laws_eqVersionSS.l0.eq_2 ..) (ev_neg (by omega) (Ev.now _))
    | succ d ih =>
      intro i hi
      refine Ev.step (fun k => laws_eqVersionSS.l0.eq_2 ..) (ev_pos (by omega) (ev_pos (by omega) (ev_pos (by omega) ?_)))
      rw [rd_L4_at a i (by omega), up i (by omega)]
      exact Ev.bind (eq_vs a[i] (hin _ (List.getElem_mem (by omega)))) (ev_pos rfl (ih (i + 1) (by omega)))
  exact Ev.bind (a := true) (ev_pos rfl (h a.length 0 (by omega))) (ev_pos rfl (Ev.now _))
/-- One version after another. -/
def Ord (u v : S27) : Prop := ¬ u.f2 ≥ v.f2 ∧ ¬ u.f4 > v.f2
instance (u v : S27) : Decidable (Ord u v) := by unfold Ord; exact inferInstance
def vvS (v : S27) : Bool := vv v.f0 v.f1 v.f2 v.f3 v.f4
def lastOk (l : List S27) : Bool := decide (0 < l.length) && (l.getD (l.length - 1) z27).f4 == 1000
/-- What a right chain is. -/
def vc (l : List S27) : Bool := decide (∀ j, j < l.length → vvS (l.getD j z27) = true ∧ (j + 1 < l.length → Ord (l.getD j z27) (l.getD (j + 1) z27))) && lastOk l
theorem rd_nat (l : List S27) (i : Nat) : rd_T27 l (i : Int) = l.getD i z27 := by unfold rd_T27; rw [Int.toNat_natCast]
theorem last_ev (l : List S27) (hl : l.length ≤ 9223372036854775806) : Ev (fun _ => if (l.length : Int) > 0 then (if 0 ≤ (wrap64 ((l.length : Int) - 1)) then (if (wrap64 ((l.length : Int) - 1)) < (l.length : Int) then (some (((rd_T27 l (wrap64 ((l.length : Int) - 1))).f4) == 1000)) else (none)) else (none)) else (some false)) (lastOk l) := by
  by_cases h : 0 < l.length
  · have e : wrap64 ((l.length : Int) - 1) = ((l.length - 1 : Nat) : Int) := by rw [w64 (by omega) (by omega)]; omega
    rw [e]
    refine ev_pos (by omega) (ev_pos (by omega) (ev_pos (by omega) ?_))
    rw [rd_nat]
    refine ev_eq (Ev.now _) ?_
    unfold lastOk
    rw [decide_eq_true h, Bool.true_and]
  · refine ev_neg (by omega) ?_
    refine ev_eq (Ev.now _) ?_
    unfold lastOk
    rw [decide_eq_false h, Bool.false_and]
theorem spec_vc (l : List S27) (hl : l.length ≤ 9223372036854775806) : Ev (fun k => spec_IsValidChain.f k l) (vc l) := by
  unfold spec_IsValidChain.f vc
  refine all_loop0 (g := fun k i => spec_IsValidChain.l0 k l i) l.length (fun j => vvS (l.getD j z27) = true ∧ (j + 1 < l.length → Ord (l.getD j z27) (l.getD (j + 1) z27))) ?_ ?_ ?_
  · exact Ev.step (fun k => spec_IsValidChain.l0.eq_2 ..) (ev_neg (by omega) (last_ev l hl))
  · intro i hi hp r hr
    refine Ev.step (fun k => spec_IsValidChain.l0.eq_2 ..) (ev_pos (by omega) (ev_pos (by omega) ?_))
    rw [rd_nat, up i (by omega), rd_nat]
    refine Ev.bind (spec_vv _ _ _ _ _) (ev_pos hp.1 (ev_ite (fun h => ?_) (fun _ => hr)))
    have ho := hp.2 (by omega)
    exact ev_pos (by omega) (ev_neg ho.1 (ev_neg ho.2 hr))
  · intro i hi hp
    refine Ev.step (fun k => spec_IsValidChain.l0.eq_2 ..) (ev_pos (by omega) (ev_pos (by omega) ?_))
    rw [rd_nat, up i (by omega), rd_nat]
    refine Ev.bind (spec_vv _ _ _ _ _) (ev_ite (fun h1 => ev_ite (fun h2 => ev_pos (by omega) (ev_ite (fun h3 => Ev.now _) (fun h3 => ev_ite (fun h4 => Ev.now _) (fun h4 => ?_)))) (fun h2 => ?_)) (fun _ => Ev.now _))
    · exact absurd ⟨h1, fun _ => ⟨h3, h4⟩⟩ hp
    · exact absurd ⟨h1, fun h => absurd h (by omega)⟩ hp
theorem impl_vc (l : List S27) (hl : l.length ≤ 9223372036854775806) : Ev (fun k => impl_IsValidChain.f k l) (vc l) := by
  have hv : vc l = (decide (∀ j, j < l.length → vvS (l.getD j z27) = true ∧ (0 < j → Ord (l.getD (j - 1) z27) (l.getD j z27))) && lastOk l) := by
    unfold vc
    congr 1
    rw [decide_eq_decide]
    constructor
    · intro h j hj
      refine ⟨(h j hj).1, fun h0 => ?_⟩
      have := (h (j - 1) (by omega)).2 (by omega)
      rwa [show j - 1 + 1 = j by omega] at this
    · intro h j hj
      refine ⟨(h j hj).1, fun h0 => ?_⟩
      have := (h (j + 1) h0).2 (by omega)
      rwa [show j + 1 - 1 = j by omega] at this
  rw [hv]
  unfold impl_IsValidChain.f
  refine all_loop0 (g := fun k i => impl_IsValidChain.l0 k l l (l.length : Int) i) l.length (fun j => vvS (l.getD j z27) = true ∧ (0 < j → Ord (l.getD (j - 1) z27) (l.getD j z27))) ?_ ?_ ?_
  · exact Ev.step (fun k => impl_IsValidChain.l0.eq_2 ..) (ev_neg (by omega) (last_ev l hl))
  · intro i hi hp r hr
    refine Ev.step (fun k => impl_IsValidChain.l0.eq_2 ..) (ev_pos (by omega) (ev_pos (by omega) (ev_pos (by omega) ?_)))
    rw [rd_nat, up i (by omega)]
    refine Ev.bind (impl_vv _ _ _ _ _) (ev_pos hp.1 (ev_ite (fun h => ?_) (fun _ => hr)))
    have e : wrap64 ((i : Int) - 1) = ((i - 1 : Nat) : Int) := by rw [w64 (by omega) (by omega)]; omega
    rw [e, rd_nat]
    have ho := hp.2 (by omega)
    exact ev_pos (by omega) (ev_pos (by omega) (ev_neg ho.1 (ev_neg ho.2 hr)))
  · intro i hi hp
    refine Ev.step (fun k => impl_IsValidChain.l0.eq_2 ..) (ev_pos (by omega) (ev_pos (by omega) (ev_pos (by omega) ?_)))
    rw [rd_nat, up i (by omega)]
    refine Ev.bind (impl_vv _ _ _ _ _) (ev_ite (fun h1 => ev_ite (fun h2 => ?_) (fun h2 => ?_)) (fun _ => Ev.now _))
    · have e : wrap64 ((i : Int) - 1) = ((i - 1 : Nat) : Int) := by rw [w64 (by omega) (by omega)]; omega
      rw [e, rd_nat]
      exact ev_pos (by omega) (ev_pos (by omega) (ev_ite (fun h3 => Ev.now _) (fun h3 => ev_ite (fun h4 => Ev.now _) (fun h4 => absurd ⟨h1, fun _ => ⟨h3, h4⟩⟩ hp))))
    · exact absurd ⟨h1, fun h => absurd h (by omega)⟩ hp
theorem vc_pos {l : List S27} (h : vc l = true) : 0 < l.length := by
  unfold vc lastOk at h
  simp only [Bool.and_eq_true, decide_eq_true_eq] at h
  exact h.2.1
def chainOk (l : List S27) : Bool := vc l && decide (l.length ≤ 50)
/-- What a right store is. -/
def vs (l : List (List S27)) : Bool := decide (l.length = 6) && l.all chainOk
theorem all_get {α : Type} (l : List α) (p : α → Bool) : l.all p = decide (∀ j (h : j < l.length), p l[j] = true) := by
  rw [Bool.eq_iff_iff, List.all_eq_true, decide_eq_true_eq]
  constructor
  · intro h j hj
    exact h _ (List.getElem_mem hj)
  · intro h x hx
    obtain ⟨j, hj, rfl⟩ := List.mem_iff_getElem.1 hx
    exact h j hj
theorem spec_vs (l : List (List S27)) (hl : l.length ≤ 9223372036854775806) (hin : ∀ x ∈ l, x.length ≤ 9223372036854775806) : Ev (fun k => spec_IsValidStore.f k l) (vs l) := by
  have e : vs l = (decide (∀ j, j < l.length → chainOk (l.getD j []) = true) && ((l.length : Int) == 6)) := by
    unfold vs
    rw [all_get, Bool.and_comm]
    congr 1
    · rw [decide_eq_decide]
      constructor
      · intro h j hj
        rw [List.getD_eq_getElem?_getD, List.getElem?_eq_getElem hj]
        exact h j hj
      · intro h j hj
        have := h j hj
        rwa [List.getD_eq_getElem?_getD, List.getElem?_eq_getElem hj] at this
    · rw [Bool.eq_iff_iff, decide_eq_true_eq, beq_iff_eq]
      omega
  rw [e]
  unfold spec_IsValidStore.f
  have hr : ∀ i, i < l.length → rd_L4 l (i : Int) = l.getD i [] := by intro i hi; unfold rd_L4; rw [Int.toNat_natCast]
  have hi' : ∀ i, i < l.length → (l.getD i []).length ≤ 9223372036854775806 := by
    intro i hi
    rw [List.getD_eq_getElem?_getD, List.getElem?_eq_getElem hi]
    exact hin _ (List.getElem_mem hi)
  refine all_loop0 (g := fun k i => spec_IsValidStore.l0 k i l) l.length _ ?_ ?_ ?_
  · exact Ev.step (fun k => spec_IsValidStore.l0.eq_2 ..) (ev_neg (by omega) (Ev.now _))
  · intro i hi hp r h
    unfold chainOk at hp
    simp only [Bool.and_eq_true, decide_eq_true_eq] at hp
    have h0 := vc_pos hp.1
    refine Ev.step (fun k => spec_IsValidStore.l0.eq_2 ..) (ev_pos (by omega) (ev_pos (by omega) ?_))
    rw [hr i hi, up i (by omega)]
    exact Ev.bind (spec_vc _ (hi' i hi)) (ev_pos hp.1 (ev_pos (by omega) (ev_ite (fun _ => ev_neg (by omega) h) (fun _ => ev_neg (by omega) h))))
  · intro i hi hp
    unfold chainOk at hp
    simp only [Bool.and_eq_true, decide_eq_true_eq] at hp
    refine Ev.step (fun k => spec_IsValidStore.l0.eq_2 ..) (ev_pos (by omega) (ev_pos (by omega) ?_))
    rw [hr i hi, up i (by omega)]
    refine Ev.bind (spec_vc _ (hi' i hi)) (ev_ite (fun h => ?_) (fun _ => Ev.now _))
    have h0 := vc_pos h
    have h1 : ¬ (l.getD i []).length ≤ 50 := fun h2 => hp ⟨h, h2⟩
    exact ev_pos (by omega) (ev_ite (fun _ => ev_pos (by omega) (Ev.now _)) (fun _ => ev_pos (by omega) (Ev.now _)))
theorem impl_chainOk (l : List S27) (hl : l.length ≤ 9223372036854775806) : Ev (fun k => impl_IsValidStore_1.f k l) (!chainOk l) := by
  unfold impl_IsValidStore_1.f chainOk
  refine Ev.bind (impl_vc l hl) (ev_ite (fun h => ?_) (fun h => ?_))
  · rw [h]
    refine ev_eq (Ev.now _) ?_
    rw [Bool.eq_iff_iff]
    simp
    omega
  · rw [Bool.not_eq_true] at h
    rw [h]
    exact Ev.now _
theorem impl_any (l : List (List S27)) (hin : ∀ x ∈ l, x.length ≤ 9223372036854775806) : Ev (fun k => impl_IsValidStore.any k l) (!l.all chainOk) := by
  induction l with
  | nil => exact Ev.now _
  | cons x l ih =>
    refine Ev.congr (fun k => impl_IsValidStore.any.eq_2 ..) ?_
    refine Ev.bind (impl_chainOk x (hin x (by simp))) (ev_ite (fun h => ?_) (fun h => ?_))
    · refine ev_eq (Ev.now _) ?_
      simp at h
      simp [h]
    · refine ev_eq (ih (fun y hy => hin y (by simp [hy]))) ?_
      simp at h
      simp [h]
theorem impl_vs (l : List (List S27)) (hin : ∀ x ∈ l, x.length ≤ 9223372036854775806) : Ev (fun k => impl_IsValidStore.f k l) (vs l) := by
  unfold impl_IsValidStore.f vs
  refine ev_ite (fun h => ?_) (fun h => ?_)
  · refine Ev.bind (impl_any l hin) (ev_eq (Ev.now _) ?_)
    simp [h]
  · refine ev_eq (Ev.now _) ?_
    simp [h]
theorem vs_len {l : List (List S27)} (h : vs l = true) : l.length = 6 := by
  unfold vs at h
  simp only [Bool.and_eq_true, decide_eq_true_eq] at h
  exact h.1
theorem vs_chain {l : List (List S27)} (h : vs l = true) (i : Nat) (hi : i < l.length) : vc l[i] = true ∧ l[i].length ≤ 50 := by
  unfold vs at h
  simp only [Bool.and_eq_true] at h
  have := List.all_eq_true.1 h.2 _ (List.getElem_mem hi)
  unfold chainOk at this
  simpa only [Bool.and_eq_true, decide_eq_true_eq] using this
theorem vc_at {l : List S27} (h : vc l = true) (j : Nat) (hj : j < l.length) : vvS (l.getD j z27) = true := by
  unfold vc at h
  simp only [Bool.and_eq_true, decide_eq_true_eq] at h
  exact (h.1 j hj).1
theorem vvS_use {v : S27} (h : vvS v = true) : (-1 ≤ v.f1 ∧ v.f1 ≤ 99) ∧ (0 ≤ v.f2 ∧ v.f2 ≤ 999) ∧ (v.f2 ≤ v.f3 ∧ v.f3 ≤ 999) ∧ (1 ≤ v.f4 ∧ v.f4 ≤ 1000) := by
  unfold vvS vv at h
  rw [decide_eq_true_eq] at h
  omega
theorem ReadLatest_both (l : List (List S27)) (hl : l.length ≤ 9223372036854775806) (hin : ∀ x ∈ l, x.length ≤ 9223372036854775806) (key : Int) :
    ∃ r, Ev (fun k => spec_ReadLatest.f k l key) r ∧ Ev (fun k => impl_ReadLatest.f k l key) r := by
  unfold spec_ReadLatest.f impl_ReadLatest.f impl_isKey.f
  simp only [spec_in, impl_in_, Option.bind_some]
  by_cases hv : vs l = true
  · by_cases hk : 0 ≤ key ∧ key ≤ 5
    · have h6 := vs_len hv
      obtain ⟨i, rfl⟩ : ∃ i : Nat, key = (i : Int) := ⟨key.toNat, by omega⟩
      have hi : i < l.length := by omega
      obtain ⟨hc, h50⟩ := vs_chain hv i hi
      have hp := vc_pos hc
      have hr := rd_L4_at l i hi
      have e : wrap64 ((l[i].length : Int) - 1) = (l[i].length : Int) - 1 := w64 (by omega) (by omega)
      simp only [hr, e]
      refine ⟨((rd_T27 l[i] ((l[i].length : Int) - 1)).f0, (rd_T27 l[i] ((l[i].length : Int) - 1)).f1, (rd_T27 l[i] ((l[i].length : Int) - 1)).f2, (rd_T27 l[i] ((l[i].length : Int) - 1)).f3, (rd_T27 l[i] ((l[i].length : Int) - 1)).f4, true), ?_, ?_⟩
      · refine Ev.bind (spec_vs l hl hin) (ev_pos hv (ev_pos (decide_eq_true hk) (ev_pos (by omega) (ev_pos (by omega) ?_))))
        refine Ev.bind (a := ((rd_T27 l[i] ((l[i].length : Int) - 1)).f0, (rd_T27 l[i] ((l[i].length : Int) - 1)).f1, (rd_T27 l[i] ((l[i].length : Int) - 1)).f2, (rd_T27 l[i] ((l[i].length : Int) - 1)).f3, (rd_T27 l[i] ((l[i].length : Int) - 1)).f4)) ?_ (Ev.now _)
        unfold spec_LatestVersion.f
        rw [e]
        exact Ev.bind (spec_vc l[i] (by omega)) (ev_pos hc (ev_pos (by omega) (ev_pos (by omega) (Ev.now _))))
      · exact Ev.bind (impl_vs l hin) (ev_pos hv (ev_pos (decide_eq_true hk) (ev_pos ⟨by omega, by omega, by omega, by omega⟩ (Ev.now _))))
    · exact ⟨(0, 0, 0, 0, 0, false), Ev.bind (spec_vs l hl hin) (ev_pos hv (ev_neg (by simpa using hk) (Ev.now _))), Ev.bind (impl_vs l hin) (ev_pos hv (ev_neg (by simpa using hk) (Ev.now _)))⟩
  · exact ⟨(0, 0, 0, 0, 0, false), Ev.bind (spec_vs l hl hin) (ev_neg hv (Ev.now _)), Ev.bind (impl_vs l hin) (ev_neg hv (Ev.now _))⟩
theorem FnExactReadLatest : laws_FnExactReadLatest.Pure := by
  intro l key hl hin _
  refine Ev.rounds (g := fun k => laws_FnExactReadLatest.f k l key) ?_
  obtain ⟨r, h1, h2⟩ := sz_store l hl hin 1048576 (by omega) (by omega)
  refine Ev.bind h1 (ev_ite (fun _ => Ev.now _) (fun h3 => ?_))
  obtain ⟨_, h4, h5⟩ := h2 (by omega)
  have h6 : ∀ x ∈ l, x.length ≤ 1048576 := fun x hx => by have := h5 x hx; omega
  have ht := to_store l (by omega) h6
  have hi : ∀ x ∈ cs l, x.length ≤ 9223372036854775806 := fun x hx => by have := cs_in h6 x hx; omega
  have hc : (cs l).length ≤ 9223372036854775806 := by rw [cs_len]; omega
  obtain ⟨q, g1, g2⟩ := ReadLatest_both _ hc hi key
  refine Ev.bind ht (Ev.bind g1 (Ev.bind ht (Ev.bind g2 (ev_bindo (a := true) (by simp [laws_eqVersion.f]) (ev_pos rfl (Ev.step (fun k => laws_FnExactReadLatest.j0.eq_2 ..) (ev_neg (by simp) (Ev.bind ht (Ev.bind (eq_store _ hc hi) (ev_pos rfl (Ev.now _)))))))))))

end Go.Proofs.Ytlnglooomeliiaa.Pure
