/- StaleReads returns what the reference's returns. -/
import Derived.Test.YtbcllflajakajaaPFnExactStaleReadsx16
import Derived.Test.YtbcllflajakajaaMEv
namespace Go.Proofs.Ytbcllflajakajaa.Pure
open Go Go.RowKit Go.Proofs.Ytbcllflajakajaa.PFnExactStaleReads Go.Proofs.YtbcllflajakajaaW.PrintWords Go.Proofs.YtbcllflajakajaaW.PrintLast Go.Proofs.YtbcllflajakajaaW.PrintMore Go.Proofs.YtbcllflajakajaaM
set_option linter.unusedVariables false
set_option linter.unusedSimpArgs false

theorem spec_in (a b c : Int) : spec_l1In.f a b c = some (decide (b ≤ a ∧ a ≤ c)) := by
  unfold spec_l1In.f
  by_cases h : b ≤ a <;> simp [h]
theorem impl_in_ (a b c : Int) : impl_in.f a b c = some (decide (b ≤ a ∧ a ≤ c)) := by
  unfold impl_in.f
  by_cases h : b ≤ a <;> simp [h]
/-- What a right version is. -/
def vv (a0 a1 a2 a3 a4 : Int) : Bool := decide ((-1 ≤ a1 ∧ a1 ≤ 99) ∧ (0 ≤ a2 ∧ a2 ≤ 999) ∧ (a2 ≤ a3 ∧ a3 ≤ 999) ∧ (1 ≤ a4 ∧ a4 ≤ 1000) ∧ (a2 = 0 → a0 = 0 ∧ a1 = -1) ∧ (a2 ≠ 0 → 1 ≤ a0 ∧ a0 ≤ 9))
theorem spec_vv (a0 a1 a2 a3 a4 : Int) : Ev (fun k => spec_IsValidVersion.f k a0 a1 a2 a3 a4) (vv a0 a1 a2 a3 a4) := by
  unfold spec_IsValidVersion.f
  simp only [spec_in, Option.bind_some]
  have hj : ∀ b : Bool, Ev (fun k => spec_IsValidVersion.j0 k b a0 a1 a2 a3 a4) (!b && decide ((a2 = 0 → a0 = 0 ∧ a1 = -1) ∧ (a2 ≠ 0 → 1 ≤ a0 ∧ a0 ≤ 9))) := by
    intro b
    refine Ev.step (fun k => spec_IsValidVersion.j0.eq_2 ..) ?_
    simp only [spec_in, Option.bind_some]
    repeat' refine ev_ite (fun h => ?_) (fun h => ?_)
    all_goals
      refine ev_eq (Ev.now _) ?_
      rw [Bool.eq_iff_iff]
      simp only [decide_eq_true_eq, beq_iff_eq, Bool.not_eq_true', Bool.and_eq_true, Bool.not_eq_true, Bool.false_eq_true, false_iff, true_iff] at *
      simp [*] <;> omega
  repeat' refine ev_ite (fun h => ?_) (fun h => ?_)
  all_goals
    refine ev_eq (hj _) ?_
    rw [Bool.eq_iff_iff]
    simp only [vv, decide_eq_true_eq, Bool.not_not, Bool.not_true, Bool.false_and, Bool.and_eq_true, Bool.false_eq_true, false_iff] at *
    omega
theorem impl_vv (a0 a1 a2 a3 a4 : Int) : Ev (fun k => impl_IsValidVersion.f k a0 a1 a2 a3 a4) (vv a0 a1 a2 a3 a4) := by
  unfold impl_IsValidVersion.f
  simp only [impl_isValue.f, impl_isID.f, impl_in_, Option.bind_some]
  have hj : ∀ b : Bool, Ev (fun k => impl_IsValidVersion.j0 k b a0 a1 a2 a3 a4) (!b && decide ((a2 = 0 → a0 = 0 ∧ a1 = -1) ∧ (a2 ≠ 0 → 1 ≤ a0 ∧ a0 ≤ 9))) := by
    intro b
    refine Ev.step (fun k => impl_IsValidVersion.j0.eq_2 ..) ?_
    simp only [impl_isValue.f, impl_isID.f, impl_in_, Option.bind_some]
    repeat' refine ev_ite (fun h => ?_) (fun h => ?_)
    all_goals
      refine ev_eq (Ev.now _) ?_
      rw [Bool.eq_iff_iff]
      simp only [decide_eq_true_eq, beq_iff_eq, Bool.not_eq_true', Bool.and_eq_true, Bool.not_eq_true, Bool.false_eq_true, false_iff, true_iff] at *
      simp [*] <;> omega
  repeat' refine ev_ite (fun h => ?_) (fun h => ?_)
  all_goals
    refine ev_eq (hj _) ?_
    rw [Bool.eq_iff_iff]
    simp only [vv, decide_eq_true_eq, Bool.not_not, Bool.not_true, Bool.false_and, Bool.and_eq_true, Bool.false_eq_true, false_iff] at *
    omega
/-- A version of the law's as one of the program's. -/
def cv (v : S109) : S65 := ⟨v.f0, v.f1, v.f2, v.f3, v.f4⟩
theorem to_loop (l : List S109) (hl : l.length ≤ 1048576) (d : Nat) : ∀ i, i + d = l.length → Ev (fun k => laws_toVersionS.l0 k l ((l.take i).map cv ++ List.replicate d z65) (i : Int)) (l.map cv) := by
  induction d with
  | zero =>
    intro i hi
    refine Ev.step (fun k => laws_toVersionS.l0.eq_2 ..) (ev_neg (by omega) ?_)
    rw [List.take_of_length_le (by omega), List.replicate_zero, List.append_nil]
    exact Ev.now _
  | succ d ih =>
    intro i hi
    refine Ev.step (fun k => laws_toVersionS.l0.eq_2 ..) (ev_pos (by omega) (ev_pos (by omega) ?_))
    simp only [laws_toVersion.f, Option.bind_some]
    refine ev_pos (by simp; omega) ?_
    rw [up i (by omega)]
    have h1 : ((l.take i).map cv ++ List.replicate (d + 1) z65).set ((i : Int)).toNat (cv (rd_T109 l (i : Int))) = (l.take (i + 1)).map cv ++ List.replicate d z65 := by
      have h2 : rd_T109 l (i : Int) = l[i] := by unfold rd_T109; exact get_eq l _ i (by omega)
      have h3 : ((l.take i).map cv).length = i := by simp; omega
      rw [h2, Int.toNat_natCast, List.set_append_right _ _ (by omega), h3, Nat.sub_self, List.replicate_succ, List.set_cons_zero, List.take_succ_eq_append_getElem (by omega), List.map_append]
      simp
    exact h1 ▸ ih (i + 1) (by omega)
theorem to_vs (l : List S109) (hl : l.length ≤ 1048576) : Ev (fun k => laws_toVersionS.f k l) (l.map cv) := by
  unfold laws_toVersionS.f
  refine ev_pos (by omega) (ev_pos (by omega) ?_)
  have := to_loop l hl l.length 0 (by omega)
  rw [List.take_zero, List.map_nil, List.nil_append] at this
  exact this
theorem eq_vs (a : List S65) (hl : a.length ≤ 9223372036854775806) : Ev (fun k => laws_eqVersionS.f k a a) true := by
  unfold laws_eqVersionS.f
  refine ev_pos rfl ?_
  have h : ∀ d i, i + d = a.length → Ev (fun k => laws_eqVersionS.l0 k a a (i : Int)) true := by
    intro d
    induction d with
    | zero =>
      intro i hi
      exact Ev.step (fun k => laws_eqVersionS.l0.eq_2 ..) (ev_neg (by omega) (Ev.now _))
    | succ d ih =>
      intro i hi
      refine Ev.step (fun k => laws_eqVersionS.l0.eq_2 ..) (ev_pos (by omega) (ev_pos (by omega) (ev_pos (by omega) ?_)))
      simp only [laws_eqVersion.f, if_true, Option.bind_some]
      rw [up i (by omega)]
      exact ih (i + 1) (by omega)
  exact h a.length 0 (by omega)
/-- The size that the law allows. -/
theorem sz_vs (l : List S109) (hl : l.length ≤ 9223372036854775807) (n : Int) (h0 : 0 ≤ n) (hn : n ≤ 1048576) : ∃ r, laws_szVersionS.f l n = some r ∧ (0 ≤ r → r = n - l.length) ∧ (r < 0 → n < l.length) := by
  unfold laws_szVersionS.f
  rw [w64 (by omega) (by omega)]
  by_cases h : n - (l.length : Int) < 0
  · exact ⟨-1, by rw [if_pos h], fun h2 => by omega, fun _ => by omega⟩
  · exact ⟨n - l.length, by rw [if_neg h], fun _ => rfl, fun h2 => absurd h2 h⟩
theorem rd_L2_at (l : List (List S109)) (i : Nat) (h : i < l.length) : rd_L2 l (i : Int) = l[i] := by unfold rd_L2; exact get_eq l _ i h
theorem rd_L6_at (l : List (List S65)) (i : Nat) (h : i < l.length) : rd_L6 l (i : Int) = l[i] := by unfold rd_L6; exact get_eq l _ i h
/-- A store's size. -/
theorem sz_loop (l : List (List S109)) (hl : l.length ≤ 1048576) (hin : ∀ x ∈ l, x.length ≤ 9223372036854775807) (d : Nat) : ∀ (i : Nat) (n : Int), 0 ≤ n → n ≤ 1048576 → i + d = l.length →
    ∃ r, Ev (fun k => laws_szVersionSS.l0 k l n (i : Int)) r ∧ (0 ≤ r → r ≤ n ∧ ∀ j (h : j < l.length), i ≤ j → (l[j].length : Int) ≤ n) := by
  induction d with
  | zero =>
    intro i n h0 h1 hi
    exact ⟨n, Ev.step (fun k => laws_szVersionSS.l0.eq_2 ..) (ev_neg (by omega) (Ev.now _)), fun _ => ⟨Int.le_refl _, fun j h1 h2 => by omega⟩⟩
  | succ d ih =>
    intro i n h0 h1 hi
    obtain ⟨q, hq, hq1, hq2⟩ := sz_vs l[i] (hin _ (List.getElem_mem (by omega))) n h0 h1
    by_cases hneg : q < 0
    · refine ⟨-1, Ev.step (fun k => laws_szVersionSS.l0.eq_2 ..) (ev_pos (by omega) (ev_pos (by omega) ?_)), fun h => by omega⟩
      rw [rd_L2_at l i (by omega)]
      exact ev_bindo hq (ev_pos hneg (Ev.now _))
    · have hq3 := hq1 (by omega)
      obtain ⟨r, hr, hr1⟩ := ih (i + 1) q (by omega) (by omega) (by omega)
      refine ⟨r, Ev.step (fun k => laws_szVersionSS.l0.eq_2 ..) (ev_pos (by omega) (ev_pos (by omega) ?_)), fun h => ?_⟩
      · rw [rd_L2_at l i (by omega), up i (by omega)]
        exact ev_bindo hq (ev_neg hneg hr)
      · obtain ⟨h2, h3⟩ := hr1 h
        refine ⟨by omega, fun j hj hij => ?_⟩
        by_cases e : j = i
        · subst e; omega
        · have := h3 j hj (by omega); omega
theorem sz_store (l : List (List S109)) (hl : l.length ≤ 9223372036854775807) (hin : ∀ x ∈ l, x.length ≤ 9223372036854775807) (n : Int) (h0 : 0 ≤ n) (h1 : n ≤ 1048576) :
    ∃ r, Ev (fun k => laws_szStore.f k l n) r ∧ (0 ≤ r → r ≤ n ∧ (l.length : Int) ≤ n ∧ ∀ x ∈ l, (x.length : Int) ≤ n) := by
  unfold laws_szStore.f laws_szVersionSS.f
  rw [w64 (by omega) (by omega)]
  by_cases h : n - (l.length : Int) < 0
  · refine ⟨-1, Ev.bind (a := -1) (ev_pos h (Ev.now _)) (ev_pos (by omega) (Ev.now _)), fun h => by omega⟩
  · obtain ⟨r, hr, hr1⟩ := sz_loop l (by omega) hin l.length 0 (n - l.length) (by omega) (by omega) (by omega)
    by_cases hneg : r < 0
    · exact ⟨-1, Ev.bind (a := r) (ev_neg h hr) (ev_pos hneg (Ev.now _)), fun h => by omega⟩
    · refine ⟨r, Ev.bind (a := r) (ev_neg h hr) (ev_neg hneg (Ev.now _)), fun h2 => ?_⟩
      obtain ⟨h3, h4⟩ := hr1 h2
      refine ⟨by omega, by omega, fun x hx => ?_⟩
      obtain ⟨j, hj, rfl⟩ := List.mem_iff_getElem.1 hx
      have := h4 j hj (by omega)
      omega
/-- A store of the law's as one of the program's. -/
def cs (l : List (List S109)) : List (List S65) := l.map fun x => x.map cv
theorem cs_len (l : List (List S109)) : (cs l).length = l.length := by simp [cs]
theorem cs_in {l : List (List S109)} {n : Nat} (h : ∀ x ∈ l, x.length ≤ n) : ∀ x ∈ cs l, x.length ≤ n := by
  intro x hx
  simp only [cs, List.mem_map] at hx
  obtain ⟨y, hy, rfl⟩ := hx
  simpa using h y hy
theorem tos_loop (l : List (List S109)) (hl : l.length ≤ 1048576) (hin : ∀ x ∈ l, x.length ≤ 1048576) (d : Nat) : ∀ i, i + d = l.length → Ev (fun k => laws_toVersionSS.l0 k l (cs (l.take i) ++ List.replicate d []) (i : Int)) (cs l) := by
  induction d with
  | zero =>
    intro i hi
    refine Ev.step (fun k => laws_toVersionSS.l0.eq_2 ..) (ev_neg (by omega) ?_)
    rw [List.take_of_length_le (by omega), List.replicate_zero, List.append_nil]
    exact Ev.now _
  | succ d ih =>
    intro i hi
    have h3 : (cs (l.take i)).length = i := by simp [cs]; omega
    refine Ev.step (fun k => laws_toVersionSS.l0.eq_2 ..) (ev_pos (by omega) (ev_pos (by omega) ?_))
    rw [rd_L2_at l i (by omega), up i (by omega)]
    refine Ev.bind (to_vs l[i] (hin _ (List.getElem_mem (by omega)))) (ev_pos (by rw [List.length_append, h3, List.length_replicate]; omega) ?_)
    have h1 : (cs (l.take i) ++ List.replicate (d + 1) []).set ((i : Int)).toNat (l[i].map cv) = cs (l.take (i + 1)) ++ List.replicate d [] := by
      rw [Int.toNat_natCast, List.set_append_right _ _ (by omega), h3, Nat.sub_self, List.replicate_succ, List.set_cons_zero, List.take_succ_eq_append_getElem (by omega)]
      simp only [cs, List.map_append, List.map_cons, List.map_nil, List.append_assoc, List.singleton_append]
    exact h1 ▸ ih (i + 1) (by omega)
theorem to_store (l : List (List S109)) (hl : l.length ≤ 1048576) (hin : ∀ x ∈ l, x.length ≤ 1048576) : Ev (fun k => laws_toStore.f k l) (cs l) := by
  unfold laws_toStore.f laws_toVersionSS.f
  refine Ev.bind (a := cs l) (ev_pos (by omega) (ev_pos (by omega) ?_)) (Ev.now _)
  have := tos_loop l hl hin l.length 0 (by omega)
  rw [List.take_zero] at this
  exact this
theorem eq_store (a : List (List S65)) (hl : a.length ≤ 9223372036854775806) (hin : ∀ x ∈ a, x.length ≤ 9223372036854775806) : Ev (fun k => laws_eqStore.f k a a) true := by
  unfold laws_eqStore.f laws_eqVersionSS.f
  have h : ∀ d i, i + d = a.length → Ev (fun k => laws_eqVersionSS.l0 k a a (i : Int)) true := by
    intro d
    induction d with
    | zero =>
      intro i hi
      exact Ev.step (fun k => laws_eqVersionSS.l0.eq_2 ..) (ev_neg (by omega) (Ev.now _))
    | succ d ih =>
      intro i hi
      refine Ev.step (fun k => laws_eqVersionSS.l0.eq_2 ..) (ev_pos (by omega) (ev_pos (by omega) (ev_pos (by omega) ?_)))
      rw [rd_L6_at a i (by omega), up i (by omega)]
      exact Ev.bind (eq_vs a[i] (hin _ (List.getElem_mem (by omega)))) (ev_pos rfl (ih (i + 1) (by omega)))
  exact Ev.bind (a := true) (ev_pos rfl (h a.length 0 (by omega))) (ev_pos rfl (Ev.now _))
/-- One version after another. -/
def Ord (u v : S65) : Prop := ¬ u.f2 ≥ v.f2 ∧ ¬ u.f4 > v.f2
instance (u v : S65) : Decidable (Ord u v) := by unfold Ord; exact inferInstance
def vvS (v : S65) : Bool := vv v.f0 v.f1 v.f2 v.f3 v.f4
def lastOk (l : List S65) : Bool := decide (0 < l.length) && (l.getD (l.length - 1) z65).f4 == 1000
/-- What a right chain is. -/
def vc (l : List S65) : Bool := decide (∀ j, j < l.length → vvS (l.getD j z65) = true ∧ (j + 1 < l.length → Ord (l.getD j z65) (l.getD (j + 1) z65))) && lastOk l
theorem rd_nat (l : List S65) (i : Nat) : rd_T65 l (i : Int) = l.getD i z65 := by unfold rd_T65; rw [Int.toNat_natCast]
theorem last_ev (l : List S65) (hl : l.length ≤ 9223372036854775806) : Ev (fun _ => if (l.length : Int) > 0 then (if 0 ≤ (wrap64 ((l.length : Int) - 1)) then (if (wrap64 ((l.length : Int) - 1)) < (l.length : Int) then (some (((rd_T65 l (wrap64 ((l.length : Int) - 1))).f4) == 1000)) else (none)) else (none)) else (some false)) (lastOk l) := by
  by_cases h : 0 < l.length
  · have e : wrap64 ((l.length : Int) - 1) = ((l.length - 1 : Nat) : Int) := by rw [w64 (by omega) (by omega)]; omega
    rw [e]
    refine ev_pos (by omega) (ev_pos (by omega) (ev_pos (by omega) ?_))
    rw [rd_nat]
    refine ev_eq (Ev.now _) ?_
    unfold lastOk
    rw [decide_eq_true h, Bool.true_and]
  · refine ev_neg (by omega) ?_
    refine ev_eq (Ev.now _) ?_
    unfold lastOk
    rw [decide_eq_false h, Bool.false_and]
theorem spec_vc (l : List S65) (hl : l.length ≤ 9223372036854775806) : Ev (fun k => spec_IsValidChain.f k l) (vc l) := by
  unfold spec_IsValidChain.f vc
  refine all_loop0 (g := fun k i => spec_IsValidChain.l0 k l i) l.length (fun j => vvS (l.getD j z65) = true ∧ (j + 1 < l.length → Ord (l.getD j z65) (l.getD (j + 1) z65))) ?_ ?_ ?_
  · exact Ev.step (fun k => spec_IsValidChain.l0.eq_2 ..) (ev_neg (by omega) (last_ev l hl))
  · intro i hi hp r hr
    refine Ev.step (fun k => spec_IsValidChain.l0.eq_2 ..) (ev_pos (by omega) (ev_pos (by omega) ?_))
    rw [rd_nat, up i (by omega), rd_nat]
    refine Ev.bind (spec_vv _ _ _ _ _) (ev_pos hp.1 (ev_ite (fun h => ?_) (fun _ => hr)))
    have ho := hp.2 (by omega)
    exact ev_pos (by omega) (ev_neg ho.1 (ev_neg ho.2 hr))
  · intro i hi hp
    refine Ev.step (fun k => spec_IsValidChain.l0.eq_2 ..) (ev_pos (by omega) (ev_pos (by omega) ?_))
    rw [rd_nat, up i (by omega), rd_nat]
    refine Ev.bind (spec_vv _ _ _ _ _) (ev_ite (fun h1 => ev_ite (fun h2 => ev_pos (by omega) (ev_ite (fun h3 => Ev.now _) (fun h3 => ev_ite (fun h4 => Ev.now _) (fun h4 => ?_)))) (fun h2 => ?_)) (fun _ => Ev.now _))
    · exact absurd ⟨h1, fun _ => ⟨h3, h4⟩⟩ hp
    · exact absurd ⟨h1, fun h => absurd h (by omega)⟩ hp
theorem impl_vc (l : List S65) (hl : l.length ≤ 9223372036854775806) : Ev (fun k => impl_IsValidChain.f k l) (vc l) := by
  have hv : vc l = (decide (∀ j, j < l.length → vvS (l.getD j z65) = true ∧ (0 < j → Ord (l.getD (j - 1) z65) (l.getD j z65))) && lastOk l) := by
    unfold vc
    congr 1
    rw [decide_eq_decide]
    constructor
    · intro h j hj
      refine ⟨(h j hj).1, fun h0 => ?_⟩
      have := (h (j - 1) (by omega)).2 (by omega)
      rwa [show j - 1 + 1 = j by omega] at this
    · intro h j hj
      refine ⟨(h j hj).1, fun h0 => ?_⟩
      have := (h (j + 1) h0).2 (by omega)
      rwa [show j + 1 - 1 = j by omega] at this
  rw [hv]
  unfold impl_IsValidChain.f
  refine all_loop0 (g := fun k i => impl_IsValidChain.l0 k l l (l.length : Int) i) l.length (fun j => vvS (l.getD j z65) = true ∧ (0 < j → Ord (l.getD (j - 1) z65) (l.getD j z65))) ?_ ?_ ?_
  · exact Ev.step (fun k => impl_IsValidChain.l0.eq_2 ..) (ev_neg (by omega) (last_ev l hl))
  · intro i hi hp r hr
    refine Ev.step (fun k => impl_IsValidChain.l0.eq_2 ..) (ev_pos (by omega) (ev_pos (by omega) (ev_pos (by omega) ?_)))
    rw [rd_nat, up i (by omega)]
    refine Ev.bind (impl_vv _ _ _ _ _) (ev_pos hp.1 (ev_ite (fun h => ?_) (fun _ => hr)))
    have e : wrap64 ((i : Int) - 1) = ((i - 1 : Nat) : Int) := by rw [w64 (by omega) (by omega)]; omega
    rw [e, rd_nat]
    have ho := hp.2 (by omega)
    exact ev_pos (by omega) (ev_pos (by omega) (ev_neg ho.1 (ev_neg ho.2 hr)))
  · intro i hi hp
    refine Ev.step (fun k => impl_IsValidChain.l0.eq_2 ..) (ev_pos (by omega) (ev_pos (by omega) (ev_pos (by omega) ?_)))
    rw [rd_nat, up i (by omega)]
    refine Ev.bind (impl_vv _ _ _ _ _) (ev_ite (fun h1 => ev_ite (fun h2 => ?_) (fun h2 => ?_)) (fun _ => Ev.now _))
    · have e : wrap64 ((i : Int) - 1) = ((i - 1 : Nat) : Int) := by rw [w64 (by omega) (by omega)]; omega
      rw [e, rd_nat]
      exact ev_pos (by omega) (ev_pos (by omega) (ev_ite (fun h3 => Ev.now _) (fun h3 => ev_ite (fun h4 => Ev.now _) (fun h4 => absurd ⟨h1, fun _ => ⟨h3, h4⟩⟩ hp))))
    · exact absurd ⟨h1, fun h => absurd h (by omega)⟩ hp
theorem vc_pos {l : List S65} (h : vc l = true) : 0 < l.length := by
  unfold vc lastOk at h
  simp only [Bool.and_eq_true, decide_eq_true_eq] at h
  exact h.2.1
def chainOk (l : List S65) : Bool := vc l && decide (l.length ≤ 50)
/-- What a right store is. -/
def vs (l : List (List S65)) : Bool := decide (l.length = 6) && l.all chainOk
theorem all_get {α : Type} (l : List α) (p : α → Bool) : l.all p = decide (∀ j (h : j < l.length), p l[j] = true) := by
  rw [Bool.eq_iff_iff, List.all_eq_true, decide_eq_true_eq]
  constructor
  · intro h j hj
    exact h _ (List.getElem_mem hj)
  · intro h x hx
    obtain ⟨j, hj, rfl⟩ := List.mem_iff_getElem.1 hx
    exact h j hj
theorem spec_vs (l : List (List S65)) (hl : l.length ≤ 9223372036854775806) (hin : ∀ x ∈ l, x.length ≤ 9223372036854775806) : Ev (fun k => spec_IsValidStore.f k l) (vs l) := by
  have e : vs l = (decide (∀ j, j < l.length → chainOk (l.getD j []) = true) && ((l.length : Int) == 6)) := by
    unfold vs
    rw [all_get, Bool.and_comm]
    congr 1
    · rw [decide_eq_decide]
      constructor
      · intro h j hj
        rw [List.getD_eq_getElem?_getD, List.getElem?_eq_getElem hj]
        exact h j hj
      · intro h j hj
        have := h j hj
        rwa [List.getD_eq_getElem?_getD, List.getElem?_eq_getElem hj] at this
    · rw [Bool.eq_iff_iff, decide_eq_true_eq, beq_iff_eq]
      omega
  rw [e]
  unfold spec_IsValidStore.f
  have hr : ∀ i, i < l.length → rd_L6 l (i : Int) = l.getD i [] := by intro i hi; unfold rd_L6; rw [Int.toNat_natCast]
  have hi' : ∀ i, i < l.length → (l.getD i []).length ≤ 9223372036854775806 := by
    intro i hi
    rw [List.getD_eq_getElem?_getD, List.getElem?_eq_getElem hi]
    exact hin _ (List.getElem_mem hi)
  refine all_loop0 (g := fun k i => spec_IsValidStore.l0 k i l) l.length _ ?_ ?_ ?_
  · exact Ev.step (fun k => spec_IsValidStore.l0.eq_2 ..) (ev_neg (by omega) (Ev.now _))
  · intro i hi hp r h
    unfold chainOk at hp
    simp only [Bool.and_eq_true, decide_eq_true_eq] at hp
    have h0 := vc_pos hp.1
    refine Ev.step (fun k => spec_IsValidStore.l0.eq_2 ..) (ev_pos (by omega) (ev_pos (by omega) ?_))
    rw [hr i hi, up i (by omega)]
    exact Ev.bind (spec_vc _ (hi' i hi)) (ev_pos hp.1 (ev_pos (by omega) (ev_ite (fun _ => ev_neg (by omega) h) (fun _ => ev_neg (by omega) h))))
  · intro i hi hp
    unfold chainOk at hp
    simp only [Bool.and_eq_true, decide_eq_true_eq] at hp
    refine Ev.step (fun k => spec_IsValidStore.l0.eq_2 ..) (ev_pos (by omega) (ev_pos (by omega) ?_))
    rw [hr i hi, up i (by omega)]
    refine Ev.bind (spec_vc _ (hi' i hi)) (ev_ite (fun h => ?_) (fun _ => Ev.now _))
    have h0 := vc_pos h
    have h1 : ¬ (l.getD i []).length ≤ 50 := fun h2 => hp ⟨h, h2⟩
    exact ev_pos (by omega) (ev_ite (fun _ => ev_pos (by omega) (Ev.now _)) (fun _ => ev_pos (by omega) (Ev.now _)))
theorem impl_chainOk (l : List S65) (hl : l.length ≤ 9223372036854775806) : Ev (fun k => impl_IsValidStore_1.f k l) (!chainOk l) := by
  unfold impl_IsValidStore_1.f chainOk
  refine Ev.bind (impl_vc l hl) (ev_ite (fun h => ?_) (fun h => ?_))
  · rw [h]
    refine ev_eq (Ev.now _) ?_
    rw [Bool.eq_iff_iff]
    simp
    omega
  · rw [Bool.not_eq_true] at h
    rw [h]
    exact Ev.now _
theorem impl_any (l : List (List S65)) (hin : ∀ x ∈ l, x.length ≤ 9223372036854775806) : Ev (fun k => impl_IsValidStore.any k l) (!l.all chainOk) := by
  induction l with
  | nil => exact Ev.now _
  | cons x l ih =>
    refine Ev.congr (fun k => impl_IsValidStore.any.eq_2 ..) ?_
    refine Ev.bind (impl_chainOk x (hin x (by simp))) (ev_ite (fun h => ?_) (fun h => ?_))
    · refine ev_eq (Ev.now _) ?_
      simp at h
      simp [h]
    · refine ev_eq (ih (fun y hy => hin y (by simp [hy]))) ?_
      simp at h
      simp [h]
theorem impl_vs (l : List (List S65)) (hin : ∀ x ∈ l, x.length ≤ 9223372036854775806) : Ev (fun k => impl_IsValidStore.f k l) (vs l) := by
  unfold impl_IsValidStore.f vs
  refine ev_ite (fun h => ?_) (fun h => ?_)
  · refine Ev.bind (impl_any l hin) (ev_eq (Ev.now _) ?_)
    simp [h]
  · refine ev_eq (Ev.now _) ?_
    simp [h]
theorem vs_len {l : List (List S65)} (h : vs l = true) : l.length = 6 := by
  unfold vs at h
  simp only [Bool.and_eq_true, decide_eq_true_eq] at h
  exact h.1
theorem vs_chain {l : List (List S65)} (h : vs l = true) (i : Nat) (hi : i < l.length) : vc l[i] = true ∧ l[i].length ≤ 50 := by
  unfold vs at h
  simp only [Bool.and_eq_true] at h
  have := List.all_eq_true.1 h.2 _ (List.getElem_mem hi)
  unfold chainOk at this
  simpa only [Bool.and_eq_true, decide_eq_true_eq] using this
theorem vc_at {l : List S65} (h : vc l = true) (j : Nat) (hj : j < l.length) : vvS (l.getD j z65) = true := by
  unfold vc at h
  simp only [Bool.and_eq_true, decide_eq_true_eq] at h
  exact (h.1 j hj).1
theorem vvS_use {v : S65} (h : vvS v = true) : (-1 ≤ v.f1 ∧ v.f1 ≤ 99) ∧ (0 ≤ v.f2 ∧ v.f2 ≤ 999) ∧ (v.f2 ≤ v.f3 ∧ v.f3 ≤ 999) ∧ (1 ≤ v.f4 ∧ v.f4 ≤ 1000) := by
  unfold vvS vv at h
  rw [decide_eq_true_eq] at h
  omega
/-- One of the law's as one of the program's. -/
def cr (v : S98) : S55 := ⟨v.f0, v.f1⟩
theorem to_loop_rs (l : List S98) (hl : l.length ≤ 1048576) (d : Nat) : ∀ i, i + d = l.length → Ev (fun k => laws_toReadMarkS.l0 k l ((l.take i).map cr ++ List.replicate d z55) (i : Int)) (l.map cr) := by
  induction d with
  | zero =>
    intro i hi
    refine Ev.step (fun k => laws_toReadMarkS.l0.eq_2 ..) (ev_neg (by omega) ?_)
    rw [List.take_of_length_le (by omega), List.replicate_zero, List.append_nil]
    exact Ev.now _
  | succ d ih =>
    intro i hi
    refine Ev.step (fun k => laws_toReadMarkS.l0.eq_2 ..) (ev_pos (by omega) (ev_pos (by omega) ?_))
    simp only [laws_toReadMark.f, Option.bind_some]
    refine ev_pos (by simp; omega) ?_
    rw [up i (by omega)]
    have h1 : ((l.take i).map cr ++ List.replicate (d + 1) z55).set ((i : Int)).toNat (cr (rd_T98 l (i : Int))) = (l.take (i + 1)).map cr ++ List.replicate d z55 := by
      have h2 : rd_T98 l (i : Int) = l[i] := by unfold rd_T98; exact get_eq l _ i (by omega)
      have h3 : ((l.take i).map cr).length = i := by simp; omega
      rw [h2, Int.toNat_natCast, List.set_append_right _ _ (by omega), h3, Nat.sub_self, List.replicate_succ, List.set_cons_zero, List.take_succ_eq_append_getElem (by omega), List.map_append]
      simp
    exact h1 ▸ ih (i + 1) (by omega)
theorem to_rs (l : List S98) (hl : l.length ≤ 1048576) : Ev (fun k => laws_toReadMarkS.f k l) (l.map cr) := by
  unfold laws_toReadMarkS.f
  refine ev_pos (by omega) (ev_pos (by omega) ?_)
  have := to_loop_rs l hl l.length 0 (by omega)
  rw [List.take_zero, List.map_nil, List.nil_append] at this
  exact this
theorem eq_rs (a : List S55) (hl : a.length ≤ 9223372036854775806) : Ev (fun k => laws_eqReadMarkS.f k a a) true := by
  unfold laws_eqReadMarkS.f
  refine ev_pos rfl ?_
  have h : ∀ d i, i + d = a.length → Ev (fun k => laws_eqReadMarkS.l0 k a a (i : Int)) true := by
    intro d
    induction d with
    | zero =>
      intro i hi
      exact Ev.step (fun k => laws_eqReadMarkS.l0.eq_2 ..) (ev_neg (by omega) (Ev.now _))
    | succ d ih =>
      intro i hi
      refine Ev.step (fun k => laws_eqReadMarkS.l0.eq_2 ..) (ev_pos (by omega) (ev_pos (by omega) (ev_pos (by omega) ?_)))
      simp only [laws_eqReadMark.f, if_true, Option.bind_some]
      rw [up i (by omega)]
      exact ih (i + 1) (by omega)
  exact h a.length 0 (by omega)
/-- The size that the law allows. -/
theorem sz_rs (l : List S98) (hl : l.length ≤ 9223372036854775807) (n : Int) (h0 : 0 ≤ n) (hn : n ≤ 1048576) : ∃ r, laws_szReadMarkS.f l n = some r ∧ (0 ≤ r → r = n - l.length) ∧ (r < 0 → n < l.length) := by
  unfold laws_szReadMarkS.f
  rw [w64 (by omega) (by omega)]
  by_cases h : n - (l.length : Int) < 0
  · exact ⟨-1, by rw [if_pos h], fun h2 => by omega, fun _ => by omega⟩
  · exact ⟨n - l.length, by rw [if_neg h], fun _ => rfl, fun h2 => absurd h2 h⟩
/-- One of the law's as one of the program's. -/
def cw (v : S100) : S76 := ⟨v.f0, v.f1⟩
theorem to_loop_ws (l : List S100) (hl : l.length ≤ 1048576) (d : Nat) : ∀ i, i + d = l.length → Ev (fun k => laws_toWriteS.l0 k l ((l.take i).map cw ++ List.replicate d z76) (i : Int)) (l.map cw) := by
  induction d with
  | zero =>
    intro i hi
    refine Ev.step (fun k => laws_toWriteS.l0.eq_2 ..) (ev_neg (by omega) ?_)
    rw [List.take_of_length_le (by omega), List.replicate_zero, List.append_nil]
    exact Ev.now _
  | succ d ih =>
    intro i hi
    refine Ev.step (fun k => laws_toWriteS.l0.eq_2 ..) (ev_pos (by omega) (ev_pos (by omega) ?_))
    simp only [laws_toWrite.f, Option.bind_some]
    refine ev_pos (by simp; omega) ?_
    rw [up i (by omega)]
    have h1 : ((l.take i).map cw ++ List.replicate (d + 1) z76).set ((i : Int)).toNat (cw (rd_T100 l (i : Int))) = (l.take (i + 1)).map cw ++ List.replicate d z76 := by
      have h2 : rd_T100 l (i : Int) = l[i] := by unfold rd_T100; exact get_eq l _ i (by omega)
      have h3 : ((l.take i).map cw).length = i := by simp; omega
      rw [h2, Int.toNat_natCast, List.set_append_right _ _ (by omega), h3, Nat.sub_self, List.replicate_succ, List.set_cons_zero, List.take_succ_eq_append_getElem (by omega), List.map_append]
      simp
    exact h1 ▸ ih (i + 1) (by omega)
theorem to_ws (l : List S100) (hl : l.length ≤ 1048576) : Ev (fun k => laws_toWriteS.f k l) (l.map cw) := by
  unfold laws_toWriteS.f
  refine ev_pos (by omega) (ev_pos (by omega) ?_)
  have := to_loop_ws l hl l.length 0 (by omega)
  rw [List.take_zero, List.map_nil, List.nil_append] at this
  exact this
theorem eq_ws (a : List S76) (hl : a.length ≤ 9223372036854775806) : Ev (fun k => laws_eqWriteS.f k a a) true := by
  unfold laws_eqWriteS.f
  refine ev_pos rfl ?_
  have h : ∀ d i, i + d = a.length → Ev (fun k => laws_eqWriteS.l0 k a a (i : Int)) true := by
    intro d
    induction d with
    | zero =>
      intro i hi
      exact Ev.step (fun k => laws_eqWriteS.l0.eq_2 ..) (ev_neg (by omega) (Ev.now _))
    | succ d ih =>
      intro i hi
      refine Ev.step (fun k => laws_eqWriteS.l0.eq_2 ..) (ev_pos (by omega) (ev_pos (by omega) (ev_pos (by omega) ?_)))
      simp only [laws_eqWrite.f, if_true, Option.bind_some]
      rw [up i (by omega)]
      exact ih (i + 1) (by omega)
  exact h a.length 0 (by omega)
/-- The size that the law allows. -/
theorem sz_ws (l : List S100) (hl : l.length ≤ 9223372036854775807) (n : Int) (h0 : 0 ≤ n) (hn : n ≤ 1048576) : ∃ r, laws_szWriteS.f l n = some r ∧ (0 ≤ r → r = n - l.length) ∧ (r < 0 → n < l.length) := by
  unfold laws_szWriteS.f
  rw [w64 (by omega) (by omega)]
  by_cases h : n - (l.length : Int) < 0
  · exact ⟨-1, by rw [if_pos h], fun h2 => by omega, fun _ => by omega⟩
  · exact ⟨n - l.length, by rw [if_neg h], fun _ => rfl, fun h2 => absurd h2 h⟩
theorem sz_trans (a0 a1 a2 a3 a4 a5 a6 : Int) (rs : List S98) (ws : List S100) (hr : rs.length ≤ 9223372036854775807) (hw : ws.length ≤ 9223372036854775807) (n : Int) (h0 : 0 ≤ n) (hn : n ≤ 1048576) :
    ∃ r, laws_szTransaction.f a0 a1 a2 a3 a4 a5 a6 rs ws n = some r ∧ (0 ≤ r → r ≤ n ∧ (rs.length : Int) ≤ n ∧ (ws.length : Int) ≤ n) := by
  unfold laws_szTransaction.f
  obtain ⟨q, hq, hq1, _⟩ := sz_rs rs hr n h0 hn
  by_cases h : q < 0
  · exact ⟨-1, by rw [hq, Option.bind_some, if_pos h], fun h => by omega⟩
  · have h2 := hq1 (by omega)
    obtain ⟨p, hp, hp1, _⟩ := sz_ws ws hw q (by omega) (by omega)
    by_cases h3 : p < 0
    · exact ⟨-1, by rw [hq, Option.bind_some, if_neg h, hp, Option.bind_some, if_pos h3], fun h => by omega⟩
    · have h4 := hp1 (by omega)
      exact ⟨p, by rw [hq, Option.bind_some, if_neg h, hp, Option.bind_some, if_neg h3], fun _ => by omega⟩
theorem to_trans (a0 a1 a2 a3 a4 a5 a6 : Int) (rs : List S98) (ws : List S100) (hr : rs.length ≤ 1048576) (hw : ws.length ≤ 1048576) :
    Ev (fun k => laws_toTransaction.f k a0 a1 a2 a3 a4 a5 a6 rs ws) (a0, a1, a2, a3, a4, a5, a6, rs.map cr, ws.map cw) := by
  unfold laws_toTransaction.f
  exact Ev.bind (to_rs rs hr) (Ev.bind (to_ws ws hw) (Ev.now _))
theorem eq_trans (a0 a1 a2 a3 a4 a5 a6 : Int) (rs : List S55) (ws : List S76) (hr : rs.length ≤ 9223372036854775806) (hw : ws.length ≤ 9223372036854775806) :
    Ev (fun k => laws_eqTransaction.f k a0 a1 a2 a3 a4 a5 a6 rs ws a0 a1 a2 a3 a4 a5 a6 rs ws) true := by
  unfold laws_eqTransaction.f
  simp only [if_true]
  exact Ev.bind (eq_rs rs hr) (ev_pos rfl (Ev.bind (eq_ws ws hw) (ev_pos rfl (Ev.now _))))
/-- One mark lies before another. -/
def Bef (a b c d : Int) : Prop := a < c ∨ a = c ∧ b < d
instance (a b c d : Int) : Decidable (Bef a b c d) := by unfold Bef; exact inferInstance
theorem rdr (l : List S55) (i : Nat) : rd_T55 l (i : Int) = l.getD i z55 := by unfold rd_T55; rw [Int.toNat_natCast]
theorem rdw (l : List S76) (i : Nat) : rd_T76 l (i : Int) = l.getD i z76 := by unfold rd_T76; rw [Int.toNat_natCast]
def ROk (l : List S55) (j : Nat) : Prop := (0 ≤ (l.getD j z55).f0 ∧ (l.getD j z55).f0 ≤ 5) ∧ (0 ≤ (l.getD j z55).f1 ∧ (l.getD j z55).f1 ≤ 999) ∧ (0 < j → Bef (l.getD (j - 1) z55).f0 (l.getD (j - 1) z55).f1 (l.getD j z55).f0 (l.getD j z55).f1)
instance (l : List S55) : DecidablePred (ROk l) := fun j => by unfold ROk; exact inferInstance
def WOk (l : List S76) (j : Nat) : Prop := (0 ≤ (l.getD j z76).f0 ∧ (l.getD j z76).f0 ≤ 5) ∧ (-1 ≤ (l.getD j z76).f1 ∧ (l.getD j z76).f1 ≤ 99) ∧ (0 < j → (l.getD (j - 1) z76).f0 < (l.getD j z76).f0)
instance (l : List S76) : DecidablePred (WOk l) := fun j => by unfold WOk; exact inferInstance
def Hd (a0 a1 a2 a3 a4 a5 a6 : Int) : Prop := (1 ≤ a0 ∧ a0 ≤ 9) ∧ (1 ≤ a1 ∧ a1 ≤ 4) ∧ (1 ≤ a2 ∧ a2 ≤ 3) ∧ (0 ≤ a3 ∧ a3 ≤ 999) ∧ (0 ≤ a4 ∧ a4 ≤ 999) ∧ (1 ≤ a5 ∧ a5 ≤ 1000) ∧ (a2 = 2 → 1 ≤ a6 ∧ a6 ≤ 999) ∧ (a2 ≠ 2 → a6 = 0)
instance (a0 a1 a2 a3 a4 a5 a6 : Int) : Decidable (Hd a0 a1 a2 a3 a4 a5 a6) := by unfold Hd; exact inferInstance
/-- What a right transaction is. -/
def vt (a0 a1 a2 a3 a4 a5 a6 : Int) (rs : List S55) (ws : List S76) : Bool :=
  decide (∀ j, j < rs.length → ROk rs j) && (decide (∀ j, j < ws.length → WOk ws j) && (decide (Hd a0 a1 a2 a3 a4 a5 a6) && decide (rs.length ≤ 60)))
theorem spec_bef (a b c d : Int) : spec_l5Before.f a b c d = some (decide (Bef a b c d)) := by
  unfold spec_l5Before.f
  by_cases hb : Bef a b c d
  · rw [decide_eq_true hb]
    rcases hb with h | ⟨h, h2⟩
    · rw [if_pos h]
    · rw [if_neg (by omega), if_pos h, decide_eq_true h2]
  · rw [decide_eq_false hb]
    have h1 : ¬ a < c := fun h => hb (Or.inl h)
    rw [if_neg h1]
    by_cases h : a = c
    · rw [if_pos h, decide_eq_false (fun h2 => hb (Or.inr ⟨h, h2⟩))]
    · rw [if_neg h]
theorem spec_hd (a0 a1 a2 a3 a4 a5 a6 : Int) (rs : List S55) (ws : List S76) (b : Bool) (hb : b = !decide ((1 ≤ a0 ∧ a0 ≤ 9) ∧ (1 ≤ a1 ∧ a1 ≤ 4) ∧ (0 ≤ a3 ∧ a3 ≤ 999))) :
    Ev (fun k => spec_IsValidTransaction.j4 k b a0 a1 a2 a3 a4 a5 a6 rs ws) (decide (Hd a0 a1 a2 a3 a4 a5 a6) && decide (rs.length ≤ 60)) := by
  have hno : ¬ Hd a0 a1 a2 a3 a4 a5 a6 → Ev (fun _ : Nat => some false) (decide (Hd a0 a1 a2 a3 a4 a5 a6) && decide (rs.length ≤ 60)) := fun h => by
    rw [decide_eq_false h]; exact Ev.now _
  refine Ev.step (fun k => spec_IsValidTransaction.j4.eq_2 ..) ?_
  simp only [spec_in, Option.bind_some]
  have hB : b = true ↔ ¬ ((1 ≤ a0 ∧ a0 ≤ 9) ∧ (1 ≤ a1 ∧ a1 ≤ 4) ∧ (0 ≤ a3 ∧ a3 ≤ 999)) := by
    rw [hb, Bool.not_eq_true', decide_eq_false_iff_not]
  have hC : ((a2 == 2) == (decide (a6 > 0))) = true ↔ (a2 = 2 ↔ a6 > 0) := by
    rw [beq_iff_eq, Bool.eq_iff_iff, beq_iff_eq, decide_eq_true_eq]
  refine ev_ite (fun h0 => hno ?_) (fun h0 => ev_ite (fun h1 => ev_ite (fun h2 => ev_ite (fun h3 => ev_ite (fun h4 => ev_ite (fun h5 => ?_) (fun h5 => hno ?_)) (fun h4 => hno ?_)) (fun h3 => hno ?_)) (fun h2 => hno ?_)) (fun h1 => hno ?_))
  all_goals
    simp only [hB, hC, decide_eq_true_eq] at *
    clear hno hb hB hC
  case refine_2 =>
    rw [decide_eq_true (show Hd a0 a1 a2 a3 a4 a5 a6 by unfold Hd; omega), Bool.true_and]
    refine ev_eq (Ev.now _) ?_
    rw [decide_eq_decide]
    omega
  all_goals
    unfold Hd
    omega
theorem spec_ws (a0 a1 a2 a3 a4 a5 a6 : Int) (rs : List S55) (ws : List S76) (hw : ws.length ≤ 9223372036854775806) :
    Ev (fun k => spec_IsValidTransaction.l1 k 0 a0 a1 a2 a3 a4 a5 a6 rs ws) (decide (∀ j, j < ws.length → WOk ws j) && (decide (Hd a0 a1 a2 a3 a4 a5 a6) && decide (rs.length ≤ 60))) := by
  have hno : ∀ i, Ev (fun k => spec_IsValidTransaction.j3 k i true a0 a1 a2 a3 a4 a5 a6 rs ws) false := fun i => Ev.step (fun k => spec_IsValidTransaction.j3.eq_2 ..) (ev_pos rfl (Ev.now _))
  have hgo : ∀ i : Nat, i < ws.length → ∀ r, Ev (fun k => spec_IsValidTransaction.l1 k ((i + 1 : Nat) : Int) a0 a1 a2 a3 a4 a5 a6 rs ws) r → Ev (fun k => spec_IsValidTransaction.j3 k (i : Int) false a0 a1 a2 a3 a4 a5 a6 rs ws) r := by
    intro i hi r h
    refine Ev.step (fun k => spec_IsValidTransaction.j3.eq_2 ..) (ev_neg (by simp) ?_)
    rw [up i (by omega)]
    exact h
  refine all_loop0 (g := fun k i => spec_IsValidTransaction.l1 k i a0 a1 a2 a3 a4 a5 a6 rs ws) ws.length (WOk ws) ?_ ?_ ?_
  · refine Ev.step (fun k => spec_IsValidTransaction.l1.eq_2 ..) (ev_neg (by omega) ?_)
    simp only [spec_in, Option.bind_some]
    refine ev_ite (fun h1 => ev_ite (fun h2 => ?_) (fun h2 => ?_)) (fun h1 => ?_)
    · refine spec_hd a0 a1 a2 a3 a4 a5 a6 rs ws _ ?_
      simp only [decide_eq_true_eq] at h1 h2
      congr 1
      rw [decide_eq_decide]
      exact ⟨fun h => ⟨h1, h2, h⟩, fun h => h.2.2⟩
    · refine spec_hd a0 a1 a2 a3 a4 a5 a6 rs ws _ ?_
      simp only [decide_eq_true_eq] at h1 h2
      symm
      rw [Bool.not_eq_true', decide_eq_false_iff_not]
      exact fun h => h2 h.2.1
    · refine spec_hd a0 a1 a2 a3 a4 a5 a6 rs ws _ ?_
      simp only [decide_eq_true_eq] at h1
      symm
      rw [Bool.not_eq_true', decide_eq_false_iff_not]
      exact fun h => h1 h.1
  · intro i hi hp r h
    refine Ev.step (fun k => spec_IsValidTransaction.l1.eq_2 ..) (ev_pos (by omega) (ev_pos (by omega) ?_))
    simp only [spec_in, Option.bind_some, rdw]
    refine ev_pos (decide_eq_true hp.1) (ev_pos (decide_eq_true hp.2.1) (ev_ite (fun h0 => ?_) (fun h0 => hgo i hi r h)))
    rw [down i (by omega) (by omega), rdw]
    refine ev_pos (by omega) (ev_pos (by omega) ?_)
    have := hp.2.2 (by omega)
    rw [decide_eq_false (by omega)]
    exact hgo i hi r h
  · intro i hi hp
    refine Ev.step (fun k => spec_IsValidTransaction.l1.eq_2 ..) (ev_pos (by omega) (ev_pos (by omega) ?_))
    simp only [spec_in, Option.bind_some, rdw]
    refine ev_ite (fun h1 => ev_ite (fun h2 => ev_ite (fun h0 => ?_) (fun h0 => ?_)) (fun _ => hno _)) (fun _ => hno _)
    · rw [down i (by omega) (by omega), rdw]
      refine ev_pos (by omega) (ev_pos (by omega) ?_)
      rw [decide_eq_true (?_ : (ws.getD (i - 1) z76).f0 ≥ (ws.getD i z76).f0)]
      · exact hno _
      · rcases Int.lt_or_le (ws.getD (i - 1) z76).f0 (ws.getD i z76).f0 with h3 | h3
        · exact absurd ⟨of_decide_eq_true h1, of_decide_eq_true h2, fun _ => h3⟩ hp
        · exact h3
    · exact absurd ⟨of_decide_eq_true h1, of_decide_eq_true h2, fun h => absurd h (by omega)⟩ hp
theorem spec_vt (a0 a1 a2 a3 a4 a5 a6 : Int) (rs : List S55) (ws : List S76) (hr : rs.length ≤ 9223372036854775806) (hw : ws.length ≤ 9223372036854775806) :
    Ev (fun k => spec_IsValidTransaction.f k a0 a1 a2 a3 a4 a5 a6 rs ws) (vt a0 a1 a2 a3 a4 a5 a6 rs ws) := by
  unfold spec_IsValidTransaction.f vt
  have hno : ∀ i, Ev (fun k => spec_IsValidTransaction.j1 k i true a0 a1 a2 a3 a4 a5 a6 rs ws) false := fun i => Ev.step (fun k => spec_IsValidTransaction.j1.eq_2 ..) (ev_pos rfl (Ev.now _))
  have hgo : ∀ i : Nat, i < rs.length → ∀ r, Ev (fun k => spec_IsValidTransaction.l0 k ((i + 1 : Nat) : Int) a0 a1 a2 a3 a4 a5 a6 rs ws) r → Ev (fun k => spec_IsValidTransaction.j1 k (i : Int) false a0 a1 a2 a3 a4 a5 a6 rs ws) r := by
    intro i hi r h
    refine Ev.step (fun k => spec_IsValidTransaction.j1.eq_2 ..) (ev_neg (by simp) ?_)
    rw [up i (by omega)]
    exact h
  refine all_loop0 (g := fun k i => spec_IsValidTransaction.l0 k i a0 a1 a2 a3 a4 a5 a6 rs ws) rs.length (ROk rs) ?_ ?_ ?_
  · exact Ev.step (fun k => spec_IsValidTransaction.l0.eq_2 ..) (ev_neg (by omega) (spec_ws a0 a1 a2 a3 a4 a5 a6 rs ws hw))
  · intro i hi hp r h
    refine Ev.step (fun k => spec_IsValidTransaction.l0.eq_2 ..) (ev_pos (by omega) (ev_pos (by omega) ?_))
    simp only [spec_in, Option.bind_some, rdr]
    refine ev_pos (decide_eq_true hp.1) (ev_pos (decide_eq_true hp.2.1) (ev_ite (fun h0 => ?_) (fun h0 => hgo i hi r h)))
    rw [down i (by omega) (by omega), rdr]
    refine ev_pos (by omega) (ev_pos (by omega) ?_)
    simp only [spec_bef, Option.bind_some]
    rw [decide_eq_true (hp.2.2 (by omega))]
    exact hgo i hi r h
  · intro i hi hp
    refine Ev.step (fun k => spec_IsValidTransaction.l0.eq_2 ..) (ev_pos (by omega) (ev_pos (by omega) ?_))
    simp only [spec_in, Option.bind_some, rdr]
    refine ev_ite (fun h1 => ev_ite (fun h2 => ev_ite (fun h0 => ?_) (fun h0 => ?_)) (fun _ => hno _)) (fun _ => hno _)
    · rw [down i (by omega) (by omega), rdr]
      refine ev_pos (by omega) (ev_pos (by omega) ?_)
      simp only [spec_bef, Option.bind_some]
      rw [decide_eq_false (fun h3 => hp ⟨of_decide_eq_true h1, of_decide_eq_true h2, fun _ => h3⟩)]
      exact hno _
    · exact absurd ⟨of_decide_eq_true h1, of_decide_eq_true h2, fun h => absurd h (by omega)⟩ hp
/-- How one number stands to another. -/
def cmpv (a b : Int) : Int := if a < b then -1 else if a > b then 1 else 0
theorem cmp_ev (a b : Int) : cmp_Compare_int.f a b = some (cmpv a b) := by
  unfold cmp_Compare_int.f cmp_isNaN_int.f cmpv
  simp only [Option.bind_some, bne_self_eq_false, Bool.false_eq_true, if_false]
  by_cases h : a < b
  · simp [h]
  · by_cases h2 : a > b <;> simp [h, h2]
def cmpM (a b c d : Int) : Int := if cmpv a c = 0 then cmpv b d else cmpv a c
theorem impl_cmpM (a b c d : Int) : Ev (fun k => impl_compareMarks.f k a b c d) (cmpM a b c d) := by
  unfold impl_compareMarks.f
  simp only [cmp_ev, Option.bind_some]
  refine Ev.bind (a := cmpM a b c d) ?_ (Ev.now _)
  unfold cmp_Or_int.f cmpM
  refine Ev.step (fun k => cmp_Or_int.l0.eq_2 ..) (ev_pos (by simp) (ev_pos (by omega) (ev_pos (by simp) ?_)))
  refine ev_ite (fun h => ?_) (fun h => ?_)
  · have h' : cmpv a c = 0 := h
    rw [if_pos h', w64 (by omega) (by omega)]
    refine Ev.step (fun k => cmp_Or_int.l0.eq_2 ..) (ev_pos (by simp) (ev_pos (by omega) (ev_pos (by simp) ?_)))
    refine ev_ite (fun h2 => ?_) (fun h2 => ?_)
    · have h2' : cmpv b d = 0 := h2
      rw [h2', w64 (by omega) (by omega)]
      exact Ev.step (fun k => cmp_Or_int.l0.eq_2 ..) (ev_neg (by simp) (Ev.now _))
    · exact Ev.now _
  · have h' : ¬ cmpv a c = 0 := h
    rw [if_neg h']
    exact Ev.now _
theorem cmpM_bef (a b c d : Int) : cmpM a b c d ≥ 0 ↔ ¬ Bef a b c d := by
  unfold cmpM cmpv Bef
  by_cases h1 : a < c
  · simp [h1]
  · by_cases h2 : a > c
    · simp [h1, h2]; omega
    · have : a = c := by omega
      subst this
      by_cases h3 : b < d
      · simp [h3]
      · by_cases h4 : b > d <;> simp [h3, h4]
theorem impl_rs (l : List S55) (hl : l.length ≤ 9223372036854775806) : Ev (fun k => impl_areReads.f k l) (decide (∀ j, j < l.length → ROk l j) && decide (l.length ≤ 60)) := by
  unfold impl_areReads.f
  refine all_loop0 (g := fun k i => impl_areReads.l0 k l l (l.length : Int) i) l.length (ROk l) ?_ ?_ ?_
  · refine Ev.step (fun k => impl_areReads.l0.eq_2 ..) (ev_neg (by omega) (ev_eq (Ev.now _) ?_))
    rw [decide_eq_decide]
    omega
  · intro i hi hp r h
    refine Ev.step (fun k => impl_areReads.l0.eq_2 ..) (ev_pos (by omega) (ev_pos (by omega) (ev_pos (by omega) ?_)))
    simp only [impl_isKey.f, impl_in_, Option.bind_some, rdr]
    rw [up i (by omega)]
    refine ev_pos (decide_eq_true hp.1) (ev_pos (decide_eq_true hp.2.1) (ev_ite (fun h0 => ?_) (fun h0 => h)))
    rw [down i (by omega) (by omega), rdr]
    refine ev_pos (by omega) (ev_pos (by omega) (Ev.bind (impl_cmpM _ _ _ _) (ev_neg ?_ h)))
    rw [cmpM_bef]
    exact fun h2 => h2 (hp.2.2 (by omega))
  · intro i hi hp
    refine Ev.step (fun k => impl_areReads.l0.eq_2 ..) (ev_pos (by omega) (ev_pos (by omega) (ev_pos (by omega) ?_)))
    simp only [impl_isKey.f, impl_in_, Option.bind_some, rdr]
    rw [up i (by omega)]
    refine ev_ite (fun h1 => ev_ite (fun h2 => ev_ite (fun h0 => ?_) (fun h0 => ?_)) (fun _ => Ev.now _)) (fun _ => Ev.now _)
    · rw [down i (by omega) (by omega), rdr]
      refine ev_pos (by omega) (ev_pos (by omega) (Ev.bind (impl_cmpM _ _ _ _) (ev_pos ?_ (Ev.now _))))
      rw [cmpM_bef]
      exact fun h3 => hp ⟨of_decide_eq_true h1, of_decide_eq_true h2, fun _ => h3⟩
    · exact absurd ⟨of_decide_eq_true h1, of_decide_eq_true h2, fun h => absurd h (by omega)⟩ hp
theorem impl_ws (l : List S76) (hl : l.length ≤ 9223372036854775806) : Ev (fun k => impl_areWrites.f k l) (decide (∀ j, j < l.length → WOk l j) && true) := by
  unfold impl_areWrites.f
  refine all_loop0 (g := fun k i => impl_areWrites.l0 k l l (l.length : Int) i) l.length (WOk l) ?_ ?_ ?_
  · exact Ev.step (fun k => impl_areWrites.l0.eq_2 ..) (ev_neg (by omega) (Ev.now _))
  · intro i hi hp r h
    refine Ev.step (fun k => impl_areWrites.l0.eq_2 ..) (ev_pos (by omega) (ev_pos (by omega) (ev_pos (by omega) ?_)))
    simp only [impl_isKey.f, impl_isValue.f, impl_in_, Option.bind_some, rdw]
    rw [up i (by omega)]
    refine ev_pos (decide_eq_true hp.1) (ev_pos (decide_eq_true hp.2.1) (ev_ite (fun h0 => ?_) (fun h0 => h)))
    rw [down i (by omega) (by omega), rdw]
    have := hp.2.2 (by omega)
    exact ev_pos (by omega) (ev_pos (by omega) (ev_neg (by omega) h))
  · intro i hi hp
    refine Ev.step (fun k => impl_areWrites.l0.eq_2 ..) (ev_pos (by omega) (ev_pos (by omega) (ev_pos (by omega) ?_)))
    simp only [impl_isKey.f, impl_isValue.f, impl_in_, Option.bind_some, rdw]
    rw [up i (by omega)]
    refine ev_ite (fun h1 => ev_ite (fun h2 => ev_ite (fun h0 => ?_) (fun h0 => ?_)) (fun _ => Ev.now _)) (fun _ => Ev.now _)
    · rw [down i (by omega) (by omega), rdw]
      refine ev_pos (by omega) (ev_pos (by omega) (ev_pos ?_ (Ev.now _)))
      rcases Int.lt_or_le (l.getD (i - 1) z76).f0 (l.getD i z76).f0 with h3 | h3
      · exact absurd ⟨of_decide_eq_true h1, of_decide_eq_true h2, fun _ => h3⟩ hp
      · exact h3
    · exact absurd ⟨of_decide_eq_true h1, of_decide_eq_true h2, fun h => absurd h (by omega)⟩ hp
theorem impl_vt (a0 a1 a2 a3 a4 a5 a6 : Int) (rs : List S55) (ws : List S76) (hr : rs.length ≤ 9223372036854775806) (hw : ws.length ≤ 9223372036854775806) :
    Ev (fun k => impl_IsValidTransaction.f k a0 a1 a2 a3 a4 a5 a6 rs ws) (vt a0 a1 a2 a3 a4 a5 a6 rs ws) := by
  have h1 : ∀ b : Bool, Ev (fun k => impl_IsValidTransaction.j1 k b a0 a1 a2 a3 a4 a5 a6 rs ws) (!b && ((decide (∀ j, j < rs.length → ROk rs j) && decide (rs.length ≤ 60)) && (decide (∀ j, j < ws.length → WOk ws j) && true))) := by
    intro b
    refine Ev.step (fun k => impl_IsValidTransaction.j1.eq_2 ..) (ev_ite (fun h => ?_) (fun h => ?_))
    · rw [h]; exact Ev.now _
    · rw [Bool.not_eq_true] at h
      rw [h]
      refine Ev.bind (impl_rs rs hr) (ev_ite (fun g => ?_) (fun g => ?_))
      · rw [g]
        exact Ev.bind (impl_ws ws hw) (ev_eq (Ev.now _) (by simp))
      · rw [Bool.not_eq_true] at g
        rw [g]
        exact ev_eq (Ev.now _) (by simp)
  have h0 : ∀ b : Bool, Ev (fun k => impl_IsValidTransaction.j0 k b a0 a1 a2 a3 a4 a5 a6 rs ws) (!b && (decide ((a2 = 2 → 1 ≤ a6 ∧ a6 ≤ 999) ∧ (a2 ≠ 2 → a6 = 0)) && ((decide (∀ j, j < rs.length → ROk rs j) && decide (rs.length ≤ 60)) && (decide (∀ j, j < ws.length → WOk ws j) && true)))) := by
    intro b
    refine Ev.step (fun k => impl_IsValidTransaction.j0.eq_2 ..) (ev_ite (fun h => ?_) (fun h => ?_))
    · rw [h]; exact Ev.now _
    · rw [Bool.not_eq_true] at h
      rw [h]
      simp only [impl_IsStamp.f, impl_in_, Option.bind_some]
      refine ev_ite (fun g => ev_ite (fun g2 => ?_) (fun g2 => ?_)) (fun g => ?_)
      · refine ev_eq (h1 false) ?_
        rw [decide_eq_true (show (a2 = 2 → 1 ≤ a6 ∧ a6 ≤ 999) ∧ (a2 ≠ 2 → a6 = 0) from ⟨fun _ => of_decide_eq_true g2, fun h => absurd g h⟩)]
        simp
      · refine ev_eq (h1 true) ?_
        rw [decide_eq_false (show ¬ ((a2 = 2 → 1 ≤ a6 ∧ a6 ≤ 999) ∧ (a2 ≠ 2 → a6 = 0)) from fun h => g2 (decide_eq_true (h.1 g)))]
        simp
      · refine ev_eq (h1 _) ?_
        by_cases e : a6 = 0
        · rw [decide_eq_true (show (a2 = 2 → 1 ≤ a6 ∧ a6 ≤ 999) ∧ (a2 ≠ 2 → a6 = 0) from ⟨fun h => absurd h g, fun _ => e⟩)]
          simp [e]
        · rw [decide_eq_false (show ¬ ((a2 = 2 → 1 ≤ a6 ∧ a6 ≤ 999) ∧ (a2 ≠ 2 → a6 = 0)) from fun h => e (h.2 g))]
          simp [e]
  unfold impl_IsValidTransaction.f
  simp only [impl_isID.f, impl_isScheme.f, impl_in_, Option.bind_some]
  have key : ∀ (p : Prop) [Decidable p] (b : Bool), (b = !decide p) → (Hd a0 a1 a2 a3 a4 a5 a6 ↔ p ∧ ((a2 = 2 → 1 ≤ a6 ∧ a6 ≤ 999) ∧ (a2 ≠ 2 → a6 = 0))) → (!b && (decide ((a2 = 2 → 1 ≤ a6 ∧ a6 ≤ 999) ∧ (a2 ≠ 2 → a6 = 0)) && ((decide (∀ j, j < rs.length → ROk rs j) && decide (rs.length ≤ 60)) && (decide (∀ j, j < ws.length → WOk ws j) && true)))) = vt a0 a1 a2 a3 a4 a5 a6 rs ws := by
    intro p _ b hb hp
    unfold vt
    rw [show decide (Hd a0 a1 a2 a3 a4 a5 a6) = (decide p && decide ((a2 = 2 → 1 ≤ a6 ∧ a6 ≤ 999) ∧ (a2 ≠ 2 → a6 = 0))) by rw [← Bool.decide_and, decide_eq_decide]; exact hp, hb, Bool.not_not, Bool.and_true]
    generalize decide (∀ j, j < rs.length → ROk rs j) = x1
    generalize decide (rs.length ≤ 60) = x2
    generalize decide (∀ j, j < ws.length → WOk ws j) = x3
    generalize decide ((a2 = 2 → 1 ≤ a6 ∧ a6 ≤ 999) ∧ (a2 ≠ 2 → a6 = 0)) = x4
    generalize decide p = x5
    cases x1 <;> cases x2 <;> cases x3 <;> cases x4 <;> cases x5 <;> rfl
  refine ev_ite (fun g0 => ev_ite (fun g1 => ev_ite (fun g2 => ev_ite (fun g3 => ev_ite (fun g4 => ?_) (fun g4 => ?_)) (fun g3 => ?_)) (fun g2 => ?_)) (fun g1 => ?_)) (fun g0 => ?_)
  · simp only [decide_eq_true_eq] at g0 g1 g2 g3 g4
    exact ev_eq (h0 _) (key (1 ≤ a5 ∧ a5 ≤ 1000) _ rfl (by unfold Hd; exact ⟨fun h => ⟨h.2.2.2.2.2.1, h.2.2.2.2.2.2⟩, fun h => ⟨g0, g1, g2, g3, g4, h.1, h.2⟩⟩))
  all_goals
    simp only [decide_eq_true_eq] at *
    refine ev_eq (h0 true) (key False _ rfl ?_)
    unfold Hd
    simp only [false_and, iff_false]
  · exact fun h => g4 h.2.2.2.2.1
  · exact fun h => g3 h.2.2.2.1
  · exact fun h => g2 h.2.2.1
  · exact fun h => g1 h.2.1
  · exact fun h => g0 h.1
theorem vt_use {a0 a1 a2 a3 a4 a5 a6 : Int} {rs : List S55} {ws : List S76} (h : vt a0 a1 a2 a3 a4 a5 a6 rs ws = true) :
    (∀ j, j < rs.length → ROk rs j) ∧ (∀ j, j < ws.length → WOk ws j) ∧ Hd a0 a1 a2 a3 a4 a5 a6 ∧ rs.length ≤ 60 := by
  unfold vt at h
  simp only [Bool.and_eq_true, decide_eq_true_eq] at h
  exact ⟨h.1, h.2.1, h.2.2.1, h.2.2.2⟩
/-- What a loop's fold comes to. -/
def fN (step : Int → Nat → Int) : Nat → Int → Int
  | 0, a => a
  | n + 1, a => step (fN step n a) n
theorem fold_loop {β : Type} {g : Nat → Int → Int → Option β} {r : β} (n : Nat) (step : Int → Nat → Int) (a : Int) (hend : Ev (fun k => g k (fN step n a) (n : Int)) r)
    (hs : ∀ i, i < n → ∀ x, Ev (fun k => g k (step x i) ((i + 1 : Nat) : Int)) r → Ev (fun k => g k x (i : Int)) r) : Ev (fun k => g k a 0) r := by
  have h : ∀ d i, i + d = n → Ev (fun k => g k (fN step i a) (i : Int)) r := by
    intro d
    induction d with
    | zero =>
      intro i hi
      obtain rfl : i = n := by omega
      exact hend
    | succ d ih =>
      intro i hi
      exact hs i (by omega) _ (ih (i + 1) (by omega))
  exact h n 0 (by omega)
theorem rdl_ok {l : List (List S65)} (hv : vs l = true) {key : Int} (h0 : 0 ≤ key) (h5 : key ≤ 5) : vc (rd_L6 l key) = true ∧ (rd_L6 l key).length ≤ 50 := by
  have h6 := vs_len hv
  obtain ⟨i, rfl⟩ : ∃ i : Nat, key = (i : Int) := ⟨key.toNat, by omega⟩
  have hi : i < l.length := by omega
  rw [rd_L6_at l i hi]
  exact vs_chain hv i hi
theorem spec_find (l : List S65) (hl : l.length ≤ 9223372036854775806) (c : Int) : Ev (fun k => spec_FindVersion.f k l c) (impl_FindVersion.frm l c 0) := by
  unfold spec_FindVersion.f
  have h : ∀ d i, i + d = l.length → Ev (fun k => spec_FindVersion.l0 k l c (i : Int)) (impl_FindVersion.frm l c i) := by
    intro d
    induction d with
    | zero =>
      intro i hi
      rw [impl_FindVersion.frm_end l c i (by omega)]
      exact Ev.step (fun k => spec_FindVersion.l0.eq_2 ..) (ev_neg (by omega) (Ev.now _))
    | succ d ih =>
      intro i hi
      refine Ev.step (fun k => spec_FindVersion.l0.eq_2 ..) (ev_pos (by omega) (ev_pos (by omega) ?_))
      rw [show rd_T65 l (i : Int) = l.getD i z65 by unfold rd_T65; rw [Int.toNat_natCast], up i (by omega)]
      by_cases hp : (l.getD i z65).f2 = c
      · rw [impl_FindVersion.frm_hit l c i (by omega) hp]
        exact ev_pos hp (Ev.now _)
      · rw [impl_FindVersion.frm_miss l c i (by omega) hp]
        exact ev_neg hp (ih (i + 1) (by omega))
  exact h l.length 0 (by omega)
/-- Are there versions of all marks? -/
def exq (l : List (List S65)) (rs : List S55) : Bool := decide (impl_Store_readsExist.frm (impl_Store_readsExist.miss l) rs 0 < 0)
theorem impl_exist (l : List (List S65)) {a0 a1 a2 a3 a4 a5 a6 : Int} {rs : List S55} {ws : List S76} (hv : vs l = true) (ht : vt a0 a1 a2 a3 a4 a5 a6 rs ws = true) : impl_Store_readsExist.f l rs = some (exq l rs) := by
  obtain ⟨hR, _, _, _⟩ := vt_use ht
  have h6 := vs_len hv
  unfold impl_Store_readsExist.f exq
  rw [if_pos (fun j hj => by have := (hR j hj).1; omega)]
/-- What the reference and the program say of the reads. -/
def exOf (l : List (List S65)) (a0 a1 a2 a3 a4 a5 a6 : Int) (rs : List S55) (ws : List S76) : Bool := vs l && (vt a0 a1 a2 a3 a4 a5 a6 rs ws && exq l rs)
theorem spec_exist (l : List (List S65)) (a0 a1 a2 a3 a4 a5 a6 : Int) (rs : List S55) (ws : List S76) (hl : l.length ≤ 9223372036854775806) (hin : ∀ x ∈ l, x.length ≤ 9223372036854775806) (hr : rs.length ≤ 9223372036854775806) (hw : ws.length ≤ 9223372036854775806) :
    Ev (fun k => spec_ReadsExist.f k l a0 a1 a2 a3 a4 a5 a6 rs ws) (exOf l a0 a1 a2 a3 a4 a5 a6 rs ws) := by
  unfold spec_ReadsExist.f exOf
  by_cases hv : vs l = true
  · refine Ev.bind (spec_vs l hl hin) (ev_pos hv (Ev.bind (spec_vt a0 a1 a2 a3 a4 a5 a6 rs ws hr hw) ?_))
    by_cases ht : vt a0 a1 a2 a3 a4 a5 a6 rs ws = true
    · rw [hv, ht, Bool.true_and, Bool.true_and]
      obtain ⟨hR, _, _, _⟩ := vt_use ht
      have h6 := vs_len hv
      refine Ev.step (fun k => spec_ReadsExist.j0.eq_2 ..) (ev_neg (by simp) ?_)
      have h : ∀ d i, i + d = rs.length → Ev (fun k => spec_ReadsExist.l0 k (i : Int) l a0 a1 a2 a3 a4 a5 a6 rs ws) (decide (impl_Store_readsExist.frm (impl_Store_readsExist.miss l) rs i < 0)) := by
        intro d
        induction d with
        | zero =>
          intro i hi
          rw [impl_Store_readsExist.frm_end _ rs i (by omega)]
          exact Ev.step (fun k => spec_ReadsExist.l0.eq_2 ..) (ev_neg (by omega) (Ev.now _))
        | succ d ih =>
          intro i hi
          have hk := (hR i (by omega)).1
          refine Ev.step (fun k => spec_ReadsExist.l0.eq_2 ..) (ev_pos (by omega) (ev_pos (by omega) ?_))
          rw [rdr, up i (by omega)]
          have hc := rdl_ok hv hk.1 hk.2
          refine ev_pos (by omega) (ev_pos (by omega) (Ev.bind (spec_find _ (by omega) _) ?_))
          by_cases hp : impl_FindVersion.frm (rd_L6 l (rs.getD i z55).f0) (rs.getD i z55).f1 0 < 0
          · rw [impl_Store_readsExist.frm_hit _ rs i (by omega) (decide_eq_true hp)]
            exact ev_pos hp (ev_eq (Ev.now _) (decide_eq_false (by omega)).symm)
          · rw [impl_Store_readsExist.frm_miss _ rs i (by omega) (decide_eq_false hp)]
            exact ev_neg hp (ih (i + 1) (by omega))
      exact h rs.length 0 (by omega)
    · rw [hv, Bool.eq_false_iff.2 ht, Bool.true_and, Bool.false_and]
      exact Ev.step (fun k => spec_ReadsExist.j0.eq_2 ..) (ev_pos (by simp) (Ev.now _))
  · rw [Bool.eq_false_iff.2 hv, Bool.false_and]
    exact Ev.bind (spec_vs l hl hin) (ev_neg hv (Ev.step (fun k => spec_ReadsExist.j0.eq_2 ..) (ev_pos rfl (Ev.now _))))
theorem impl_Exist (l : List (List S65)) (a0 a1 a2 a3 a4 a5 a6 : Int) (rs : List S55) (ws : List S76) (hin : ∀ x ∈ l, x.length ≤ 9223372036854775806) (hr : rs.length ≤ 9223372036854775806) (hw : ws.length ≤ 9223372036854775806) :
    Ev (fun k => impl_ReadsExist.f k l a0 a1 a2 a3 a4 a5 a6 rs ws) (exOf l a0 a1 a2 a3 a4 a5 a6 rs ws) := by
  unfold impl_ReadsExist.f exOf
  by_cases hv : vs l = true
  · refine Ev.bind (impl_vs l hin) (ev_pos hv (Ev.bind (impl_vt a0 a1 a2 a3 a4 a5 a6 rs ws hr hw) ?_))
    by_cases ht : vt a0 a1 a2 a3 a4 a5 a6 rs ws = true
    · rw [hv, ht, Bool.true_and, Bool.true_and]
      exact ev_pos rfl (ev_bindo (impl_exist l hv ht) (Ev.now _))
    · rw [hv, Bool.eq_false_iff.2 ht, Bool.true_and, Bool.false_and]
      exact ev_neg (by simp) (Ev.now _)
  · rw [Bool.eq_false_iff.2 hv, Bool.false_and]
    exact Ev.bind (impl_vs l hin) (ev_neg hv (Ev.now _))
theorem exOf_use {l : List (List S65)} {a0 a1 a2 a3 a4 a5 a6 : Int} {rs : List S55} {ws : List S76} (h : exOf l a0 a1 a2 a3 a4 a5 a6 rs ws = true) : vs l = true ∧ vt a0 a1 a2 a3 a4 a5 a6 rs ws = true ∧ exq l rs = true := by
  unfold exOf at h
  simp only [Bool.and_eq_true] at h
  exact h
theorem exq_use {l : List (List S65)} {rs : List S55} (h : exq l rs = true) (j : Nat) (hj : j < rs.length) : 0 ≤ impl_FindVersion.frm (rd_L6 l (rs.getD j z55).f0) (rs.getD j z55).f1 0 := by
  unfold exq impl_Store_readsExist.frm at h
  have h := of_decide_eq_true h
  cases hf : (List.range' 0 (rs.length - 0)).find? (fun j => impl_Store_readsExist.miss l (rs.getD j z55)) with
  | some k =>
    rw [hf] at h
    have h2 : (k : Int) < 0 := h
    omega
  | none =>
    have h2 := List.find?_eq_none.1 hf j (List.mem_range'_1.2 (by omega))
    unfold impl_Store_readsExist.miss at h2
    simp only [decide_eq_true_eq] at h2
    omega
/-- The version that a read tells. -/
def verOf (l : List (List S65)) (m : S55) : S65 := rd_T65 (rd_L6 l m.f0) (impl_FindVersion.frm (rd_L6 l m.f0) m.f1 0)
/-- The least successor of what was read. -/
def highOf (l : List (List S65)) (rs : List S55) : Int := fN (fun a i => mn a (verOf l (rs.getD i z55)).f4) rs.length 1000
theorem find_at {l : List (List S65)} {a0 a1 a2 a3 a4 a5 a6 : Int} {rs : List S55} {ws : List S76} (h : exOf l a0 a1 a2 a3 a4 a5 a6 rs ws = true) (j : Nat) (hj : j < rs.length) :
    impl_Store_find.f l (rs.getD j z55).f0 (rs.getD j z55).f1 = some ((verOf l (rs.getD j z55)).f0, (verOf l (rs.getD j z55)).f1, (verOf l (rs.getD j z55)).f2, (verOf l (rs.getD j z55)).f3, (verOf l (rs.getD j z55)).f4) := by
  obtain ⟨hv, ht, he⟩ := exOf_use h
  have hk := ((vt_use ht).1 j hj).1
  have h6 := vs_len hv
  unfold impl_Store_find.f
  rw [if_pos ⟨by omega, by omega, exq_use he j hj⟩]
  rfl
/-- What a loop's fold comes to. -/
def fNg {α : Type} (step : α → Nat → α) : Nat → α → α
  | 0, a => a
  | n + 1, a => step (fNg step n a) n
theorem fold_loopg {α β : Type} {g : Nat → α → Int → Option β} {r : β} (n : Nat) (step : α → Nat → α) (a : α) (hend : Ev (fun k => g k (fNg step n a) (n : Int)) r)
    (hs : ∀ i, i < n → Ev (fun k => g k (step (fNg step i a) i) ((i + 1 : Nat) : Int)) r → Ev (fun k => g k (fNg step i a) (i : Int)) r) : Ev (fun k => g k a 0) r := by
  have h : ∀ d i, i + d = n → Ev (fun k => g k (fNg step i a) (i : Int)) r := by
    intro d
    induction d with
    | zero =>
      intro i hi
      obtain rfl : i = n := by omega
      exact hend
    | succ d ih =>
      intro i hi
      exact hs i (by omega) (ih (i + 1) (by omega))
  exact h n 0 (by omega)
/-- From some number of rounds on, a value with a property. -/
def EvP {α : Type} (g : Nat → Option α) (P : α → Prop) : Prop := ∃ r, Ev g r ∧ P r
theorem EvP.of {α : Type} {g f : Nat → Option α} {P : α → Prop} (h : ∀ r, Ev f r → Ev g r) (e : EvP f P) : EvP g P := by
  obtain ⟨r, h1, h2⟩ := e
  exact ⟨r, h r h1, h2⟩
theorem EvP.imp {α : Type} {g : Nat → Option α} {P Q : α → Prop} (e : EvP g P) (h : ∀ r, P r → Q r) : EvP g Q := by
  obtain ⟨r, h1, h2⟩ := e
  exact ⟨r, h1, h r h2⟩
theorem mark_vs (d : Nat) : ∀ (i : Nat) (x : Int) (l : List S65), i + d = l.length → l.length ≤ 1000000000 → 0 ≤ x → x ≤ 100000000000000 + 5 * i → EvP (fun k => laws_markVersionS.l0 k l x (i : Int)) (fun r => r.1 = x + 5 * (d : Int) ∧ r.2.length = l.length) := by
  induction d with
  | zero =>
    intro i x l hi hl h0 h1
    exact ⟨(x, l), Ev.step (fun k => laws_markVersionS.l0.eq_2 ..) (ev_neg (by omega) (Ev.now _)), by simp, rfl⟩
  | succ d ih =>
    intro i x l hi hl h0 h1
    have e : wrap64 (wrap64 (wrap64 (wrap64 (wrap64 (x + 1) + 1) + 1) + 1) + 1) = x + 5 := by
      rw [w64 (n := x + 1) (by omega) (by omega), w64 (n := x + 1 + 1) (by omega) (by omega), w64 (n := x + 1 + 1 + 1) (by omega) (by omega), w64 (n := x + 1 + 1 + 1 + 1) (by omega) (by omega), w64 (by omega) (by omega)]
      omega
    refine EvP.of (fun r h => Ev.step (fun k => laws_markVersionS.l0.eq_2 ..) (ev_pos (by omega) (ev_pos (by omega) (ev_bindo rfl (ev_bindo rfl (ev_bindo rfl (ev_bindo rfl h))))))) ?_
    rw [up i (by omega), e]
    refine EvP.imp (ih (i + 1) (x + 5) _ (by simp; omega) (by simpa using hl) (by omega) (by omega)) (fun r h => ⟨by rw [h.1]; omega, by rw [h.2]; simp⟩)
theorem mark_vss (d : Nat) : ∀ (i : Nat) (x : Int) (l : List (List S65)), i + d = l.length → l.length ≤ 1048576 → (∀ y ∈ l, y.length ≤ 1048576) → 0 ≤ x → x ≤ 1 + 5242880 * i → EvP (fun k => laws_markVersionSS.l0 k l x i) (fun r => 0 ≤ r ∧ r ≤ 1 + 5242880 * (l.length : Int)) := by
  induction d with
  | zero =>
    intro i x l hi hl hin h0 h1
    exact ⟨x, Ev.step (fun k => laws_markVersionSS.l0.eq_2 ..) (ev_neg (by omega) (Ev.now _)), h0, by omega⟩
  | succ d ih =>
    intro i x l hi hl hin h0 h1
    have hg : l.getD i [] = l[i]'(by omega) := by rw [List.getD_eq_getElem?_getD, List.getElem?_eq_getElem (by omega)]; rfl
    have hb : (l.getD i []).length ≤ 1048576 := by rw [hg]; exact hin _ (List.getElem_mem _)
    obtain ⟨r, h2, h3, h4⟩ := mark_vs (l.getD i []).length 0 x (l.getD i []) (by omega) (by omega) h0 (by omega)
    refine EvP.of (fun q h => Ev.step (fun k => laws_markVersionSS.l0.eq_2 ..) (ev_pos (by omega) (Ev.bind h2 h))) ?_
    refine EvP.imp (P := fun q => 0 ≤ q ∧ q ≤ 1 + 5242880 * ((l.set i r.2).length : Int)) ?_ (fun q hq => ⟨hq.1, by have := hq.2; rw [List.length_set] at this; exact this⟩)
    refine ih (i + 1) r.1 (l.set i r.2) (by simp; omega) (by simpa using hl) (fun y hy => ?_) (by omega) (by omega)
    rcases List.mem_or_eq_of_mem_set hy with h | h
    · exact hin y h
    · rw [h, h4]; exact hb
theorem mark_store (l : List (List S65)) (hl : l.length ≤ 1048576) (hin : ∀ y ∈ l, y.length ≤ 1048576) : ∃ r, Ev (fun k => laws_markStore.f k l 1) r ∧ 0 ≤ r ∧ r ≤ 1 + 5242880 * (l.length : Int) :=
  mark_vss l.length 0 1 l (by omega) hl hin (by omega) (by omega)
theorem mark_rs (d : Nat) : ∀ (i : Nat) (x : Int) (l : List S55), i + d = l.length → l.length ≤ 1000000000 → 0 ≤ x → x ≤ 100000000000000 + 5 * i → ∃ l', Ev (fun k => laws_markReadMarkS.l0 k l x (i : Int)) (x + 2 * (d : Int), l') := by
  induction d with
  | zero =>
    intro i x l hi hl h0 h1
    exact ⟨l, Ev.step (fun k => laws_markReadMarkS.l0.eq_2 ..) (ev_neg (by omega) (ev_eq (Ev.now _) (by simp)))⟩
  | succ d ih =>
    intro i x l hi hl h0 h1
    have e : wrap64 (wrap64 (x + 1) + 1) = x + 2 := by rw [w64 (n := x + 1) (by omega) (by omega), w64 (by omega) (by omega)]; omega
    obtain ⟨l', h⟩ := ih (i + 1) (x + 2) (((l.set ((i : Int)).toNat (⟨x, (rd_T55 l (i : Int)).f1⟩ : S55)).set ((i : Int)).toNat (⟨(rd_T55 (l.set ((i : Int)).toNat (⟨x, (rd_T55 l (i : Int)).f1⟩ : S55)) (i : Int)).f0, wrap64 (x + 1)⟩ : S55))) (by simp; omega) (by simpa using hl) (by omega) (by omega)
    refine ⟨l', Ev.step (fun k => laws_markReadMarkS.l0.eq_2 ..) (ev_pos (by omega) (ev_pos (by omega) (ev_bindo rfl ?_)))⟩
    rw [up i (by omega), e]
    refine ev_eq h ?_
    rw [show x + 2 + 2 * (d : Int) = x + 2 * ((d + 1 : Nat) : Int) by omega]
theorem mark_ws (d : Nat) : ∀ (i : Nat) (x : Int) (l : List S76), i + d = l.length → l.length ≤ 1000000000 → 0 ≤ x → x ≤ 100000000000000 + 5 * i → ∃ l', Ev (fun k => laws_markWriteS.l0 k l x (i : Int)) (x + 2 * (d : Int), l') := by
  induction d with
  | zero =>
    intro i x l hi hl h0 h1
    exact ⟨l, Ev.step (fun k => laws_markWriteS.l0.eq_2 ..) (ev_neg (by omega) (ev_eq (Ev.now _) (by simp)))⟩
  | succ d ih =>
    intro i x l hi hl h0 h1
    have e : wrap64 (wrap64 (x + 1) + 1) = x + 2 := by rw [w64 (n := x + 1) (by omega) (by omega), w64 (by omega) (by omega)]; omega
    obtain ⟨l', h⟩ := ih (i + 1) (x + 2) (((l.set ((i : Int)).toNat (⟨x, (rd_T76 l (i : Int)).f1⟩ : S76)).set ((i : Int)).toNat (⟨(rd_T76 (l.set ((i : Int)).toNat (⟨x, (rd_T76 l (i : Int)).f1⟩ : S76)) (i : Int)).f0, wrap64 (x + 1)⟩ : S76))) (by simp; omega) (by simpa using hl) (by omega) (by omega)
    refine ⟨l', Ev.step (fun k => laws_markWriteS.l0.eq_2 ..) (ev_pos (by omega) (ev_pos (by omega) (ev_bindo rfl ?_)))⟩
    rw [up i (by omega), e]
    refine ev_eq h ?_
    rw [show x + 2 + 2 * (d : Int) = x + 2 * ((d + 1 : Nat) : Int) by omega]
theorem mark_trans (a0 a1 a2 a3 a4 a5 a6 : Int) (rs : List S55) (ws : List S76) (hr : rs.length ≤ 1048576) (hw : ws.length ≤ 1048576) (x : Int) (h0 : 0 ≤ x) (h1 : x ≤ 10000000000000) :
    ∃ r, Ev (fun k => laws_markTransaction.f k a0 a1 a2 a3 a4 a5 a6 rs ws x) r ∧ 0 ≤ r.1 := by
  obtain ⟨rs', g1⟩ := mark_rs rs.length 0 x rs (by omega) (by omega) h0 (by omega)
  obtain ⟨ws', g2⟩ := mark_ws ws.length 0 (x + 2 * (rs.length : Int)) ws (by omega) (by omega) (by omega) (by omega)
  refine ⟨(x + 2 * (rs.length : Int) + 2 * (ws.length : Int), rs', ws'), ?_, ?_⟩
  · unfold laws_markTransaction.f laws_markReadMarkS.f laws_markWriteS.f
    exact Ev.bind g1 (Ev.bind g2 (Ev.now _))
  · show 0 ≤ x + 2 * (rs.length : Int) + 2 * (ws.length : Int)
    omega
theorem rms_set (l : List S55) (i : Nat) (hi : i < l.length) (a : S55) : (l.set i a).getD i z55 = a := by
  rw [List.getD_eq_getElem?_getD, List.getElem?_set, if_pos rfl, if_pos hi]
  rfl
theorem rms_ne (l : List S55) (i j : Nat) (h : i ≠ j) (a : S55) : (l.set i a).getD j z55 = l.getD j z55 := by
  rw [List.getD_eq_getElem?_getD, List.getElem?_set, if_neg h, ← List.getD_eq_getElem?_getD]
theorem mark_rms (n : Nat) (hn : n ≤ 1000000000) (d : Nat) : ∀ (i : Nat) (l : List S55), l.length = n → i + d = n → (∀ j, j < i → l.getD j z55 = ⟨1 + 2 * (j : Int), 2 + 2 * (j : Int)⟩) →
    ∃ l', Ev (fun k => laws_markReadMarkS.l0 k l (1 + 2 * (i : Int)) (i : Int)) (1 + 2 * (n : Int), l') ∧ l'.length = n ∧ ∀ j, j < n → l'.getD j z55 = ⟨1 + 2 * (j : Int), 2 + 2 * (j : Int)⟩ := by
  induction d with
  | zero =>
    intro i l hl hi hj
    obtain rfl : i = n := by omega
    exact ⟨l, Ev.step (fun k => laws_markReadMarkS.l0.eq_2 ..) (ev_neg (by omega) (Ev.now _)), hl, hj⟩
  | succ d ih =>
    intro i l hl hi hj
    obtain ⟨l', h1, h2, h3⟩ := ih (i + 1) ((l.set i (⟨1 + 2 * (i : Int), (l.getD i z55).f1⟩ : S55)).set i ⟨1 + 2 * (i : Int), 2 + 2 * (i : Int)⟩) (by simpa using hl) (by omega) (by
      intro j hj'
      by_cases e : i = j
      · subst e
        exact rms_set _ _ (by simp; omega) _
      · rw [rms_ne _ _ _ e, rms_ne _ _ _ e]
        exact hj j (by omega))
    refine ⟨l', Ev.step (fun k => laws_markReadMarkS.l0.eq_2 ..) (ev_pos (by omega) (ev_pos (by omega) (ev_bindo rfl ?_))), h2, h3⟩
    rw [up i (by omega), w64 (n := 1 + 2 * (i : Int) + 1) (by omega) (by omega), w64 (by omega) (by omega), Int.toNat_natCast, rdr, rdr, rms_set l i (by omega), show 1 + 2 * (i : Int) + 1 + 1 = 1 + 2 * ((i + 1 : Nat) : Int) by omega, show 1 + 2 * (i : Int) + 1 = 2 + 2 * (i : Int) by omega]
    exact h1
theorem held_rms (l : List S55) (hn : l.length ≤ 1000000000) (h : ∀ j, j < l.length → l.getD j z55 = ⟨1 + 2 * (j : Int), 2 + 2 * (j : Int)⟩) (d : Nat) : ∀ i : Nat, i + d = l.length → Ev (fun k => laws_heldReadMarkS.l0 k l (1 + 2 * (i : Int)) (i : Int)) (1 + 2 * (l.length : Int)) := by
  induction d with
  | zero =>
    intro i hi
    obtain rfl : i = l.length := by omega
    exact Ev.step (fun k => laws_heldReadMarkS.l0.eq_2 ..) (ev_neg (by omega) (Ev.now _))
  | succ d ih =>
    intro i hi
    refine Ev.step (fun k => laws_heldReadMarkS.l0.eq_2 ..) (ev_pos (by omega) (ev_pos (by omega) ?_))
    rw [up i (by omega), w64 (n := 1 + 2 * (i : Int) + 1) (by omega) (by omega), w64 (by omega) (by omega), rdr, h i (by omega)]
    refine ev_pos rfl (ev_pos (by show 2 + 2 * (i : Int) = _; omega) ?_)
    rw [show 1 + 2 * (i : Int) + 1 + 1 = 1 + 2 * ((i + 1 : Nat) : Int) by omega]
    exact ih (i + 1) (by omega)
/-- Numbered from 1 on, and found so again. -/
theorem mark_held_rms (l : List S55) (hn : l.length ≤ 1000000000) : ∃ l', Ev (fun k => laws_markReadMarkS.f k l 1) (1 + 2 * (l.length : Int), l') ∧ Ev (fun k => laws_heldReadMarkS.f k l' 1) (1 + 2 * (l.length : Int)) := by
  obtain ⟨l', h1, h2, h3⟩ := mark_rms l.length hn l.length 0 l rfl (by omega) (fun j hj => by omega)
  refine ⟨l', h1, ?_⟩
  have := held_rms l' (by omega) (by rw [h2]; exact h3) l'.length 0 (by omega)
  rw [h2] at this
  exact this
/-- The reads whose version has a successor. -/
def kept (l : List (List S65)) (rs : List S55) (n : Nat) : List S55 := fNg (fun (a : List S55) i => if (verOf l (rs.getD i z55)).f4 = 1000 then a else a ++ [rs.getD i z55]) n []
theorem kept_succ (l : List (List S65)) (rs : List S55) (n : Nat) : kept l rs (n + 1) = if (verOf l (rs.getD n z55)).f4 = 1000 then kept l rs n else kept l rs n ++ [rs.getD n z55] := rfl
theorem kept_len (l : List (List S65)) (rs : List S55) (n : Nat) : (kept l rs n).length ≤ n := by
  induction n with
  | zero => exact Nat.le_refl _
  | succ n ih =>
    rw [kept_succ]
    split
    · omega
    · rw [List.length_append, List.length_singleton]; omega
theorem kept_all (l : List (List S65)) (rs : List S55) (n : Nat) (hn : n ≤ rs.length) (h : ∀ t, t < n → (verOf l (rs.getD t z55)).f4 ≠ 1000) : kept l rs n = rs.take n := by
  induction n with
  | zero => rfl
  | succ n ih =>
    rw [kept_succ, if_neg (h n (by omega)), ih (by omega) (fun t ht => h t (by omega)), List.take_succ_eq_append_getElem (by omega)]
    congr 2
    simp [List.getD_eq_getElem?_getD, List.getElem?_eq_getElem (show n < rs.length by omega)]
theorem suc_le {l : List (List S65)} {a0 a1 a2 a3 a4 a5 a6 : Int} {rs : List S55} {ws : List S76} (h : exOf l a0 a1 a2 a3 a4 a5 a6 rs ws = true) (j : Nat) (hj : j < rs.length) : (verOf l (rs.getD j z55)).f4 ≤ 1000 := by
  obtain ⟨hv, ht, he⟩ := exOf_use h
  have hk := ((vt_use ht).1 j hj).1
  have hc := rdl_ok hv hk.1 hk.2
  have hb := impl_Store_find.bd (rd_L6 l (rs.getD j z55).f0) (rs.getD j z55).f1 0
  have h0 := exq_use he j hj
  unfold verOf
  obtain ⟨i, hi⟩ : ∃ i : Nat, impl_FindVersion.frm (rd_L6 l (rs.getD j z55).f0) (rs.getD j z55).f1 0 = (i : Int) := ⟨_, (Int.toNat_of_nonneg h0).symm⟩
  rw [hi] at hb ⊢
  rw [rd_nat]
  exact (vvS_use (vc_at hc.1 i (by omega))).2.2.2.2
def staleOf (l : List (List S65)) (a0 a1 a2 a3 a4 a5 a6 : Int) (rs : List S55) (ws : List S76) : List S55 := if exOf l a0 a1 a2 a3 a4 a5 a6 rs ws = true then kept l rs rs.length else []
theorem spec_stale (l : List (List S65)) (a0 a1 a2 a3 a4 a5 a6 : Int) (rs : List S55) (ws : List S76) (hl : l.length ≤ 9223372036854775806) (hin : ∀ x ∈ l, x.length ≤ 9223372036854775806) (hr : rs.length ≤ 1048576) (hw : ws.length ≤ 9223372036854775806) : Ev (fun k => spec_StaleReads.f k l a0 a1 a2 a3 a4 a5 a6 rs ws) (staleOf l a0 a1 a2 a3 a4 a5 a6 rs ws) := by
  unfold spec_StaleReads.f staleOf
  have e1 := spec_exist l a0 a1 a2 a3 a4 a5 a6 rs ws hl hin (by omega) hw
  by_cases h : exOf l a0 a1 a2 a3 a4 a5 a6 rs ws = true
  · rw [if_pos h]
    obtain ⟨hv, ht, he⟩ := exOf_use h
    have hR := (vt_use ht).1
    have h6 := vs_len hv
    refine fold_loopg (g := fun k x i => spec_StaleReads.l0 k x i l a0 a1 a2 a3 a4 a5 a6 rs ws) rs.length (fun (a : List S55) i => if (verOf l (rs.getD i z55)).f4 = 1000 then a else a ++ [rs.getD i z55]) [] ?_ ?_
    · exact Ev.step (fun k => spec_StaleReads.l0.eq_2 ..) (ev_neg (by omega) (Ev.step (fun k => spec_StaleReads.j1.eq_2 ..) (ev_neg (by simp) (Ev.now _))))
    · intro i hi g
      have hk := (hR i hi).1
      have hc := rdl_ok hv hk.1 hk.2
      have hb := impl_Store_find.bd (rd_L6 l (rs.getD i z55).f0) (rs.getD i z55).f1 0
      have hs := suc_le h i hi
      refine Ev.step (fun k => spec_StaleReads.l0.eq_2 ..) (ev_pos (by omega) (Ev.bind e1 (Ev.step (fun k => spec_StaleReads.j1.eq_2 ..) (ev_pos h (ev_pos (by omega) (ev_pos (by omega) ?_))))))
      rw [rdr, up i (by omega)]
      refine ev_pos (by omega) (ev_pos (by omega) (Ev.bind (spec_find _ (by omega) _) (ev_pos (exq_use he i hi) (ev_pos hb.2 ?_))))
      by_cases hp : (verOf l (rs.getD i z55)).f4 = 1000
      · rw [if_pos hp] at g
        exact ev_neg (by show ¬ (verOf l (rs.getD i z55)).f4 < 1000; omega) g
      · rw [if_neg hp] at g
        refine ev_pos (by show (verOf l (rs.getD i z55)).f4 < 1000; omega) (ev_pos (by have := kept_len l rs i; show (kept l rs i).length < _; omega) g)
  · rw [if_neg h]
    by_cases h0 : (0 : Int) < (rs.length : Int)
    · exact Ev.step (fun k => spec_StaleReads.l0.eq_2 ..) (ev_pos h0 (Ev.bind e1 (Ev.step (fun k => spec_StaleReads.j1.eq_2 ..) (ev_neg h (Ev.now _)))))
    · exact Ev.step (fun k => spec_StaleReads.l0.eq_2 ..) (ev_neg h0 (Ev.step (fun k => spec_StaleReads.j1.eq_2 ..) (ev_neg (by simp) (Ev.now _))))
theorem suc_ver (l : List (List S65)) (m : S55) : stale_suc l m = (verOf l m).f4 := rfl
theorem ok_at {l : List (List S65)} {a0 a1 a2 a3 a4 a5 a6 : Int} {rs : List S55} {ws : List S76} (h : exOf l a0 a1 a2 a3 a4 a5 a6 rs ws = true) (j : Nat) (hj : j < rs.length) : stale_ok l (rs.getD j z55) := by
  obtain ⟨hv, ht, he⟩ := exOf_use h
  have hk := ((vt_use ht).1 j hj).1
  have h6 := vs_len hv
  exact ⟨by omega, by omega, exq_use he j hj⟩
theorem del_loop {l : List (List S65)} {a0 a1 a2 a3 a4 a5 a6 : Int} {rs : List S55} {ws : List S76} (h : exOf l a0 a1 a2 a3 a4 a5 a6 rs ws = true) (hr : rs.length ≤ 1048576) (d : Nat) : ∀ (j i : Nat) (x : List S55), j + d = rs.length → i < j → x.length = rs.length → x.take i = kept l rs j → (∀ t, j ≤ t → x.getD t z55 = rs.getD t z55) →
    Ev (fun k => stale_del.l0 k x (i : Int) (j : Int) l) (kept l rs rs.length) := by
  induction d with
  | zero =>
    intro j i x hj hij hx hk hrest
    obtain rfl : j = rs.length := by omega
    refine Ev.step (fun k => stale_del.l0.eq_2 ..) (ev_neg (by omega) (ev_pos (by omega) (ev_pos (by omega) (ev_eq (Ev.now _) ?_))))
    rw [Int.toNat_natCast]
    exact hk
  | succ d ih =>
    intro j i x hj hij hx hk hrest
    have hjl : j < rs.length := by omega
    have hrd : rd_T55 x (j : Int) = rs.getD j z55 := by rw [rdr, hrest j (Nat.le_refl _)]
    have hclo : stale_clo.f l (rd_T55 x (j : Int)).f0 (rd_T55 x (j : Int)).f1 = some (stale_suc l (rs.getD j z55) == 1000) := by
      rw [hrd]
      unfold stale_clo.f
      rw [if_pos (ok_at h j hjl)]
    refine Ev.step (fun k => stale_del.l0.eq_2 ..) (ev_pos (by omega) (ev_pos (by omega) (ev_bindo hclo ?_)))
    by_cases hp : (verOf l (rs.getD j z55)).f4 = 1000
    · refine ev_pos (beq_iff_eq.2 hp) ?_
      rw [up j (by omega)]
      exact ih (j + 1) i x (by omega) (by omega) hx (by rw [kept_succ, if_pos hp]; exact hk) (fun t ht => hrest t (by omega))
    · refine ev_neg (by rw [beq_iff_eq]; exact hp) (ev_pos (by omega) (ev_pos (by omega) ?_))
      rw [up j (by omega), up i (by omega), Int.toNat_natCast, hrd]
      refine ih (j + 1) (i + 1) (x.set i ⟨(rs.getD j z55).f0, (rs.getD j z55).f1⟩) (by omega) (by omega) (by rw [List.length_set]; exact hx) ?_ ?_
      · rw [kept_succ, if_neg hp, ← hk, List.take_succ_eq_append_getElem (by rw [List.length_set]; omega), List.getElem_set_self, List.take_set_of_le (Nat.le_refl _)]
      · intro t ht
        have := hrest t (by omega)
        simp only [List.getD_eq_getElem?_getD] at this ⊢
        rw [List.getElem?_set_ne (by omega)]
        exact this
theorem impl_stale (l : List (List S65)) (a0 a1 a2 a3 a4 a5 a6 : Int) (rs : List S55) (ws : List S76) (hl : l.length ≤ 9223372036854775806) (hin : ∀ x ∈ l, x.length ≤ 9223372036854775806) (hr : rs.length ≤ 1048576) (hw : ws.length ≤ 9223372036854775806) : Ev (fun k => impl_StaleReads.f k l a0 a1 a2 a3 a4 a5 a6 rs ws) (staleOf l a0 a1 a2 a3 a4 a5 a6 rs ws) := by
  unfold impl_StaleReads.f staleOf
  have e1 := impl_Exist l a0 a1 a2 a3 a4 a5 a6 rs ws hin (by omega) hw
  by_cases h : exOf l a0 a1 a2 a3 a4 a5 a6 rs ws = true
  · rw [if_pos h]
    refine Ev.bind e1 (ev_pos h (ev_pos (by omega) ?_))
    unfold stale_del.f
    have hf : stale_idx.f rs l = some (impl_Store_readsExist.frm (fun m => stale_suc l m == 1000) rs 0) := by
      unfold stale_idx.f
      rw [if_pos (fun j hj => ok_at h j hj)]
    refine ev_bindo hf ?_
    have hfun : (fun j => (fun m => stale_suc l m == 1000) (rs.getD j z55)) = (fun j => decide ((verOf l (rs.getD j z55)).f4 = 1000)) := by
      funext j
      rfl
    cases hq : fnd rs.length (fun j => (verOf l (rs.getD j z55)).f4 = 1000) with
    | none =>
      have e2 : impl_Store_readsExist.frm (fun m => stale_suc l m == 1000) rs 0 = -1 := by
        unfold impl_Store_readsExist.frm
        rw [Nat.sub_zero]
        unfold fnd at hq
        rw [hfun, hq]
      rw [e2]
      refine ev_pos rfl (ev_eq (Ev.now _) ?_)
      rw [kept_all l rs rs.length (Nat.le_refl _) (fnd_none hq), List.take_length]
    | some k0 =>
      obtain ⟨k1, k2, k3⟩ := fnd_some hq
      have e2 : impl_Store_readsExist.frm (fun m => stale_suc l m == 1000) rs 0 = (k0 : Int) := by
        unfold impl_Store_readsExist.frm
        rw [Nat.sub_zero]
        unfold fnd at hq
        rw [hfun, hq]
      rw [e2]
      refine ev_neg (by omega) ?_
      rw [up k0 (by omega)]
      exact del_loop h hr (rs.length - (k0 + 1)) (k0 + 1) k0 rs (by omega) (by omega) rfl (by rw [kept_succ, if_pos k2, kept_all l rs k0 (by omega) k3]) (fun _ _ => rfl)
  · rw [if_neg h]
    exact Ev.bind e1 (ev_neg h (Ev.now _))
theorem stale_len (l : List (List S65)) (a0 a1 a2 a3 a4 a5 a6 : Int) (rs : List S55) (ws : List S76) : (staleOf l a0 a1 a2 a3 a4 a5 a6 rs ws).length ≤ rs.length := by
  unfold staleOf
  split
  · exact kept_len l rs _
  · simp
theorem FnExactStaleReads : laws_FnExactStaleReads.Pure := by
  intro l a0 a1 a2 a3 a4 a5 a6 rs ws hl hin hr hw
  refine Ev.rounds (g := fun k => laws_FnExactStaleReads.f k l a0 a1 a2 a3 a4 a5 a6 rs ws) ?_
  obtain ⟨r, h1, h2⟩ := sz_store l hl hin 1048576 (by omega) (by omega)
  refine Ev.bind h1 (ev_ite (fun _ => Ev.now _) (fun h3 => ?_))
  obtain ⟨_, h4, h5⟩ := h2 (by omega)
  have h6 : ∀ x ∈ l, x.length ≤ 1048576 := fun x hx => by have := h5 x hx; omega
  obtain ⟨q, h7, h8⟩ := sz_trans a0 a1 a2 a3 a4 a5 a6 rs ws hr hw r (by omega) (by omega)
  refine ev_bindo h7 (ev_ite (fun _ => Ev.now _) (fun h9 => ?_))
  obtain ⟨_, h10, h11⟩ := h8 (by omega)
  have hs := to_store l (by omega) h6
  have ht := to_trans a0 a1 a2 a3 a4 a5 a6 rs ws (by omega) (by omega)
  have hi : ∀ x ∈ cs l, x.length ≤ 9223372036854775806 := fun x hx => by have := cs_in h6 x hx; omega
  have hc : (cs l).length ≤ 9223372036854775806 := by rw [cs_len]; omega
  have g1 := spec_stale (cs l) a0 a1 a2 a3 a4 a5 a6 (rs.map cr) (ws.map cw) hc hi (by simp; omega) (by simp; omega)
  have g2 := impl_stale (cs l) a0 a1 a2 a3 a4 a5 a6 (rs.map cr) (ws.map cw) hc hi (by simp; omega) (by simp; omega)
  have hlen : (staleOf (cs l) a0 a1 a2 a3 a4 a5 a6 (rs.map cr) (ws.map cw)).length ≤ 1048576 := by
    have := stale_len (cs l) a0 a1 a2 a3 a4 a5 a6 (rs.map cr) (ws.map cw)
    simp at this
    omega
  obtain ⟨ov, hov⟩ : ∃ x, staleOf (cs l) a0 a1 a2 a3 a4 a5 a6 (rs.map cr) (ws.map cw) = x := ⟨_, rfl⟩
  rw [hov] at g1 g2 hlen
  have g4 := eq_rs ov (by omega)
  obtain ⟨m0, g50, g60, g61⟩ := mark_store (cs l) (by rw [cs_len]; omega) (fun x hx => cs_in h6 x hx)
  rw [cs_len] at g61
  obtain ⟨m, g5, g6⟩ := mark_trans a0 a1 a2 a3 a4 a5 a6 (rs.map cr) (ws.map cw) (by simp; omega) (by simp; omega) m0 (by omega) (by omega)
  obtain ⟨l', g7, g8⟩ := mark_held_rms ov (by omega)
  refine Ev.bind hs (Ev.bind ht (Ev.bind g1 (Ev.bind hs (Ev.bind ht (Ev.bind g2 (Ev.bind g4 (ev_pos rfl (Ev.bind hs (Ev.bind (eq_store _ hc hi) (ev_pos rfl (Ev.bind ht (Ev.bind (eq_trans a0 a1 a2 a3 a4 a5 a6 _ _ (by simp; omega) (by simp; omega)) (ev_pos rfl (Ev.bind g50 (Ev.bind g5 ?_)))))))))))))))
  have tail : Ev (fun k => laws_FnExactStaleReads.j0 k ov ov false l a0 a1 a2 a3 a4 a5 a6 rs ws) true := by
    refine Ev.step (fun k => laws_FnExactStaleReads.j0.eq_2 ..) (ev_neg (by simp) (Ev.bind g7 (Ev.bind g8 (ev_neg (by omega) (ev_pos rfl (Ev.bind hs (Ev.bind ht (Ev.bind g2 (Ev.bind g4 (ev_pos rfl (Ev.bind g8 (ev_neg (by omega) (ev_pos rfl (Ev.now _))))))))))))))
  exact ev_ite (fun h => absurd h (by omega)) (fun _ => Ev.bind g4 tail)


end Go.Proofs.Ytbcllflajakajaa.Pure
