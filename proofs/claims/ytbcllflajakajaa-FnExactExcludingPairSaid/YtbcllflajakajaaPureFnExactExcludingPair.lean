/- ExcludingPair returns what the reference's returns. -/
import Derived.Test.YtbcllflajakajaaPFnExactExcludingPairx23
import Derived.Test.YtbcllflajakajaaMEv
namespace Go.Proofs.Ytbcllflajakajaa.Pure
open Go Go.RowKit Go.Proofs.Ytbcllflajakajaa.PFnExactExcludingPair Go.Proofs.YtbcllflajakajaaW.PrintWords Go.Proofs.YtbcllflajakajaaW.PrintLast Go.Proofs.YtbcllflajakajaaW.PrintMore Go.Proofs.YtbcllflajakajaaM
set_option linter.unusedVariables false
set_option linter.unusedSimpArgs false

theorem spec_in (a b c : Int) : spec_l1In.f a b c = some (decide (b ≤ a ∧ a ≤ c)) := by
  unfold spec_l1In.f
  by_cases h : b ≤ a <;> simp [h]
theorem impl_in_ (a b c : Int) : impl_in.f a b c = some (decide (b ≤ a ∧ a ≤ c)) := by
  unfold impl_in.f
  by_cases h : b ≤ a <;> simp [h]
/-- What a right version is. -/
def vv (a0 a1 a2 a3 a4 : Int) : Bool := decide ((-1 ≤ a1 ∧ a1 ≤ 99) ∧ (0 ≤ a2 ∧ a2 ≤ 999) ∧ (a2 ≤ a3 ∧ a3 ≤ 999) ∧ (1 ≤ a4 ∧ a4 ≤ 1000) ∧ (a2 = 0 → a0 = 0 ∧ a1 = -1) ∧ (a2 ≠ 0 → 1 ≤ a0 ∧ a0 ≤ 9))
theorem spec_vv (a0 a1 a2 a3 a4 : Int) : Ev (fun k => spec_IsValidVersion.f k a0 a1 a2 a3 a4) (vv a0 a1 a2 a3 a4) := by
  unfold spec_IsValidVersion.f
  simp only [spec_in, Option.bind_some]
  have hj : ∀ b : Bool, Ev (fun k => spec_IsValidVersion.j0 k b a0 a1 a2 a3 a4) (!b && decide ((a2 = 0 → a0 = 0 ∧ a1 = -1) ∧ (a2 ≠ 0 → 1 ≤ a0 ∧ a0 ≤ 9))) := by
    intro b
    refine Ev.step (fun k => spec_IsValidVersion.j0.eq_2 ..) ?_
    simp only [spec_in, Option.bind_some]
    repeat' refine ev_ite (fun h => ?_) (fun h => ?_)
    all_goals
      refine ev_eq (Ev.now _) ?_
      rw [Bool.eq_iff_iff]
      simp only [decide_eq_true_eq, beq_iff_eq, Bool.not_eq_true', Bool.and_eq_true, Bool.not_eq_true, Bool.false_eq_true, false_iff, true_iff] at *
      simp [*] <;> omega
  repeat' refine ev_ite (fun h => ?_) (fun h => ?_)
  all_goals
    refine ev_eq (hj _) ?_
    rw [Bool.eq_iff_iff]
    simp only [vv, decide_eq_true_eq, Bool.not_not, Bool.not_true, Bool.false_and, Bool.and_eq_true, Bool.false_eq_true, false_iff] at *
    omega
theorem impl_vv (a0 a1 a2 a3 a4 : Int) : Ev (fun k => impl_IsValidVersion.f k a0 a1 a2 a3 a4) (vv a0 a1 a2 a3 a4) := by
  unfold impl_IsValidVersion.f
  simp only [impl_isValue.f, impl_isID.f, impl_in_, Option.bind_some]
  have hj : ∀ b : Bool, Ev (fun k => impl_IsValidVersion.j0 k b a0 a1 a2 a3 a4) (!b && decide ((a2 = 0 → a0 = 0 ∧ a1 = -1) ∧ (a2 ≠ 0 → 1 ≤ a0 ∧ a0 ≤ 9))) := by
    intro b
    refine Ev.step (fun k => impl_IsValidVersion.j0.eq_2 ..) ?_
    simp only [impl_isValue.f, impl_isID.f, impl_in_, Option.bind_some]
    repeat' refine ev_ite (fun h => ?_) (fun h => ?_)
    all_goals
      refine ev_eq (Ev.now _) ?_
      rw [Bool.eq_iff_iff]
      simp only [decide_eq_true_eq, beq_iff_eq, Bool.not_eq_true', Bool.and_eq_true, Bool.not_eq_true, Bool.false_eq_true, false_iff, true_iff] at *
      simp [*] <;> omega
  repeat' refine ev_ite (fun h => ?_) (fun h => ?_)
  all_goals
    refine ev_eq (hj _) ?_
    rw [Bool.eq_iff_iff]
    simp only [vv, decide_eq_true_eq, Bool.not_not, Bool.not_true, Bool.false_and, Bool.and_eq_true, Bool.false_eq_true, false_iff] at *
    omega
/-- A version of the law's as one of the program's. -/
def cv (v : S109) : S65 := ⟨v.f0, v.f1, v.f2, v.f3, v.f4⟩
theorem to_loop (l : List S109) (hl : l.length ≤ 1048576) (d : Nat) : ∀ i, i + d = l.length → Ev (fun k => laws_toVersionS.l0 k l ((l.take i).map cv ++ List.replicate d z65) (i : Int)) (l.map cv) := by
  induction d with
  | zero =>
    intro i hi
    refine Ev.step (fun k => laws_toVersionS.l0.eq_2 ..) (ev_neg (by omega) ?_)
    rw [List.take_of_length_le (by omega), List.replicate_zero, List.append_nil]
    exact Ev.now _
  | succ d ih =>
    intro i hi
    refine Ev.step (fun k => laws_toVersionS.l0.eq_2 ..) (ev_pos (by omega) (ev_pos (by omega) ?_))
    simp only [laws_toVersion.f, Option.bind_some]
    refine ev_pos (by simp; omega) ?_
    rw [up i (by omega)]
    have h1 : ((l.take i).map cv ++ List.replicate (d + 1) z65).set ((i : Int)).toNat (cv (rd_T109 l (i : Int))) = (l.take (i + 1)).map cv ++ List.replicate d z65 := by
      have h2 : rd_T109 l (i : Int) = l[i] := by unfold rd_T109; exact get_eq l _ i (by omega)
      have h3 : ((l.take i).map cv).length = i := by simp; omega
      rw [h2, Int.toNat_natCast, List.set_append_right _ _ (by omega), h3, Nat.sub_self, List.replicate_succ, List.set_cons_zero, List.take_succ_eq_append_getElem (by omega), List.map_append]
      simp
    exact h1 ▸ ih (i + 1) (by omega)
theorem to_vs (l : List S109) (hl : l.length ≤ 1048576) : Ev (fun k => laws_toVersionS.f k l) (l.map cv) := by
  unfold laws_toVersionS.f
  refine ev_pos (by omega) (ev_pos (by omega) ?_)
  have := to_loop l hl l.length 0 (by omega)
  rw [List.take_zero, List.map_nil, List.nil_append] at this
  exact this
theorem eq_vs (a : List S65) (hl : a.length ≤ 9223372036854775806) : Ev (fun k => laws_eqVersionS.f k a a) true := by
  unfold laws_eqVersionS.f
  refine ev_pos rfl ?_
  have h : ∀ d i, i + d = a.length → Ev (fun k => laws_eqVersionS.l0 k a a (i : Int)) true := by
    intro d
    induction d with
    | zero =>
      intro i hi
      exact Ev.step (fun k => laws_eqVersionS.l0.eq_2 ..) (ev_neg (by omega) (Ev.now _))
    | succ d ih =>
      intro i hi
      refine Ev.step (fun k => laws_eqVersionS.l0.eq_2 ..) (ev_pos (by omega) (ev_pos (by omega) (ev_pos (by omega) ?_)))
      simp only [laws_eqVersion.f, if_true, Option.bind_some]
      rw [up i (by omega)]
      exact ih (i + 1) (by omega)
  exact h a.length 0 (by omega)
/-- The size that the law allows. -/
theorem sz_vs (l : List S109) (hl : l.length ≤ 9223372036854775807) (n : Int) (h0 : 0 ≤ n) (hn : n ≤ 1048576) : ∃ r, laws_szVersionS.f l n = some r ∧ (0 ≤ r → r = n - l.length) ∧ (r < 0 → n < l.length) := by
  unfold laws_szVersionS.f
  rw [w64 (by omega) (by omega)]
  by_cases h : n - (l.length : Int) < 0
  · exact ⟨-1, by rw [if_pos h], fun h2 => by omega, fun _ => by omega⟩
  · exact ⟨n - l.length, by rw [if_neg h], fun _ => rfl, fun h2 => absurd h2 h⟩
theorem rd_L2_at (l : List (List S109)) (i : Nat) (h : i < l.length) : rd_L2 l (i : Int) = l[i] := by unfold rd_L2; exact get_eq l _ i h
theorem rd_L6_at (l : List (List S65)) (i : Nat) (h : i < l.length) : rd_L6 l (i : Int) = l[i] := by unfold rd_L6; exact get_eq l _ i h
/-- A store's size. -/
theorem sz_loop (l : List (List S109)) (hl : l.length ≤ 1048576) (hin : ∀ x ∈ l, x.length ≤ 9223372036854775807) (d : Nat) : ∀ (i : Nat) (n : Int), 0 ≤ n → n ≤ 1048576 → i + d = l.length →
    ∃ r, Ev (fun k => laws_szVersionSS.l0 k l n (i : Int)) r ∧ (0 ≤ r → r ≤ n ∧ ∀ j (h : j < l.length), i ≤ j → (l[j].length : Int) ≤ n) := by
  induction d with
  | zero =>
    intro i n h0 h1 hi
    exact ⟨n, Ev.step (fun k => laws_szVersionSS.l0.eq_2 ..) (ev_neg (by omega) (Ev.now _)), fun _ => ⟨Int.le_refl _, fun j h1 h2 => by omega⟩⟩
  | succ d ih =>
    intro i n h0 h1 hi
    obtain ⟨q, hq, hq1, hq2⟩ := sz_vs l[i] (hin _ (List.getElem_mem (by omega))) n h0 h1
    by_cases hneg : q < 0
    · refine ⟨-1, Ev.step (fun k => laws_szVersionSS.l0.eq_2 ..) (ev_pos (by omega) (ev_pos (by omega) ?_)), fun h => by omega⟩
      rw [rd_L2_at l i (by omega)]
      exact ev_bindo hq (ev_pos hneg (Ev.now _))
    · have hq3 := hq1 (by omega)
      obtain ⟨r, hr, hr1⟩ := ih (i + 1) q (by omega) (by omega) (by omega)
      refine ⟨r, Ev.step (fun k => laws_szVersionSS.l0.eq_2 ..) (ev_pos (by omega) (ev_pos (by omega) ?_)), fun h => ?_⟩
      · rw [rd_L2_at l i (by omega), up i (by omega)]
        exact ev_bindo hq (ev_neg hneg hr)
      · obtain ⟨h2, h3⟩ := hr1 h
        refine ⟨by omega, fun j hj hij => ?_⟩
        by_cases e : j = i
        · subst e; omega
        · have := h3 j hj (by omega); omega
theorem sz_store (l : List (List S109)) (hl : l.length ≤ 9223372036854775807) (hin : ∀ x ∈ l, x.length ≤ 9223372036854775807) (n : Int) (h0 : 0 ≤ n) (h1 : n ≤ 1048576) :
    ∃ r, Ev (fun k => laws_szStore.f k l n) r ∧ (0 ≤ r → r ≤ n ∧ (l.length : Int) ≤ n ∧ ∀ x ∈ l, (x.length : Int) ≤ n) := by
  unfold laws_szStore.f laws_szVersionSS.f
  rw [w64 (by omega) (by omega)]
  by_cases h : n - (l.length : Int) < 0
  · refine ⟨-1, Ev.bind (a := -1) (ev_pos h (Ev.now _)) (ev_pos (by omega) (Ev.now _)), fun h => by omega⟩
  · obtain ⟨r, hr, hr1⟩ := sz_loop l (by omega) hin l.length 0 (n - l.length) (by omega) (by omega) (by omega)
    by_cases hneg : r < 0
    · exact ⟨-1, Ev.bind (a := r) (ev_neg h hr) (ev_pos hneg (Ev.now _)), fun h => by omega⟩
    · refine ⟨r, Ev.bind (a := r) (ev_neg h hr) (ev_neg hneg (Ev.now _)), fun h2 => ?_⟩
      obtain ⟨h3, h4⟩ := hr1 h2
      refine ⟨by omega, by omega, fun x hx => ?_⟩
      obtain ⟨j, hj, rfl⟩ := List.mem_iff_getElem.1 hx
      have := h4 j hj (by omega)
      omega
/-- A store of the law's as one of the program's. -/
def cs (l : List (List S109)) : List (List S65) := l.map fun x => x.map cv
theorem cs_len (l : List (List S109)) : (cs l).length = l.length := by simp [cs]
theorem cs_in {l : List (List S109)} {n : Nat} (h : ∀ x ∈ l, x.length ≤ n) : ∀ x ∈ cs l, x.length ≤ n := by
  intro x hx
  simp only [cs, List.mem_map] at hx
  obtain ⟨y, hy, rfl⟩ := hx
  simpa using h y hy
theorem tos_loop (l : List (List S109)) (hl : l.length ≤ 1048576) (hin : ∀ x ∈ l, x.length ≤ 1048576) (d : Nat) : ∀ i, i + d = l.length → Ev (fun k => laws_toVersionSS.l0 k l (cs (l.take i) ++ List.replicate d []) (i : Int)) (cs l) := by
  induction d with
  | zero =>
    intro i hi
    refine Ev.step (fun k => laws_toVersionSS.l0.eq_2 ..) (ev_neg (by omega) ?_)
    rw [List.take_of_length_le (by omega), List.replicate_zero, List.append_nil]
    exact Ev.now _
  | succ d ih =>
    intro i hi
    have h3 : (cs (l.take i)).length = i := by simp [cs]; omega
    refine Ev.step (fun k => laws_toVersionSS.l0.eq_2 ..) (ev_pos (by omega) (ev_pos (by omega) ?_))
    rw [rd_L2_at l i (by omega), up i (by omega)]
    refine Ev.bind (to_vs l[i] (hin _ (List.getElem_mem (by omega)))) (ev_pos (by rw [List.length_append, h3, List.length_replicate]; omega) ?_)
    have h1 : (cs (l.take i) ++ List.replicate (d + 1) []).set ((i : Int)).toNat (l[i].map cv) = cs (l.take (i + 1)) ++ List.replicate d [] := by
      rw [Int.toNat_natCast, List.set_append_right _ _ (by omega), h3, Nat.sub_self, List.replicate_succ, List.set_cons_zero, List.take_succ_eq_append_getElem (by omega)]
      simp only [cs, List.map_append, List.map_cons, List.map_nil, List.append_assoc, List.singleton_append]
    exact h1 ▸ ih (i + 1) (by omega)
theorem to_store (l : List (List S109)) (hl : l.length ≤ 1048576) (hin : ∀ x ∈ l, x.length ≤ 1048576) : Ev (fun k => laws_toStore.f k l) (cs l) := by
  unfold laws_toStore.f laws_toVersionSS.f
  refine Ev.bind (a := cs l) (ev_pos (by omega) (ev_pos (by omega) ?_)) (Ev.now _)
  have := tos_loop l hl hin l.length 0 (by omega)
  rw [List.take_zero] at this
  exact this
theorem eq_store (a : List (List S65)) (hl : a.length ≤ 9223372036854775806) (hin : ∀ x ∈ a, x.length ≤ 9223372036854775806) : Ev (fun k => laws_eqStore.f k a a) true := by
  unfold laws_eqStore.f laws_eqVersionSS.f
  have h : ∀ d i, i + d = a.length → Ev (fun k => laws_eqVersionSS.l0 k a a (i : Int)) true := by
    intro d
    induction d with
    | zero =>
      intro i hi
      exact Ev.step (fun k => laws_eqVersionSS.l0.eq_2 ..) (ev_neg (by omega) (Ev.now _))
    | succ d ih =>
      intro i hi
      refine Ev.step (fun k => laws_eqVersionSS.l0.eq_2 ..) (ev_pos (by omega) (ev_pos (by omega) (ev_pos (by omega) ?_)))
      rw [rd_L6_at a i (by omega), up i (by omega)]
      exact Ev.bind (eq_vs a[i] (hin _ (List.getElem_mem (by omega)))) (ev_pos rfl (ih (i + 1) (by omega)))
  exact Ev.bind (a := true) (ev_pos rfl (h a.length 0 (by omega))) (ev_pos rfl (Ev.now _))
/-- One version after another. -/
def Ord (u v : S65) : Prop := ¬ u.f2 ≥ v.f2 ∧ ¬ u.f4 > v.f2
instance (u v : S65) : Decidable (Ord u v) := by unfold Ord; exact inferInstance
def vvS (v : S65) : Bool := vv v.f0 v.f1 v.f2 v.f3 v.f4
def lastOk (l : List S65) : Bool := decide (0 < l.length) && (l.getD (l.length - 1) z65).f4 == 1000
/-- What a right chain is. -/
def vc (l : List S65) : Bool := decide (∀ j, j < l.length → vvS (l.getD j z65) = true ∧ (j + 1 < l.length → Ord (l.getD j z65) (l.getD (j + 1) z65))) && lastOk l
theorem rd_nat (l : List S65) (i : Nat) : rd_T65 l (i : Int) = l.getD i z65 := by unfold rd_T65; rw [Int.toNat_natCast]
theorem last_ev (l : List S65) (hl : l.length ≤ 9223372036854775806) : Ev (fun _ => if (l.length : Int) > 0 then (if 0 ≤ (wrap64 ((l.length : Int) - 1)) then (if (wrap64 ((l.length : Int) - 1)) < (l.length : Int) then (some (((rd_T65 l (wrap64 ((l.length : Int) - 1))).f4) == 1000)) else (none)) else (none)) else (some false)) (lastOk l) := by
  by_cases h : 0 < l.length
  · have e : wrap64 ((l.length : Int) - 1) = ((l.length - 1 : Nat) : Int) := by rw [w64 (by omega) (by omega)]; omega
    rw [e]
    refine ev_pos (by omega) (ev_pos (by omega) (ev_pos (by omega) ?_))
    rw [rd_nat]
    refine ev_eq (Ev.now _) ?_
    unfold lastOk
    rw [decide_eq_true h, Bool.true_and]
  · refine ev_neg (by omega) ?_
    refine ev_eq (Ev.now _) ?_
    unfold lastOk
    rw [decide_eq_false h, Bool.false_and]
theorem spec_vc (l : List S65) (hl : l.length ≤ 9223372036854775806) : Ev (fun k => spec_IsValidChain.f k l) (vc l) := by
  unfold spec_IsValidChain.f vc
  refine all_loop0 (g := fun k i => spec_IsValidChain.l0 k l i) l.length (fun j => vvS (l.getD j z65) = true ∧ (j + 1 < l.length → Ord (l.getD j z65) (l.getD (j + 1) z65))) ?_ ?_ ?_
  · exact Ev.step (fun k => spec_IsValidChain.l0.eq_2 ..) (ev_neg (by omega) (last_ev l hl))
  · intro i hi hp r hr
    refine Ev.step (fun k => spec_IsValidChain.l0.eq_2 ..) (ev_pos (by omega) (ev_pos (by omega) ?_))
    rw [rd_nat, up i (by omega), rd_nat]
    refine Ev.bind (spec_vv _ _ _ _ _) (ev_pos hp.1 (ev_ite (fun h => ?_) (fun _ => hr)))
    have ho := hp.2 (by omega)
    exact ev_pos (by omega) (ev_neg ho.1 (ev_neg ho.2 hr))
  · intro i hi hp
    refine Ev.step (fun k => spec_IsValidChain.l0.eq_2 ..) (ev_pos (by omega) (ev_pos (by omega) ?_))
    rw [rd_nat, up i (by omega), rd_nat]
    refine Ev.bind (spec_vv _ _ _ _ _) (ev_ite (fun h1 => ev_ite (fun h2 => ev_pos (by omega) (ev_ite (fun h3 => Ev.now _) (fun h3 => ev_ite (fun h4 => Ev.now _) (fun h4 => ?_)))) (fun h2 => ?_)) (fun _ => Ev.now _))
    · exact absurd ⟨h1, fun _ => ⟨h3, h4⟩⟩ hp
    · exact absurd ⟨h1, fun h => absurd h (by omega)⟩ hp
theorem impl_vc (l : List S65) (hl : l.length ≤ 9223372036854775806) : Ev (fun k => impl_IsValidChain.f k l) (vc l) := by
  have hv : vc l = (decide (∀ j, j < l.length → vvS (l.getD j z65) = true ∧ (0 < j → Ord (l.getD (j - 1) z65) (l.getD j z65))) && lastOk l) := by
    unfold vc
    congr 1
    rw [decide_eq_decide]
    constructor
    · intro h j hj
      refine ⟨(h j hj).1, fun h0 => ?_⟩
      have := (h (j - 1) (by omega)).2 (by omega)
      rwa [show j - 1 + 1 = j by omega] at this
    · intro h j hj
      refine ⟨(h j hj).1, fun h0 => ?_⟩
      have := (h (j + 1) h0).2 (by omega)
      rwa [show j + 1 - 1 = j by omega] at this
  rw [hv]
  unfold impl_IsValidChain.f
  refine all_loop0 (g := fun k i => impl_IsValidChain.l0 k l l (l.length : Int) i) l.length (fun j => vvS (l.getD j z65) = true ∧ (0 < j → Ord (l.getD (j - 1) z65) (l.getD j z65))) ?_ ?_ ?_
  · exact Ev.step (fun k => impl_IsValidChain.l0.eq_2 ..) (ev_neg (by omega) (last_ev l hl))
  · intro i hi hp r hr
    refine Ev.step (fun k => impl_IsValidChain.l0.eq_2 ..) (ev_pos (by omega) (ev_pos (by omega) (ev_pos (by omega) ?_)))
    rw [rd_nat, up i (by omega)]
    refine Ev.bind (impl_vv _ _ _ _ _) (ev_pos hp.1 (ev_ite (fun h => ?_) (fun _ => hr)))
    have e : wrap64 ((i : Int) - 1) = ((i - 1 : Nat) : Int) := by rw [w64 (by omega) (by omega)]; omega
    rw [e, rd_nat]
    have ho := hp.2 (by omega)
    exact ev_pos (by omega) (ev_pos (by omega) (ev_neg ho.1 (ev_neg ho.2 hr)))
  · intro i hi hp
    refine Ev.step (fun k => impl_IsValidChain.l0.eq_2 ..) (ev_pos (by omega) (ev_pos (by omega) (ev_pos (by omega) ?_)))
    rw [rd_nat, up i (by omega)]
    refine Ev.bind (impl_vv _ _ _ _ _) (ev_ite (fun h1 => ev_ite (fun h2 => ?_) (fun h2 => ?_)) (fun _ => Ev.now _))
    · have e : wrap64 ((i : Int) - 1) = ((i - 1 : Nat) : Int) := by rw [w64 (by omega) (by omega)]; omega
      rw [e, rd_nat]
      exact ev_pos (by omega) (ev_pos (by omega) (ev_ite (fun h3 => Ev.now _) (fun h3 => ev_ite (fun h4 => Ev.now _) (fun h4 => absurd ⟨h1, fun _ => ⟨h3, h4⟩⟩ hp))))
    · exact absurd ⟨h1, fun h => absurd h (by omega)⟩ hp
theorem vc_pos {l : List S65} (h : vc l = true) : 0 < l.length := by
  unfold vc lastOk at h
  simp only [Bool.and_eq_true, decide_eq_true_eq] at h
  exact h.2.1
def chainOk (l : List S65) : Bool := vc l && decide (l.length ≤ 50)
/-- What a right store is. -/
def vs (l : List (List S65)) : Bool := decide (l.length = 6) && l.all chainOk
theorem all_get {α : Type} (l : List α) (p : α → Bool) : l.all p = decide (∀ j (h : j < l.length), p l[j] = true) := by
  rw [Bool.eq_iff_iff, List.all_eq_true, decide_eq_true_eq]
  constructor
  · intro h j hj
    exact h _ (List.getElem_mem hj)
  · intro h x hx
    obtain ⟨j, hj, rfl⟩ := List.mem_iff_getElem.1 hx
    exact h j hj
theorem spec_vs (l : List (List S65)) (hl : l.length ≤ 9223372036854775806) (hin : ∀ x ∈ l, x.length ≤ 9223372036854775806) : Ev (fun k => spec_IsValidStore.f k l) (vs l) := by
  have e : vs l = (decide (∀ j, j < l.length → chainOk (l.getD j []) = true) && ((l.length : Int) == 6)) := by
    unfold vs
    rw [all_get, Bool.and_comm]
    congr 1
    · rw [decide_eq_decide]
      constructor
      · intro h j hj
        rw [List.getD_eq_getElem?_getD, List.getElem?_eq_getElem hj]
        exact h j hj
      · intro h j hj
        have := h j hj
        rwa [List.getD_eq_getElem?_getD, List.getElem?_eq_getElem hj] at this
    · rw [Bool.eq_iff_iff, decide_eq_true_eq, beq_iff_eq]
      omega
  rw [e]
  unfold spec_IsValidStore.f
  have hr : ∀ i, i < l.length → rd_L6 l (i : Int) = l.getD i [] := by intro i hi; unfold rd_L6; rw [Int.toNat_natCast]
  have hi' : ∀ i, i < l.length → (l.getD i []).length ≤ 9223372036854775806 := by
    intro i hi
    rw [List.getD_eq_getElem?_getD, List.getElem?_eq_getElem hi]
    exact hin _ (List.getElem_mem hi)
  refine all_loop0 (g := fun k i => spec_IsValidStore.l0 k i l) l.length _ ?_ ?_ ?_
  · exact Ev.step (fun k => spec_IsValidStore.l0.eq_2 ..) (ev_neg (by omega) (Ev.now _))
  · intro i hi hp r h
    unfold chainOk at hp
    simp only [Bool.and_eq_true, decide_eq_true_eq] at hp
    have h0 := vc_pos hp.1
    refine Ev.step (fun k => spec_IsValidStore.l0.eq_2 ..) (ev_pos (by omega) (ev_pos (by omega) ?_))
    rw [hr i hi, up i (by omega)]
    exact Ev.bind (spec_vc _ (hi' i hi)) (ev_pos hp.1 (ev_pos (by omega) (ev_ite (fun _ => ev_neg (by omega) h) (fun _ => ev_neg (by omega) h))))
  · intro i hi hp
    unfold chainOk at hp
    simp only [Bool.and_eq_true, decide_eq_true_eq] at hp
    refine Ev.step (fun k => spec_IsValidStore.l0.eq_2 ..) (ev_pos (by omega) (ev_pos (by omega) ?_))
    rw [hr i hi, up i (by omega)]
    refine Ev.bind (spec_vc _ (hi' i hi)) (ev_ite (fun h => ?_) (fun _ => Ev.now _))
    have h0 := vc_pos h
    have h1 : ¬ (l.getD i []).length ≤ 50 := fun h2 => hp ⟨h, h2⟩
    exact ev_pos (by omega) (ev_ite (fun _ => ev_pos (by omega) (Ev.now _)) (fun _ => ev_pos (by omega) (Ev.now _)))
theorem impl_chainOk (l : List S65) (hl : l.length ≤ 9223372036854775806) : Ev (fun k => impl_IsValidStore_1.f k l) (!chainOk l) := by
  unfold impl_IsValidStore_1.f chainOk
  refine Ev.bind (impl_vc l hl) (ev_ite (fun h => ?_) (fun h => ?_))
  · rw [h]
    refine ev_eq (Ev.now _) ?_
    rw [Bool.eq_iff_iff]
    simp
    omega
  · rw [Bool.not_eq_true] at h
    rw [h]
    exact Ev.now _
theorem impl_any (l : List (List S65)) (hin : ∀ x ∈ l, x.length ≤ 9223372036854775806) : Ev (fun k => impl_IsValidStore.any k l) (!l.all chainOk) := by
  induction l with
  | nil => exact Ev.now _
  | cons x l ih =>
    refine Ev.congr (fun k => impl_IsValidStore.any.eq_2 ..) ?_
    refine Ev.bind (impl_chainOk x (hin x (by simp))) (ev_ite (fun h => ?_) (fun h => ?_))
    · refine ev_eq (Ev.now _) ?_
      simp at h
      simp [h]
    · refine ev_eq (ih (fun y hy => hin y (by simp [hy]))) ?_
      simp at h
      simp [h]
theorem impl_vs (l : List (List S65)) (hin : ∀ x ∈ l, x.length ≤ 9223372036854775806) : Ev (fun k => impl_IsValidStore.f k l) (vs l) := by
  unfold impl_IsValidStore.f vs
  refine ev_ite (fun h => ?_) (fun h => ?_)
  · refine Ev.bind (impl_any l hin) (ev_eq (Ev.now _) ?_)
    simp [h]
  · refine ev_eq (Ev.now _) ?_
    simp [h]
theorem vs_len {l : List (List S65)} (h : vs l = true) : l.length = 6 := by
  unfold vs at h
  simp only [Bool.and_eq_true, decide_eq_true_eq] at h
  exact h.1
theorem vs_chain {l : List (List S65)} (h : vs l = true) (i : Nat) (hi : i < l.length) : vc l[i] = true ∧ l[i].length ≤ 50 := by
  unfold vs at h
  simp only [Bool.and_eq_true] at h
  have := List.all_eq_true.1 h.2 _ (List.getElem_mem hi)
  unfold chainOk at this
  simpa only [Bool.and_eq_true, decide_eq_true_eq] using this
theorem vc_at {l : List S65} (h : vc l = true) (j : Nat) (hj : j < l.length) : vvS (l.getD j z65) = true := by
  unfold vc at h
  simp only [Bool.and_eq_true, decide_eq_true_eq] at h
  exact (h.1 j hj).1
theorem vvS_use {v : S65} (h : vvS v = true) : (-1 ≤ v.f1 ∧ v.f1 ≤ 99) ∧ (0 ≤ v.f2 ∧ v.f2 ≤ 999) ∧ (v.f2 ≤ v.f3 ∧ v.f3 ≤ 999) ∧ (1 ≤ v.f4 ∧ v.f4 ≤ 1000) := by
  unfold vvS vv at h
  rw [decide_eq_true_eq] at h
  omega
/-- What a chain's latest version is told as. -/
def latestOf (l : List S65) : Int × Int × Int × Int × Int :=
  if vc l = true then ((l.getD (l.length - 1) z65).f0, (l.getD (l.length - 1) z65).f1, (l.getD (l.length - 1) z65).f2, (l.getD (l.length - 1) z65).f3, (l.getD (l.length - 1) z65).f4) else (0, 0, 0, 0, 0)
theorem spec_latest (l : List S65) (hl : l.length ≤ 9223372036854775806) : Ev (fun k => spec_LatestVersion.f k l) (latestOf l) := by
  unfold spec_LatestVersion.f latestOf
  refine Ev.bind (spec_vc l hl) (ev_ite (fun h => ?_) (fun h => ?_))
  · have h0 := vc_pos h
    rw [if_pos h, down l.length h0 (by omega), rd_nat]
    exact ev_pos (by omega) (ev_pos (by omega) (Ev.now _))
  · rw [if_neg h]
    exact Ev.now _
/-- One of the law's as one of the program's. -/
def cr (v : S98) : S55 := ⟨v.f0, v.f1⟩
theorem to_loop_rs (l : List S98) (hl : l.length ≤ 1048576) (d : Nat) : ∀ i, i + d = l.length → Ev (fun k => laws_toReadMarkS.l0 k l ((l.take i).map cr ++ List.replicate d z55) (i : Int)) (l.map cr) := by
  induction d with
  | zero =>
    intro i hi
    refine Ev.step (fun k => laws_toReadMarkS.l0.eq_2 ..) (ev_neg (by omega) ?_)
    rw [List.take_of_length_le (by omega), List.replicate_zero, List.append_nil]
    exact Ev.now _
  | succ d ih =>
    intro i hi
    refine Ev.step (fun k => laws_toReadMarkS.l0.eq_2 ..) (ev_pos (by omega) (ev_pos (by omega) ?_))
    simp only [laws_toReadMark.f, Option.bind_some]
    refine ev_pos (by simp; omega) ?_
    rw [up i (by omega)]
    have h1 : ((l.take i).map cr ++ List.replicate (d + 1) z55).set ((i : Int)).toNat (cr (rd_T98 l (i : Int))) = (l.take (i + 1)).map cr ++ List.replicate d z55 := by
      have h2 : rd_T98 l (i : Int) = l[i] := by unfold rd_T98; exact get_eq l _ i (by omega)
      have h3 : ((l.take i).map cr).length = i := by simp; omega
      rw [h2, Int.toNat_natCast, List.set_append_right _ _ (by omega), h3, Nat.sub_self, List.replicate_succ, List.set_cons_zero, List.take_succ_eq_append_getElem (by omega), List.map_append]
      simp
    exact h1 ▸ ih (i + 1) (by omega)
theorem to_rs (l : List S98) (hl : l.length ≤ 1048576) : Ev (fun k => laws_toReadMarkS.f k l) (l.map cr) := by
  unfold laws_toReadMarkS.f
  refine ev_pos (by omega) (ev_pos (by omega) ?_)
  have := to_loop_rs l hl l.length 0 (by omega)
  rw [List.take_zero, List.map_nil, List.nil_append] at this
  exact this
theorem eq_rs (a : List S55) (hl : a.length ≤ 9223372036854775806) : Ev (fun k => laws_eqReadMarkS.f k a a) true := by
  unfold laws_eqReadMarkS.f
  refine ev_pos rfl ?_
  have h : ∀ d i, i + d = a.length → Ev (fun k => laws_eqReadMarkS.l0 k a a (i : Int)) true := by
    intro d
    induction d with
    | zero =>
      intro i hi
      exact Ev.step (fun k => laws_eqReadMarkS.l0.eq_2 ..) (ev_neg (by omega) (Ev.now _))
    | succ d ih =>
      intro i hi
      refine Ev.step (fun k => laws_eqReadMarkS.l0.eq_2 ..) (ev_pos (by omega) (ev_pos (by omega) (ev_pos (by omega) ?_)))
      simp only [laws_eqReadMark.f, if_true, Option.bind_some]
      rw [up i (by omega)]
      exact ih (i + 1) (by omega)
  exact h a.length 0 (by omega)
/-- The size that the law allows. -/
theorem sz_rs (l : List S98) (hl : l.length ≤ 9223372036854775807) (n : Int) (h0 : 0 ≤ n) (hn : n ≤ 1048576) : ∃ r, laws_szReadMarkS.f l n = some r ∧ (0 ≤ r → r = n - l.length) ∧ (r < 0 → n < l.length) := by
  unfold laws_szReadMarkS.f
  rw [w64 (by omega) (by omega)]
  by_cases h : n - (l.length : Int) < 0
  · exact ⟨-1, by rw [if_pos h], fun h2 => by omega, fun _ => by omega⟩
  · exact ⟨n - l.length, by rw [if_neg h], fun _ => rfl, fun h2 => absurd h2 h⟩
/-- One of the law's as one of the program's. -/
def cw (v : S100) : S76 := ⟨v.f0, v.f1⟩
theorem to_loop_ws (l : List S100) (hl : l.length ≤ 1048576) (d : Nat) : ∀ i, i + d = l.length → Ev (fun k => laws_toWriteS.l0 k l ((l.take i).map cw ++ List.replicate d z76) (i : Int)) (l.map cw) := by
  induction d with
  | zero =>
    intro i hi
    refine Ev.step (fun k => laws_toWriteS.l0.eq_2 ..) (ev_neg (by omega) ?_)
    rw [List.take_of_length_le (by omega), List.replicate_zero, List.append_nil]
    exact Ev.now _
  | succ d ih =>
    intro i hi
    refine Ev.step (fun k => laws_toWriteS.l0.eq_2 ..) (ev_pos (by omega) (ev_pos (by omega) ?_))
    simp only [laws_toWrite.f, Option.bind_some]
    refine ev_pos (by simp; omega) ?_
    rw [up i (by omega)]
    have h1 : ((l.take i).map cw ++ List.replicate (d + 1) z76).set ((i : Int)).toNat (cw (rd_T100 l (i : Int))) = (l.take (i + 1)).map cw ++ List.replicate d z76 := by
      have h2 : rd_T100 l (i : Int) = l[i] := by unfold rd_T100; exact get_eq l _ i (by omega)
      have h3 : ((l.take i).map cw).length = i := by simp; omega
      rw [h2, Int.toNat_natCast, List.set_append_right _ _ (by omega), h3, Nat.sub_self, List.replicate_succ, List.set_cons_zero, List.take_succ_eq_append_getElem (by omega), List.map_append]
      simp
    exact h1 ▸ ih (i + 1) (by omega)
theorem to_ws (l : List S100) (hl : l.length ≤ 1048576) : Ev (fun k => laws_toWriteS.f k l) (l.map cw) := by
  unfold laws_toWriteS.f
  refine ev_pos (by omega) (ev_pos (by omega) ?_)
  have := to_loop_ws l hl l.length 0 (by omega)
  rw [List.take_zero, List.map_nil, List.nil_append] at this
  exact this
theorem eq_ws (a : List S76) (hl : a.length ≤ 9223372036854775806) : Ev (fun k => laws_eqWriteS.f k a a) true := by
  unfold laws_eqWriteS.f
  refine ev_pos rfl ?_
  have h : ∀ d i, i + d = a.length → Ev (fun k => laws_eqWriteS.l0 k a a (i : Int)) true := by
    intro d
    induction d with
    | zero =>
      intro i hi
      exact Ev.step (fun k => laws_eqWriteS.l0.eq_2 ..) (ev_neg (by omega) (Ev.now _))
    | succ d ih =>
      intro i hi
      refine Ev.step (fun k => laws_eqWriteS.l0.eq_2 ..) (ev_pos (by omega) (ev_pos (by omega) (ev_pos (by omega) ?_)))
      simp only [laws_eqWrite.f, if_true, Option.bind_some]
      rw [up i (by omega)]
      exact ih (i + 1) (by omega)
  exact h a.length 0 (by omega)
/-- The size that the law allows. -/
theorem sz_ws (l : List S100) (hl : l.length ≤ 9223372036854775807) (n : Int) (h0 : 0 ≤ n) (hn : n ≤ 1048576) : ∃ r, laws_szWriteS.f l n = some r ∧ (0 ≤ r → r = n - l.length) ∧ (r < 0 → n < l.length) := by
  unfold laws_szWriteS.f
  rw [w64 (by omega) (by omega)]
  by_cases h : n - (l.length : Int) < 0
  · exact ⟨-1, by rw [if_pos h], fun h2 => by omega, fun _ => by omega⟩
  · exact ⟨n - l.length, by rw [if_neg h], fun _ => rfl, fun h2 => absurd h2 h⟩
theorem sz_trans (a0 a1 a2 a3 a4 a5 a6 : Int) (rs : List S98) (ws : List S100) (hr : rs.length ≤ 9223372036854775807) (hw : ws.length ≤ 9223372036854775807) (n : Int) (h0 : 0 ≤ n) (hn : n ≤ 1048576) :
    ∃ r, laws_szTransaction.f a0 a1 a2 a3 a4 a5 a6 rs ws n = some r ∧ (0 ≤ r → r ≤ n ∧ (rs.length : Int) ≤ n ∧ (ws.length : Int) ≤ n) := by
  unfold laws_szTransaction.f
  obtain ⟨q, hq, hq1, _⟩ := sz_rs rs hr n h0 hn
  by_cases h : q < 0
  · exact ⟨-1, by rw [hq, Option.bind_some, if_pos h], fun h => by omega⟩
  · have h2 := hq1 (by omega)
    obtain ⟨p, hp, hp1, _⟩ := sz_ws ws hw q (by omega) (by omega)
    by_cases h3 : p < 0
    · exact ⟨-1, by rw [hq, Option.bind_some, if_neg h, hp, Option.bind_some, if_pos h3], fun h => by omega⟩
    · have h4 := hp1 (by omega)
      exact ⟨p, by rw [hq, Option.bind_some, if_neg h, hp, Option.bind_some, if_neg h3], fun _ => by omega⟩
theorem to_trans (a0 a1 a2 a3 a4 a5 a6 : Int) (rs : List S98) (ws : List S100) (hr : rs.length ≤ 1048576) (hw : ws.length ≤ 1048576) :
    Ev (fun k => laws_toTransaction.f k a0 a1 a2 a3 a4 a5 a6 rs ws) (a0, a1, a2, a3, a4, a5, a6, rs.map cr, ws.map cw) := by
  unfold laws_toTransaction.f
  exact Ev.bind (to_rs rs hr) (Ev.bind (to_ws ws hw) (Ev.now _))
theorem eq_trans (a0 a1 a2 a3 a4 a5 a6 : Int) (rs : List S55) (ws : List S76) (hr : rs.length ≤ 9223372036854775806) (hw : ws.length ≤ 9223372036854775806) :
    Ev (fun k => laws_eqTransaction.f k a0 a1 a2 a3 a4 a5 a6 rs ws a0 a1 a2 a3 a4 a5 a6 rs ws) true := by
  unfold laws_eqTransaction.f
  simp only [if_true]
  exact Ev.bind (eq_rs rs hr) (ev_pos rfl (Ev.bind (eq_ws ws hw) (ev_pos rfl (Ev.now _))))
/-- One mark lies before another. -/
def Bef (a b c d : Int) : Prop := a < c ∨ a = c ∧ b < d
instance (a b c d : Int) : Decidable (Bef a b c d) := by unfold Bef; exact inferInstance
theorem rdr (l : List S55) (i : Nat) : rd_T55 l (i : Int) = l.getD i z55 := by unfold rd_T55; rw [Int.toNat_natCast]
theorem rdw (l : List S76) (i : Nat) : rd_T76 l (i : Int) = l.getD i z76 := by unfold rd_T76; rw [Int.toNat_natCast]
def ROk (l : List S55) (j : Nat) : Prop := (0 ≤ (l.getD j z55).f0 ∧ (l.getD j z55).f0 ≤ 5) ∧ (0 ≤ (l.getD j z55).f1 ∧ (l.getD j z55).f1 ≤ 999) ∧ (0 < j → Bef (l.getD (j - 1) z55).f0 (l.getD (j - 1) z55).f1 (l.getD j z55).f0 (l.getD j z55).f1)
instance (l : List S55) : DecidablePred (ROk l) := fun j => by unfold ROk; exact inferInstance
def WOk (l : List S76) (j : Nat) : Prop := (0 ≤ (l.getD j z76).f0 ∧ (l.getD j z76).f0 ≤ 5) ∧ (-1 ≤ (l.getD j z76).f1 ∧ (l.getD j z76).f1 ≤ 99) ∧ (0 < j → (l.getD (j - 1) z76).f0 < (l.getD j z76).f0)
instance (l : List S76) : DecidablePred (WOk l) := fun j => by unfold WOk; exact inferInstance
def Hd (a0 a1 a2 a3 a4 a5 a6 : Int) : Prop := (1 ≤ a0 ∧ a0 ≤ 9) ∧ (1 ≤ a1 ∧ a1 ≤ 4) ∧ (1 ≤ a2 ∧ a2 ≤ 3) ∧ (0 ≤ a3 ∧ a3 ≤ 999) ∧ (0 ≤ a4 ∧ a4 ≤ 999) ∧ (1 ≤ a5 ∧ a5 ≤ 1000) ∧ (a2 = 2 → 1 ≤ a6 ∧ a6 ≤ 999) ∧ (a2 ≠ 2 → a6 = 0)
instance (a0 a1 a2 a3 a4 a5 a6 : Int) : Decidable (Hd a0 a1 a2 a3 a4 a5 a6) := by unfold Hd; exact inferInstance
/-- What a right transaction is. -/
def vt (a0 a1 a2 a3 a4 a5 a6 : Int) (rs : List S55) (ws : List S76) : Bool :=
  decide (∀ j, j < rs.length → ROk rs j) && (decide (∀ j, j < ws.length → WOk ws j) && (decide (Hd a0 a1 a2 a3 a4 a5 a6) && decide (rs.length ≤ 60)))
theorem spec_bef (a b c d : Int) : spec_l5Before.f a b c d = some (decide (Bef a b c d)) := by
  unfold spec_l5Before.f
  by_cases hb : Bef a b c d
  · rw [decide_eq_true hb]
    rcases hb with h | ⟨h, h2⟩
    · rw [if_pos h]
    · rw [if_neg (by omega), if_pos h, decide_eq_true h2]
  · rw [decide_eq_false hb]
    have h1 : ¬ a < c := fun h => hb (Or.inl h)
    rw [if_neg h1]
    by_cases h : a = c
    · rw [if_pos h, decide_eq_false (fun h2 => hb (Or.inr ⟨h, h2⟩))]
    · rw [if_neg h]
theorem spec_hd (a0 a1 a2 a3 a4 a5 a6 : Int) (rs : List S55) (ws : List S76) (b : Bool) (hb : b = !decide ((1 ≤ a0 ∧ a0 ≤ 9) ∧ (1 ≤ a1 ∧ a1 ≤ 4) ∧ (0 ≤ a3 ∧ a3 ≤ 999))) :
    Ev (fun k => spec_IsValidTransaction.j4 k b a0 a1 a2 a3 a4 a5 a6 rs ws) (decide (Hd a0 a1 a2 a3 a4 a5 a6) && decide (rs.length ≤ 60)) := by
  have hno : ¬ Hd a0 a1 a2 a3 a4 a5 a6 → Ev (fun _ : Nat => some false) (decide (Hd a0 a1 a2 a3 a4 a5 a6) && decide (rs.length ≤ 60)) := fun h => by
    rw [decide_eq_false h]; exact Ev.now _
  refine Ev.step (fun k => spec_IsValidTransaction.j4.eq_2 ..) ?_
  simp only [spec_in, Option.bind_some]
  have hB : b = true ↔ ¬ ((1 ≤ a0 ∧ a0 ≤ 9) ∧ (1 ≤ a1 ∧ a1 ≤ 4) ∧ (0 ≤ a3 ∧ a3 ≤ 999)) := by
    rw [hb, Bool.not_eq_true', decide_eq_false_iff_not]
  have hC : ((a2 == 2) == (decide (a6 > 0))) = true ↔ (a2 = 2 ↔ a6 > 0) := by
    rw [beq_iff_eq, Bool.eq_iff_iff, beq_iff_eq, decide_eq_true_eq]
  refine ev_ite (fun h0 => hno ?_) (fun h0 => ev_ite (fun h1 => ev_ite (fun h2 => ev_ite (fun h3 => ev_ite (fun h4 => ev_ite (fun h5 => ?_) (fun h5 => hno ?_)) (fun h4 => hno ?_)) (fun h3 => hno ?_)) (fun h2 => hno ?_)) (fun h1 => hno ?_))
  all_goals
    simp only [hB, hC, decide_eq_true_eq] at *
    clear hno hb hB hC
  case refine_2 =>
    rw [decide_eq_true (show Hd a0 a1 a2 a3 a4 a5 a6 by unfold Hd; omega), Bool.true_and]
    refine ev_eq (Ev.now _) ?_
    rw [decide_eq_decide]
    omega
  all_goals
    unfold Hd
    omega
theorem spec_ws (a0 a1 a2 a3 a4 a5 a6 : Int) (rs : List S55) (ws : List S76) (hw : ws.length ≤ 9223372036854775806) :
    Ev (fun k => spec_IsValidTransaction.l1 k 0 a0 a1 a2 a3 a4 a5 a6 rs ws) (decide (∀ j, j < ws.length → WOk ws j) && (decide (Hd a0 a1 a2 a3 a4 a5 a6) && decide (rs.length ≤ 60))) := by
  have hno : ∀ i, Ev (fun k => spec_IsValidTransaction.j3 k i true a0 a1 a2 a3 a4 a5 a6 rs ws) false := fun i => Ev.step (fun k => spec_IsValidTransaction.j3.eq_2 ..) (ev_pos rfl (Ev.now _))
  have hgo : ∀ i : Nat, i < ws.length → ∀ r, Ev (fun k => spec_IsValidTransaction.l1 k ((i + 1 : Nat) : Int) a0 a1 a2 a3 a4 a5 a6 rs ws) r → Ev (fun k => spec_IsValidTransaction.j3 k (i : Int) false a0 a1 a2 a3 a4 a5 a6 rs ws) r := by
    intro i hi r h
    refine Ev.step (fun k => spec_IsValidTransaction.j3.eq_2 ..) (ev_neg (by simp) ?_)
    rw [up i (by omega)]
    exact h
  refine all_loop0 (g := fun k i => spec_IsValidTransaction.l1 k i a0 a1 a2 a3 a4 a5 a6 rs ws) ws.length (WOk ws) ?_ ?_ ?_
  · refine Ev.step (fun k => spec_IsValidTransaction.l1.eq_2 ..) (ev_neg (by omega) ?_)
    simp only [spec_in, Option.bind_some]
    refine ev_ite (fun h1 => ev_ite (fun h2 => ?_) (fun h2 => ?_)) (fun h1 => ?_)
    · refine spec_hd a0 a1 a2 a3 a4 a5 a6 rs ws _ ?_
      simp only [decide_eq_true_eq] at h1 h2
      congr 1
      rw [decide_eq_decide]
      exact ⟨fun h => ⟨h1, h2, h⟩, fun h => h.2.2⟩
    · refine spec_hd a0 a1 a2 a3 a4 a5 a6 rs ws _ ?_
      simp only [decide_eq_true_eq] at h1 h2
      symm
      rw [Bool.not_eq_true', decide_eq_false_iff_not]
      exact fun h => h2 h.2.1
    · refine spec_hd a0 a1 a2 a3 a4 a5 a6 rs ws _ ?_
      simp only [decide_eq_true_eq] at h1
      symm
      rw [Bool.not_eq_true', decide_eq_false_iff_not]
      exact fun h => h1 h.1
  · intro i hi hp r h
    refine Ev.step (fun k => spec_IsValidTransaction.l1.eq_2 ..) (ev_pos (by omega) (ev_pos (by omega) ?_))
    simp only [spec_in, Option.bind_some, rdw]
    refine ev_pos (decide_eq_true hp.1) (ev_pos (decide_eq_true hp.2.1) (ev_ite (fun h0 => ?_) (fun h0 => hgo i hi r h)))
    rw [down i (by omega) (by omega), rdw]
    refine ev_pos (by omega) (ev_pos (by omega) ?_)
    have := hp.2.2 (by omega)
    rw [decide_eq_false (by omega)]
    exact hgo i hi r h
  · intro i hi hp
    refine Ev.step (fun k => spec_IsValidTransaction.l1.eq_2 ..) (ev_pos (by omega) (ev_pos (by omega) ?_))
    simp only [spec_in, Option.bind_some, rdw]
    refine ev_ite (fun h1 => ev_ite (fun h2 => ev_ite (fun h0 => ?_) (fun h0 => ?_)) (fun _ => hno _)) (fun _ => hno _)
    · rw [down i (by omega) (by omega), rdw]
      refine ev_pos (by omega) (ev_pos (by omega) ?_)
      rw [decide_eq_true (?_ : (ws.getD (i - 1) z76).f0 ≥ (ws.getD i z76).f0)]
      · exact hno _
      · rcases Int.lt_or_le (ws.getD (i - 1) z76).f0 (ws.getD i z76).f0 with h3 | h3
        · exact absurd ⟨of_decide_eq_true h1, of_decide_eq_true h2, fun _ => h3⟩ hp
        · exact h3
    · exact absurd ⟨of_decide_eq_true h1, of_decide_eq_true h2, fun h => absurd h (by omega)⟩ hp
theorem spec_vt (a0 a1 a2 a3 a4 a5 a6 : Int) (rs : List S55) (ws : List S76) (hr : rs.length ≤ 9223372036854775806) (hw : ws.length ≤ 9223372036854775806) :
    Ev (fun k => spec_IsValidTransaction.f k a0 a1 a2 a3 a4 a5 a6 rs ws) (vt a0 a1 a2 a3 a4 a5 a6 rs ws) := by
  unfold spec_IsValidTransaction.f vt
  have hno : ∀ i, Ev (fun k => spec_IsValidTransaction.j1 k i true a0 a1 a2 a3 a4 a5 a6 rs ws) false := fun i => Ev.step (fun k => spec_IsValidTransaction.j1.eq_2 ..) (ev_pos rfl (Ev.now _))
  have hgo : ∀ i : Nat, i < rs.length → ∀ r, Ev (fun k => spec_IsValidTransaction.l0 k ((i + 1 : Nat) : Int) a0 a1 a2 a3 a4 a5 a6 rs ws) r → Ev (fun k => spec_IsValidTransaction.j1 k (i : Int) false a0 a1 a2 a3 a4 a5 a6 rs ws) r := by
    intro i hi r h
    refine Ev.step (fun k => spec_IsValidTransaction.j1.eq_2 ..) (ev_neg (by simp) ?_)
    rw [up i (by omega)]
    exact h
  refine all_loop0 (g := fun k i => spec_IsValidTransaction.l0 k i a0 a1 a2 a3 a4 a5 a6 rs ws) rs.length (ROk rs) ?_ ?_ ?_
  · exact Ev.step (fun k => spec_IsValidTransaction.l0.eq_2 ..) (ev_neg (by omega) (spec_ws a0 a1 a2 a3 a4 a5 a6 rs ws hw))
  · intro i hi hp r h
    refine Ev.step (fun k => spec_IsValidTransaction.l0.eq_2 ..) (ev_pos (by omega) (ev_pos (by omega) ?_))
    simp only [spec_in, Option.bind_some, rdr]
    refine ev_pos (decide_eq_true hp.1) (ev_pos (decide_eq_true hp.2.1) (ev_ite (fun h0 => ?_) (fun h0 => hgo i hi r h)))
    rw [down i (by omega) (by omega), rdr]
    refine ev_pos (by omega) (ev_pos (by omega) ?_)
    simp only [spec_bef, Option.bind_some]
    rw [decide_eq_true (hp.2.2 (by omega))]
    exact hgo i hi r h
  · intro i hi hp
    refine Ev.step (fun k => spec_IsValidTransaction.l0.eq_2 ..) (ev_pos (by omega) (ev_pos (by omega) ?_))
    simp only [spec_in, Option.bind_some, rdr]
    refine ev_ite (fun h1 => ev_ite (fun h2 => ev_ite (fun h0 => ?_) (fun h0 => ?_)) (fun _ => hno _)) (fun _ => hno _)
    · rw [down i (by omega) (by omega), rdr]
      refine ev_pos (by omega) (ev_pos (by omega) ?_)
      simp only [spec_bef, Option.bind_some]
      rw [decide_eq_false (fun h3 => hp ⟨of_decide_eq_true h1, of_decide_eq_true h2, fun _ => h3⟩)]
      exact hno _
    · exact absurd ⟨of_decide_eq_true h1, of_decide_eq_true h2, fun h => absurd h (by omega)⟩ hp
/-- How one number stands to another. -/
def cmpv (a b : Int) : Int := if a < b then -1 else if a > b then 1 else 0
theorem cmp_ev (a b : Int) : cmp_Compare_int.f a b = some (cmpv a b) := by
  unfold cmp_Compare_int.f cmp_isNaN_int.f cmpv
  simp only [Option.bind_some, bne_self_eq_false, Bool.false_eq_true, if_false]
  by_cases h : a < b
  · simp [h]
  · by_cases h2 : a > b <;> simp [h, h2]
def cmpM (a b c d : Int) : Int := if cmpv a c = 0 then cmpv b d else cmpv a c
theorem impl_cmpM (a b c d : Int) : Ev (fun k => impl_compareMarks.f k a b c d) (cmpM a b c d) := by
  unfold impl_compareMarks.f
  simp only [cmp_ev, Option.bind_some]
  refine Ev.bind (a := cmpM a b c d) ?_ (Ev.now _)
  unfold cmp_Or_int.f cmpM
  refine Ev.step (fun k => cmp_Or_int.l0.eq_2 ..) (ev_pos (by simp) (ev_pos (by omega) (ev_pos (by simp) ?_)))
  refine ev_ite (fun h => ?_) (fun h => ?_)
  · have h' : cmpv a c = 0 := h
    rw [if_pos h', w64 (by omega) (by omega)]
    refine Ev.step (fun k => cmp_Or_int.l0.eq_2 ..) (ev_pos (by simp) (ev_pos (by omega) (ev_pos (by simp) ?_)))
    refine ev_ite (fun h2 => ?_) (fun h2 => ?_)
    · have h2' : cmpv b d = 0 := h2
      rw [h2', w64 (by omega) (by omega)]
      exact Ev.step (fun k => cmp_Or_int.l0.eq_2 ..) (ev_neg (by simp) (Ev.now _))
    · exact Ev.now _
  · have h' : ¬ cmpv a c = 0 := h
    rw [if_neg h']
    exact Ev.now _
theorem cmpM_bef (a b c d : Int) : cmpM a b c d ≥ 0 ↔ ¬ Bef a b c d := by
  unfold cmpM cmpv Bef
  by_cases h1 : a < c
  · simp [h1]
  · by_cases h2 : a > c
    · simp [h1, h2]; omega
    · have : a = c := by omega
      subst this
      by_cases h3 : b < d
      · simp [h3]
      · by_cases h4 : b > d <;> simp [h3, h4]
theorem impl_rs (l : List S55) (hl : l.length ≤ 9223372036854775806) : Ev (fun k => impl_areReads.f k l) (decide (∀ j, j < l.length → ROk l j) && decide (l.length ≤ 60)) := by
  unfold impl_areReads.f
  refine all_loop0 (g := fun k i => impl_areReads.l0 k l l (l.length : Int) i) l.length (ROk l) ?_ ?_ ?_
  · refine Ev.step (fun k => impl_areReads.l0.eq_2 ..) (ev_neg (by omega) (ev_eq (Ev.now _) ?_))
    rw [decide_eq_decide]
    omega
  · intro i hi hp r h
    refine Ev.step (fun k => impl_areReads.l0.eq_2 ..) (ev_pos (by omega) (ev_pos (by omega) (ev_pos (by omega) ?_)))
    simp only [impl_isKey.f, impl_in_, Option.bind_some, rdr]
    rw [up i (by omega)]
    refine ev_pos (decide_eq_true hp.1) (ev_pos (decide_eq_true hp.2.1) (ev_ite (fun h0 => ?_) (fun h0 => h)))
    rw [down i (by omega) (by omega), rdr]
    refine ev_pos (by omega) (ev_pos (by omega) (Ev.bind (impl_cmpM _ _ _ _) (ev_neg ?_ h)))
    rw [cmpM_bef]
    exact fun h2 => h2 (hp.2.2 (by omega))
  · intro i hi hp
    refine Ev.step (fun k => impl_areReads.l0.eq_2 ..) (ev_pos (by omega) (ev_pos (by omega) (ev_pos (by omega) ?_)))
    simp only [impl_isKey.f, impl_in_, Option.bind_some, rdr]
    rw [up i (by omega)]
    refine ev_ite (fun h1 => ev_ite (fun h2 => ev_ite (fun h0 => ?_) (fun h0 => ?_)) (fun _ => Ev.now _)) (fun _ => Ev.now _)
    · rw [down i (by omega) (by omega), rdr]
      refine ev_pos (by omega) (ev_pos (by omega) (Ev.bind (impl_cmpM _ _ _ _) (ev_pos ?_ (Ev.now _))))
      rw [cmpM_bef]
      exact fun h3 => hp ⟨of_decide_eq_true h1, of_decide_eq_true h2, fun _ => h3⟩
    · exact absurd ⟨of_decide_eq_true h1, of_decide_eq_true h2, fun h => absurd h (by omega)⟩ hp
theorem impl_ws (l : List S76) (hl : l.length ≤ 9223372036854775806) : Ev (fun k => impl_areWrites.f k l) (decide (∀ j, j < l.length → WOk l j) && true) := by
  unfold impl_areWrites.f
  refine all_loop0 (g := fun k i => impl_areWrites.l0 k l l (l.length : Int) i) l.length (WOk l) ?_ ?_ ?_
  · exact Ev.step (fun k => impl_areWrites.l0.eq_2 ..) (ev_neg (by omega) (Ev.now _))
  · intro i hi hp r h
    refine Ev.step (fun k => impl_areWrites.l0.eq_2 ..) (ev_pos (by omega) (ev_pos (by omega) (ev_pos (by omega) ?_)))
    simp only [impl_isKey.f, impl_isValue.f, impl_in_, Option.bind_some, rdw]
    rw [up i (by omega)]
    refine ev_pos (decide_eq_true hp.1) (ev_pos (decide_eq_true hp.2.1) (ev_ite (fun h0 => ?_) (fun h0 => h)))
    rw [down i (by omega) (by omega), rdw]
    have := hp.2.2 (by omega)
    exact ev_pos (by omega) (ev_pos (by omega) (ev_neg (by omega) h))
  · intro i hi hp
    refine Ev.step (fun k => impl_areWrites.l0.eq_2 ..) (ev_pos (by omega) (ev_pos (by omega) (ev_pos (by omega) ?_)))
    simp only [impl_isKey.f, impl_isValue.f, impl_in_, Option.bind_some, rdw]
    rw [up i (by omega)]
    refine ev_ite (fun h1 => ev_ite (fun h2 => ev_ite (fun h0 => ?_) (fun h0 => ?_)) (fun _ => Ev.now _)) (fun _ => Ev.now _)
    · rw [down i (by omega) (by omega), rdw]
      refine ev_pos (by omega) (ev_pos (by omega) (ev_pos ?_ (Ev.now _)))
      rcases Int.lt_or_le (l.getD (i - 1) z76).f0 (l.getD i z76).f0 with h3 | h3
      · exact absurd ⟨of_decide_eq_true h1, of_decide_eq_true h2, fun _ => h3⟩ hp
      · exact h3
    · exact absurd ⟨of_decide_eq_true h1, of_decide_eq_true h2, fun h => absurd h (by omega)⟩ hp
theorem impl_vt (a0 a1 a2 a3 a4 a5 a6 : Int) (rs : List S55) (ws : List S76) (hr : rs.length ≤ 9223372036854775806) (hw : ws.length ≤ 9223372036854775806) :
    Ev (fun k => impl_IsValidTransaction.f k a0 a1 a2 a3 a4 a5 a6 rs ws) (vt a0 a1 a2 a3 a4 a5 a6 rs ws) := by
  have h1 : ∀ b : Bool, Ev (fun k => impl_IsValidTransaction.j1 k b a0 a1 a2 a3 a4 a5 a6 rs ws) (!b && ((decide (∀ j, j < rs.length → ROk rs j) && decide (rs.length ≤ 60)) && (decide (∀ j, j < ws.length → WOk ws j) && true))) := by
    intro b
    refine Ev.step (fun k => impl_IsValidTransaction.j1.eq_2 ..) (ev_ite (fun h => ?_) (fun h => ?_))
    · rw [h]; exact Ev.now _
    · rw [Bool.not_eq_true] at h
      rw [h]
      refine Ev.bind (impl_rs rs hr) (ev_ite (fun g => ?_) (fun g => ?_))
      · rw [g]
        exact Ev.bind (impl_ws ws hw) (ev_eq (Ev.now _) (by simp))
      · rw [Bool.not_eq_true] at g
        rw [g]
        exact ev_eq (Ev.now _) (by simp)
  have h0 : ∀ b : Bool, Ev (fun k => impl_IsValidTransaction.j0 k b a0 a1 a2 a3 a4 a5 a6 rs ws) (!b && (decide ((a2 = 2 → 1 ≤ a6 ∧ a6 ≤ 999) ∧ (a2 ≠ 2 → a6 = 0)) && ((decide (∀ j, j < rs.length → ROk rs j) && decide (rs.length ≤ 60)) && (decide (∀ j, j < ws.length → WOk ws j) && true)))) := by
    intro b
    refine Ev.step (fun k => impl_IsValidTransaction.j0.eq_2 ..) (ev_ite (fun h => ?_) (fun h => ?_))
    · rw [h]; exact Ev.now _
    · rw [Bool.not_eq_true] at h
      rw [h]
      simp only [impl_IsStamp.f, impl_in_, Option.bind_some]
      refine ev_ite (fun g => ev_ite (fun g2 => ?_) (fun g2 => ?_)) (fun g => ?_)
      · refine ev_eq (h1 false) ?_
        rw [decide_eq_true (show (a2 = 2 → 1 ≤ a6 ∧ a6 ≤ 999) ∧ (a2 ≠ 2 → a6 = 0) from ⟨fun _ => of_decide_eq_true g2, fun h => absurd g h⟩)]
        simp
      · refine ev_eq (h1 true) ?_
        rw [decide_eq_false (show ¬ ((a2 = 2 → 1 ≤ a6 ∧ a6 ≤ 999) ∧ (a2 ≠ 2 → a6 = 0)) from fun h => g2 (decide_eq_true (h.1 g)))]
        simp
      · refine ev_eq (h1 _) ?_
        by_cases e : a6 = 0
        · rw [decide_eq_true (show (a2 = 2 → 1 ≤ a6 ∧ a6 ≤ 999) ∧ (a2 ≠ 2 → a6 = 0) from ⟨fun h => absurd h g, fun _ => e⟩)]
          simp [e]
        · rw [decide_eq_false (show ¬ ((a2 = 2 → 1 ≤ a6 ∧ a6 ≤ 999) ∧ (a2 ≠ 2 → a6 = 0)) from fun h => e (h.2 g))]
          simp [e]
  unfold impl_IsValidTransaction.f
  simp only [impl_isID.f, impl_isScheme.f, impl_in_, Option.bind_some]
  have key : ∀ (p : Prop) [Decidable p] (b : Bool), (b = !decide p) → (Hd a0 a1 a2 a3 a4 a5 a6 ↔ p ∧ ((a2 = 2 → 1 ≤ a6 ∧ a6 ≤ 999) ∧ (a2 ≠ 2 → a6 = 0))) → (!b && (decide ((a2 = 2 → 1 ≤ a6 ∧ a6 ≤ 999) ∧ (a2 ≠ 2 → a6 = 0)) && ((decide (∀ j, j < rs.length → ROk rs j) && decide (rs.length ≤ 60)) && (decide (∀ j, j < ws.length → WOk ws j) && true)))) = vt a0 a1 a2 a3 a4 a5 a6 rs ws := by
    intro p _ b hb hp
    unfold vt
    rw [show decide (Hd a0 a1 a2 a3 a4 a5 a6) = (decide p && decide ((a2 = 2 → 1 ≤ a6 ∧ a6 ≤ 999) ∧ (a2 ≠ 2 → a6 = 0))) by rw [← Bool.decide_and, decide_eq_decide]; exact hp, hb, Bool.not_not, Bool.and_true]
    generalize decide (∀ j, j < rs.length → ROk rs j) = x1
    generalize decide (rs.length ≤ 60) = x2
    generalize decide (∀ j, j < ws.length → WOk ws j) = x3
    generalize decide ((a2 = 2 → 1 ≤ a6 ∧ a6 ≤ 999) ∧ (a2 ≠ 2 → a6 = 0)) = x4
    generalize decide p = x5
    cases x1 <;> cases x2 <;> cases x3 <;> cases x4 <;> cases x5 <;> rfl
  refine ev_ite (fun g0 => ev_ite (fun g1 => ev_ite (fun g2 => ev_ite (fun g3 => ev_ite (fun g4 => ?_) (fun g4 => ?_)) (fun g3 => ?_)) (fun g2 => ?_)) (fun g1 => ?_)) (fun g0 => ?_)
  · simp only [decide_eq_true_eq] at g0 g1 g2 g3 g4
    exact ev_eq (h0 _) (key (1 ≤ a5 ∧ a5 ≤ 1000) _ rfl (by unfold Hd; exact ⟨fun h => ⟨h.2.2.2.2.2.1, h.2.2.2.2.2.2⟩, fun h => ⟨g0, g1, g2, g3, g4, h.1, h.2⟩⟩))
  all_goals
    simp only [decide_eq_true_eq] at *
    refine ev_eq (h0 true) (key False _ rfl ?_)
    unfold Hd
    simp only [false_and, iff_false]
  · exact fun h => g4 h.2.2.2.2.1
  · exact fun h => g3 h.2.2.2.1
  · exact fun h => g2 h.2.2.1
  · exact fun h => g1 h.2.1
  · exact fun h => g0 h.1
theorem vt_use {a0 a1 a2 a3 a4 a5 a6 : Int} {rs : List S55} {ws : List S76} (h : vt a0 a1 a2 a3 a4 a5 a6 rs ws = true) :
    (∀ j, j < rs.length → ROk rs j) ∧ (∀ j, j < ws.length → WOk ws j) ∧ Hd a0 a1 a2 a3 a4 a5 a6 ∧ rs.length ≤ 60 := by
  unfold vt at h
  simp only [Bool.and_eq_true, decide_eq_true_eq] at h
  exact ⟨h.1, h.2.1, h.2.2.1, h.2.2.2⟩
/-- What a loop's fold comes to. -/
def fN (step : Int → Nat → Int) : Nat → Int → Int
  | 0, a => a
  | n + 1, a => step (fN step n a) n
theorem fold_loop {β : Type} {g : Nat → Int → Int → Option β} {r : β} (n : Nat) (step : Int → Nat → Int) (a : Int) (hend : Ev (fun k => g k (fN step n a) (n : Int)) r)
    (hs : ∀ i, i < n → ∀ x, Ev (fun k => g k (step x i) ((i + 1 : Nat) : Int)) r → Ev (fun k => g k x (i : Int)) r) : Ev (fun k => g k a 0) r := by
  have h : ∀ d i, i + d = n → Ev (fun k => g k (fN step i a) (i : Int)) r := by
    intro d
    induction d with
    | zero =>
      intro i hi
      obtain rfl : i = n := by omega
      exact hend
    | succ d ih =>
      intro i hi
      exact hs i (by omega) _ (ih (i + 1) (by omega))
  exact h n 0 (by omega)
theorem rdl_ok {l : List (List S65)} (hv : vs l = true) {key : Int} (h0 : 0 ≤ key) (h5 : key ≤ 5) : vc (rd_L6 l key) = true ∧ (rd_L6 l key).length ≤ 50 := by
  have h6 := vs_len hv
  obtain ⟨i, rfl⟩ : ∃ i : Nat, key = (i : Int) := ⟨key.toNat, by omega⟩
  have hi : i < l.length := by omega
  rw [rd_L6_at l i hi]
  exact vs_chain hv i hi
theorem latest_at {l : List (List S65)} (hv : vs l = true) {key : Int} (h0 : 0 ≤ key) (h5 : key ≤ 5) : impl_Store_latest.f l key = some (latestOf (rd_L6 l key)) := by
  have h6 := vs_len hv
  obtain ⟨i, rfl⟩ : ∃ i : Nat, key = (i : Int) := ⟨key.toNat, by omega⟩
  have hi : i < l.length := by omega
  obtain ⟨hc, h50⟩ := vs_chain hv i hi
  have hp := vc_pos hc
  unfold impl_Store_latest.f latestOf
  rw [rd_L6_at l i hi, if_pos hc, down l[i].length hp (by omega), rd_nat, if_pos (by omega)]
/-- The greatest stamp that was read. -/
def lowR (rs : List S55) : Int := fN (fun a i => mx a (rs.getD i z55).f1) rs.length 0
/-- The greatest mark that a transaction has to follow. -/
def lowOf (l : List (List S65)) (rs : List S55) (ws : List S76) : Int := fN (fun a i => mx a (latestOf (rd_L6 l (ws.getD i z76).f0)).2.2.2.1) ws.length (lowR rs)
theorem impl_low (l : List (List S65)) (a0 a1 a2 a3 a4 a5 a6 : Int) (rs : List S55) (ws : List S76) (hr : rs.length ≤ 9223372036854775806) (hw : ws.length ≤ 9223372036854775806)
    (hv : vs l = true) (ht : vt a0 a1 a2 a3 a4 a5 a6 rs ws = true) : Ev (fun k => impl_Store_refreshLow.f k l a0 a1 a2 a3 a4 a5 a6 rs ws) (lowOf l rs ws) := by
  obtain ⟨hR, hW, _, _⟩ := vt_use ht
  unfold impl_Store_refreshLow.f
  refine fold_loop (g := fun k x i => impl_Store_refreshLow.l0 k x rs (rs.length : Int) i l a0 a1 a2 a3 a4 a5 a6 rs ws) rs.length (fun a i => mx a (rs.getD i z55).f1) 0 ?_ ?_
  · refine Ev.step (fun k => impl_Store_refreshLow.l0.eq_2 ..) (ev_neg (by omega) ?_)
    refine fold_loop (g := fun k x i => impl_Store_refreshLow.l1 k x ws (ws.length : Int) i l) ws.length (fun a i => mx a (latestOf (rd_L6 l (ws.getD i z76).f0)).2.2.2.1) _ ?_ ?_
    · exact Ev.step (fun k => impl_Store_refreshLow.l1.eq_2 ..) (ev_neg (by omega) (Ev.now _))
    · intro i hi x h
      have hk := (hW i hi).1
      refine Ev.step (fun k => impl_Store_refreshLow.l1.eq_2 ..) (ev_pos (by omega) (ev_pos (by omega) (ev_pos (by omega) ?_)))
      rw [rdw, up i (by omega)]
      exact ev_bindo (latest_at hv hk.1 hk.2) h
  · intro i hi x h
    refine Ev.step (fun k => impl_Store_refreshLow.l0.eq_2 ..) (ev_pos (by omega) (ev_pos (by omega) (ev_pos (by omega) ?_)))
    rw [rdr, up i (by omega)]
    exact h
theorem spec_low (l : List (List S65)) (a0 a1 a2 a3 a4 a5 a6 : Int) (rs : List S55) (ws : List S76) (hl : l.length ≤ 9223372036854775806) (hin : ∀ x ∈ l, x.length ≤ 9223372036854775806) (hr : rs.length ≤ 9223372036854775806) (hw : ws.length ≤ 9223372036854775806) :
    Ev (fun k => spec_RefreshLow.f k l a0 a1 a2 a3 a4 a5 a6 rs ws) (if vs l = true ∧ vt a0 a1 a2 a3 a4 a5 a6 rs ws = true then lowOf l rs ws else 0) := by
  unfold spec_RefreshLow.f
  by_cases hv : vs l = true
  · refine Ev.bind (spec_vs l hl hin) (ev_pos hv (Ev.bind (spec_vt a0 a1 a2 a3 a4 a5 a6 rs ws hr hw) ?_))
    by_cases ht : vt a0 a1 a2 a3 a4 a5 a6 rs ws = true
    · rw [if_pos ⟨hv, ht⟩]
      obtain ⟨hR, hW, _, _⟩ := vt_use ht
      have h6 := vs_len hv
      refine Ev.step (fun k => spec_RefreshLow.j0.eq_2 ..) (ev_neg (by simp [ht]) ?_)
      refine fold_loop (g := fun k x i => spec_RefreshLow.l0 k x i l a0 a1 a2 a3 a4 a5 a6 rs ws) rs.length (fun a i => mx a (rs.getD i z55).f1) 0 ?_ ?_
      · refine Ev.step (fun k => spec_RefreshLow.l0.eq_2 ..) (ev_neg (by omega) ?_)
        refine fold_loop (g := fun k x i => spec_RefreshLow.l1 k x i l a0 a1 a2 a3 a4 a5 a6 rs ws) ws.length (fun a i => mx a (latestOf (rd_L6 l (ws.getD i z76).f0)).2.2.2.1) _ ?_ ?_
        · exact Ev.step (fun k => spec_RefreshLow.l1.eq_2 ..) (ev_neg (by omega) (Ev.now _))
        · intro i hi x h
          have hk := (hW i hi).1
          refine Ev.step (fun k => spec_RefreshLow.l1.eq_2 ..) (ev_pos (by omega) (ev_pos (by omega) ?_))
          rw [rdw, up i (by omega)]
          refine ev_pos (by omega) (ev_pos (by omega) ?_)
          have hc := rdl_ok hv hk.1 hk.2
          exact Ev.bind (spec_latest _ (by omega)) h
      · intro i hi x h
        refine Ev.step (fun k => spec_RefreshLow.l0.eq_2 ..) (ev_pos (by omega) (ev_pos (by omega) ?_))
        rw [rdr, up i (by omega)]
        exact h
    · rw [if_neg (fun h => ht h.2)]
      exact Ev.step (fun k => spec_RefreshLow.j0.eq_2 ..) (ev_pos (by simp [ht]) (Ev.now _))
  · rw [if_neg (fun h => hv h.1)]
    exact Ev.bind (spec_vs l hl hin) (ev_neg hv (Ev.step (fun k => spec_RefreshLow.j0.eq_2 ..) (ev_pos rfl (Ev.now _))))
theorem spec_find (l : List S65) (hl : l.length ≤ 9223372036854775806) (c : Int) : Ev (fun k => spec_FindVersion.f k l c) (impl_FindVersion.frm l c 0) := by
  unfold spec_FindVersion.f
  have h : ∀ d i, i + d = l.length → Ev (fun k => spec_FindVersion.l0 k l c (i : Int)) (impl_FindVersion.frm l c i) := by
    intro d
    induction d with
    | zero =>
      intro i hi
      rw [impl_FindVersion.frm_end l c i (by omega)]
      exact Ev.step (fun k => spec_FindVersion.l0.eq_2 ..) (ev_neg (by omega) (Ev.now _))
    | succ d ih =>
      intro i hi
      refine Ev.step (fun k => spec_FindVersion.l0.eq_2 ..) (ev_pos (by omega) (ev_pos (by omega) ?_))
      rw [show rd_T65 l (i : Int) = l.getD i z65 by unfold rd_T65; rw [Int.toNat_natCast], up i (by omega)]
      by_cases hp : (l.getD i z65).f2 = c
      · rw [impl_FindVersion.frm_hit l c i (by omega) hp]
        exact ev_pos hp (Ev.now _)
      · rw [impl_FindVersion.frm_miss l c i (by omega) hp]
        exact ev_neg hp (ih (i + 1) (by omega))
  exact h l.length 0 (by omega)
/-- Are there versions of all marks? -/
def exq (l : List (List S65)) (rs : List S55) : Bool := decide (impl_Store_readsExist.frm (impl_Store_readsExist.miss l) rs 0 < 0)
theorem impl_exist (l : List (List S65)) {a0 a1 a2 a3 a4 a5 a6 : Int} {rs : List S55} {ws : List S76} (hv : vs l = true) (ht : vt a0 a1 a2 a3 a4 a5 a6 rs ws = true) : impl_Store_readsExist.f l rs = some (exq l rs) := by
  obtain ⟨hR, _, _, _⟩ := vt_use ht
  have h6 := vs_len hv
  unfold impl_Store_readsExist.f exq
  rw [if_pos (fun j hj => by have := (hR j hj).1; omega)]
/-- What the reference and the program say of the reads. -/
def exOf (l : List (List S65)) (a0 a1 a2 a3 a4 a5 a6 : Int) (rs : List S55) (ws : List S76) : Bool := vs l && (vt a0 a1 a2 a3 a4 a5 a6 rs ws && exq l rs)
theorem spec_exist (l : List (List S65)) (a0 a1 a2 a3 a4 a5 a6 : Int) (rs : List S55) (ws : List S76) (hl : l.length ≤ 9223372036854775806) (hin : ∀ x ∈ l, x.length ≤ 9223372036854775806) (hr : rs.length ≤ 9223372036854775806) (hw : ws.length ≤ 9223372036854775806) :
    Ev (fun k => spec_ReadsExist.f k l a0 a1 a2 a3 a4 a5 a6 rs ws) (exOf l a0 a1 a2 a3 a4 a5 a6 rs ws) := by
  unfold spec_ReadsExist.f exOf
  by_cases hv : vs l = true
  · refine Ev.bind (spec_vs l hl hin) (ev_pos hv (Ev.bind (spec_vt a0 a1 a2 a3 a4 a5 a6 rs ws hr hw) ?_))
    by_cases ht : vt a0 a1 a2 a3 a4 a5 a6 rs ws = true
    · rw [hv, ht, Bool.true_and, Bool.true_and]
      obtain ⟨hR, _, _, _⟩ := vt_use ht
      have h6 := vs_len hv
      refine Ev.step (fun k => spec_ReadsExist.j0.eq_2 ..) (ev_neg (by simp) ?_)
      have h : ∀ d i, i + d = rs.length → Ev (fun k => spec_ReadsExist.l0 k (i : Int) l a0 a1 a2 a3 a4 a5 a6 rs ws) (decide (impl_Store_readsExist.frm (impl_Store_readsExist.miss l) rs i < 0)) := by
        intro d
        induction d with
        | zero =>
          intro i hi
          rw [impl_Store_readsExist.frm_end _ rs i (by omega)]
          exact Ev.step (fun k => spec_ReadsExist.l0.eq_2 ..) (ev_neg (by omega) (Ev.now _))
        | succ d ih =>
          intro i hi
          have hk := (hR i (by omega)).1
          refine Ev.step (fun k => spec_ReadsExist.l0.eq_2 ..) (ev_pos (by omega) (ev_pos (by omega) ?_))
          rw [rdr, up i (by omega)]
          have hc := rdl_ok hv hk.1 hk.2
          refine ev_pos (by omega) (ev_pos (by omega) (Ev.bind (spec_find _ (by omega) _) ?_))
          by_cases hp : impl_FindVersion.frm (rd_L6 l (rs.getD i z55).f0) (rs.getD i z55).f1 0 < 0
          · rw [impl_Store_readsExist.frm_hit _ rs i (by omega) (decide_eq_true hp)]
            exact ev_pos hp (ev_eq (Ev.now _) (decide_eq_false (by omega)).symm)
          · rw [impl_Store_readsExist.frm_miss _ rs i (by omega) (decide_eq_false hp)]
            exact ev_neg hp (ih (i + 1) (by omega))
      exact h rs.length 0 (by omega)
    · rw [hv, Bool.eq_false_iff.2 ht, Bool.true_and, Bool.false_and]
      exact Ev.step (fun k => spec_ReadsExist.j0.eq_2 ..) (ev_pos (by simp) (Ev.now _))
  · rw [Bool.eq_false_iff.2 hv, Bool.false_and]
    exact Ev.bind (spec_vs l hl hin) (ev_neg hv (Ev.step (fun k => spec_ReadsExist.j0.eq_2 ..) (ev_pos rfl (Ev.now _))))
theorem impl_Exist (l : List (List S65)) (a0 a1 a2 a3 a4 a5 a6 : Int) (rs : List S55) (ws : List S76) (hin : ∀ x ∈ l, x.length ≤ 9223372036854775806) (hr : rs.length ≤ 9223372036854775806) (hw : ws.length ≤ 9223372036854775806) :
    Ev (fun k => impl_ReadsExist.f k l a0 a1 a2 a3 a4 a5 a6 rs ws) (exOf l a0 a1 a2 a3 a4 a5 a6 rs ws) := by
  unfold impl_ReadsExist.f exOf
  by_cases hv : vs l = true
  · refine Ev.bind (impl_vs l hin) (ev_pos hv (Ev.bind (impl_vt a0 a1 a2 a3 a4 a5 a6 rs ws hr hw) ?_))
    by_cases ht : vt a0 a1 a2 a3 a4 a5 a6 rs ws = true
    · rw [hv, ht, Bool.true_and, Bool.true_and]
      exact ev_pos rfl (ev_bindo (impl_exist l hv ht) (Ev.now _))
    · rw [hv, Bool.eq_false_iff.2 ht, Bool.true_and, Bool.false_and]
      exact ev_neg (by simp) (Ev.now _)
  · rw [Bool.eq_false_iff.2 hv, Bool.false_and]
    exact Ev.bind (impl_vs l hin) (ev_neg hv (Ev.now _))
theorem exOf_use {l : List (List S65)} {a0 a1 a2 a3 a4 a5 a6 : Int} {rs : List S55} {ws : List S76} (h : exOf l a0 a1 a2 a3 a4 a5 a6 rs ws = true) : vs l = true ∧ vt a0 a1 a2 a3 a4 a5 a6 rs ws = true ∧ exq l rs = true := by
  unfold exOf at h
  simp only [Bool.and_eq_true] at h
  exact h
theorem exq_use {l : List (List S65)} {rs : List S55} (h : exq l rs = true) (j : Nat) (hj : j < rs.length) : 0 ≤ impl_FindVersion.frm (rd_L6 l (rs.getD j z55).f0) (rs.getD j z55).f1 0 := by
  unfold exq impl_Store_readsExist.frm at h
  have h := of_decide_eq_true h
  cases hf : (List.range' 0 (rs.length - 0)).find? (fun j => impl_Store_readsExist.miss l (rs.getD j z55)) with
  | some k =>
    rw [hf] at h
    have h2 : (k : Int) < 0 := h
    omega
  | none =>
    have h2 := List.find?_eq_none.1 hf j (List.mem_range'_1.2 (by omega))
    unfold impl_Store_readsExist.miss at h2
    simp only [decide_eq_true_eq] at h2
    omega
/-- The version that a read tells. -/
def verOf (l : List (List S65)) (m : S55) : S65 := rd_T65 (rd_L6 l m.f0) (impl_FindVersion.frm (rd_L6 l m.f0) m.f1 0)
/-- The least successor of what was read. -/
def highOf (l : List (List S65)) (rs : List S55) : Int := fN (fun a i => mn a (verOf l (rs.getD i z55)).f4) rs.length 1000
theorem find_at {l : List (List S65)} {a0 a1 a2 a3 a4 a5 a6 : Int} {rs : List S55} {ws : List S76} (h : exOf l a0 a1 a2 a3 a4 a5 a6 rs ws = true) (j : Nat) (hj : j < rs.length) :
    impl_Store_find.f l (rs.getD j z55).f0 (rs.getD j z55).f1 = some ((verOf l (rs.getD j z55)).f0, (verOf l (rs.getD j z55)).f1, (verOf l (rs.getD j z55)).f2, (verOf l (rs.getD j z55)).f3, (verOf l (rs.getD j z55)).f4) := by
  obtain ⟨hv, ht, he⟩ := exOf_use h
  have hk := ((vt_use ht).1 j hj).1
  have h6 := vs_len hv
  unfold impl_Store_find.f
  rw [if_pos ⟨by omega, by omega, exq_use he j hj⟩]
  rfl
theorem impl_high {l : List (List S65)} {a0 a1 a2 a3 a4 a5 a6 : Int} {rs : List S55} {ws : List S76} (h : exOf l a0 a1 a2 a3 a4 a5 a6 rs ws = true) : Ev (fun k => impl_Store_refreshHigh.f k l a0 a1 a2 a3 a4 a5 a6 rs ws) (highOf l rs) := by
  have hr60 := (vt_use (exOf_use h).2.1).2.2.2
  unfold impl_Store_refreshHigh.f
  refine fold_loop (g := fun k x i => impl_Store_refreshHigh.l0 k x rs (rs.length : Int) i l) rs.length (fun a i => mn a (verOf l (rs.getD i z55)).f4) 1000 ?_ ?_
  · exact Ev.step (fun k => impl_Store_refreshHigh.l0.eq_2 ..) (ev_neg (by omega) (Ev.now _))
  · intro i hi x hx
    refine Ev.step (fun k => impl_Store_refreshHigh.l0.eq_2 ..) (ev_pos (by omega) (ev_pos (by omega) (ev_pos (by omega) ?_)))
    rw [rdr, up i (by omega)]
    exact ev_bindo (find_at h i hi) hx
theorem spec_high (l : List (List S65)) (a0 a1 a2 a3 a4 a5 a6 : Int) (rs : List S55) (ws : List S76) (hl : l.length ≤ 9223372036854775806) (hin : ∀ x ∈ l, x.length ≤ 9223372036854775806) (hr : rs.length ≤ 9223372036854775806) (hw : ws.length ≤ 9223372036854775806) :
    Ev (fun k => spec_RefreshHigh.f k l a0 a1 a2 a3 a4 a5 a6 rs ws) (if exOf l a0 a1 a2 a3 a4 a5 a6 rs ws = true then highOf l rs else 0) := by
  unfold spec_RefreshHigh.f
  refine Ev.bind (spec_exist l a0 a1 a2 a3 a4 a5 a6 rs ws hl hin hr hw) ?_
  by_cases h : exOf l a0 a1 a2 a3 a4 a5 a6 rs ws = true
  · rw [if_pos h]
    obtain ⟨hv, ht, he⟩ := exOf_use h
    have hR := (vt_use ht).1
    have h6 := vs_len hv
    refine ev_pos h (fold_loop (g := fun k x i => spec_RefreshHigh.l0 k x i l a0 a1 a2 a3 a4 a5 a6 rs ws) rs.length (fun a i => mn a (verOf l (rs.getD i z55)).f4) 1000 ?_ ?_)
    · exact Ev.step (fun k => spec_RefreshHigh.l0.eq_2 ..) (ev_neg (by omega) (Ev.now _))
    · intro i hi x hx
      have hk := (hR i hi).1
      refine Ev.step (fun k => spec_RefreshHigh.l0.eq_2 ..) (ev_pos (by omega) (ev_pos (by omega) ?_))
      rw [rdr, up i (by omega)]
      have hc := rdl_ok hv hk.1 hk.2
      have hb := impl_Store_find.bd (rd_L6 l (rs.getD i z55).f0) (rs.getD i z55).f1 0
      exact ev_pos (by omega) (ev_pos (by omega) (Ev.bind (spec_find _ (by omega) _) (ev_pos (exq_use he i hi) (ev_pos hb.2 hx))))
  · rw [if_neg h]
    exact ev_neg h (Ev.now _)
theorem last_both (l : List (List S65)) (hv : vs l = true) (hin : ∀ x ∈ l, x.length ≤ 9223372036854775806) :
    ∃ r, Ev (fun k => spec_LastStamp.l0 k 0 0 l) r ∧ Ev (fun k => impl_Store_lastStamp.l0 k 0 l (l.length : Int) 0) r := by
  have h6 := vs_len hv
  have hin' := hin
  have h : ∀ d (i : Nat) (m : Int), i + d = l.length → ∃ r, Ev (fun k => spec_LastStamp.l0 k m (i : Int) l) r ∧ Ev (fun k => impl_Store_lastStamp.l0 k m l (l.length : Int) (i : Int)) r := by
    intro d
    induction d with
    | zero =>
      intro i m hi
      exact ⟨m, Ev.step (fun k => spec_LastStamp.l0.eq_2 ..) (ev_neg (by omega) (Ev.step (fun k => spec_LastStamp.j1.eq_2 ..) (ev_neg (by simp) (Ev.now _)))), Ev.step (fun k => impl_Store_lastStamp.l0.eq_2 ..) (ev_neg (by omega) (Ev.now _))⟩
    | succ d ih =>
      intro i m hi
      have hi' : i < l.length := by omega
      obtain ⟨hc, h50⟩ := vs_chain hv i hi'
      have hr := rd_L6_at l i hi'
      have inner : ∀ d (j : Nat) (m : Int), j + d = l[i].length → ∃ r, Ev (fun k => spec_LastStamp.l1 k m (i : Int) (j : Int) l) r ∧ Ev (fun k => impl_Store_lastStamp.l1 k m l (l.length : Int) (i : Int) (rd_L6 l (i : Int)) ((rd_L6 l (i : Int)).length : Int) (j : Int)) r := by
        intro d
        induction d with
        | zero =>
          intro j m hj
          obtain ⟨r, h1, h2⟩ := ih (i + 1) m (by omega)
          refine ⟨r, Ev.step (fun k => spec_LastStamp.l1.eq_2 ..) (ev_pos (by omega) (ev_pos (by omega) (ev_neg (by rw [hr]; omega) ?_))), Ev.step (fun k => impl_Store_lastStamp.l1.eq_2 ..) (ev_neg (by rw [hr]; omega) ?_)⟩
          · rw [up i (by omega)]; exact h1
          · rw [up i (by omega)]; exact h2
        | succ d ihd =>
          intro j m hj
          have hv1 := vvS_use (vc_at hc j (by omega))
          obtain ⟨r, h1, h2⟩ := ihd (j + 1) (mx m (l[i].getD j z65).f3) (by omega)
          refine ⟨r, Ev.step (fun k => spec_LastStamp.l1.eq_2 ..) (ev_pos (by omega) (ev_pos (by omega) (ev_pos (by rw [hr]; omega) (ev_pos (by omega) ?_)))), Ev.step (fun k => impl_Store_lastStamp.l1.eq_2 ..) (ev_pos (by rw [hr]; omega) (ev_pos (by omega) (ev_pos (by rw [hr]; omega) ?_)))⟩
          · rw [up j (by omega)]
            rw [show mx (mx m (rd_T65 (rd_L6 l (i : Int)) (j : Int)).f2) (rd_T65 (rd_L6 l (i : Int)) (j : Int)).f3 = mx m (l[i].getD j z65).f3 by rw [hr, rd_nat]; unfold mx; omega]
            exact h1
          · rw [up j (by omega)]
            rw [show (rd_T65 (rd_L6 l (i : Int)) (j : Int)).f3 = (l[i].getD j z65).f3 by rw [hr, rd_nat]]
            exact h2
      obtain ⟨r, h1, h2⟩ := inner l[i].length 0 m (by omega)
      exact ⟨r, Ev.step (fun k => spec_LastStamp.l0.eq_2 ..) (ev_pos (by omega) (Ev.bind (spec_vs l (by omega) hin') (Ev.step (fun k => spec_LastStamp.j1.eq_2 ..) (ev_pos hv h1)))), Ev.step (fun k => impl_Store_lastStamp.l0.eq_2 ..) (ev_pos (by omega) (ev_pos (by omega) (ev_pos (by omega) h2)))⟩
  exact h l.length 0 0 (by omega)
/-- The window of a transaction, told by the reference and by the program alike. -/
theorem window_both (l : List (List S65)) (a0 a1 a2 a3 a4 a5 a6 : Int) (rs : List S55) (ws : List S76) (s : Int) (hl : l.length ≤ 9223372036854775806) (hin : ∀ x ∈ l, x.length ≤ 9223372036854775806) (hr : rs.length ≤ 9223372036854775806) (hw : ws.length ≤ 9223372036854775806) :
    ∃ r, Ev (fun k => spec_FinalWindow.f k l a0 a1 a2 a3 a4 a5 a6 rs ws s) r ∧ Ev (fun k => impl_FinalWindow.f k l a0 a1 a2 a3 a4 a5 a6 rs ws s) r ∧ (r.2.2 = false → r.1 = 0 ∧ r.2.1 = 0) ∧ (r.2.2 = true → exOf l a0 a1 a2 a3 a4 a5 a6 rs ws = true ∧ r.1 = mx a4 (lowOf l rs ws) ∧ r.2.1 = mn (mn a5 (highOf l rs)) s) := by
  unfold spec_FinalWindow.f impl_FinalWindow.f
  have e1 := spec_exist l a0 a1 a2 a3 a4 a5 a6 rs ws hl hin hr hw
  have e2 := impl_Exist l a0 a1 a2 a3 a4 a5 a6 rs ws hin hr hw
  have hno : Ev (fun k => spec_FinalWindow.j0 k s true l a0 a1 a2 a3 a4 a5 a6 rs ws) (0, 0, false) := Ev.step (fun k => spec_FinalWindow.j0.eq_2 ..) (ev_pos rfl (Ev.now _))
  by_cases h : exOf l a0 a1 a2 a3 a4 a5 a6 rs ws = true
  · by_cases h2 : a2 = 1
    · obtain ⟨hv, ht, he⟩ := exOf_use h
      obtain ⟨m, m1, m2⟩ := last_both l hv hin
      have m1 : Ev (fun k => spec_LastStamp.f k l) m := m1
      have m2 : Ev (fun k => impl_Store_lastStamp.f k l) m := m2
      simp only [spec_in, impl_in_, Option.bind_some]
      by_cases h3 : wrap64 (m + 1) ≤ s ∧ s ≤ 999
      · have g1 := spec_low l a0 a1 a2 a3 a4 a5 a6 rs ws hl hin hr hw
        rw [if_pos ⟨hv, ht⟩] at g1
        have g2 := spec_high l a0 a1 a2 a3 a4 a5 a6 rs ws hl hin hr hw
        rw [if_pos h] at g2
        refine ⟨(mx a4 (lowOf l rs ws), mn (mn a5 (highOf l rs)) s, true), Ev.bind e1 (ev_pos h (ev_pos h2 (Ev.bind m1 ?_))), Ev.bind e2 (ev_pos h (ev_pos h2 (Ev.bind m2 (ev_pos (decide_eq_true h3) ?_)))), (fun h => by cases h), (fun _ => ⟨h, rfl, rfl⟩)⟩
        · exact Ev.step (fun k => spec_FinalWindow.j0.eq_2 ..) (ev_neg (by simp [h3]) (Ev.bind g1 (Ev.bind g2 (Ev.now _))))
        · unfold impl_Store_window.f
          exact Ev.bind (Ev.bind (impl_low l a0 a1 a2 a3 a4 a5 a6 rs ws hr hw hv ht) (Ev.bind (impl_high h) (Ev.now _))) (Ev.now _)
      · refine ⟨(0, 0, false), Ev.bind e1 (ev_pos h (ev_pos h2 (Ev.bind m1 ?_))), Ev.bind e2 (ev_pos h (ev_pos h2 (Ev.bind m2 (ev_neg (by rw [decide_eq_false h3]; simp) (Ev.now _))))), fun _ => ⟨rfl, rfl⟩, fun h => by cases h⟩
        exact Ev.step (fun k => spec_FinalWindow.j0.eq_2 ..) (ev_pos (by rw [decide_eq_false h3]; rfl) (Ev.now _))
    · exact ⟨(0, 0, false), Ev.bind e1 (ev_pos h (ev_neg h2 hno)), Ev.bind e2 (ev_pos h (ev_neg h2 (Ev.now _))), fun _ => ⟨rfl, rfl⟩, fun h => by cases h⟩
  · exact ⟨(0, 0, false), Ev.bind e1 (ev_neg h hno), Ev.bind e2 (ev_neg h (Ev.now _)), fun _ => ⟨rfl, rfl⟩, fun h => by cases h⟩
/-- What a loop's fold comes to. -/
def fNg {α : Type} (step : α → Nat → α) : Nat → α → α
  | 0, a => a
  | n + 1, a => step (fNg step n a) n
theorem fold_loopg {α β : Type} {g : Nat → α → Int → Option β} {r : β} (n : Nat) (step : α → Nat → α) (a : α) (hend : Ev (fun k => g k (fNg step n a) (n : Int)) r)
    (hs : ∀ i, i < n → Ev (fun k => g k (step (fNg step i a) i) ((i + 1 : Nat) : Int)) r → Ev (fun k => g k (fNg step i a) (i : Int)) r) : Ev (fun k => g k a 0) r := by
  have h : ∀ d i, i + d = n → Ev (fun k => g k (fNg step i a) (i : Int)) r := by
    intro d
    induction d with
    | zero =>
      intro i hi
      obtain rfl : i = n := by omega
      exact hend
    | succ d ih =>
      intro i hi
      exact hs i (by omega) (ih (i + 1) (by omega))
  exact h n 0 (by omega)
/-- The marks of the latest versions of the keys that are written. -/
def ovOf (l : List (List S65)) (ws : List S76) : List S55 := fNg (fun a i => a ++ [(⟨(ws.getD i z76).f0, (latestOf (rd_L6 l (ws.getD i z76).f0)).2.2.1⟩ : S55)]) ws.length []
theorem fNg_len {α : Type} (f : Nat → α) (n : Nat) : (fNg (fun a i => a ++ [f i]) n []).length = n := by
  induction n with
  | zero => rfl
  | succ n ih => simp only [fNg, List.length_append, ih, List.length_singleton]
theorem ov_len (l : List (List S65)) (ws : List S76) : (ovOf l ws).length = ws.length := fNg_len _ _
theorem impl_over (l : List (List S65)) (a0 a1 a2 a3 a4 a5 a6 : Int) (rs : List S55) (ws : List S76) (hw : ws.length ≤ 1048576) (hv : vs l = true) (ht : vt a0 a1 a2 a3 a4 a5 a6 rs ws = true) : Ev (fun k => impl_Store_overwritten.f k l a0 a1 a2 a3 a4 a5 a6 rs ws) (ovOf l ws) := by
  obtain ⟨_, hW, _, _⟩ := vt_use ht
  unfold impl_Store_overwritten.f
  refine fold_loopg (g := fun k x i => impl_Store_overwritten.l0 k x i l ws) ws.length (fun a i => a ++ [(⟨(ws.getD i z76).f0, (latestOf (rd_L6 l (ws.getD i z76).f0)).2.2.1⟩ : S55)]) [] ?_ ?_
  · exact Ev.step (fun k => impl_Store_overwritten.l0.eq_2 ..) (ev_neg (by omega) (Ev.now _))
  · intro i hi h
    have hk := (hW i hi).1
    refine Ev.step (fun k => impl_Store_overwritten.l0.eq_2 ..) (ev_pos (by omega) (ev_pos (by omega) ?_))
    rw [rdw, up i (by omega)]
    refine ev_bindo (latest_at hv hk.1 hk.2) (ev_pos ?_ h)
    rw [fNg_len]
    omega
def ovAll (l : List (List S65)) (a0 a1 a2 a3 a4 a5 a6 : Int) (rs : List S55) (ws : List S76) : List S55 := if vs l = true ∧ vt a0 a1 a2 a3 a4 a5 a6 rs ws = true then ovOf l ws else []
theorem spec_over (l : List (List S65)) (a0 a1 a2 a3 a4 a5 a6 : Int) (rs : List S55) (ws : List S76) (hl : l.length ≤ 9223372036854775806) (hin : ∀ x ∈ l, x.length ≤ 9223372036854775806) (hr : rs.length ≤ 9223372036854775806) (hw : ws.length ≤ 1048576) :
    Ev (fun k => spec_OverwrittenVersions.f k l a0 a1 a2 a3 a4 a5 a6 rs ws) (ovAll l a0 a1 a2 a3 a4 a5 a6 rs ws) := by
  unfold spec_OverwrittenVersions.f ovAll
  have sv := spec_vs l hl hin
  have st := spec_vt a0 a1 a2 a3 a4 a5 a6 rs ws hr (by omega)
  by_cases hv : vs l = true
  · by_cases ht : vt a0 a1 a2 a3 a4 a5 a6 rs ws = true
    · rw [if_pos ⟨hv, ht⟩]
      obtain ⟨_, hW, _, _⟩ := vt_use ht
      have h6 := vs_len hv
      refine fold_loopg (g := fun k x i => spec_OverwrittenVersions.l0 k x i l a0 a1 a2 a3 a4 a5 a6 rs ws) ws.length (fun a i => a ++ [(⟨(ws.getD i z76).f0, (latestOf (rd_L6 l (ws.getD i z76).f0)).2.2.1⟩ : S55)]) [] ?_ ?_
      · exact Ev.step (fun k => spec_OverwrittenVersions.l0.eq_2 ..) (ev_neg (by omega) (Ev.now _))
      · intro i hi h
        have hk := (hW i hi).1
        have hc := rdl_ok hv hk.1 hk.2
        refine Ev.step (fun k => spec_OverwrittenVersions.l0.eq_2 ..) (ev_pos (by omega) (Ev.bind sv (ev_pos hv (Ev.bind st (ev_pos ht (ev_pos (by omega) ?_))))))
        rw [rdw, up i (by omega)]
        refine ev_pos (by omega) (ev_pos (by omega) (Ev.bind (spec_latest _ (by omega)) (ev_pos ?_ h)))
        rw [fNg_len]
        omega
    · rw [if_neg (fun h => ht h.2)]
      exact Ev.step (fun k => spec_OverwrittenVersions.l0.eq_2 ..) (ev_ite (fun _ => Ev.bind sv (ev_pos hv (Ev.bind st (ev_neg ht (Ev.now _))))) (fun _ => Ev.now _))
  · rw [if_neg (fun h => hv h.1)]
    exact Ev.step (fun k => spec_OverwrittenVersions.l0.eq_2 ..) (ev_ite (fun _ => Ev.bind sv (ev_neg hv (Ev.now _))) (fun _ => Ev.now _))
theorem fNg_at {α : Type} (f : Nat → α) (z : α) (n i : Nat) (hi : i < n) : (fNg (fun a i => a ++ [f i]) n []).getD i z = f i := by
  induction n with
  | zero => omega
  | succ n ih =>
    simp only [fNg]
    by_cases h : i < n
    · rw [List.getD_eq_getElem?_getD, List.getElem?_append_left (by rw [fNg_len]; exact h), ← List.getD_eq_getElem?_getD]
      exact ih h
    · obtain rfl : i = n := by omega
      rw [List.getD_eq_getElem?_getD, List.getElem?_append_right (by rw [fNg_len]; omega), fNg_len]
      simp
theorem ov_at (l : List (List S65)) (ws : List S76) (i : Nat) (hi : i < ws.length) : (ovOf l ws).getD i z55 = ⟨(ws.getD i z76).f0, (latestOf (rd_L6 l (ws.getD i z76).f0)).2.2.1⟩ := fNg_at _ _ _ _ hi
/-- The mark that sets the low end: the greatest mark, and the version that bears it; of the reads, and of the overwritten versions. -/
def lowA (rs : List S55) : Int × Int × Int := fNg (fun (a : Int × Int × Int) i => if (rs.getD i z55).f1 > a.1 then ((rs.getD i z55).f1, (rs.getD i z55).f0, (rs.getD i z55).f1) else a) rs.length (-1, 0, 0)
def lowB (l : List (List S65)) (rs : List S55) (ws : List S76) : Int × Int × Int := fNg (fun (a : Int × Int × Int) i => if (latestOf (rd_L6 l ((ovOf l ws).getD i z55).f0)).2.2.2.1 > a.1 then ((latestOf (rd_L6 l ((ovOf l ws).getD i z55).f0)).2.2.2.1, ((ovOf l ws).getD i z55).f0, ((ovOf l ws).getD i z55).f1) else a) (ovOf l ws).length (lowA rs)
theorem spec_l8 (l : List (List S65)) (a0 a1 a2 a3 a4 a5 a6 : Int) (rs : List S55) (ws : List S76) (hl : l.length ≤ 9223372036854775806) (hin : ∀ x ∈ l, x.length ≤ 9223372036854775806) (hr : rs.length ≤ 9223372036854775806) (hw : ws.length ≤ 1048576) (hv : vs l = true) (ht : vt a0 a1 a2 a3 a4 a5 a6 rs ws = true) : Ev (fun k => spec_l8Low.f k l a0 a1 a2 a3 a4 a5 a6 rs ws) ((lowB l rs ws).2.1, (lowB l rs ws).2.2) := by
  obtain ⟨_, hW, _, _⟩ := vt_use ht
  have h6 := vs_len hv
  have so := spec_over l a0 a1 a2 a3 a4 a5 a6 rs ws hl hin hr hw
  unfold ovAll at so
  rw [if_pos ⟨hv, ht⟩] at so
  unfold spec_l8Low.f
  refine fold_loopg (α := Int × Int × Int) (g := fun k x i => spec_l8Low.l0 k x.1 i l a0 a1 a2 a3 a4 a5 a6 rs ws x.2.1 x.2.2) rs.length (fun (a : Int × Int × Int) i => if (rs.getD i z55).f1 > a.1 then ((rs.getD i z55).f1, (rs.getD i z55).f0, (rs.getD i z55).f1) else a) (-1, 0, 0) ?_ ?_
  · refine Ev.step (fun k => spec_l8Low.l0.eq_2 ..) (ev_neg (by omega) (Ev.bind so ?_))
    refine fold_loopg (α := Int × Int × Int) (g := fun k x i => spec_l8Low.l1 k x.1 (ovOf l ws) i l x.2.1 x.2.2) (ovOf l ws).length (fun (a : Int × Int × Int) i => if (latestOf (rd_L6 l ((ovOf l ws).getD i z55).f0)).2.2.2.1 > a.1 then ((latestOf (rd_L6 l ((ovOf l ws).getD i z55).f0)).2.2.2.1, ((ovOf l ws).getD i z55).f0, ((ovOf l ws).getD i z55).f1) else a) (lowA rs) ?_ ?_
    · exact Ev.step (fun k => spec_l8Low.l1.eq_2 ..) (ev_neg (by omega) (Ev.now _))
    · intro i hi h
      have hi2 : i < ws.length := by rw [← ov_len l ws]; exact hi
      have hk := (hW i hi2).1
      have ho : ((ovOf l ws).getD i z55).f0 = (ws.getD i z76).f0 := by rw [ov_at l ws i hi2]
      have hc := rdl_ok hv hk.1 hk.2
      refine Ev.step (fun k => spec_l8Low.l1.eq_2 ..) (ev_pos (by omega) (ev_pos (by omega) ?_))
      rw [rdr, up i (by omega)]
      refine ev_pos (by omega) (ev_pos (by omega) (Ev.bind (spec_latest _ (by rw [ho]; omega)) ?_))
      by_cases hp : (latestOf (rd_L6 l ((ovOf l ws).getD i z55).f0)).2.2.2.1 > (fNg (fun (a : Int × Int × Int) i => if (latestOf (rd_L6 l ((ovOf l ws).getD i z55).f0)).2.2.2.1 > a.1 then ((latestOf (rd_L6 l ((ovOf l ws).getD i z55).f0)).2.2.2.1, ((ovOf l ws).getD i z55).f0, ((ovOf l ws).getD i z55).f1) else a) i (lowA rs)).1
      · rw [if_pos hp] at h
        exact ev_pos hp h
      · rw [if_neg hp] at h
        exact ev_neg hp h
  · intro i hi h
    refine Ev.step (fun k => spec_l8Low.l0.eq_2 ..) (ev_pos (by omega) (ev_pos (by omega) ?_))
    rw [rdr, up i (by omega)]
    by_cases hp : (rs.getD i z55).f1 > (fNg (fun (a : Int × Int × Int) i => if (rs.getD i z55).f1 > a.1 then ((rs.getD i z55).f1, (rs.getD i z55).f0, (rs.getD i z55).f1) else a) i (-1, 0, 0)).1
    · rw [if_pos hp] at h
      exact ev_pos hp h
    · rw [if_neg hp] at h
      exact ev_neg hp h
/-- The pair that is told when the read at place n ends the window. -/
def pairAt (l : List (List S65)) (rs : List S55) (ws : List S76) (n : Int) : Int × Int × Int × Int × Bool := if n < 0 then (0, 0, 0, 0, false) else ((lowB l rs ws).2.1, (lowB l rs ws).2.2, (rs.getD n.toNat z55).f0, (rs.getD n.toNat z55).f1, true)
def hitOf (l : List (List S65)) (rs : List S55) (i : Nat) : Int := impl_Store_readsExist.frm (fun m => impl_ExcludingPair_at.suc l m == highOf l rs) rs i
theorem spec_pair (l : List (List S65)) (a0 a1 a2 a3 a4 a5 a6 : Int) (rs : List S55) (ws : List S76) (hl : l.length ≤ 9223372036854775806) (hin : ∀ x ∈ l, x.length ≤ 9223372036854775806) (hr : rs.length ≤ 9223372036854775806) (hw : ws.length ≤ 1048576) (h : exOf l a0 a1 a2 a3 a4 a5 a6 rs ws = true) : Ev (fun k => spec_ExcludingPair.l0 k (highOf l rs) 0 l a0 a1 a2 a3 a4 a5 a6 rs ws) (pairAt l rs ws (hitOf l rs 0)) := by
  obtain ⟨hv, ht, he⟩ := exOf_use h
  have hR := (vt_use ht).1
  have h6 := vs_len hv
  have h8 := spec_l8 l a0 a1 a2 a3 a4 a5 a6 rs ws hl hin hr hw hv ht
  have hh : ∀ d i, i + d = rs.length → Ev (fun k => spec_ExcludingPair.l0 k (highOf l rs) (i : Int) l a0 a1 a2 a3 a4 a5 a6 rs ws) (pairAt l rs ws (hitOf l rs i)) := by
    intro d
    induction d with
    | zero =>
      intro i hi
      unfold hitOf
      rw [impl_Store_readsExist.frm_end _ rs i (by omega)]
      exact Ev.step (fun k => spec_ExcludingPair.l0.eq_2 ..) (ev_neg (by omega) (Ev.now _))
    | succ d ih =>
      intro i hi
      have hi2 : i < rs.length := by omega
      have hk := (hR i hi2).1
      have hc := rdl_ok hv hk.1 hk.2
      have hb := impl_Store_find.bd (rd_L6 l (rs.getD i z55).f0) (rs.getD i z55).f1 0
      refine Ev.step (fun k => spec_ExcludingPair.l0.eq_2 ..) (ev_pos (by omega) (ev_pos (by omega) ?_))
      rw [rdr, up i (by omega)]
      refine ev_pos (by omega) (ev_pos (by omega) (Ev.bind (spec_find _ (by omega) _) (ev_pos (exq_use he i hi2) (ev_pos hb.2 ?_))))
      by_cases hp : (verOf l (rs.getD i z55)).f4 = highOf l rs
      · have e1 : hitOf l rs i = (i : Int) := impl_Store_readsExist.frm_hit _ rs i hi2 (beq_iff_eq.2 hp)
        rw [e1]
        refine ev_pos hp (Ev.bind h8 (ev_eq (Ev.now _) ?_))
        unfold pairAt
        rw [if_neg (by omega), Int.toNat_natCast]
      · have e1 : hitOf l rs i = hitOf l rs (i + 1) := impl_Store_readsExist.frm_miss _ rs i hi2 (beq_eq_false_iff_ne.2 hp)
        rw [e1]
        exact ev_neg hp (ih (i + 1) (by omega))
  exact hh rs.length 0 (by omega)
theorem hit_bd (l : List (List S65)) (rs : List S55) : hitOf l rs 0 < (rs.length : Int) := by
  unfold hitOf impl_Store_readsExist.frm
  cases h : (List.range' 0 (rs.length - 0)).find? (fun j => (fun m => impl_ExcludingPair_at.suc l m == highOf l rs) (rs.getD j z55)) with
  | none => show (-1 : Int) < _; omega
  | some j =>
    have := List.mem_range'_1.1 (List.mem_of_find?_eq_some h)
    show (j : Int) < _
    omega
theorem impl_pair (l : List (List S65)) (a0 a1 a2 a3 a4 a5 a6 : Int) (rs : List S55) (ws : List S76) (hl : l.length ≤ 9223372036854775806) (hin : ∀ x ∈ l, x.length ≤ 9223372036854775806) (hr : rs.length ≤ 9223372036854775806) (hw : ws.length ≤ 1048576) (h : exOf l a0 a1 a2 a3 a4 a5 a6 rs ws = true) : Ev (fun k => impl_ExcludingPair.j0 k false l a0 a1 a2 a3 a4 a5 a6 rs ws) (pairAt l rs ws (hitOf l rs 0)) := by
  obtain ⟨hv, ht, he⟩ := exOf_use h
  obtain ⟨hR, hW, _, _⟩ := vt_use ht
  have h6 := vs_len hv
  have ha : Ev (fun k => impl_ExcludingPair_at.f k l a0 a1 a2 a3 a4 a5 a6 rs ws) (hitOf l rs 0) := by
    unfold impl_ExcludingPair_at.f
    refine Ev.bind (impl_high h) (ev_pos (fun j hj => ?_) (Ev.now _))
    have hk := (hR j hj).1
    exact ⟨by omega, by omega, exq_use he j hj⟩
  have hb := hit_bd l rs
  refine Ev.step (fun k => impl_ExcludingPair.j0.eq_2 ..) (ev_neg (by simp) ?_)
  refine fold_loopg (α := Int × Int × Int) (g := fun k x i => impl_ExcludingPair.l0 k x.1 rs (rs.length : Int) i l a0 a1 a2 a3 a4 a5 a6 rs ws x.2.1 x.2.2) rs.length (fun (a : Int × Int × Int) i => if (rs.getD i z55).f1 > a.1 then ((rs.getD i z55).f1, (rs.getD i z55).f0, (rs.getD i z55).f1) else a) (-1, 0, 0) ?_ ?_
  · refine Ev.step (fun k => impl_ExcludingPair.l0.eq_2 ..) (ev_neg (by omega) (Ev.bind (impl_over l a0 a1 a2 a3 a4 a5 a6 rs ws hw hv ht) ?_))
    refine fold_loopg (α := Int × Int × Int) (g := fun k x i => impl_ExcludingPair.l1 k x.1 (ovOf l ws) ((ovOf l ws).length : Int) i l a0 a1 a2 a3 a4 a5 a6 rs ws x.2.1 x.2.2) (ovOf l ws).length (fun (a : Int × Int × Int) i => if (latestOf (rd_L6 l ((ovOf l ws).getD i z55).f0)).2.2.2.1 > a.1 then ((latestOf (rd_L6 l ((ovOf l ws).getD i z55).f0)).2.2.2.1, ((ovOf l ws).getD i z55).f0, ((ovOf l ws).getD i z55).f1) else a) (lowA rs) ?_ ?_
    · refine Ev.step (fun k => impl_ExcludingPair.l1.eq_2 ..) (ev_neg (by omega) (Ev.bind ha ?_))
      by_cases hn : hitOf l rs 0 < 0
      · refine ev_pos hn (ev_eq (Ev.now _) ?_)
        unfold pairAt
        rw [if_pos hn]
      · refine ev_neg hn (ev_pos (by omega) (ev_pos hb (ev_eq (Ev.now _) ?_)))
        unfold pairAt
        rw [if_neg hn]
        rfl
    · intro i hi h
      have hi2 : i < ws.length := by rw [← ov_len l ws]; exact hi
      have hk := (hW i hi2).1
      have ho : ((ovOf l ws).getD i z55).f0 = (ws.getD i z76).f0 := by rw [ov_at l ws i hi2]
      refine Ev.step (fun k => impl_ExcludingPair.l1.eq_2 ..) (ev_pos (by omega) (ev_pos (by omega) (ev_pos (by omega) ?_)))
      rw [rdr, up i (by omega)]
      refine ev_bindo (latest_at hv (by omega) (by omega)) ?_
      by_cases hp : (latestOf (rd_L6 l ((ovOf l ws).getD i z55).f0)).2.2.2.1 > (fNg (fun (a : Int × Int × Int) i => if (latestOf (rd_L6 l ((ovOf l ws).getD i z55).f0)).2.2.2.1 > a.1 then ((latestOf (rd_L6 l ((ovOf l ws).getD i z55).f0)).2.2.2.1, ((ovOf l ws).getD i z55).f0, ((ovOf l ws).getD i z55).f1) else a) i (lowA rs)).1
      · rw [if_pos hp] at h
        exact ev_pos hp h
      · rw [if_neg hp] at h
        exact ev_neg hp h
  · intro i hi h
    refine Ev.step (fun k => impl_ExcludingPair.l0.eq_2 ..) (ev_pos (by omega) (ev_pos (by omega) (ev_pos (by omega) ?_)))
    rw [rdr, up i (by omega)]
    by_cases hp : (rs.getD i z55).f1 > (fNg (fun (a : Int × Int × Int) i => if (rs.getD i z55).f1 > a.1 then ((rs.getD i z55).f1, (rs.getD i z55).f0, (rs.getD i z55).f1) else a) i (-1, 0, 0)).1
    · rw [if_pos hp] at h
      exact ev_pos hp h
    · rw [if_neg hp] at h
      exact ev_neg hp h
/-- The excluding pair, told by the reference and by the program alike. -/
theorem pair_both (l : List (List S65)) (a0 a1 a2 a3 a4 a5 a6 : Int) (rs : List S55) (ws : List S76) (s : Int) (hl : l.length ≤ 9223372036854775806) (hin : ∀ x ∈ l, x.length ≤ 9223372036854775806) (hr : rs.length ≤ 9223372036854775806) (hw : ws.length ≤ 1048576) : ∃ r, Ev (fun k => spec_ExcludingPair.f k l a0 a1 a2 a3 a4 a5 a6 rs ws s) r ∧ Ev (fun k => impl_ExcludingPair.f k l a0 a1 a2 a3 a4 a5 a6 rs ws s) r := by
  obtain ⟨p, g1, g2, g3, g4⟩ := window_both l a0 a1 a2 a3 a4 a5 a6 rs ws s hl hin hr (by omega)
  have sh := spec_high l a0 a1 a2 a3 a4 a5 a6 rs ws hl hin hr (by omega)
  unfold spec_ExcludingPair.f impl_ExcludingPair.f
  have ns : ∀ x, Ev (fun k => spec_ExcludingPair.j0 k x true l a0 a1 a2 a3 a4 a5 a6 rs ws) (0, 0, 0, 0, false) := fun x => Ev.step (fun k => spec_ExcludingPair.j0.eq_2 ..) (ev_pos rfl (Ev.now _))
  have ni : Ev (fun k => impl_ExcludingPair.j0 k true l a0 a1 a2 a3 a4 a5 a6 rs ws) (0, 0, 0, 0, false) := Ev.step (fun k => impl_ExcludingPair.j0.eq_2 ..) (ev_pos rfl (Ev.now _))
  by_cases hp : p.2.2 = true
  · obtain ⟨he, _, _⟩ := g4 hp
    obtain ⟨hv, ht, hq⟩ := exOf_use he
    rw [if_pos he] at sh
    have sl := spec_low l a0 a1 a2 a3 a4 a5 a6 rs ws hl hin hr (by omega)
    rw [if_pos ⟨hv, ht⟩] at sl
    have il := impl_low l a0 a1 a2 a3 a4 a5 a6 rs ws hr (by omega) hv ht
    by_cases hc : lowOf l rs ws < highOf l rs
    · refine ⟨(0, 0, 0, 0, false), Ev.bind g1 (Ev.bind sh (ev_pos hp (Ev.bind sl ?_))), Ev.bind g2 (ev_pos hp (Ev.bind il (Ev.bind (impl_high he) ?_)))⟩
      · rw [decide_eq_true hc]
        exact ns _
      · rw [decide_eq_true hc]
        exact ni
    · refine ⟨pairAt l rs ws (hitOf l rs 0), Ev.bind g1 (Ev.bind sh (ev_pos hp (Ev.bind sl ?_))), Ev.bind g2 (ev_pos hp (Ev.bind il (Ev.bind (impl_high he) ?_)))⟩
      · rw [decide_eq_false hc]
        exact Ev.step (fun k => spec_ExcludingPair.j0.eq_2 ..) (ev_neg (by simp) (spec_pair l a0 a1 a2 a3 a4 a5 a6 rs ws hl hin hr hw he))
      · rw [decide_eq_false hc]
        exact impl_pair l a0 a1 a2 a3 a4 a5 a6 rs ws hl hin hr hw he
  · exact ⟨(0, 0, 0, 0, false), Ev.bind g1 (Ev.bind sh (ev_neg hp (ns _))), Ev.bind g2 (ev_neg hp ni)⟩
theorem FnExactExcludingPair : laws_FnExactExcludingPair.Pure := by
  intro l a0 a1 a2 a3 a4 a5 a6 rs ws s hl hin hr hw _
  refine Ev.rounds (g := fun k => laws_FnExactExcludingPair.f k l a0 a1 a2 a3 a4 a5 a6 rs ws s) ?_
  obtain ⟨r, h1, h2⟩ := sz_store l hl hin 1048576 (by omega) (by omega)
  refine Ev.bind h1 (ev_ite (fun _ => Ev.now _) (fun h3 => ?_))
  obtain ⟨_, h4, h5⟩ := h2 (by omega)
  have h6 : ∀ x ∈ l, x.length ≤ 1048576 := fun x hx => by have := h5 x hx; omega
  obtain ⟨q, h7, h8⟩ := sz_trans a0 a1 a2 a3 a4 a5 a6 rs ws hr hw r (by omega) (by omega)
  refine ev_bindo h7 (ev_ite (fun _ => Ev.now _) (fun h9 => ?_))
  obtain ⟨_, h10, h11⟩ := h8 (by omega)
  have hs := to_store l (by omega) h6
  have ht := to_trans a0 a1 a2 a3 a4 a5 a6 rs ws (by omega) (by omega)
  have hi : ∀ x ∈ cs l, x.length ≤ 9223372036854775806 := fun x hx => by have := cs_in h6 x hx; omega
  have hc : (cs l).length ≤ 9223372036854775806 := by rw [cs_len]; omega
  obtain ⟨p, k1, k2⟩ := pair_both (cs l) a0 a1 a2 a3 a4 a5 a6 (rs.map cr) (ws.map cw) s hc hi (by simp; omega) (by simp; omega)
  have em : ∀ x y : Int, laws_eqReadMark.f x y x y = some true := fun x y => by unfold laws_eqReadMark.f; rw [if_pos rfl, if_pos rfl]
  exact Ev.bind hs (Ev.bind ht (Ev.bind k1 (Ev.bind hs (Ev.bind ht (Ev.bind k2 (ev_bindo (em _ _) (ev_pos rfl (ev_bindo (em _ _) (ev_pos rfl (ev_neg (by simp) (Ev.bind hs (Ev.bind (eq_store _ hc hi) (ev_pos rfl (Ev.bind ht (Ev.bind (eq_trans a0 a1 a2 a3 a4 a5 a6 _ _ (by simp; omega) (by simp; omega)) (ev_pos rfl (Ev.now _)))))))))))))))))

end Go.Proofs.Ytbcllflajakajaa.Pure
