/- EqualStores of the program and of the reference answer alike for every two stores. No condition. -/
import Derived.Test.YtcfibffdjgdoaaaPFnExactEqualStoresx5
import Derived.Test.YtcfibffdjgdoaaaMEv
namespace Go.Proofs.Ytcfibffdjgdoaaa.Pure
open Go Go.RowKit Go.Proofs.Ytcfibffdjgdoaaa.PFnExactEqualStores Go.Proofs.YtcfibffdjgdoaaaW.PrintWords Go.Proofs.YtcfibffdjgdoaaaW.PrintLast Go.Proofs.YtcfibffdjgdoaaaW.PrintMore Go.Proofs.YtcfibffdjgdoaaaM
set_option linter.unusedVariables false
set_option linter.unusedSimpArgs false

theorem rd_nat (l : List S33) (i : Nat) : rd_T33 l (i : Int) = l.getD i z33 := by unfold rd_T33; rw [Int.toNat_natCast]
/-- A version of the law's as one of the program's. -/
def cv (v : S73) : S33 := ⟨v.f0, v.f1, v.f2, v.f3, v.f4⟩
theorem to_loop (l : List S73) (hl : l.length ≤ 1048576) (d : Nat) : ∀ i, i + d = l.length → Ev (fun k => laws_toVersionS.l0 k l ((l.take i).map cv ++ List.replicate d z33) (i : Int)) (l.map cv) := by
  induction d with
  | zero =>
    intro i hi
    refine Ev.step (fun k => laws_toVersionS.l0.eq_2 ..) (ev_neg (by omega) ?_)
    rw [List.take_of_length_le (by omega), List.replicate_zero, List.append_nil]
    exact Ev.now _
  | succ d ih =>
    intro i hi
    refine Ev.step (fun k => laws_toVersionS.l0.eq_2 ..) (ev_pos (by omega) (ev_pos (by omega) ?_))
    simp only [laws_toVersion.f, Option.bind_some]
    refine ev_pos (by simp; omega) ?_
    rw [up i (by omega)]
    have h1 : ((l.take i).map cv ++ List.replicate (d + 1) z33).set ((i : Int)).toNat (cv (rd_T73 l (i : Int))) = (l.take (i + 1)).map cv ++ List.replicate d z33 := by
      have h2 : rd_T73 l (i : Int) = l[i] := by unfold rd_T73; exact get_eq l _ i (by omega)
      have h3 : ((l.take i).map cv).length = i := by simp; omega
      rw [h2, Int.toNat_natCast, List.set_append_right _ _ (by omega), h3, Nat.sub_self, List.replicate_succ, List.set_cons_zero, List.take_succ_eq_append_getElem (by omega), List.map_append]
      simp
    exact h1 ▸ ih (i + 1) (by omega)
theorem to_vs (l : List S73) (hl : l.length ≤ 1048576) : Ev (fun k => laws_toVersionS.f k l) (l.map cv) := by
  unfold laws_toVersionS.f
  refine ev_pos (by omega) (ev_pos (by omega) ?_)
  have := to_loop l hl l.length 0 (by omega)
  rw [List.take_zero, List.map_nil, List.nil_append] at this
  exact this
theorem eq_vs (a : List S33) (hl : a.length ≤ 9223372036854775806) : Ev (fun k => laws_eqVersionS.f k a a) true := by
  unfold laws_eqVersionS.f
  refine ev_pos rfl ?_
  have h : ∀ d i, i + d = a.length → Ev (fun k => laws_eqVersionS.l0 k a a (i : Int)) true := by
    intro d
    induction d with
    | zero =>
      intro i hi
      exact Ev.step (fun k => laws_eqVersionS.l0.eq_2 ..) (ev_neg (by omega) (Ev.now _))
    | succ d ih =>
      intro i hi
      refine Ev.step (fun k => laws_eqVersionS.l0.eq_2 ..) (ev_pos (by omega) (ev_pos (by omega) (ev_pos (by omega) ?_)))
      simp only [laws_eqVersion.f, if_true, Option.bind_some]
      rw [up i (by omega)]
      exact ih (i + 1) (by omega)
  exact h a.length 0 (by omega)
/-- The size that the law allows. -/
theorem sz_vs (l : List S73) (hl : l.length ≤ 9223372036854775807) (n : Int) (h0 : 0 ≤ n) (hn : n ≤ 1048576) : ∃ r, laws_szVersionS.f l n = some r ∧ (0 ≤ r → r = n - l.length) ∧ (r < 0 → n < l.length) := by
  unfold laws_szVersionS.f
  rw [w64 (by omega) (by omega)]
  by_cases h : n - (l.length : Int) < 0
  · exact ⟨-1, by rw [if_pos h], fun h2 => by omega, fun _ => by omega⟩
  · exact ⟨n - l.length, by rw [if_neg h], fun _ => rfl, fun h2 => absurd h2 h⟩
theorem rd_L2_at (l : List (List S73)) (i : Nat) (h : i < l.length) : rd_L2 l (i : Int) = l[i] := by unfold rd_L2; exact get_eq l _ i h
theorem rd_L4_at (l : List (List S33)) (i : Nat) (h : i < l.length) : rd_L4 l (i : Int) = l[i] := by unfold rd_L4; exact get_eq l _ i h
/-- A store's size. -/
theorem sz_loop (l : List (List S73)) (hl : l.length ≤ 1048576) (hin : ∀ x ∈ l, x.length ≤ 9223372036854775807) (d : Nat) : ∀ (i : Nat) (n : Int), 0 ≤ n → n ≤ 1048576 → i + d = l.length →
    ∃ r, Ev (fun k => laws_szVersionSS.l0 k l n (i : Int)) r ∧ (0 ≤ r → r ≤ n ∧ ∀ j (h : j < l.length), i ≤ j → (l[j].length : Int) ≤ n) := by
  induction d with
  | zero =>
    intro i n h0 h1 hi
    exact ⟨n, Ev.step (fun k => laws_szVersionSS.l0.eq_2 ..) (ev_neg (by omega) (Ev.now _)), fun _ => ⟨Int.le_refl _, fun j h1 h2 => by omega⟩⟩
  | succ d ih =>
    intro i n h0 h1 hi
    obtain ⟨q, hq, hq1, hq2⟩ := sz_vs l[i] (hin _ (List.getElem_mem (by omega))) n h0 h1
    by_cases hneg : q < 0
    · refine ⟨-1, Ev.step (fun k => laws_szVersionSS.l0.eq_2 ..) (ev_pos (by omega) (ev_pos (by omega) ?_)), fun h => by omega⟩
      rw [rd_L2_at l i (by omega)]
      exact ev_bindo hq (ev_pos hneg (Ev.now _))
    · have hq3 := hq1 (by omega)
      obtain ⟨r, hr, hr1⟩ := ih (i + 1) q (by omega) (by omega) (by omega)
      refine ⟨r, Ev.step (fun k => laws_szVersionSS.l0.eq_2 ..) (ev_pos (by omega) (ev_pos (by omega) ?_)), fun h => ?_⟩
      · rw [rd_L2_at l i (by omega), up i (by omega)]
        exact ev_bindo hq (ev_neg hneg hr)
      · obtain ⟨h2, h3⟩ := hr1 h
        refine ⟨by omega, fun j hj hij => ?_⟩
        by_cases e : j = i
        · subst e; omega
        · have := h3 j hj (by omega); omega
theorem sz_store (l : List (List S73)) (hl : l.length ≤ 9223372036854775807) (hin : ∀ x ∈ l, x.length ≤ 9223372036854775807) (n : Int) (h0 : 0 ≤ n) (h1 : n ≤ 1048576) :
    ∃ r, Ev (fun k => laws_szStore.f k l n) r ∧ (0 ≤ r → r ≤ n ∧ (l.length : Int) ≤ n ∧ ∀ x ∈ l, (x.length : Int) ≤ n) := by
  unfold laws_szStore.f laws_szVersionSS.f
  rw [w64 (by omega) (by omega)]
  by_cases h : n - (l.length : Int) < 0
  · refine ⟨-1, Ev.bind (a := -1) (ev_pos h (Ev.now _)) (ev_pos (by omega) (Ev.now _)), fun h => by omega⟩
  · obtain ⟨r, hr, hr1⟩ := sz_loop l (by omega) hin l.length 0 (n - l.length) (by omega) (by omega) (by omega)
    by_cases hneg : r < 0
    · exact ⟨-1, Ev.bind (a := r) (ev_neg h hr) (ev_pos hneg (Ev.now _)), fun h => by omega⟩
    · refine ⟨r, Ev.bind (a := r) (ev_neg h hr) (ev_neg hneg (Ev.now _)), fun h2 => ?_⟩
      obtain ⟨h3, h4⟩ := hr1 h2
      refine ⟨by omega, by omega, fun x hx => ?_⟩
      obtain ⟨j, hj, rfl⟩ := List.mem_iff_getElem.1 hx
      have := h4 j hj (by omega)
      omega
/-- A store of the law's as one of the program's. -/
def cs (l : List (List S73)) : List (List S33) := l.map fun x => x.map cv
theorem cs_len (l : List (List S73)) : (cs l).length = l.length := by simp [cs]
theorem cs_in {l : List (List S73)} {n : Nat} (h : ∀ x ∈ l, x.length ≤ n) : ∀ x ∈ cs l, x.length ≤ n := by
  intro x hx
  simp only [cs, List.mem_map] at hx
  obtain ⟨y, hy, rfl⟩ := hx
  simpa using h y hy
theorem tos_loop (l : List (List S73)) (hl : l.length ≤ 1048576) (hin : ∀ x ∈ l, x.length ≤ 1048576) (d : Nat) : ∀ i, i + d = l.length → Ev (fun k => laws_toVersionSS.l0 k l (cs (l.take i) ++ List.replicate d []) (i : Int)) (cs l) := by
  induction d with
  | zero =>
    intro i hi
    refine Ev.step (fun k => laws_toVersionSS.l0.eq_2 ..) (ev_neg (by omega) ?_)
    rw [List.take_of_length_le (by omega), List.replicate_zero, List.append_nil]
    exact Ev.now _
  | succ d ih =>
    intro i hi
    have h3 : (cs (l.take i)).length = i := by simp [cs]; omega
    refine Ev.step (fun k => laws_toVersionSS.l0.eq_2 ..) (ev_pos (by omega) (ev_pos (by omega) ?_))
    rw [rd_L2_at l i (by omega), up i (by omega)]
    refine Ev.bind (to_vs l[i] (hin _ (List.getElem_mem (by omega)))) (ev_pos (by rw [List.length_append, h3, List.length_replicate]; omega) ?_)
    have h1 : (cs (l.take i) ++ List.replicate (d + 1) []).set ((i : Int)).toNat (l[i].map cv) = cs (l.take (i + 1)) ++ List.replicate d [] := by
      rw [Int.toNat_natCast, List.set_append_right _ _ (by omega), h3, Nat.sub_self, List.replicate_succ, List.set_cons_zero, List.take_succ_eq_append_getElem (by omega)]
      simp only [cs, List.map_append, List.map_cons, List.map_nil, List.append_assoc, List.singleton_append]
    exact h1 ▸ ih (i + 1) (by omega)
theorem to_store (l : List (List S73)) (hl : l.length ≤ 1048576) (hin : ∀ x ∈ l, x.length ≤ 1048576) : Ev (fun k => laws_toStore.f k l) (cs l) := by
  unfold laws_toStore.f laws_toVersionSS.f
  refine Ev.bind (a := cs l) (ev_pos (by omega) (ev_pos (by omega) ?_)) (Ev.now _)
  have := tos_loop l hl hin l.length 0 (by omega)
  rw [List.take_zero] at this
  exact this
theorem eq_store (a : List (List S33)) (hl : a.length ≤ 9223372036854775806) (hin : ∀ x ∈ a, x.length ≤ 9223372036854775806) : Ev (fun k => laws_eqStore.f k a a) true := by
  unfold laws_eqStore.f laws_eqVersionSS.f
  have h : ∀ d i, i + d = a.length → Ev (fun k => laws_eqVersionSS.l0 k a a (i : Int)) true := by
    intro d
    induction d with
    | zero =>
      intro i hi
      exact Ev.step (fun k => laws_eqVersionSS.l0.eq_2 ..) (ev_neg (by omega) (Ev.now _))
    | succ d ih =>
      intro i hi
      refine Ev.step (fun k => laws_eqVersionSS.l0.eq_2 ..) (ev_pos (by omega) (ev_pos (by omega) (ev_pos (by omega) ?_)))
      rw [rd_L4_at a i (by omega), up i (by omega)]
      exact Ev.bind (eq_vs a[i] (hin _ (List.getElem_mem (by omega)))) (ev_pos rfl (ih (i + 1) (by omega)))
  exact Ev.bind (a := true) (ev_pos rfl (h a.length 0 (by omega))) (ev_pos rfl (Ev.now _))
/-- Two versions differ, in the loops' own words. -/
def nev (u v : S33) : Bool := !(u.f0 == v.f0) || (!(u.f1 == v.f1) || (!(u.f2 == v.f2) || (!(u.f3 == v.f3) || (!(u.f4 == v.f4)))))
def ecOf (a b : List S33) : Bool := if a.length = b.length then (decide (∀ j, j < a.length → ¬ nev (a.getD j z33) (b.getD j z33) = true) && true) else false
theorem spec_ec (a b : List S33) (ha : a.length ≤ 9223372036854775806) : Ev (fun k => spec_EqualChains.f k a b) (ecOf a b) := by
  unfold spec_EqualChains.f ecOf
  refine ev_ite (fun h => ?_) (fun h => ?_)
  · rw [if_pos (by omega)]
    refine all_loop0 (g := fun k i => spec_EqualChains.l0 k a b i) a.length _ ?_ ?_ ?_
    · exact Ev.step (fun k => spec_EqualChains.l0.eq_2 ..) (ev_neg (by omega) (Ev.now _))
    · intro i hi hp r hr
      refine Ev.step (fun k => spec_EqualChains.l0.eq_2 ..) (ev_pos (by omega) (ev_pos (by omega) (ev_pos (by omega) ?_)))
      rw [rd_nat, rd_nat, up i (by omega)]
      exact ev_neg hp hr
    · intro i hi hp
      refine Ev.step (fun k => spec_EqualChains.l0.eq_2 ..) (ev_pos (by omega) (ev_pos (by omega) (ev_pos (by omega) ?_)))
      rw [rd_nat, rd_nat, up i (by omega)]
      exact ev_pos (Decidable.not_not.1 hp) (Ev.now _)
  · rw [if_neg (by omega)]
    exact Ev.now _
theorem impl_ec (a b : List S33) (ha : a.length ≤ 9223372036854775806) : Ev (fun k => impl_EqualChains.f k a b) (ecOf a b) := by
  unfold impl_EqualChains.f
  refine Ev.bind (a := ecOf a b) ?_ (Ev.now _)
  unfold impl_Version_55.f ecOf
  refine ev_ite (fun h => ?_) (fun h => ?_)
  · rw [if_pos (by omega)]
    refine all_loop0 (g := fun k i => impl_Version_55.l0 k a b (a.length : Int) i) a.length _ ?_ ?_ ?_
    · exact Ev.step (fun k => impl_Version_55.l0.eq_2 ..) (ev_neg (by omega) (Ev.now _))
    · intro i hi hp r hr
      refine Ev.step (fun k => impl_Version_55.l0.eq_2 ..) (ev_pos (by omega) (ev_pos (by omega) (ev_pos (by omega) (ev_pos (by omega) ?_))))
      rw [rd_nat, rd_nat, up i (by omega)]
      exact ev_neg hp hr
    · intro i hi hp
      refine Ev.step (fun k => impl_Version_55.l0.eq_2 ..) (ev_pos (by omega) (ev_pos (by omega) (ev_pos (by omega) (ev_pos (by omega) ?_))))
      rw [rd_nat, rd_nat, up i (by omega)]
      exact ev_pos (Decidable.not_not.1 hp) (Ev.now _)
  · rw [if_neg (by omega)]
    exact Ev.now _
/-- Are the chains alike, one by one? -/
def esOf : List (List S33) → List (List S33) → Bool
  | x :: l, y :: m => ecOf x y && esOf l m
  | _, _ => true
theorem impl_all (a : List (List S33)) : ∀ b : List (List S33), (∀ x ∈ a, x.length ≤ 9223372036854775806) → Ev (fun k => impl_EqualStores.all k a b) (esOf a b) := by
  induction a with
  | nil => intro b _; cases b <;> exact Ev.now _
  | cons x l ih =>
    intro b h
    cases b with
    | nil => exact Ev.now _
    | cons y m =>
      refine Ev.congr (fun k => impl_EqualStores.all.eq_1 ..) ?_
      refine Ev.bind (impl_ec x y (h x (by simp))) (ev_ite (fun h1 => ?_) (fun h1 => ?_))
      · refine ev_eq (ih m (fun z hz => h z (by simp [hz]))) ?_
        simp [esOf, h1]
      · refine ev_eq (Ev.now _) ?_
        simp [esOf, h1]
theorem impl_es (a b : List (List S33)) (h : ∀ x ∈ a, x.length ≤ 9223372036854775806) : Ev (fun k => impl_EqualStores.f k a b) (if a.length = b.length then esOf a b else false) := by
  unfold impl_EqualStores.f
  refine ev_ite (fun h1 => ?_) (fun h1 => ?_)
  · rw [if_pos h1]; exact impl_all a b h
  · rw [if_neg h1]; exact Ev.now _
theorem drop_rd (l : List (List S33)) (i : Nat) (hi : i < l.length) : l.drop i = rd_L4 l (i : Int) :: l.drop (i + 1) := by
  rw [rd_L4_at l i hi, List.drop_eq_getElem_cons hi]
theorem spec_es (a b : List (List S33)) (ha : a.length ≤ 9223372036854775806) (h : ∀ x ∈ a, x.length ≤ 9223372036854775806) : Ev (fun k => spec_EqualStores.f k a b) (if a.length = b.length then esOf a b else false) := by
  unfold spec_EqualStores.f
  refine ev_ite (fun h1 => ?_) (fun h1 => ?_)
  · rw [if_pos (by omega)]
    have : ∀ d i, i + d = a.length → Ev (fun k => spec_EqualStores.l0 k (i : Int) a b) (esOf (a.drop i) (b.drop i)) := by
      intro d
      induction d with
      | zero =>
        intro i hi
        rw [List.drop_eq_nil_of_le (by omega), List.drop_eq_nil_of_le (by omega)]
        exact Ev.step (fun k => spec_EqualStores.l0.eq_2 ..) (ev_neg (by omega) (Ev.now _))
      | succ d ih =>
        intro i hi
        refine Ev.step (fun k => spec_EqualStores.l0.eq_2 ..) (ev_pos (by omega) (ev_pos (by omega) (ev_pos (by omega) ?_)))
        have e : esOf (a.drop i) (b.drop i) = (ecOf (rd_L4 a (i : Int)) (rd_L4 b (i : Int)) && esOf (a.drop (i + 1)) (b.drop (i + 1))) := by
          rw [drop_rd a i (by omega), drop_rd b i (by omega)]
          rfl
        rw [e, up i (by omega)]
        refine Ev.bind (spec_ec _ _ (by rw [rd_L4_at a i (by omega)]; exact h _ (List.getElem_mem (by omega)))) (ev_ite (fun h2 => ?_) (fun h2 => ?_))
        · rw [h2, Bool.true_and]; exact ih (i + 1) (by omega)
        · rw [Bool.not_eq_true] at h2
          rw [h2]; exact Ev.now _
    have := this a.length 0 (by omega)
    rw [List.drop_zero, List.drop_zero] at this
    exact this
  · rw [if_neg (by omega)]; exact Ev.now _
theorem FnExactEqualStores : laws_FnExactEqualStores.Pure := by
  intro a b ha hia hb hib
  refine Ev.rounds (g := fun k => laws_FnExactEqualStores.f k a b) ?_
  obtain ⟨r, h1, h2⟩ := sz_store a ha hia 1048576 (by omega) (by omega)
  refine Ev.bind h1 (ev_ite (fun _ => Ev.now _) (fun h3 => ?_))
  obtain ⟨h7, h4, h5⟩ := h2 (by omega)
  obtain ⟨q, g1, g2⟩ := sz_store b hb hib r (by omega) (by omega)
  refine Ev.bind g1 (ev_ite (fun _ => Ev.now _) (fun g3 => ?_))
  obtain ⟨g7, g4, g5⟩ := g2 (by omega)
  have h6 : ∀ x ∈ a, x.length ≤ 1048576 := fun x hx => by have := h5 x hx; omega
  have g6 : ∀ x ∈ b, x.length ≤ 1048576 := fun x hx => by have := g5 x hx; omega
  have ht := to_store a (by omega) h6
  have gt := to_store b (by omega) g6
  have hi : ∀ x ∈ cs a, x.length ≤ 9223372036854775806 := fun x hx => by have := cs_in h6 x hx; omega
  have gi : ∀ x ∈ cs b, x.length ≤ 9223372036854775806 := fun x hx => by have := cs_in g6 x hx; omega
  have hc : (cs a).length ≤ 9223372036854775806 := by rw [cs_len]; omega
  have gc : (cs b).length ≤ 9223372036854775806 := by rw [cs_len]; omega
  exact Ev.bind ht (Ev.bind gt (Ev.bind (spec_es _ _ hc hi) (Ev.bind ht (Ev.bind gt (Ev.bind (impl_es _ _ hi) (ev_neg (by simp) (Ev.bind ht (Ev.bind (eq_store _ hc hi) (ev_pos rfl (Ev.bind gt (Ev.bind (eq_store _ gc gi) (ev_pos rfl (Ev.now _)))))))))))))

end Go.Proofs.Ytcfibffdjgdoaaa.Pure
