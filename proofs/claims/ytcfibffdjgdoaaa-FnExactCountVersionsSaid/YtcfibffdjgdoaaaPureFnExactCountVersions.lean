/- CountVersions of the program and of the reference answer alike for every store. No condition. -/
import Derived.Test.YtcfibffdjgdoaaaPFnExactCountVersionsx3
import Derived.Test.YtcfibffdjgdoaaaMEv
namespace Go.Proofs.Ytcfibffdjgdoaaa.Pure
open Go Go.RowKit Go.Proofs.Ytcfibffdjgdoaaa.PFnExactCountVersions Go.Proofs.YtcfibffdjgdoaaaW.PrintWords Go.Proofs.YtcfibffdjgdoaaaW.PrintLast Go.Proofs.YtcfibffdjgdoaaaW.PrintMore Go.Proofs.YtcfibffdjgdoaaaM
set_option linter.unusedVariables false
set_option linter.unusedSimpArgs false

/-- A version of the law's as one of the program's. -/
def cv (v : S73) : S33 := ⟨v.f0, v.f1, v.f2, v.f3, v.f4⟩
theorem to_loop (l : List S73) (hl : l.length ≤ 1048576) (d : Nat) : ∀ i, i + d = l.length → Ev (fun k => laws_toVersionS.l0 k l ((l.take i).map cv ++ List.replicate d z33) (i : Int)) (l.map cv) := by
  induction d with
  | zero =>
    intro i hi
    refine Ev.step (fun k => laws_toVersionS.l0.eq_2 ..) (ev_neg (by omega) ?_)
    rw [List.take_of_length_le (by omega), List.replicate_zero, List.append_nil]
    exact Ev.now _
  | succ d ih =>
    intro i hi
    refine Ev.step (fun k => laws_toVersionS.l0.eq_2 ..) (ev_pos (by omega) (ev_pos (by omega) ?_))
    simp only [laws_toVersion.f, Option.bind_some]
    refine ev_pos (by simp; omega) ?_
    rw [up i (by omega)]
    have h1 : ((l.take i).map cv ++ List.replicate (d + 1) z33).set ((i : Int)).toNat (cv (rd_T73 l (i : Int))) = (l.take (i + 1)).map cv ++ List.replicate d z33 := by
      have h2 : rd_T73 l (i : Int) = l[i] := by unfold rd_T73; exact get_eq l _ i (by omega)
      have h3 : ((l.take i).map cv).length = i := by simp; omega
      rw [h2, Int.toNat_natCast, List.set_append_right _ _ (by omega), h3, Nat.sub_self, List.replicate_succ, List.set_cons_zero, List.take_succ_eq_append_getElem (by omega), List.map_append]
      simp
    exact h1 ▸ ih (i + 1) (by omega)
theorem to_vs (l : List S73) (hl : l.length ≤ 1048576) : Ev (fun k => laws_toVersionS.f k l) (l.map cv) := by
  unfold laws_toVersionS.f
  refine ev_pos (by omega) (ev_pos (by omega) ?_)
  have := to_loop l hl l.length 0 (by omega)
  rw [List.take_zero, List.map_nil, List.nil_append] at this
  exact this
theorem eq_vs (a : List S33) (hl : a.length ≤ 9223372036854775806) : Ev (fun k => laws_eqVersionS.f k a a) true := by
  unfold laws_eqVersionS.f
  refine ev_pos rfl ?_
  have h : ∀ d i, i + d = a.length → Ev (fun k => laws_eqVersionS.l0 k a a (i : Int)) true := by
    intro d
    induction d with
    | zero =>
      intro i hi
      exact Ev.step (fun k => laws_eqVersionS.l0.eq_2 ..) (ev_neg (by omega) (Ev.now _))
    | succ d ih =>
      intro i hi
      refine Ev.step (fun k => laws_eqVersionS.l0.eq_2 ..) (ev_pos (by omega) (ev_pos (by omega) (ev_pos (by omega) ?_)))
      simp only [laws_eqVersion.f, if_true, Option.bind_some]
      rw [up i (by omega)]
      exact ih (i + 1) (by omega)
  exact h a.length 0 (by omega)
/-- The size that the law allows. -/
theorem sz_vs (l : List S73) (hl : l.length ≤ 9223372036854775807) (n : Int) (h0 : 0 ≤ n) (hn : n ≤ 1048576) : ∃ r, laws_szVersionS.f l n = some r ∧ (0 ≤ r → r = n - l.length) ∧ (r < 0 → n < l.length) := by
  unfold laws_szVersionS.f
  rw [w64 (by omega) (by omega)]
  by_cases h : n - (l.length : Int) < 0
  · exact ⟨-1, by rw [if_pos h], fun h2 => by omega, fun _ => by omega⟩
  · exact ⟨n - l.length, by rw [if_neg h], fun _ => rfl, fun h2 => absurd h2 h⟩
theorem rd_L2_at (l : List (List S73)) (i : Nat) (h : i < l.length) : rd_L2 l (i : Int) = l[i] := by unfold rd_L2; exact get_eq l _ i h
theorem rd_L4_at (l : List (List S33)) (i : Nat) (h : i < l.length) : rd_L4 l (i : Int) = l[i] := by unfold rd_L4; exact get_eq l _ i h
/-- A store's size. -/
theorem sz_loop (l : List (List S73)) (hl : l.length ≤ 1048576) (hin : ∀ x ∈ l, x.length ≤ 9223372036854775807) (d : Nat) : ∀ (i : Nat) (n : Int), 0 ≤ n → n ≤ 1048576 → i + d = l.length →
    ∃ r, Ev (fun k => laws_szVersionSS.l0 k l n (i : Int)) r ∧ (0 ≤ r → r ≤ n ∧ ∀ j (h : j < l.length), i ≤ j → (l[j].length : Int) ≤ n) := by
  induction d with
  | zero =>
    intro i n h0 h1 hi
    exact ⟨n, Ev.step (fun k => laws_szVersionSS.l0.eq_2 ..) (ev_neg (by omega) (Ev.now _)), fun _ => ⟨Int.le_refl _, fun j h1 h2 => by omega⟩⟩
  | succ d ih =>
    intro i n h0 h1 hi
    obtain ⟨q, hq, hq1, hq2⟩ := sz_vs l[i] (hin _ (List.getElem_mem (by omega))) n h0 h1
    by_cases hneg : q < 0
    · refine ⟨-1, Ev.step (fun k => laws_szVersionSS.l0.eq_2 ..) (ev_pos (by omega) (ev_pos (by omega) ?_)), fun h => by omega⟩
      rw [rd_L2_at l i (by omega)]
      exact ev_bindo hq (ev_pos hneg (Ev.now _))
    · have hq3 := hq1 (by omega)
      obtain ⟨r, hr, hr1⟩ := ih (i + 1) q (by omega) (by omega) (by omega)
      refine ⟨r, Ev.step (fun k => laws_szVersionSS.l0.eq_2 ..) (ev_pos (by omega) (ev_pos (by omega) ?_)), fun h => ?_⟩
      · rw [rd_L2_at l i (by omega), up i (by omega)]
        exact ev_bindo hq (ev_neg hneg hr)
      · obtain ⟨h2, h3⟩ := hr1 h
        refine ⟨by omega, fun j hj hij => ?_⟩
        by_cases e : j = i
        · subst e; omega
        · have := h3 j hj (by omega); omega
theorem sz_store (l : List (List S73)) (hl : l.length ≤ 9223372036854775807) (hin : ∀ x ∈ l, x.length ≤ 9223372036854775807) (n : Int) (h0 : 0 ≤ n) (h1 : n ≤ 1048576) :
    ∃ r, Ev (fun k => laws_szStore.f k l n) r ∧ (0 ≤ r → r ≤ n ∧ (l.length : Int) ≤ n ∧ ∀ x ∈ l, (x.length : Int) ≤ n) := by
  unfold laws_szStore.f laws_szVersionSS.f
  rw [w64 (by omega) (by omega)]
  by_cases h : n - (l.length : Int) < 0
  · refine ⟨-1, Ev.bind (a := -1) (ev_pos h (Ev.now _)) (ev_pos (by omega) (Ev.now _)), fun h => by omega⟩
  · obtain ⟨r, hr, hr1⟩ := sz_loop l (by omega) hin l.length 0 (n - l.length) (by omega) (by omega) (by omega)
    by_cases hneg : r < 0
    · exact ⟨-1, Ev.bind (a := r) (ev_neg h hr) (ev_pos hneg (Ev.now _)), fun h => by omega⟩
    · refine ⟨r, Ev.bind (a := r) (ev_neg h hr) (ev_neg hneg (Ev.now _)), fun h2 => ?_⟩
      obtain ⟨h3, h4⟩ := hr1 h2
      refine ⟨by omega, by omega, fun x hx => ?_⟩
      obtain ⟨j, hj, rfl⟩ := List.mem_iff_getElem.1 hx
      have := h4 j hj (by omega)
      omega
/-- A store of the law's as one of the program's. -/
def cs (l : List (List S73)) : List (List S33) := l.map fun x => x.map cv
theorem cs_len (l : List (List S73)) : (cs l).length = l.length := by simp [cs]
theorem cs_in {l : List (List S73)} {n : Nat} (h : ∀ x ∈ l, x.length ≤ n) : ∀ x ∈ cs l, x.length ≤ n := by
  intro x hx
  simp only [cs, List.mem_map] at hx
  obtain ⟨y, hy, rfl⟩ := hx
  simpa using h y hy
theorem tos_loop (l : List (List S73)) (hl : l.length ≤ 1048576) (hin : ∀ x ∈ l, x.length ≤ 1048576) (d : Nat) : ∀ i, i + d = l.length → Ev (fun k => laws_toVersionSS.l0 k l (cs (l.take i) ++ List.replicate d []) (i : Int)) (cs l) := by
  induction d with
  | zero =>
    intro i hi
    refine Ev.step (fun k => laws_toVersionSS.l0.eq_2 ..) (ev_neg (by omega) ?_)
    rw [List.take_of_length_le (by omega), List.replicate_zero, List.append_nil]
    exact Ev.now _
  | succ d ih =>
    intro i hi
    have h3 : (cs (l.take i)).length = i := by simp [cs]; omega
    refine Ev.step (fun k => laws_toVersionSS.l0.eq_2 ..) (ev_pos (by omega) (ev_pos (by omega) ?_))
    rw [rd_L2_at l i (by omega), up i (by omega)]
    refine Ev.bind (to_vs l[i] (hin _ (List.getElem_mem (by omega)))) (ev_pos (by rw [List.length_append, h3, List.length_replicate]; omega) ?_)
    have h1 : (cs (l.take i) ++ List.replicate (d + 1) []).set ((i : Int)).toNat (l[i].map cv) = cs (l.take (i + 1)) ++ List.replicate d [] := by
      rw [Int.toNat_natCast, List.set_append_right _ _ (by omega), h3, Nat.sub_self, List.replicate_succ, List.set_cons_zero, List.take_succ_eq_append_getElem (by omega)]
      simp only [cs, List.map_append, List.map_cons, List.map_nil, List.append_assoc, List.singleton_append]
    exact h1 ▸ ih (i + 1) (by omega)
theorem to_store (l : List (List S73)) (hl : l.length ≤ 1048576) (hin : ∀ x ∈ l, x.length ≤ 1048576) : Ev (fun k => laws_toStore.f k l) (cs l) := by
  unfold laws_toStore.f laws_toVersionSS.f
  refine Ev.bind (a := cs l) (ev_pos (by omega) (ev_pos (by omega) ?_)) (Ev.now _)
  have := tos_loop l hl hin l.length 0 (by omega)
  rw [List.take_zero] at this
  exact this
theorem eq_store (a : List (List S33)) (hl : a.length ≤ 9223372036854775806) (hin : ∀ x ∈ a, x.length ≤ 9223372036854775806) : Ev (fun k => laws_eqStore.f k a a) true := by
  unfold laws_eqStore.f laws_eqVersionSS.f
  have h : ∀ d i, i + d = a.length → Ev (fun k => laws_eqVersionSS.l0 k a a (i : Int)) true := by
    intro d
    induction d with
    | zero =>
      intro i hi
      exact Ev.step (fun k => laws_eqVersionSS.l0.eq_2 ..) (ev_neg (by omega) (Ev.now _))
    | succ d ih =>
      intro i hi
      refine Ev.step (fun k => laws_eqVersionSS.l0.eq_2 ..) (ev_pos (by omega) (ev_pos (by omega) (ev_pos (by omega) ?_)))
      rw [rd_L4_at a i (by omega), up i (by omega)]
      exact Ev.bind (eq_vs a[i] (hin _ (List.getElem_mem (by omega)))) (ev_pos rfl (ih (i + 1) (by omega)))
  exact Ev.bind (a := true) (ev_pos rfl (h a.length 0 (by omega))) (ev_pos rfl (Ev.now _))
theorem count_both (l : List (List S33)) (hl : l.length ≤ 9223372036854775806) : ∃ r, Ev (fun k => spec_CountVersions.f k l) r ∧ Ev (fun k => impl_CountVersions.f k l) r := by
  have h : ∀ d (i : Nat) (n : Int), i + d = l.length → ∃ r, Ev (fun k => spec_CountVersions.l0 k n (i : Int) l) r ∧ Ev (fun k => impl_CountVersions.l0 k n l (l.length : Int) (i : Int)) r := by
    intro d
    induction d with
    | zero =>
      intro i n hi
      exact ⟨n, Ev.step (fun k => spec_CountVersions.l0.eq_2 ..) (ev_neg (by omega) (Ev.now _)), Ev.step (fun k => impl_CountVersions.l0.eq_2 ..) (ev_neg (by omega) (Ev.now _))⟩
    | succ d ih =>
      intro i n hi
      obtain ⟨r, h1, h2⟩ := ih (i + 1) (wrap64 (n + ((rd_L4 l (i : Int)).length : Int))) (by omega)
      refine ⟨r, Ev.step (fun k => spec_CountVersions.l0.eq_2 ..) (ev_pos (by omega) (ev_pos (by omega) ?_)), Ev.step (fun k => impl_CountVersions.l0.eq_2 ..) (ev_pos (by omega) (ev_pos (by omega) (ev_pos (by omega) ?_)))⟩
      · rw [up i (by omega)]; exact h1
      · rw [up i (by omega)]; exact h2
  exact h l.length 0 0 (by omega)
theorem FnExactCountVersions : laws_FnExactCountVersions.Pure := by
  intro l hl hin
  refine Ev.rounds (g := fun k => laws_FnExactCountVersions.f k l) ?_
  obtain ⟨r, h1, h2⟩ := sz_store l hl hin 1048576 (by omega) (by omega)
  refine Ev.bind h1 (ev_ite (fun _ => Ev.now _) (fun h3 => ?_))
  obtain ⟨_, h4, h5⟩ := h2 (by omega)
  have h6 : ∀ x ∈ l, x.length ≤ 1048576 := fun x hx => by have := h5 x hx; omega
  have ht := to_store l (by omega) h6
  have hi := cs_in h6
  obtain ⟨c, hs, hc⟩ := count_both (cs l) (by rw [cs_len]; omega)
  exact Ev.bind ht (Ev.bind hs (Ev.bind ht (Ev.bind hc (ev_pos rfl (Ev.bind ht (Ev.bind (eq_store _ (by rw [cs_len]; omega) (fun x hx => by have := hi x hx; omega)) (ev_pos rfl (Ev.now _))))))))

end Go.Proofs.Ytcfibffdjgdoaaa.Pure
