/- FindVersion of the program and of the reference answer alike for every list of versions and every stamp. No condition. -/
import Derived.Test.YtcfibffdjgdoaaaPFnExactFindVersionx2
import Derived.Test.YtcfibffdjgdoaaaMEv
namespace Go.Proofs.Ytcfibffdjgdoaaa.Pure
open Go Go.RowKit Go.Proofs.Ytcfibffdjgdoaaa.PFnExactFindVersion Go.Proofs.YtcfibffdjgdoaaaW.PrintWords Go.Proofs.YtcfibffdjgdoaaaW.PrintLast Go.Proofs.YtcfibffdjgdoaaaW.PrintMore Go.Proofs.YtcfibffdjgdoaaaM
set_option linter.unusedVariables false
set_option linter.unusedSimpArgs false

/-- A version of the law's as one of the program's. -/
def cv (v : S73) : S33 := ⟨v.f0, v.f1, v.f2, v.f3, v.f4⟩
theorem to_loop (l : List S73) (hl : l.length ≤ 1048576) (d : Nat) : ∀ i, i + d = l.length → Ev (fun k => laws_toVersionS.l0 k l ((l.take i).map cv ++ List.replicate d z33) (i : Int)) (l.map cv) := by
  induction d with
  | zero =>
    intro i hi
    refine Ev.step (fun k => laws_toVersionS.l0.eq_2 ..) (ev_neg (by omega) ?_)
    rw [List.take_of_length_le (by omega), List.replicate_zero, List.append_nil]
    exact Ev.now _
  | succ d ih =>
    intro i hi
    refine Ev.step (fun k => laws_toVersionS.l0.eq_2 ..) (ev_pos (by omega) (ev_pos (by omega) ?_))
    simp only [laws_toVersion.f, Option.bind_some]
    refine ev_pos (by simp; omega) ?_
    rw [up i (by omega)]
    have h1 : ((l.take i).map cv ++ List.replicate (d + 1) z33).set ((i : Int)).toNat (cv (rd_T73 l (i : Int))) = (l.take (i + 1)).map cv ++ List.replicate d z33 := by
      have h2 : rd_T73 l (i : Int) = l[i] := by unfold rd_T73; exact get_eq l _ i (by omega)
      have h3 : ((l.take i).map cv).length = i := by simp; omega
      rw [h2, Int.toNat_natCast, List.set_append_right _ _ (by omega), h3, Nat.sub_self, List.replicate_succ, List.set_cons_zero, List.take_succ_eq_append_getElem (by omega), List.map_append]
      simp
    exact h1 ▸ ih (i + 1) (by omega)
theorem to_vs (l : List S73) (hl : l.length ≤ 1048576) : Ev (fun k => laws_toVersionS.f k l) (l.map cv) := by
  unfold laws_toVersionS.f
  refine ev_pos (by omega) (ev_pos (by omega) ?_)
  have := to_loop l hl l.length 0 (by omega)
  rw [List.take_zero, List.map_nil, List.nil_append] at this
  exact this
theorem eq_vs (a : List S33) (hl : a.length ≤ 9223372036854775806) : Ev (fun k => laws_eqVersionS.f k a a) true := by
  unfold laws_eqVersionS.f
  refine ev_pos rfl ?_
  have h : ∀ d i, i + d = a.length → Ev (fun k => laws_eqVersionS.l0 k a a (i : Int)) true := by
    intro d
    induction d with
    | zero =>
      intro i hi
      exact Ev.step (fun k => laws_eqVersionS.l0.eq_2 ..) (ev_neg (by omega) (Ev.now _))
    | succ d ih =>
      intro i hi
      refine Ev.step (fun k => laws_eqVersionS.l0.eq_2 ..) (ev_pos (by omega) (ev_pos (by omega) (ev_pos (by omega) ?_)))
      simp only [laws_eqVersion.f, if_true, Option.bind_some]
      rw [up i (by omega)]
      exact ih (i + 1) (by omega)
  exact h a.length 0 (by omega)
/-- The size that the law allows. -/
theorem sz_vs (l : List S73) (hl : l.length ≤ 9223372036854775807) (n : Int) (h0 : 0 ≤ n) (hn : n ≤ 1048576) : ∃ r, laws_szVersionS.f l n = some r ∧ (0 ≤ r → r = n - l.length) ∧ (r < 0 → n < l.length) := by
  unfold laws_szVersionS.f
  rw [w64 (by omega) (by omega)]
  by_cases h : n - (l.length : Int) < 0
  · exact ⟨-1, by rw [if_pos h], fun h2 => by omega, fun _ => by omega⟩
  · exact ⟨n - l.length, by rw [if_neg h], fun _ => rfl, fun h2 => absurd h2 h⟩
theorem spec_find (l : List S33) (hl : l.length ≤ 9223372036854775806) (c : Int) : Ev (fun k => spec_FindVersion.f k l c) (impl_FindVersion.frm l c 0) := by
  unfold spec_FindVersion.f
  have h : ∀ d i, i + d = l.length → Ev (fun k => spec_FindVersion.l0 k l c (i : Int)) (impl_FindVersion.frm l c i) := by
    intro d
    induction d with
    | zero =>
      intro i hi
      rw [impl_FindVersion.frm_end l c i (by omega)]
      exact Ev.step (fun k => spec_FindVersion.l0.eq_2 ..) (ev_neg (by omega) (Ev.now _))
    | succ d ih =>
      intro i hi
      refine Ev.step (fun k => spec_FindVersion.l0.eq_2 ..) (ev_pos (by omega) (ev_pos (by omega) ?_))
      rw [show rd_T33 l (i : Int) = l.getD i z33 by unfold rd_T33; rw [Int.toNat_natCast], up i (by omega)]
      by_cases hp : (l.getD i z33).f2 = c
      · rw [impl_FindVersion.frm_hit l c i (by omega) hp]
        exact ev_pos hp (Ev.now _)
      · rw [impl_FindVersion.frm_miss l c i (by omega) hp]
        exact ev_neg hp (ih (i + 1) (by omega))
  exact h l.length 0 (by omega)
theorem FnExactFindVersion : laws_FnExactFindVersion.Pure := by
  intro l c hl _
  refine Ev.rounds (g := fun k => laws_FnExactFindVersion.f k l c) ?_
  obtain ⟨r, h1, h2, _⟩ := sz_vs l hl 1048576 (by omega) (by omega)
  refine ev_bindo h1 (ev_ite (fun _ => Ev.now _) (fun h3 => ?_))
  have hl' : l.length ≤ 1048576 := by have := h2 (by omega); omega
  have ht := to_vs l hl'
  exact Ev.bind ht (Ev.bind (spec_find _ (by simp; omega) c) (Ev.bind ht (ev_bindo rfl (ev_pos rfl (Ev.bind ht (Ev.bind (eq_vs _ (by simp; omega)) (ev_pos rfl (Ev.now _))))))))

end Go.Proofs.Ytcfibffdjgdoaaa.Pure
