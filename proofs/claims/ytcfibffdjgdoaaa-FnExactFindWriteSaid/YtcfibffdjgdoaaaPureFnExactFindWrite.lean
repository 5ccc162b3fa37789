/- FindWrite of the program and of the reference answer alike for every transaction and key. No condition. -/
import Derived.Test.YtcfibffdjgdoaaaPFnExactFindWritex3
import Derived.Test.YtcfibffdjgdoaaaMEv
namespace Go.Proofs.Ytcfibffdjgdoaaa.Pure
open Go Go.RowKit Go.Proofs.Ytcfibffdjgdoaaa.PFnExactFindWrite Go.Proofs.YtcfibffdjgdoaaaW.PrintWords Go.Proofs.YtcfibffdjgdoaaaW.PrintLast Go.Proofs.YtcfibffdjgdoaaaW.PrintMore Go.Proofs.YtcfibffdjgdoaaaM
set_option linter.unusedVariables false
set_option linter.unusedSimpArgs false

/-- One of the law's as one of the program's. -/
def cr (v : S65) : S67 := ⟨v.f0, v.f1⟩
theorem to_loop_rs (l : List S65) (hl : l.length ≤ 1048576) (d : Nat) : ∀ i, i + d = l.length → Ev (fun k => laws_toReadMarkS.l0 k l ((l.take i).map cr ++ List.replicate d z67) (i : Int)) (l.map cr) := by
  induction d with
  | zero =>
    intro i hi
    refine Ev.step (fun k => laws_toReadMarkS.l0.eq_2 ..) (ev_neg (by omega) ?_)
    rw [List.take_of_length_le (by omega), List.replicate_zero, List.append_nil]
    exact Ev.now _
  | succ d ih =>
    intro i hi
    refine Ev.step (fun k => laws_toReadMarkS.l0.eq_2 ..) (ev_pos (by omega) (ev_pos (by omega) ?_))
    simp only [laws_toReadMark.f, Option.bind_some]
    refine ev_pos (by simp; omega) ?_
    rw [up i (by omega)]
    have h1 : ((l.take i).map cr ++ List.replicate (d + 1) z67).set ((i : Int)).toNat (cr (rd_T65 l (i : Int))) = (l.take (i + 1)).map cr ++ List.replicate d z67 := by
      have h2 : rd_T65 l (i : Int) = l[i] := by unfold rd_T65; exact get_eq l _ i (by omega)
      have h3 : ((l.take i).map cr).length = i := by simp; omega
      rw [h2, Int.toNat_natCast, List.set_append_right _ _ (by omega), h3, Nat.sub_self, List.replicate_succ, List.set_cons_zero, List.take_succ_eq_append_getElem (by omega), List.map_append]
      simp
    exact h1 ▸ ih (i + 1) (by omega)
theorem to_rs (l : List S65) (hl : l.length ≤ 1048576) : Ev (fun k => laws_toReadMarkS.f k l) (l.map cr) := by
  unfold laws_toReadMarkS.f
  refine ev_pos (by omega) (ev_pos (by omega) ?_)
  have := to_loop_rs l hl l.length 0 (by omega)
  rw [List.take_zero, List.map_nil, List.nil_append] at this
  exact this
theorem eq_rs (a : List S67) (hl : a.length ≤ 9223372036854775806) : Ev (fun k => laws_eqReadMarkS.f k a a) true := by
  unfold laws_eqReadMarkS.f
  refine ev_pos rfl ?_
  have h : ∀ d i, i + d = a.length → Ev (fun k => laws_eqReadMarkS.l0 k a a (i : Int)) true := by
    intro d
    induction d with
    | zero =>
      intro i hi
      exact Ev.step (fun k => laws_eqReadMarkS.l0.eq_2 ..) (ev_neg (by omega) (Ev.now _))
    | succ d ih =>
      intro i hi
      refine Ev.step (fun k => laws_eqReadMarkS.l0.eq_2 ..) (ev_pos (by omega) (ev_pos (by omega) (ev_pos (by omega) ?_)))
      simp only [laws_eqReadMark.f, if_true, Option.bind_some]
      rw [up i (by omega)]
      exact ih (i + 1) (by omega)
  exact h a.length 0 (by omega)
/-- The size that the law allows. -/
theorem sz_rs (l : List S65) (hl : l.length ≤ 9223372036854775807) (n : Int) (h0 : 0 ≤ n) (hn : n ≤ 1048576) : ∃ r, laws_szReadMarkS.f l n = some r ∧ (0 ≤ r → r = n - l.length) ∧ (r < 0 → n < l.length) := by
  unfold laws_szReadMarkS.f
  rw [w64 (by omega) (by omega)]
  by_cases h : n - (l.length : Int) < 0
  · exact ⟨-1, by rw [if_pos h], fun h2 => by omega, fun _ => by omega⟩
  · exact ⟨n - l.length, by rw [if_neg h], fun _ => rfl, fun h2 => absurd h2 h⟩
/-- One of the law's as one of the program's. -/
def cw (v : S96) : S84 := ⟨v.f0, v.f1⟩
theorem to_loop_ws (l : List S96) (hl : l.length ≤ 1048576) (d : Nat) : ∀ i, i + d = l.length → Ev (fun k => laws_toWriteS.l0 k l ((l.take i).map cw ++ List.replicate d z84) (i : Int)) (l.map cw) := by
  induction d with
  | zero =>
    intro i hi
    refine Ev.step (fun k => laws_toWriteS.l0.eq_2 ..) (ev_neg (by omega) ?_)
    rw [List.take_of_length_le (by omega), List.replicate_zero, List.append_nil]
    exact Ev.now _
  | succ d ih =>
    intro i hi
    refine Ev.step (fun k => laws_toWriteS.l0.eq_2 ..) (ev_pos (by omega) (ev_pos (by omega) ?_))
    simp only [laws_toWrite.f, Option.bind_some]
    refine ev_pos (by simp; omega) ?_
    rw [up i (by omega)]
    have h1 : ((l.take i).map cw ++ List.replicate (d + 1) z84).set ((i : Int)).toNat (cw (rd_T96 l (i : Int))) = (l.take (i + 1)).map cw ++ List.replicate d z84 := by
      have h2 : rd_T96 l (i : Int) = l[i] := by unfold rd_T96; exact get_eq l _ i (by omega)
      have h3 : ((l.take i).map cw).length = i := by simp; omega
      rw [h2, Int.toNat_natCast, List.set_append_right _ _ (by omega), h3, Nat.sub_self, List.replicate_succ, List.set_cons_zero, List.take_succ_eq_append_getElem (by omega), List.map_append]
      simp
    exact h1 ▸ ih (i + 1) (by omega)
theorem to_ws (l : List S96) (hl : l.length ≤ 1048576) : Ev (fun k => laws_toWriteS.f k l) (l.map cw) := by
  unfold laws_toWriteS.f
  refine ev_pos (by omega) (ev_pos (by omega) ?_)
  have := to_loop_ws l hl l.length 0 (by omega)
  rw [List.take_zero, List.map_nil, List.nil_append] at this
  exact this
theorem eq_ws (a : List S84) (hl : a.length ≤ 9223372036854775806) : Ev (fun k => laws_eqWriteS.f k a a) true := by
  unfold laws_eqWriteS.f
  refine ev_pos rfl ?_
  have h : ∀ d i, i + d = a.length → Ev (fun k => laws_eqWriteS.l0 k a a (i : Int)) true := by
    intro d
    induction d with
    | zero =>
      intro i hi
      exact Ev.step (fun k => laws_eqWriteS.l0.eq_2 ..) (ev_neg (by omega) (Ev.now _))
    | succ d ih =>
      intro i hi
      refine Ev.step (fun k => laws_eqWriteS.l0.eq_2 ..) (ev_pos (by omega) (ev_pos (by omega) (ev_pos (by omega) ?_)))
      simp only [laws_eqWrite.f, if_true, Option.bind_some]
      rw [up i (by omega)]
      exact ih (i + 1) (by omega)
  exact h a.length 0 (by omega)
/-- The size that the law allows. -/
theorem sz_ws (l : List S96) (hl : l.length ≤ 9223372036854775807) (n : Int) (h0 : 0 ≤ n) (hn : n ≤ 1048576) : ∃ r, laws_szWriteS.f l n = some r ∧ (0 ≤ r → r = n - l.length) ∧ (r < 0 → n < l.length) := by
  unfold laws_szWriteS.f
  rw [w64 (by omega) (by omega)]
  by_cases h : n - (l.length : Int) < 0
  · exact ⟨-1, by rw [if_pos h], fun h2 => by omega, fun _ => by omega⟩
  · exact ⟨n - l.length, by rw [if_neg h], fun _ => rfl, fun h2 => absurd h2 h⟩
theorem sz_trans (a0 a1 a2 a3 a4 a5 a6 : Int) (rs : List S65) (ws : List S96) (hr : rs.length ≤ 9223372036854775807) (hw : ws.length ≤ 9223372036854775807) (n : Int) (h0 : 0 ≤ n) (hn : n ≤ 1048576) :
    ∃ r, laws_szTransaction.f a0 a1 a2 a3 a4 a5 a6 rs ws n = some r ∧ (0 ≤ r → r ≤ n ∧ (rs.length : Int) ≤ n ∧ (ws.length : Int) ≤ n) := by
  unfold laws_szTransaction.f
  obtain ⟨q, hq, hq1, _⟩ := sz_rs rs hr n h0 hn
  by_cases h : q < 0
  · exact ⟨-1, by rw [hq, Option.bind_some, if_pos h], fun h => by omega⟩
  · have h2 := hq1 (by omega)
    obtain ⟨p, hp, hp1, _⟩ := sz_ws ws hw q (by omega) (by omega)
    by_cases h3 : p < 0
    · exact ⟨-1, by rw [hq, Option.bind_some, if_neg h, hp, Option.bind_some, if_pos h3], fun h => by omega⟩
    · have h4 := hp1 (by omega)
      exact ⟨p, by rw [hq, Option.bind_some, if_neg h, hp, Option.bind_some, if_neg h3], fun _ => by omega⟩
theorem to_trans (a0 a1 a2 a3 a4 a5 a6 : Int) (rs : List S65) (ws : List S96) (hr : rs.length ≤ 1048576) (hw : ws.length ≤ 1048576) :
    Ev (fun k => laws_toTransaction.f k a0 a1 a2 a3 a4 a5 a6 rs ws) (a0, a1, a2, a3, a4, a5, a6, rs.map cr, ws.map cw) := by
  unfold laws_toTransaction.f
  exact Ev.bind (to_rs rs hr) (Ev.bind (to_ws ws hw) (Ev.now _))
theorem eq_trans (a0 a1 a2 a3 a4 a5 a6 : Int) (rs : List S67) (ws : List S84) (hr : rs.length ≤ 9223372036854775806) (hw : ws.length ≤ 9223372036854775806) :
    Ev (fun k => laws_eqTransaction.f k a0 a1 a2 a3 a4 a5 a6 rs ws a0 a1 a2 a3 a4 a5 a6 rs ws) true := by
  unfold laws_eqTransaction.f
  simp only [if_true]
  exact Ev.bind (eq_rs rs hr) (ev_pos rfl (Ev.bind (eq_ws ws hw) (ev_pos rfl (Ev.now _))))
theorem spec_findw (a0 a1 a2 a3 a4 a5 a6 : Int) (rs : List S67) (l : List S84) (hl : l.length ≤ 9223372036854775806) (c : Int) : Ev (fun k => spec_FindWrite.f k a0 a1 a2 a3 a4 a5 a6 rs l c) (impl_FindWrite.frm l c 0) := by
  unfold spec_FindWrite.f
  have h : ∀ d i, i + d = l.length → Ev (fun k => spec_FindWrite.l0 k c (i : Int) a0 a1 a2 a3 a4 a5 a6 rs l) (impl_FindWrite.frm l c i) := by
    intro d
    induction d with
    | zero =>
      intro i hi
      rw [impl_FindWrite.frm_end l c i (by omega)]
      exact Ev.step (fun k => spec_FindWrite.l0.eq_2 ..) (ev_neg (by omega) (Ev.now _))
    | succ d ih =>
      intro i hi
      refine Ev.step (fun k => spec_FindWrite.l0.eq_2 ..) (ev_pos (by omega) (ev_pos (by omega) ?_))
      rw [show rd_T84 l (i : Int) = l.getD i z84 by unfold rd_T84; rw [Int.toNat_natCast], up i (by omega)]
      by_cases hp : (l.getD i z84).f0 = c
      · rw [impl_FindWrite.frm_hit l c i (by omega) hp]
        exact ev_pos hp (Ev.now _)
      · rw [impl_FindWrite.frm_miss l c i (by omega) hp]
        exact ev_neg hp (ih (i + 1) (by omega))
  exact h l.length 0 (by omega)
theorem FnExactFindWrite : laws_FnExactFindWrite.Pure := by
  intro a0 a1 a2 a3 a4 a5 a6 rs ws c hr hw _
  refine Ev.rounds (g := fun k => laws_FnExactFindWrite.f k a0 a1 a2 a3 a4 a5 a6 rs ws c) ?_
  obtain ⟨q, h1, h2⟩ := sz_trans a0 a1 a2 a3 a4 a5 a6 rs ws hr hw 1048576 (by omega) (by omega)
  refine ev_bindo h1 (ev_ite (fun _ => Ev.now _) (fun h3 => ?_))
  obtain ⟨_, h4, h5⟩ := h2 (by omega)
  have ht := to_trans a0 a1 a2 a3 a4 a5 a6 rs ws (by omega) (by omega)
  exact Ev.bind ht (Ev.bind (spec_findw a0 a1 a2 a3 a4 a5 a6 _ _ (by simp; omega) c) (Ev.bind ht (ev_bindo rfl (ev_pos rfl (Ev.bind ht (Ev.bind (eq_trans a0 a1 a2 a3 a4 a5 a6 _ _ (by simp; omega) (by simp; omega)) (ev_pos rfl (Ev.now _))))))))

end Go.Proofs.Ytcfibffdjgdoaaa.Pure
