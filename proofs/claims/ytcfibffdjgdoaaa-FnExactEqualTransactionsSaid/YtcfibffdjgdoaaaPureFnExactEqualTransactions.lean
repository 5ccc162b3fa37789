/- EqualTransactions of the program and of the reference answer alike for every two transactions. No condition. -/
import Derived.Test.YtcfibffdjgdoaaaPFnExactEqualTransactionsx7
import Derived.Test.YtcfibffdjgdoaaaMEv
namespace Go.Proofs.Ytcfibffdjgdoaaa.Pure
open Go Go.RowKit Go.Proofs.Ytcfibffdjgdoaaa.PFnExactEqualTransactions Go.Proofs.YtcfibffdjgdoaaaW.PrintWords Go.Proofs.YtcfibffdjgdoaaaW.PrintLast Go.Proofs.YtcfibffdjgdoaaaW.PrintMore Go.Proofs.YtcfibffdjgdoaaaM
set_option linter.unusedVariables false
set_option linter.unusedSimpArgs false

/-- One of the law's as one of the program's. -/
def cr (v : S65) : S67 := ⟨v.f0, v.f1⟩
theorem to_loop_rs (l : List S65) (hl : l.length ≤ 1048576) (d : Nat) : ∀ i, i + d = l.length → Ev (fun k => laws_toReadMarkS.l0 k l ((l.take i).map cr ++ List.replicate d z67) (i : Int)) (l.map cr) := by
  induction d with
  | zero =>
    intro i hi
    refine Ev.step (fun k => laws_toReadMarkS.l0.eq_2 ..) (ev_neg (by omega) ?_)
    rw [List.take_of_length_le (by omega), List.replicate_zero, List.append_nil]
    exact Ev.now _
  | succ d ih =>
    intro i hi
    refine Ev.step (fun k => laws_toReadMarkS.l0.eq_2 ..) (ev_pos (by omega) (ev_pos (by omega) ?_))
    simp only [laws_toReadMark.f, Option.bind_some]
    refine ev_pos (by simp; omega) ?_
    rw [up i (by omega)]
    have h1 : ((l.take i).map cr ++ List.replicate (d + 1) z67).set ((i : Int)).toNat (cr (rd_T65 l (i : Int))) = (l.take (i + 1)).map cr ++ List.replicate d z67 := by
      have h2 : rd_T65 l (i : Int) = l[i] := by unfold rd_T65; exact get_eq l _ i (by omega)
      have h3 : ((l.take i).map cr).length = i := by simp; omega
      rw [h2, Int.toNat_natCast, List.set_append_right _ _ (by omega), h3, Nat.sub_self, List.replicate_succ, List.set_cons_zero, List.take_succ_eq_append_getElem (by omega), List.map_append]
      simp
    exact h1 ▸ ih (i + 1) (by omega)
theorem to_rs (l : List S65) (hl : l.length ≤ 1048576) : Ev (fun k => laws_toReadMarkS.f k l) (l.map cr) := by
  unfold laws_toReadMarkS.f
  refine ev_pos (by omega) (ev_pos (by omega) ?_)
  have := to_loop_rs l hl l.length 0 (by omega)
  rw [List.take_zero, List.map_nil, List.nil_append] at this
  exact this
theorem eq_rs (a : List S67) (hl : a.length ≤ 9223372036854775806) : Ev (fun k => laws_eqReadMarkS.f k a a) true := by
  unfold laws_eqReadMarkS.f
  refine ev_pos rfl ?_
  have h : ∀ d i, i + d = a.length → Ev (fun k => laws_eqReadMarkS.l0 k a a (i : Int)) true := by
    intro d
    induction d with
    | zero =>
      intro i hi
      exact Ev.step (fun k => laws_eqReadMarkS.l0.eq_2 ..) (ev_neg (by omega) (Ev.now _))
    | succ d ih =>
      intro i hi
      refine Ev.step (fun k => laws_eqReadMarkS.l0.eq_2 ..) (ev_pos (by omega) (ev_pos (by omega) (ev_pos (by omega) ?_)))
      simp only [laws_eqReadMark.f, if_true, Option.bind_some]
      rw [up i (by omega)]
      exact ih (i + 1) (by omega)
  exact h a.length 0 (by omega)
/-- The size that the law allows. -/
theorem sz_rs (l : List S65) (hl : l.length ≤ 9223372036854775807) (n : Int) (h0 : 0 ≤ n) (hn : n ≤ 1048576) : ∃ r, laws_szReadMarkS.f l n = some r ∧ (0 ≤ r → r = n - l.length) ∧ (r < 0 → n < l.length) := by
  unfold laws_szReadMarkS.f
  rw [w64 (by omega) (by omega)]
  by_cases h : n - (l.length : Int) < 0
  · exact ⟨-1, by rw [if_pos h], fun h2 => by omega, fun _ => by omega⟩
  · exact ⟨n - l.length, by rw [if_neg h], fun _ => rfl, fun h2 => absurd h2 h⟩
/-- One of the law's as one of the program's. -/
def cw (v : S96) : S84 := ⟨v.f0, v.f1⟩
theorem to_loop_ws (l : List S96) (hl : l.length ≤ 1048576) (d : Nat) : ∀ i, i + d = l.length → Ev (fun k => laws_toWriteS.l0 k l ((l.take i).map cw ++ List.replicate d z84) (i : Int)) (l.map cw) := by
  induction d with
  | zero =>
    intro i hi
    refine Ev.step (fun k => laws_toWriteS.l0.eq_2 ..) (ev_neg (by omega) ?_)
    rw [List.take_of_length_le (by omega), List.replicate_zero, List.append_nil]
    exact Ev.now _
  | succ d ih =>
    intro i hi
    refine Ev.step (fun k => laws_toWriteS.l0.eq_2 ..) (ev_pos (by omega) (ev_pos (by omega) ?_))
    simp only [laws_toWrite.f, Option.bind_some]
    refine ev_pos (by simp; omega) ?_
    rw [up i (by omega)]
    have h1 : ((l.take i).map cw ++ List.replicate (d + 1) z84).set ((i : Int)).toNat (cw (rd_T96 l (i : Int))) = (l.take (i + 1)).map cw ++ List.replicate d z84 := by
      have h2 : rd_T96 l (i : Int) = l[i] := by unfold rd_T96; exact get_eq l _ i (by omega)
      have h3 : ((l.take i).map cw).length = i := by simp; omega
      rw [h2, Int.toNat_natCast, List.set_append_right _ _ (by omega), h3, Nat.sub_self, List.replicate_succ, List.set_cons_zero, List.take_succ_eq_append_getElem (by omega), List.map_append]
      simp
    exact h1 ▸ ih (i + 1) (by omega)
theorem to_ws (l : List S96) (hl : l.length ≤ 1048576) : Ev (fun k => laws_toWriteS.f k l) (l.map cw) := by
  unfold laws_toWriteS.f
  refine ev_pos (by omega) (ev_pos (by omega) ?_)
  have := to_loop_ws l hl l.length 0 (by omega)
  rw [List.take_zero, List.map_nil, List.nil_append] at this
  exact this
theorem eq_ws (a : List S84) (hl : a.length ≤ 9223372036854775806) : Ev (fun k => laws_eqWriteS.f k a a) true := by
  unfold laws_eqWriteS.f
  refine ev_pos rfl ?_
  have h : ∀ d i, i + d = a.length → Ev (fun k => laws_eqWriteS.l0 k a a (i : Int)) true := by
    intro d
    induction d with
    | zero =>
      intro i hi
      exact Ev.step (fun k => laws_eqWriteS.l0.eq_2 ..) (ev_neg (by omega) (Ev.now _))
    | succ d ih =>
      intro i hi
      refine Ev.step (fun k => laws_eqWriteS.l0.eq_2 ..) (ev_pos (by omega) (ev_pos (by omega) (ev_pos (by omega) ?_)))
      simp only [laws_eqWrite.f, if_true, Option.bind_some]
      rw [up i (by omega)]
      exact ih (i + 1) (by omega)
  exact h a.length 0 (by omega)
/-- The size that the law allows. -/
theorem sz_ws (l : List S96) (hl : l.length ≤ 9223372036854775807) (n : Int) (h0 : 0 ≤ n) (hn : n ≤ 1048576) : ∃ r, laws_szWriteS.f l n = some r ∧ (0 ≤ r → r = n - l.length) ∧ (r < 0 → n < l.length) := by
  unfold laws_szWriteS.f
  rw [w64 (by omega) (by omega)]
  by_cases h : n - (l.length : Int) < 0
  · exact ⟨-1, by rw [if_pos h], fun h2 => by omega, fun _ => by omega⟩
  · exact ⟨n - l.length, by rw [if_neg h], fun _ => rfl, fun h2 => absurd h2 h⟩
theorem sz_trans (a0 a1 a2 a3 a4 a5 a6 : Int) (rs : List S65) (ws : List S96) (hr : rs.length ≤ 9223372036854775807) (hw : ws.length ≤ 9223372036854775807) (n : Int) (h0 : 0 ≤ n) (hn : n ≤ 1048576) :
    ∃ r, laws_szTransaction.f a0 a1 a2 a3 a4 a5 a6 rs ws n = some r ∧ (0 ≤ r → r ≤ n ∧ (rs.length : Int) ≤ n ∧ (ws.length : Int) ≤ n) := by
  unfold laws_szTransaction.f
  obtain ⟨q, hq, hq1, _⟩ := sz_rs rs hr n h0 hn
  by_cases h : q < 0
  · exact ⟨-1, by rw [hq, Option.bind_some, if_pos h], fun h => by omega⟩
  · have h2 := hq1 (by omega)
    obtain ⟨p, hp, hp1, _⟩ := sz_ws ws hw q (by omega) (by omega)
    by_cases h3 : p < 0
    · exact ⟨-1, by rw [hq, Option.bind_some, if_neg h, hp, Option.bind_some, if_pos h3], fun h => by omega⟩
    · have h4 := hp1 (by omega)
      exact ⟨p, by rw [hq, Option.bind_some, if_neg h, hp, Option.bind_some, if_neg h3], fun _ => by omega⟩
theorem to_trans (a0 a1 a2 a3 a4 a5 a6 : Int) (rs : List S65) (ws : List S96) (hr : rs.length ≤ 1048576) (hw : ws.length ≤ 1048576) :
    Ev (fun k => laws_toTransaction.f k a0 a1 a2 a3 a4 a5 a6 rs ws) (a0, a1, a2, a3, a4, a5, a6, rs.map cr, ws.map cw) := by
  unfold laws_toTransaction.f
  exact Ev.bind (to_rs rs hr) (Ev.bind (to_ws ws hw) (Ev.now _))
theorem eq_trans (a0 a1 a2 a3 a4 a5 a6 : Int) (rs : List S67) (ws : List S84) (hr : rs.length ≤ 9223372036854775806) (hw : ws.length ≤ 9223372036854775806) :
    Ev (fun k => laws_eqTransaction.f k a0 a1 a2 a3 a4 a5 a6 rs ws a0 a1 a2 a3 a4 a5 a6 rs ws) true := by
  unfold laws_eqTransaction.f
  simp only [if_true]
  exact Ev.bind (eq_rs rs hr) (ev_pos rfl (Ev.bind (eq_ws ws hw) (ev_pos rfl (Ev.now _))))
/-- Two differ, in the loops' own words. -/
def nr (u v : S67) : Bool := !(u.f0 == v.f0) || (!(u.f1 == v.f1))
theorem rdn_r (l : List S67) (i : Nat) : rd_T67 l (i : Int) = l.getD i z67 := by unfold rd_T67; rw [Int.toNat_natCast]
def allr (a b : List S67) : Bool := decide (∀ j, j < a.length → ¬ nr (a.getD j z67) (b.getD j z67) = true)
theorem impl_r (a b : List S67) (ha : a.length ≤ 9223372036854775806) : Ev (fun k => impl_ReadMark.f k a b) (if a.length = b.length then (allr a b && true) else false) := by
  unfold impl_ReadMark.f
  refine ev_ite (fun h => ?_) (fun h => ?_)
  · rw [if_pos (by omega)]
    refine all_loop0 (g := fun k i => impl_ReadMark.l0 k a b (a.length : Int) i) a.length _ ?_ ?_ ?_
    · exact Ev.step (fun k => impl_ReadMark.l0.eq_2 ..) (ev_neg (by omega) (Ev.now _))
    · intro i hi hp r hr
      refine Ev.step (fun k => impl_ReadMark.l0.eq_2 ..) (ev_pos (by omega) (ev_pos (by omega) (ev_pos (by omega) (ev_pos (by omega) ?_))))
      rw [rdn_r, rdn_r, up i (by omega)]
      exact ev_neg hp hr
    · intro i hi hp
      refine Ev.step (fun k => impl_ReadMark.l0.eq_2 ..) (ev_pos (by omega) (ev_pos (by omega) (ev_pos (by omega) (ev_pos (by omega) ?_))))
      rw [rdn_r, rdn_r, up i (by omega)]
      exact ev_pos (Decidable.not_not.1 hp) (Ev.now _)
  · rw [if_neg (by omega)]
    exact Ev.now _
/-- Two differ, in the loops' own words. -/
def nw (u v : S84) : Bool := !(u.f0 == v.f0) || (!(u.f1 == v.f1))
theorem rdn_w (l : List S84) (i : Nat) : rd_T84 l (i : Int) = l.getD i z84 := by unfold rd_T84; rw [Int.toNat_natCast]
def allw (a b : List S84) : Bool := decide (∀ j, j < a.length → ¬ nw (a.getD j z84) (b.getD j z84) = true)
theorem impl_w (a b : List S84) (ha : a.length ≤ 9223372036854775806) : Ev (fun k => impl_Write.f k a b) (if a.length = b.length then (allw a b && true) else false) := by
  unfold impl_Write.f
  refine ev_ite (fun h => ?_) (fun h => ?_)
  · rw [if_pos (by omega)]
    refine all_loop0 (g := fun k i => impl_Write.l0 k a b (a.length : Int) i) a.length _ ?_ ?_ ?_
    · exact Ev.step (fun k => impl_Write.l0.eq_2 ..) (ev_neg (by omega) (Ev.now _))
    · intro i hi hp r hr
      refine Ev.step (fun k => impl_Write.l0.eq_2 ..) (ev_pos (by omega) (ev_pos (by omega) (ev_pos (by omega) (ev_pos (by omega) ?_))))
      rw [rdn_w, rdn_w, up i (by omega)]
      exact ev_neg hp hr
    · intro i hi hp
      refine Ev.step (fun k => impl_Write.l0.eq_2 ..) (ev_pos (by omega) (ev_pos (by omega) (ev_pos (by omega) (ev_pos (by omega) ?_))))
      rw [rdn_w, rdn_w, up i (by omega)]
      exact ev_pos (Decidable.not_not.1 hp) (Ev.now _)
  · rw [if_neg (by omega)]
    exact Ev.now _
theorem spec_l1 (a0 a1 a2 a3 a4 a5 a6 : Int) (r1 : List S67) (w1 : List S84) (b0 b1 b2 b3 b4 b5 b6 : Int) (r2 : List S67) (w2 : List S84) (hw : w1.length ≤ 9223372036854775806) (e : w1.length = w2.length) : Ev (fun k => spec_EqualTransactions.l1 k 0 a0 a1 a2 a3 a4 a5 a6 r1 w1 b0 b1 b2 b3 b4 b5 b6 r2 w2) (allw w1 w2 && true) := by
  refine all_loop0 (g := fun k i => spec_EqualTransactions.l1 k i a0 a1 a2 a3 a4 a5 a6 r1 w1 b0 b1 b2 b3 b4 b5 b6 r2 w2) w1.length _ ?_ ?_ ?_
  · exact Ev.step (fun k => spec_EqualTransactions.l1.eq_2 ..) (ev_neg (by omega) (Ev.now _))
  · intro i hi hp r hr
    refine Ev.step (fun k => spec_EqualTransactions.l1.eq_2 ..) (ev_pos (by omega) (ev_pos (by omega) (ev_pos (by omega) ?_)))
    rw [rdn_w, rdn_w, up i (by omega)]
    exact ev_neg hp hr
  · intro i hi hp
    refine Ev.step (fun k => spec_EqualTransactions.l1.eq_2 ..) (ev_pos (by omega) (ev_pos (by omega) (ev_pos (by omega) ?_)))
    rw [rdn_w, rdn_w, up i (by omega)]
    exact ev_pos (Decidable.not_not.1 hp) (Ev.now _)
theorem spec_l0 (a0 a1 a2 a3 a4 a5 a6 : Int) (r1 : List S67) (w1 : List S84) (b0 b1 b2 b3 b4 b5 b6 : Int) (r2 : List S67) (w2 : List S84) (hr : r1.length ≤ 9223372036854775806) (hw : w1.length ≤ 9223372036854775806) (er : r1.length = r2.length) (e : w1.length = w2.length) : Ev (fun k => spec_EqualTransactions.l0 k 0 a0 a1 a2 a3 a4 a5 a6 r1 w1 b0 b1 b2 b3 b4 b5 b6 r2 w2) (allr r1 r2 && (allw w1 w2 && true)) := by
  refine all_loop0 (g := fun k i => spec_EqualTransactions.l0 k i a0 a1 a2 a3 a4 a5 a6 r1 w1 b0 b1 b2 b3 b4 b5 b6 r2 w2) r1.length _ ?_ ?_ ?_
  · exact Ev.step (fun k => spec_EqualTransactions.l0.eq_2 ..) (ev_neg (by omega) (spec_l1 a0 a1 a2 a3 a4 a5 a6 r1 w1 b0 b1 b2 b3 b4 b5 b6 r2 w2 hw e))
  · intro i hi hp r hr
    refine Ev.step (fun k => spec_EqualTransactions.l0.eq_2 ..) (ev_pos (by omega) (ev_pos (by omega) (ev_pos (by omega) ?_)))
    rw [rdn_r, rdn_r, up i (by omega)]
    exact ev_neg hp hr
  · intro i hi hp
    refine Ev.step (fun k => spec_EqualTransactions.l0.eq_2 ..) (ev_pos (by omega) (ev_pos (by omega) (ev_pos (by omega) ?_)))
    rw [rdn_r, rdn_r, up i (by omega)]
    exact ev_pos (Decidable.not_not.1 hp) (Ev.now _)
/-- What both say of two transactions. -/
def eqT (a0 a1 a2 a3 a4 a5 a6 : Int) (r1 : List S67) (w1 : List S84) (b0 b1 b2 b3 b4 b5 b6 : Int) (r2 : List S67) (w2 : List S84) : Bool :=
  decide (a0 = b0 ∧ a1 = b1 ∧ a2 = b2 ∧ a3 = b3 ∧ a4 = b4 ∧ a5 = b5 ∧ a6 = b6) && ((if r1.length = r2.length then (allr r1 r2 && true) else false) && (if w1.length = w2.length then (allw w1 w2 && true) else false))
theorem spec_eqT (a0 a1 a2 a3 a4 a5 a6 : Int) (r1 : List S67) (w1 : List S84) (b0 b1 b2 b3 b4 b5 b6 : Int) (r2 : List S67) (w2 : List S84) (hr : r1.length ≤ 9223372036854775806) (hw : w1.length ≤ 9223372036854775806) : Ev (fun k => spec_EqualTransactions.f k a0 a1 a2 a3 a4 a5 a6 r1 w1 b0 b1 b2 b3 b4 b5 b6 r2 w2) (eqT a0 a1 a2 a3 a4 a5 a6 r1 w1 b0 b1 b2 b3 b4 b5 b6 r2 w2) := by
  have ht : Ev (fun k => spec_EqualTransactions.j0 k true a0 a1 a2 a3 a4 a5 a6 r1 w1 b0 b1 b2 b3 b4 b5 b6 r2 w2) false := Ev.step (fun k => spec_EqualTransactions.j0.eq_2 ..) (ev_pos rfl (Ev.now _))
  unfold spec_EqualTransactions.f eqT
  refine ev_ite (fun h0 => ev_ite (fun h1 => ev_ite (fun h2 => ev_ite (fun h3 => ev_ite (fun h4 => ev_ite (fun h5 => ev_ite (fun h6 => ev_ite (fun h7 => ?_) (fun h => ?_)) (fun h => ?_)) (fun h => ?_)) (fun h => ?_)) (fun h => ?_)) (fun h => ?_)) (fun h => ?_)) (fun h => ?_)
  · rw [decide_eq_true ⟨h0, h1, h2, h3, h4, h5, h6⟩, if_pos (by omega)]
    by_cases h8 : w1.length = w2.length
    · rw [if_pos h8]
      refine Ev.step (fun k => spec_EqualTransactions.j0.eq_2 ..) (ev_neg (by simp [h8]) ?_)
      refine ev_eq (spec_l0 a0 a1 a2 a3 a4 a5 a6 r1 w1 b0 b1 b2 b3 b4 b5 b6 r2 w2 hr hw (by omega) h8) ?_
      simp
    · rw [if_neg h8]
      refine ev_eq (Ev.step (fun k => spec_EqualTransactions.j0.eq_2 ..) (ev_pos (by simp; omega) (Ev.now _))) ?_
      simp
  · rw [if_neg (by omega)]
    exact ev_eq ht (by simp)
  all_goals exact ev_eq ht (by simp [h])
theorem impl_eqT (a0 a1 a2 a3 a4 a5 a6 : Int) (r1 : List S67) (w1 : List S84) (b0 b1 b2 b3 b4 b5 b6 : Int) (r2 : List S67) (w2 : List S84) (hr : r1.length ≤ 9223372036854775806) (hw : w1.length ≤ 9223372036854775806) : Ev (fun k => impl_EqualTransactions.f k a0 a1 a2 a3 a4 a5 a6 r1 w1 b0 b1 b2 b3 b4 b5 b6 r2 w2) (eqT a0 a1 a2 a3 a4 a5 a6 r1 w1 b0 b1 b2 b3 b4 b5 b6 r2 w2) := by
  unfold impl_EqualTransactions.f eqT
  refine ev_ite (fun h0 => ev_ite (fun h1 => ev_ite (fun h2 => ev_ite (fun h3 => ev_ite (fun h4 => ev_ite (fun h5 => ev_ite (fun h6 => ?_) (fun h => ?_)) (fun h => ?_)) (fun h => ?_)) (fun h => ?_)) (fun h => ?_)) (fun h => ?_)) (fun h => ?_)
  · rw [decide_eq_true ⟨h0, h1, h2, h3, h4, h5, h6⟩]
    refine Ev.bind (impl_r r1 r2 hr) (ev_ite (fun h => ?_) (fun h => ?_))
    · rw [h]
      exact Ev.bind (impl_w w1 w2 hw) (ev_eq (Ev.now _) (by simp))
    · rw [Bool.not_eq_true] at h
      rw [h]
      exact ev_eq (Ev.now _) (by simp)
  all_goals exact ev_eq (Ev.now _) (by simp [h])
theorem FnExactEqualTransactions : laws_FnExactEqualTransactions.Pure := by
  intro a0 a1 a2 a3 a4 a5 a6 r1 w1 b0 b1 b2 b3 b4 b5 b6 r2 w2 hr1 hw1 hr2 hw2
  refine Ev.rounds (g := fun k => laws_FnExactEqualTransactions.f k a0 a1 a2 a3 a4 a5 a6 r1 w1 b0 b1 b2 b3 b4 b5 b6 r2 w2) ?_
  obtain ⟨q, h1, h2⟩ := sz_trans a0 a1 a2 a3 a4 a5 a6 r1 w1 hr1 hw1 1048576 (by omega) (by omega)
  refine ev_bindo h1 (ev_ite (fun _ => Ev.now _) (fun h3 => ?_))
  obtain ⟨h4, h5, h6⟩ := h2 (by omega)
  obtain ⟨p, g1, g2⟩ := sz_trans b0 b1 b2 b3 b4 b5 b6 r2 w2 hr2 hw2 q (by omega) (by omega)
  refine ev_bindo g1 (ev_ite (fun _ => Ev.now _) (fun g3 => ?_))
  obtain ⟨g4, g5, g6⟩ := g2 (by omega)
  have ht := to_trans a0 a1 a2 a3 a4 a5 a6 r1 w1 (by omega) (by omega)
  have gt := to_trans b0 b1 b2 b3 b4 b5 b6 r2 w2 (by omega) (by omega)
  exact Ev.bind ht (Ev.bind gt (Ev.bind (spec_eqT a0 a1 a2 a3 a4 a5 a6 _ _ b0 b1 b2 b3 b4 b5 b6 _ _ (by simp; omega) (by simp; omega)) (Ev.bind ht (Ev.bind gt (Ev.bind (impl_eqT a0 a1 a2 a3 a4 a5 a6 _ _ b0 b1 b2 b3 b4 b5 b6 _ _ (by simp; omega) (by simp; omega)) (ev_neg (by simp) (Ev.bind ht (Ev.bind (eq_trans a0 a1 a2 a3 a4 a5 a6 _ _ (by simp; omega) (by simp; omega)) (ev_pos rfl (Ev.bind gt (Ev.bind (eq_trans b0 b1 b2 b3 b4 b5 b6 _ _ (by simp; omega) (by simp; omega)) (ev_pos rfl (Ev.now _)))))))))))))

end Go.Proofs.Ytcfibffdjgdoaaa.Pure
