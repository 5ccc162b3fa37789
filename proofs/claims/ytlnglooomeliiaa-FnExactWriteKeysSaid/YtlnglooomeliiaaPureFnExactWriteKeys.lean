/- Both list the same keys. -/
import Derived.Test.YtlnglooomeliiaaPFnExactWriteKeysx9
import Derived.Test.YtlnglooomeliiaaMEv
namespace Go.Proofs.Ytlnglooomeliiaa.Pure
open Go Go.RowKit Go.Proofs.Ytlnglooomeliiaa.PFnExactWriteKeys Go.Proofs.YtlnglooomeliiaaW.PrintWords Go.Proofs.YtlnglooomeliiaaW.PrintLast Go.Proofs.YtlnglooomeliiaaW.PrintMore Go.Proofs.YtlnglooomeliiaaM
set_option linter.unusedVariables false
set_option linter.unusedSimpArgs false

theorem spec_in (a b c : Int) : spec_l1In.f a b c = some (decide (b ≤ a ∧ a ≤ c)) := by
  unfold spec_l1In.f
  by_cases h : b ≤ a <;> simp [h]
theorem impl_in_ (a b c : Int) : impl_in.f a b c = some (decide (b ≤ a ∧ a ≤ c)) := by
  unfold impl_in.f
  by_cases h : b ≤ a <;> simp [h]
/-- One of the law's as one of the program's. -/
def cr (v : S106) : S84 := ⟨v.f0, v.f1⟩
theorem to_loop_rs (l : List S106) (hl : l.length ≤ 1048576) (d : Nat) : ∀ i, i + d = l.length → Ev (fun k => laws_toReadMarkS.l0 k l ((l.take i).map cr ++ List.replicate d z84) (i : Int)) (l.map cr) := by
  induction d with
  | zero =>
    intro i hi
    refine Ev.step (fun k => laws_toReadMarkS.l0.eq_2 ..) (ev_neg (by omega) ?_)
    rw [List.take_of_length_le (by omega), List.replicate_zero, List.append_nil]
    exact Ev.now _
  | succ d ih =>
    intro i hi
    refine Ev.step (fun k => laws_toReadMarkS.l0.eq_2 ..) (ev_pos (by omega) (ev_pos (by omega) ?_))
    simp only [laws_toReadMark.f, Option.bind_some]
    refine ev_pos (by simp; omega) ?_
    rw [up i (by omega)]
    have h1 : ((l.take i).map cr ++ List.replicate (d + 1) z84).set ((i : Int)).toNat (cr (rd_T106 l (i : Int))) = (l.take (i + 1)).map cr ++ List.replicate d z84 := by
      have h2 : rd_T106 l (i : Int) = l[i] := by unfold rd_T106; exact get_eq l _ i (by omega)
      have h3 : ((l.take i).map cr).length = i := by simp; omega
      rw [h2, Int.toNat_natCast, List.set_append_right _ _ (by omega), h3, Nat.sub_self, List.replicate_succ, List.set_cons_zero, List.take_succ_eq_append_getElem (by omega), List.map_append]
      simp
    exact h1 ▸ ih (i + 1) (by omega)
theorem to_rs (l : List S106) (hl : l.length ≤ 1048576) : Ev (fun k => laws_toReadMarkS.f k l) (l.map cr) := by
  unfold laws_toReadMarkS.f
  refine ev_pos (by omega) (ev_pos (by omega) ?_)
  have := to_loop_rs l hl l.length 0 (by omega)
  rw [List.take_zero, List.map_nil, List.nil_append] at this
  exact this
theorem eq_rs (a : List S84) (hl : a.length ≤ 9223372036854775806) : Ev (fun k => laws_eqReadMarkS.f k a a) true := by
  unfold laws_eqReadMarkS.f
  refine ev_pos rfl ?_
  have h : ∀ d i, i + d = a.length → Ev (fun k => laws_eqReadMarkS.l0 k a a (i : Int)) true := by
    intro d
    induction d with
    | zero =>
      intro i hi
      exact Ev.step (fun k => laws_eqReadMarkS.l0.eq_2 ..) (ev_neg (by omega) (Ev.now _))
    | succ d ih =>
      intro i hi
      refine Ev.step (fun k => laws_eqReadMarkS.l0.eq_2 ..) (ev_pos (by omega) (ev_pos (by omega) (ev_pos (by omega) ?_)))
      simp only [laws_eqReadMark.f, if_true, Option.bind_some]
      rw [up i (by omega)]
      exact ih (i + 1) (by omega)
  exact h a.length 0 (by omega)
/-- The size that the law allows. -/
theorem sz_rs (l : List S106) (hl : l.length ≤ 9223372036854775807) (n : Int) (h0 : 0 ≤ n) (hn : n ≤ 1048576) : ∃ r, laws_szReadMarkS.f l n = some r ∧ (0 ≤ r → r = n - l.length) ∧ (r < 0 → n < l.length) := by
  unfold laws_szReadMarkS.f
  rw [w64 (by omega) (by omega)]
  by_cases h : n - (l.length : Int) < 0
  · exact ⟨-1, by rw [if_pos h], fun h2 => by omega, fun _ => by omega⟩
  · exact ⟨n - l.length, by rw [if_neg h], fun _ => rfl, fun h2 => absurd h2 h⟩
/-- One of the law's as one of the program's. -/
def cw (v : S108) : S87 := ⟨v.f0, v.f1⟩
theorem to_loop_ws (l : List S108) (hl : l.length ≤ 1048576) (d : Nat) : ∀ i, i + d = l.length → Ev (fun k => laws_toWriteS.l0 k l ((l.take i).map cw ++ List.replicate d z87) (i : Int)) (l.map cw) := by
  induction d with
  | zero =>
    intro i hi
    refine Ev.step (fun k => laws_toWriteS.l0.eq_2 ..) (ev_neg (by omega) ?_)
    rw [List.take_of_length_le (by omega), List.replicate_zero, List.append_nil]
    exact Ev.now _
  | succ d ih =>
    intro i hi
    refine Ev.step (fun k => laws_toWriteS.l0.eq_2 ..) (ev_pos (by omega) (ev_pos (by omega) ?_))
    simp only [laws_toWrite.f, Option.bind_some]
    refine ev_pos (by simp; omega) ?_
    rw [up i (by omega)]
    have h1 : ((l.take i).map cw ++ List.replicate (d + 1) z87).set ((i : Int)).toNat (cw (rd_T108 l (i : Int))) = (l.take (i + 1)).map cw ++ List.replicate d z87 := by
      have h2 : rd_T108 l (i : Int) = l[i] := by unfold rd_T108; exact get_eq l _ i (by omega)
      have h3 : ((l.take i).map cw).length = i := by simp; omega
      rw [h2, Int.toNat_natCast, List.set_append_right _ _ (by omega), h3, Nat.sub_self, List.replicate_succ, List.set_cons_zero, List.take_succ_eq_append_getElem (by omega), List.map_append]
      simp
    exact h1 ▸ ih (i + 1) (by omega)
theorem to_ws (l : List S108) (hl : l.length ≤ 1048576) : Ev (fun k => laws_toWriteS.f k l) (l.map cw) := by
  unfold laws_toWriteS.f
  refine ev_pos (by omega) (ev_pos (by omega) ?_)
  have := to_loop_ws l hl l.length 0 (by omega)
  rw [List.take_zero, List.map_nil, List.nil_append] at this
  exact this
theorem eq_ws (a : List S87) (hl : a.length ≤ 9223372036854775806) : Ev (fun k => laws_eqWriteS.f k a a) true := by
  unfold laws_eqWriteS.f
  refine ev_pos rfl ?_
  have h : ∀ d i, i + d = a.length → Ev (fun k => laws_eqWriteS.l0 k a a (i : Int)) true := by
    intro d
    induction d with
    | zero =>
      intro i hi
      exact Ev.step (fun k => laws_eqWriteS.l0.eq_2 ..) (ev_neg (by omega) (Ev.now _))
    | succ d ih =>
      intro i hi
      refine Ev.step (fun k => laws_eqWriteS.l0.eq_2 ..) (ev_pos (by omega) (ev_pos (by omega) (ev_pos (by omega) ?_)))
      simp only [laws_eqWrite.f, if_true, Option.bind_some]
      rw [up i (by omega)]
      exact ih (i + 1) (by omega)
  exact h a.length 0 (by omega)
/-- The size that the law allows. -/
theorem sz_ws (l : List S108) (hl : l.length ≤ 9223372036854775807) (n : Int) (h0 : 0 ≤ n) (hn : n ≤ 1048576) : ∃ r, laws_szWriteS.f l n = some r ∧ (0 ≤ r → r = n - l.length) ∧ (r < 0 → n < l.length) := by
  unfold laws_szWriteS.f
  rw [w64 (by omega) (by omega)]
  by_cases h : n - (l.length : Int) < 0
  · exact ⟨-1, by rw [if_pos h], fun h2 => by omega, fun _ => by omega⟩
  · exact ⟨n - l.length, by rw [if_neg h], fun _ => rfl, fun h2 => absurd h2 h⟩
theorem sz_trans (a0 a1 a2 a3 a4 a5 a6 : Int) (rs : List S106) (ws : List S108) (hr : rs.length ≤ 9223372036854775807) (hw : ws.length ≤ 9223372036854775807) (n : Int) (h0 : 0 ≤ n) (hn : n ≤ 1048576) :
    ∃ r, laws_szTransaction.f a0 a1 a2 a3 a4 a5 a6 rs ws n = some r ∧ (0 ≤ r → r ≤ n ∧ (rs.length : Int) ≤ n ∧ (ws.length : Int) ≤ n) := by
  unfold laws_szTransaction.f
  obtain ⟨q, hq, hq1, _⟩ := sz_rs rs hr n h0 hn
  by_cases h : q < 0
  · exact ⟨-1, by rw [hq, Option.bind_some, if_pos h], fun h => by omega⟩
  · have h2 := hq1 (by omega)
    obtain ⟨p, hp, hp1, _⟩ := sz_ws ws hw q (by omega) (by omega)
    by_cases h3 : p < 0
    · exact ⟨-1, by rw [hq, Option.bind_some, if_neg h, hp, Option.bind_some, if_pos h3], fun h => by omega⟩
    · have h4 := hp1 (by omega)
      exact ⟨p, by rw [hq, Option.bind_some, if_neg h, hp, Option.bind_some, if_neg h3], fun _ => by omega⟩
theorem to_trans (a0 a1 a2 a3 a4 a5 a6 : Int) (rs : List S106) (ws : List S108) (hr : rs.length ≤ 1048576) (hw : ws.length ≤ 1048576) :
    Ev (fun k => laws_toTransaction.f k a0 a1 a2 a3 a4 a5 a6 rs ws) (a0, a1, a2, a3, a4, a5, a6, rs.map cr, ws.map cw) := by
  unfold laws_toTransaction.f
  exact Ev.bind (to_rs rs hr) (Ev.bind (to_ws ws hw) (Ev.now _))
theorem eq_trans (a0 a1 a2 a3 a4 a5 a6 : Int) (rs : List S84) (ws : List S87) (hr : rs.length ≤ 9223372036854775806) (hw : ws.length ≤ 9223372036854775806) :
    Ev (fun k => laws_eqTransaction.f k a0 a1 a2 a3 a4 a5 a6 rs ws a0 a1 a2 a3 a4 a5 a6 rs ws) true := by
  unfold laws_eqTransaction.f
  simp only [if_true]
  exact Ev.bind (eq_rs rs hr) (ev_pos rfl (Ev.bind (eq_ws ws hw) (ev_pos rfl (Ev.now _))))
/-- One mark lies before another. -/
def Bef (a b c d : Int) : Prop := a < c ∨ a = c ∧ b < d
instance (a b c d : Int) : Decidable (Bef a b c d) := by unfold Bef; exact inferInstance
theorem rdr (l : List S84) (i : Nat) : rd_T84 l (i : Int) = l.getD i z84 := by unfold rd_T84; rw [Int.toNat_natCast]
theorem rdw (l : List S87) (i : Nat) : rd_T87 l (i : Int) = l.getD i z87 := by unfold rd_T87; rw [Int.toNat_natCast]
def ROk (l : List S84) (j : Nat) : Prop := (0 ≤ (l.getD j z84).f0 ∧ (l.getD j z84).f0 ≤ 5) ∧ (0 ≤ (l.getD j z84).f1 ∧ (l.getD j z84).f1 ≤ 999) ∧ (0 < j → Bef (l.getD (j - 1) z84).f0 (l.getD (j - 1) z84).f1 (l.getD j z84).f0 (l.getD j z84).f1)
instance (l : List S84) : DecidablePred (ROk l) := fun j => by unfold ROk; exact inferInstance
def WOk (l : List S87) (j : Nat) : Prop := (0 ≤ (l.getD j z87).f0 ∧ (l.getD j z87).f0 ≤ 5) ∧ (-1 ≤ (l.getD j z87).f1 ∧ (l.getD j z87).f1 ≤ 99) ∧ (0 < j → (l.getD (j - 1) z87).f0 < (l.getD j z87).f0)
instance (l : List S87) : DecidablePred (WOk l) := fun j => by unfold WOk; exact inferInstance
def Hd (a0 a1 a2 a3 a4 a5 a6 : Int) : Prop := (1 ≤ a0 ∧ a0 ≤ 9) ∧ (1 ≤ a1 ∧ a1 ≤ 4) ∧ (1 ≤ a2 ∧ a2 ≤ 3) ∧ (0 ≤ a3 ∧ a3 ≤ 999) ∧ (0 ≤ a4 ∧ a4 ≤ 999) ∧ (1 ≤ a5 ∧ a5 ≤ 1000) ∧ (a2 = 2 → 1 ≤ a6 ∧ a6 ≤ 999) ∧ (a2 ≠ 2 → a6 = 0)
instance (a0 a1 a2 a3 a4 a5 a6 : Int) : Decidable (Hd a0 a1 a2 a3 a4 a5 a6) := by unfold Hd; exact inferInstance
/-- What a right transaction is. -/
def vt (a0 a1 a2 a3 a4 a5 a6 : Int) (rs : List S84) (ws : List S87) : Bool :=
  decide (∀ j, j < rs.length → ROk rs j) && (decide (∀ j, j < ws.length → WOk ws j) && (decide (Hd a0 a1 a2 a3 a4 a5 a6) && decide (rs.length ≤ 60)))
theorem spec_bef (a b c d : Int) : spec_l5Before.f a b c d = some (decide (Bef a b c d)) := by
  unfold spec_l5Before.f
  by_cases hb : Bef a b c d
  · rw [decide_eq_true hb]
    rcases hb with h | ⟨h, h2⟩
    · rw [if_pos h]
    · rw [if_neg (by omega), if_pos h, decide_eq_true h2]
  · rw [decide_eq_false hb]
    have h1 : ¬ a < c := fun h => hb (Or.inl h)
    rw [if_neg h1]
    by_cases h : a = c
    · rw [if_pos h, decide_eq_false (fun h2 => hb (Or.inr ⟨h, h2⟩))]
    · rw [if_neg h]
theorem spec_hd (a0 a1 a2 a3 a4 a5 a6 : Int) (rs : List S84) (ws : List S87) (b : Bool) (hb : b = !decide ((1 ≤ a0 ∧ a0 ≤ 9) ∧ (1 ≤ a1 ∧ a1 ≤ 4) ∧ (0 ≤ a3 ∧ a3 ≤ 999))) :
    Ev (fun k => spec_IsValidTransaction.j4 k b a0 a1 a2 a3 a4 a5 a6 rs ws) (decide (Hd a0 a1 a2 a3 a4 a5 a6) && decide (rs.length ≤ 60)) := by
  have hno : ¬ Hd a0 a1 a2 a3 a4 a5 a6 → Ev (fun _ : Nat => some false) (decide (Hd a0 a1 a2 a3 a4 a5 a6) && decide (rs.length ≤ 60)) := fun h => by
    rw [decide_eq_false h]; exact Ev.now _
  refine Ev.step (fun k => spec_IsValidTransaction.j4.eq_2 ..) ?_
  simp only [spec_in, Option.bind_some]
  have hB : b = true ↔ ¬ ((1 ≤ a0 ∧ a0 ≤ 9) ∧ (1 ≤ a1 ∧ a1 ≤ 4) ∧ (0 ≤ a3 ∧ a3 ≤ 999)) := by
    rw [hb, Bool.not_eq_true', decide_eq_false_iff_not]
  have hC : ((a2 == 2) == (decide (a6 > 0))) = true ↔ (a2 = 2 ↔ a6 > 0) := by
    rw [beq_iff_eq, Bool.eq_iff_iff, beq_iff_eq, decide_eq_true_eq]
  refine ev_ite (fun h0 => hno ?_) (fun h0 => ev_ite (fun h1 => ev_ite (fun h2 => ev_ite (fun h3 => ev_ite (fun h4 => ev_ite (fun h5 => ?_) (fun h5 => hno ?_)) (fun h4 => hno ?_)) (fun h3 => hno ?_)) (fun h2 => hno ?_)) (fun h1 => hno ?_))
  all_goals
    simp only [hB, hC, decide_eq_true_eq] at *
    clear hno hb hB hC
  case refine_2 =>
    rw [decide_eq_true (show Hd a0 a1 a2 a3 a4 a5 a6 by unfold Hd; omega), Bool.true_and]
    refine ev_eq (Ev.now _) ?_
    rw [decide_eq_decide]
    omega
  all_goals
    unfold Hd
    omega
theorem spec_ws (a0 a1 a2 a3 a4 a5 a6 : Int) (rs : List S84) (ws : List S87) (hw : ws.length ≤ 9223372036854775806) :
    Ev (fun k => spec_IsValidTransaction.l1 k 0 a0 a1 a2 a3 a4 a5 a6 rs ws) (decide (∀ j, j < ws.length → WOk ws j) && (decide (Hd a0 a1 a2 a3 a4 a5 a6) && decide (rs.length ≤ 60))) := by
  have hno : ∀ i, Ev (fun k => spec_IsValidTransaction.j3 k i true a0 a1 a2 a3 a4 a5 a6 rs ws) false := fun i => Ev.step (fun k => spec_IsValidTransaction.j3.eq_2 ..) (ev_pos rfl (Ev.now _))
  have hgo : ∀ i : Nat, i < ws.length → ∀ r, Ev (fun k => spec_IsValidTransaction.l1 k ((i + 1 : Nat) : Int) a0 a1 a2 a3 a4 a5 a6 rs ws) r → Ev (fun k => spec_IsValidTransaction.j3 k (i : Int) false a0 a1 a2 a3 a4 a5 a6 rs ws) r := by
    intro i hi r h
    refine Ev.step (fun k => spec_IsValidTransaction.j3.eq_2 ..) (ev_neg (by simp) ?_)
    rw [up i (by omega)]
    exact h
  refine all_loop0 (g := fun k i => spec_IsValidTransaction.l1 k i a0 a1 a2 a3 a4 a5 a6 rs ws) ws.length (WOk ws) ?_ ?_ ?_
  · refine Ev.step (fun k => spec_IsValidTransaction.l1.eq_2 ..) (ev_neg (by omega) ?_)
    simp only [spec_in, Option.bind_some]
    refine ev_ite (fun h1 => ev_ite (fun h2 => ?_) (fun h2 => ?_)) (fun h1 => ?_)
    · refine spec_hd a0 a1 a2 a3 a4 a5 a6 rs ws _ ?_
      simp only [decide_eq_true_eq] at h1 h2
      congr 1
      rw [decide_eq_decide]
      exact ⟨fun h => ⟨h1, h2, h⟩, fun h => h.2.2⟩
    · refine spec_hd a0 a1 a2 a3 a4 a5 a6 rs ws _ ?_
      simp only [decide_eq_true_eq] at h1 h2
      symm
      rw [Bool.not_eq_true', decide_eq_false_iff_not]
      exact fun h => h2 h.2.1
    · refine spec_hd a0 a1 a2 a3 a4 a5 a6 rs ws _ ?_
      simp only [decide_eq_true_eq] at h1
      symm
      rw [Bool.not_eq_true', decide_eq_false_iff_not]
      exact fun h => h1 h.1
  · intro i hi hp r h
    refine Ev.step (fun k => spec_IsValidTransaction.l1.eq_2 ..) (ev_pos (by omega) (ev_pos (by omega) ?_))
    simp only [spec_in, Option.bind_some, rdw]
    refine ev_pos (decide_eq_true hp.1) (ev_pos (decide_eq_true hp.2.1) (ev_ite (fun h0 => ?_) (fun h0 => hgo i hi r h)))
    rw [down i (by omega) (by omega), rdw]
    refine ev_pos (by omega) (ev_pos (by omega) ?_)
    have := hp.2.2 (by omega)
    rw [decide_eq_false (by omega)]
    exact hgo i hi r h
  · intro i hi hp
    refine Ev.step (fun k => spec_IsValidTransaction.l1.eq_2 ..) (ev_pos (by omega) (ev_pos (by omega) ?_))
    simp only [spec_in, Option.bind_some, rdw]
    refine ev_ite (fun h1 => ev_ite (fun h2 => ev_ite (fun h0 => ?_) (fun h0 => ?_)) (fun _ => hno _)) (fun _ => hno _)
    · rw [down i (by omega) (by omega), rdw]
      refine ev_pos (by omega) (ev_pos (by omega) ?_)
      rw [decide_eq_true (?_ : (ws.getD (i - 1) z87).f0 ≥ (ws.getD i z87).f0)]
      · exact hno _
      · rcases Int.lt_or_le (ws.getD (i - 1) z87).f0 (ws.getD i z87).f0 with h3 | h3
        · exact absurd ⟨of_decide_eq_true h1, of_decide_eq_true h2, fun _ => h3⟩ hp
        · exact h3
    · exact absurd ⟨of_decide_eq_true h1, of_decide_eq_true h2, fun h => absurd h (by omega)⟩ hp
theorem spec_vt (a0 a1 a2 a3 a4 a5 a6 : Int) (rs : List S84) (ws : List S87) (hr : rs.length ≤ 9223372036854775806) (hw : ws.length ≤ 9223372036854775806) :
    Ev (fun k => spec_IsValidTransaction.f k a0 a1 a2 a3 a4 a5 a6 rs ws) (vt a0 a1 a2 a3 a4 a5 a6 rs ws) := by
  unfold spec_IsValidTransaction.f vt
  have hno : ∀ i, Ev (fun k => spec_IsValidTransaction.j1 k i true a0 a1 a2 a3 a4 a5 a6 rs ws) false := fun i => Ev.step (fun k => spec_IsValidTransaction.j1.eq_2 ..) (ev_pos rfl (Ev.now _))
  have hgo : ∀ i : Nat, i < rs.length → ∀ r, Ev (fun k => spec_IsValidTransaction.l0 k ((i + 1 : Nat) : Int) a0 a1 a2 a3 a4 a5 a6 rs ws) r → Ev (fun k => spec_IsValidTransaction.j1 k (i : Int) false a0 a1 a2 a3 a4 a5 a6 rs ws) r := by
    intro i hi r h
    refine Ev.step (fun k => spec_IsValidTransaction.j1.eq_2 ..) (ev_neg (by simp) ?_)
    rw [up i (by omega)]
    exact h
  refine all_loop0 (g := fun k i => spec_IsValidTransaction.l0 k i a0 a1 a2 a3 a4 a5 a6 rs ws) rs.length (ROk rs) ?_ ?_ ?_
  · exact Ev.step (fun k => spec_IsValidTransaction.l0.eq_2 ..) (ev_neg (by omega) (spec_ws a0 a1 a2 a3 a4 a5 a6 rs ws hw))
  · intro i hi hp r h
    refine Ev.step (fun k => spec_IsValidTransaction.l0.eq_2 ..) (ev_pos (by omega) (ev_pos (by omega) ?_))
    simp only [spec_in, Option.bind_some, rdr]
    refine ev_pos (decide_eq_true hp.1) (ev_pos (decide_eq_true hp.2.1) (ev_ite (fun h0 => ?_) (fun h0 => hgo i hi r h)))
    rw [down i (by omega) (by omega), rdr]
    refine ev_pos (by omega) (ev_pos (by omega) ?_)
    simp only [spec_bef, Option.bind_some]
    rw [decide_eq_true (hp.2.2 (by omega))]
    exact hgo i hi r h
  · intro i hi hp
    refine Ev.step (fun k => spec_IsValidTransaction.l0.eq_2 ..) (ev_pos (by omega) (ev_pos (by omega) ?_))
    simp only [spec_in, Option.bind_some, rdr]
    refine ev_ite (fun h1 => ev_ite (fun h2 => ev_ite (fun h0 => ?_) (fun h0 => ?_)) (fun _ => hno _)) (fun _ => hno _)
    · rw [down i (by omega) (by omega), rdr]
      refine ev_pos (by omega) (ev_pos (by omega) ?_)
      simp only [spec_bef, Option.bind_some]
      rw [decide_eq_false (fun h3 => hp ⟨of_decide_eq_true h1, of_decide_eq_true h2, fun _ => h3⟩)]
      exact hno _
    · exact absurd ⟨of_decide_eq_true h1, of_decide_eq_true h2, fun h => absurd h (by omega)⟩ hp
/-- How one number stands to another. -/
def cmpv (a b : Int) : Int := if a < b then -1 else if a > b then 1 else 0
theorem cmp_ev (a b : Int) : cmp_Compare_int.f a b = some (cmpv a b) := by
  unfold cmp_Compare_int.f cmp_isNaN_int.f cmpv
  simp only [Option.bind_some, bne_self_eq_false, Bool.false_eq_true, if_false]
  by_cases h : a < b
  · simp [h]
  · by_cases h2 : a > b <;> simp [h, h2]
def cmpM (a b c d : Int) : Int := if cmpv a c = 0 then cmpv b d else cmpv a c
theorem impl_cmpM (a b c d : Int) : Ev (fun k => impl_compareMarks.f k a b c d) (cmpM a b c d) := by
  unfold impl_compareMarks.f
  simp only [cmp_ev, Option.bind_some]
  refine Ev.bind (a := cmpM a b c d) ?_ (Ev.now _)
  unfold cmp_Or_int.f cmpM
  refine Ev.step (fun k => cmp_Or_int.l0.eq_2 ..) (ev_pos (by simp) (ev_pos (by omega) (ev_pos (by simp) ?_)))
  refine ev_ite (fun h => ?_) (fun h => ?_)
  · have h' : cmpv a c = 0 := h
    rw [if_pos h', w64 (by omega) (by omega)]
    refine Ev.step (fun k => cmp_Or_int.l0.eq_2 ..) (ev_pos (by simp) (ev_pos (by omega) (ev_pos (by simp) ?_)))
    refine ev_ite (fun h2 => ?_) (fun h2 => ?_)
    · have h2' : cmpv b d = 0 := h2
      rw [h2', w64 (by omega) (by omega)]
      exact Ev.step (fun k => cmp_Or_int.l0.eq_2 ..) (ev_neg (by simp) (Ev.now _))
    · exact Ev.now _
  · have h' : ¬ cmpv a c = 0 := h
    rw [if_neg h']
    exact Ev.now _
theorem cmpM_bef (a b c d : Int) : cmpM a b c d ≥ 0 ↔ ¬ Bef a b c d := by
  unfold cmpM cmpv Bef
  by_cases h1 : a < c
  · simp [h1]
  · by_cases h2 : a > c
    · simp [h1, h2]; omega
    · have : a = c := by omega
      subst this
      by_cases h3 : b < d
      · simp [h3]
      · by_cases h4 : b > d <;> simp [h3, h4]
theorem impl_rs (l : List S84) (hl : l.length ≤ 9223372036854775806) : Ev (fun k => impl_areReads.f k l) (decide (∀ j, j < l.length → ROk l j) && decide (l.length ≤ 60)) := by
  unfold impl_areReads.f
  refine all_loop0 (g := fun k i => impl_areReads.l0 k l l (l.length : Int) i) l.length (ROk l) ?_ ?_ ?_
  · refine Ev.step (fun k => impl_areReads.l0.eq_2 ..) (ev_neg (by omega) (ev_eq (Ev.now _) ?_))
    rw [decide_eq_decide]
    omega
  · intro i hi hp r h
    refine Ev.step (fun k => impl_areReads.l0.eq_2 ..) (ev_pos (by omega) (ev_pos (by omega) (ev_pos (by omega) ?_)))
    simp only [impl_isKey.f, impl_in_, Option.bind_some, rdr]
    rw [up i (by omega)]
    refine ev_pos (decide_eq_true hp.1) (ev_pos (decide_eq_true hp.2.1) (ev_ite (fun h0 => ?_) (fun h0 => h)))
    rw [down i (by omega) (by omega), rdr]
    refine ev_pos (by omega) (ev_pos (by omega) (Ev.bind (impl_cmpM _ _ _ _) (ev_neg ?_ h)))
    rw [cmpM_bef]
    exact fun h2 => h2 (hp.2.2 (by omega))
  · intro i hi hp
    refine Ev.step (fun k => impl_areReads.l0.eq_2 ..) (ev_pos (by omega) (ev_pos (by omega) (ev_pos (by omega) ?_)))
    simp only [impl_isKey.f, impl_in_, Option.bind_some, rdr]
    rw [up i (by omega)]
    refine ev_ite (fun h1 => ev_ite (fun h2 => ev_ite (fun h0 => ?_) (fun h0 => ?_)) (fun _ => Ev.now _)) (fun _ => Ev.now _)
    · rw [down i (by omega) (by omega), rdr]
      refine ev_pos (by omega) (ev_pos (by omega) (Ev.bind (impl_cmpM _ _ _ _) (ev_pos ?_ (Ev.now _))))
      rw [cmpM_bef]
      exact fun h3 => hp ⟨of_decide_eq_true h1, of_decide_eq_true h2, fun _ => h3⟩
    · exact absurd ⟨of_decide_eq_true h1, of_decide_eq_true h2, fun h => absurd h (by omega)⟩ hp
theorem impl_ws (l : List S87) (hl : l.length ≤ 9223372036854775806) : Ev (fun k => impl_areWrites.f k l) (decide (∀ j, j < l.length → WOk l j) && true) := by
  unfold impl_areWrites.f
  refine all_loop0 (g := fun k i => impl_areWrites.l0 k l l (l.length : Int) i) l.length (WOk l) ?_ ?_ ?_
  · exact Ev.step (fun k => impl_areWrites.l0.eq_2 ..) (ev_neg (by omega) (Ev.now _))
  · intro i hi hp r h
    refine Ev.step (fun k => impl_areWrites.l0.eq_2 ..) (ev_pos (by omega) (ev_pos (by omega) (ev_pos (by omega) ?_)))
    simp only [impl_isKey.f, impl_isValue.f, impl_in_, Option.bind_some, rdw]
    rw [up i (by omega)]
    refine ev_pos (decide_eq_true hp.1) (ev_pos (decide_eq_true hp.2.1) (ev_ite (fun h0 => ?_) (fun h0 => h)))
    rw [down i (by omega) (by omega), rdw]
    have := hp.2.2 (by omega)
    exact ev_pos (by omega) (ev_pos (by omega) (ev_neg (by omega) h))
  · intro i hi hp
    refine Ev.step (fun k => impl_areWrites.l0.eq_2 ..) (ev_pos (by omega) (ev_pos (by omega) (ev_pos (by omega) ?_)))
    simp only [impl_isKey.f, impl_isValue.f, impl_in_, Option.bind_some, rdw]
    rw [up i (by omega)]
    refine ev_ite (fun h1 => ev_ite (fun h2 => ev_ite (fun h0 => ?_) (fun h0 => ?_)) (fun _ => Ev.now _)) (fun _ => Ev.now _)
    · rw [down i (by omega) (by omega), rdw]
      refine ev_pos (by omega) (ev_pos (by omega) (ev_pos ?_ (Ev.now _)))
      rcases Int.lt_or_le (l.getD (i - 1) z87).f0 (l.getD i z87).f0 with h3 | h3
      · exact absurd ⟨of_decide_eq_true h1, of_decide_eq_true h2, fun _ => h3⟩ hp
      · exact h3
    · exact absurd ⟨of_decide_eq_true h1, of_decide_eq_true h2, fun h => absurd h (by omega)⟩ hp
theorem impl_vt (a0 a1 a2 a3 a4 a5 a6 : Int) (rs : List S84) (ws : List S87) (hr : rs.length ≤ 9223372036854775806) (hw : ws.length ≤ 9223372036854775806) :
    Ev (fun k => impl_IsValidTransaction.f k a0 a1 a2 a3 a4 a5 a6 rs ws) (vt a0 a1 a2 a3 a4 a5 a6 rs ws) := by
  have h1 : ∀ b : Bool, Ev (fun k => impl_IsValidTransaction.j1 k b a0 a1 a2 a3 a4 a5 a6 rs ws) (!b && ((decide (∀ j, j < rs.length → ROk rs j) && decide (rs.length ≤ 60)) && (decide (∀ j, j < ws.length → WOk ws j) && true))) := by
    intro b
    refine Ev.step (fun k => impl_IsValidTransaction.j1.eq_2 ..) (ev_ite (fun h => ?_) (fun h => ?_))
    · rw [h]; exact Ev.now _
    · rw [Bool.not_eq_true] at h
      rw [h]
      refine Ev.bind (impl_rs rs hr) (ev_ite (fun g => ?_) (fun g => ?_))
      · rw [g]
        exact Ev.bind (impl_ws ws hw) (ev_eq (Ev.now _) (by simp))
      · rw [Bool.not_eq_true] at g
        rw [g]
        exact ev_eq (Ev.now _) (by simp)
  have h0 : ∀ b : Bool, Ev (fun k => impl_IsValidTransaction.j0 k b a0 a1 a2 a3 a4 a5 a6 rs ws) (!b && (decide ((a2 = 2 → 1 ≤ a6 ∧ a6 ≤ 999) ∧ (a2 ≠ 2 → a6 = 0)) && ((decide (∀ j, j < rs.length → ROk rs j) && decide (rs.length ≤ 60)) && (decide (∀ j, j < ws.length → WOk ws j) && true)))) := by
    intro b
    refine Ev.step (fun k => impl_IsValidTransaction.j0.eq_2 ..) (ev_ite (fun h => ?_) (fun h => ?_))
    · rw [h]; exact Ev.now _
    · rw [Bool.not_eq_true] at h
      rw [h]
      simp only [impl_IsStamp.f, impl_in_, Option.bind_some]
      refine ev_ite (fun g => ev_ite (fun g2 => ?_) (fun g2 => ?_)) (fun g => ?_)
      · refine ev_eq (h1 false) ?_
        rw [decide_eq_true (show (a2 = 2 → 1 ≤ a6 ∧ a6 ≤ 999) ∧ (a2 ≠ 2 → a6 = 0) from ⟨fun _ => of_decide_eq_true g2, fun h => absurd g h⟩)]
        simp
      · refine ev_eq (h1 true) ?_
        rw [decide_eq_false (show ¬ ((a2 = 2 → 1 ≤ a6 ∧ a6 ≤ 999) ∧ (a2 ≠ 2 → a6 = 0)) from fun h => g2 (decide_eq_true (h.1 g)))]
        simp
      · refine ev_eq (h1 _) ?_
        by_cases e : a6 = 0
        · rw [decide_eq_true (show (a2 = 2 → 1 ≤ a6 ∧ a6 ≤ 999) ∧ (a2 ≠ 2 → a6 = 0) from ⟨fun h => absurd h g, fun _ => e⟩)]
          simp [e]
        · rw [decide_eq_false (show ¬ ((a2 = 2 → 1 ≤ a6 ∧ a6 ≤ 999) ∧ (a2 ≠ 2 → a6 = 0)) from fun h => e (h.2 g))]
          simp [e]
  unfold impl_IsValidTransaction.f
  simp only [impl_isID.f, impl_isScheme.f, impl_in_, Option.bind_some]
  have key : ∀ (p : Prop) [Decidable p] (b : Bool), (b = !decide p) → (Hd a0 a1 a2 a3 a4 a5 a6 ↔ p ∧ ((a2 = 2 → 1 ≤ a6 ∧ a6 ≤ 999) ∧ (a2 ≠ 2 → a6 = 0))) → (!b && (decide ((a2 = 2 → 1 ≤ a6 ∧ a6 ≤ 999) ∧ (a2 ≠ 2 → a6 = 0)) && ((decide (∀ j, j < rs.length → ROk rs j) && decide (rs.length ≤ 60)) && (decide (∀ j, j < ws.length → WOk ws j) && true)))) = vt a0 a1 a2 a3 a4 a5 a6 rs ws := by
    intro p _ b hb hp
    unfold vt
    rw [show decide (Hd a0 a1 a2 a3 a4 a5 a6) = (decide p && decide ((a2 = 2 → 1 ≤ a6 ∧ a6 ≤ 999) ∧ (a2 ≠ 2 → a6 = 0))) by rw [← Bool.decide_and, decide_eq_decide]; exact hp, hb, Bool.not_not, Bool.and_true]
    generalize decide (∀ j, j < rs.length → ROk rs j) = x1
    generalize decide (rs.length ≤ 60) = x2
    generalize decide (∀ j, j < ws.length → WOk ws j) = x3
    generalize decide ((a2 = 2 → 1 ≤ a6 ∧ a6 ≤ 999) ∧ (a2 ≠ 2 → a6 = 0)) = x4
    generalize decide p = x5
    cases x1 <;> cases x2 <;> cases x3 <;> cases x4 <;> cases x5 <;> rfl
  refine ev_ite (fun g0 => ev_ite (fun g1 => ev_ite (fun g2 => ev_ite (fun g3 => ev_ite (fun g4 => ?_) (fun g4 => ?_)) (fun g3 => ?_)) (fun g2 => ?_)) (fun g1 => ?_)) (fun g0 => ?_)
  · simp only [decide_eq_true_eq] at g0 g1 g2 g3 g4
    exact ev_eq (h0 _) (key (1 ≤ a5 ∧ a5 ≤ 1000) _ rfl (by unfold Hd; exact ⟨fun h => ⟨h.2.2.2.2.2.1, h.2.2.2.2.2.2⟩, fun h => ⟨g0, g1, g2, g3, g4, h.1, h.2⟩⟩))
  all_goals
    simp only [decide_eq_true_eq] at *
    refine ev_eq (h0 true) (key False _ rfl ?_)
    unfold Hd
    simp only [false_and, iff_false]
  · exact fun h => g4 h.2.2.2.2.1
  · exact fun h => g3 h.2.2.2.1
  · exact fun h => g2 h.2.2.1
  · exact fun h => g1 h.2.1
  · exact fun h => g0 h.1
theorem rd_i (l : List Int) (i : Nat) : rd l (i : Int) = l.getD i 0 := by unfold rd; rw [Int.toNat_natCast]
theorem eq_ints (a : List Int) (hl : a.length ≤ 9223372036854775806) : Ev (fun k => laws_eqIntS.f k a a) true := by
  unfold laws_eqIntS.f
  refine ev_pos rfl ?_
  have h : ∀ d i, i + d = a.length → Ev (fun k => laws_eqIntS.l0 k a a (i : Int)) true := by
    intro d
    induction d with
    | zero =>
      intro i hi
      exact Ev.step (fun k => laws_eqIntS.l0.eq_2 ..) (ev_neg (by omega) (Ev.now _))
    | succ d ih =>
      intro i hi
      refine Ev.step (fun k => laws_eqIntS.l0.eq_2 ..) (ev_pos (by omega) (ev_pos (by omega) (ev_pos (by omega) (ev_pos rfl ?_))))
      rw [up i (by omega)]
      exact ih (i + 1) (by omega)
  exact h a.length 0 (by omega)
theorem mark_ints (n : Nat) (hn : n ≤ 1000000000) (d : Nat) : ∀ (i : Nat) (l : List Int), l.length = n → i + d = n → (∀ j, j < i → l.getD j 0 = 1 + (j : Int)) →
    ∃ l', Ev (fun k => laws_markIntS.l0 k l (1 + (i : Int)) (i : Int)) (1 + (n : Int), l') ∧ l'.length = n ∧ ∀ j, j < n → l'.getD j 0 = 1 + (j : Int) := by
  induction d with
  | zero =>
    intro i l hl hi hj
    obtain rfl : i = n := by omega
    exact ⟨l, Ev.step (fun k => laws_markIntS.l0.eq_2 ..) (ev_neg (by omega) (Ev.now _)), hl, hj⟩
  | succ d ih =>
    intro i l hl hi hj
    obtain ⟨l', h1, h2, h3⟩ := ih (i + 1) (l.set i (1 + (i : Int))) (by simpa using hl) (by omega) (by
      intro j hj'
      rw [List.getD_eq_getElem?_getD, List.getElem?_set]
      by_cases e : i = j
      · subst e
        rw [if_pos rfl, if_pos (by omega)]
        rfl
      · rw [if_neg e, ← List.getD_eq_getElem?_getD]
        exact hj j (by omega))
    refine ⟨l', Ev.step (fun k => laws_markIntS.l0.eq_2 ..) (ev_pos (by omega) (ev_pos (by omega) ?_)), h2, h3⟩
    rw [up i (by omega), w64 (n := 1 + (i : Int) + 1) (by omega) (by omega), Int.toNat_natCast, show 1 + (i : Int) + 1 = 1 + ((i + 1 : Nat) : Int) by omega]
    exact h1
theorem held_ints (l : List Int) (hn : l.length ≤ 1000000000) (h : ∀ j, j < l.length → l.getD j 0 = 1 + (j : Int)) (d : Nat) : ∀ i : Nat, i + d = l.length → Ev (fun k => laws_heldIntS.l0 k l (1 + (i : Int)) (i : Int)) (1 + (l.length : Int)) := by
  induction d with
  | zero =>
    intro i hi
    obtain rfl : i = l.length := by omega
    exact Ev.step (fun k => laws_heldIntS.l0.eq_2 ..) (ev_neg (by omega) (Ev.now _))
  | succ d ih =>
    intro i hi
    refine Ev.step (fun k => laws_heldIntS.l0.eq_2 ..) (ev_pos (by omega) (ev_pos (by omega) (ev_pos (by rw [rd_i]; exact h i (by omega)) ?_)))
    rw [up i (by omega), w64 (n := 1 + (i : Int) + 1) (by omega) (by omega), show 1 + (i : Int) + 1 = 1 + ((i + 1 : Nat) : Int) by omega]
    exact ih (i + 1) (by omega)
/-- Numbered from 1 on, and found so again. -/
theorem mark_held_ints (l : List Int) (hn : l.length ≤ 1000000000) : ∃ l', Ev (fun k => laws_markIntS.f k l 1) (1 + (l.length : Int), l') ∧ Ev (fun k => laws_heldIntS.f k l' 1) (1 + (l.length : Int)) := by
  obtain ⟨l', h1, h2, h3⟩ := mark_ints l.length hn l.length 0 l rfl (by omega) (fun j hj => by omega)
  refine ⟨l', h1, ?_⟩
  have := held_ints l' (by omega) (by rw [h2]; exact h3) l'.length 0 (by omega)
  rw [h2] at this
  exact this
theorem mark_rs (d : Nat) : ∀ (i : Nat) (x : Int) (l : List S84), i + d = l.length → l.length ≤ 1000000000 → 0 ≤ x → x ≤ 1000000000000 + 5 * i → ∃ l', Ev (fun k => laws_markReadMarkS.l0 k l x (i : Int)) (x + 2 * (d : Int), l') := by
  induction d with
  | zero =>
    intro i x l hi hl h0 h1
    exact ⟨l, Ev.step (fun k => laws_markReadMarkS.l0.eq_2 ..) (ev_neg (by omega) (ev_eq (Ev.now _) (by simp)))⟩
  | succ d ih =>
    intro i x l hi hl h0 h1
    have e : wrap64 (wrap64 (x + 1) + 1) = x + 2 := by rw [w64 (n := x + 1) (by omega) (by omega), w64 (by omega) (by omega)]; omega
    obtain ⟨l', h⟩ := ih (i + 1) (x + 2) (((l.set ((i : Int)).toNat (⟨x, (rd_T84 l (i : Int)).f1⟩ : S84)).set ((i : Int)).toNat (⟨(rd_T84 (l.set ((i : Int)).toNat (⟨x, (rd_T84 l (i : Int)).f1⟩ : S84)) (i : Int)).f0, wrap64 (x + 1)⟩ : S84))) (by simp; omega) (by simpa using hl) (by omega) (by omega)
    refine ⟨l', Ev.step (fun k => laws_markReadMarkS.l0.eq_2 ..) (ev_pos (by omega) (ev_pos (by omega) (ev_bindo rfl ?_)))⟩
    rw [up i (by omega), e]
    refine ev_eq h ?_
    rw [show x + 2 + 2 * (d : Int) = x + 2 * ((d + 1 : Nat) : Int) by omega]
theorem mark_ws (d : Nat) : ∀ (i : Nat) (x : Int) (l : List S87), i + d = l.length → l.length ≤ 1000000000 → 0 ≤ x → x ≤ 1000000000000 + 5 * i → ∃ l', Ev (fun k => laws_markWriteS.l0 k l x (i : Int)) (x + 2 * (d : Int), l') := by
  induction d with
  | zero =>
    intro i x l hi hl h0 h1
    exact ⟨l, Ev.step (fun k => laws_markWriteS.l0.eq_2 ..) (ev_neg (by omega) (ev_eq (Ev.now _) (by simp)))⟩
  | succ d ih =>
    intro i x l hi hl h0 h1
    have e : wrap64 (wrap64 (x + 1) + 1) = x + 2 := by rw [w64 (n := x + 1) (by omega) (by omega), w64 (by omega) (by omega)]; omega
    obtain ⟨l', h⟩ := ih (i + 1) (x + 2) (((l.set ((i : Int)).toNat (⟨x, (rd_T87 l (i : Int)).f1⟩ : S87)).set ((i : Int)).toNat (⟨(rd_T87 (l.set ((i : Int)).toNat (⟨x, (rd_T87 l (i : Int)).f1⟩ : S87)) (i : Int)).f0, wrap64 (x + 1)⟩ : S87))) (by simp; omega) (by simpa using hl) (by omega) (by omega)
    refine ⟨l', Ev.step (fun k => laws_markWriteS.l0.eq_2 ..) (ev_pos (by omega) (ev_pos (by omega) (ev_bindo rfl ?_)))⟩
    rw [up i (by omega), e]
    refine ev_eq h ?_
    rw [show x + 2 + 2 * (d : Int) = x + 2 * ((d + 1 : Nat) : Int) by omega]
theorem mark_trans (a0 a1 a2 a3 a4 a5 a6 : Int) (rs : List S84) (ws : List S87) (hr : rs.length ≤ 1048576) (hw : ws.length ≤ 1048576) (x : Int) (h0 : 0 ≤ x) (h1 : x ≤ 100000000000) :
    ∃ r, Ev (fun k => laws_markTransaction.f k a0 a1 a2 a3 a4 a5 a6 rs ws x) r ∧ 0 ≤ r.1 := by
  obtain ⟨rs', g1⟩ := mark_rs rs.length 0 x rs (by omega) (by omega) h0 (by omega)
  obtain ⟨ws', g2⟩ := mark_ws ws.length 0 (x + 2 * (rs.length : Int)) ws (by omega) (by omega) (by omega) (by omega)
  refine ⟨(x + 2 * (rs.length : Int) + 2 * (ws.length : Int), rs', ws'), ?_, ?_⟩
  · unfold laws_markTransaction.f laws_markReadMarkS.f laws_markWriteS.f
    exact Ev.bind g1 (Ev.bind g2 (Ev.now _))
  · show 0 ≤ x + 2 * (rs.length : Int) + 2 * (ws.length : Int)
    omega
/-- The keys that a transaction writes. -/
def keysOf (a0 a1 a2 a3 a4 a5 a6 : Int) (rs : List S84) (ws : List S87) : List Int := if vt a0 a1 a2 a3 a4 a5 a6 rs ws = true then ws.map (fun w => w.f0) else []
theorem keysOf_len (a0 a1 a2 a3 a4 a5 a6 : Int) (rs : List S84) (ws : List S87) : (keysOf a0 a1 a2 a3 a4 a5 a6 rs ws).length ≤ ws.length := by
  unfold keysOf
  split <;> simp
theorem take_key (ws : List S87) (i : Nat) (hi : i < ws.length) : (ws.take i).map (fun w => w.f0) ++ [(rd_T87 ws (i : Int)).f0] = (ws.take (i + 1)).map (fun w => w.f0) := by
  rw [rdw, List.take_succ_eq_append_getElem hi, List.map_append, List.map_cons, List.map_nil, List.getD_eq_getElem?_getD, List.getElem?_eq_getElem hi]
  rfl
theorem spec_keys (a0 a1 a2 a3 a4 a5 a6 : Int) (rs : List S84) (ws : List S87) (hr : rs.length ≤ 1048576) (hw : ws.length ≤ 1048576) : Ev (fun k => spec_WriteKeys.f k a0 a1 a2 a3 a4 a5 a6 rs ws) (keysOf a0 a1 a2 a3 a4 a5 a6 rs ws) := by
  unfold spec_WriteKeys.f keysOf
  by_cases h : vt a0 a1 a2 a3 a4 a5 a6 rs ws = true
  · rw [if_pos h]
    have : ∀ d i, i + d = ws.length → Ev (fun k => spec_WriteKeys.l0 k ((ws.take i).map (fun w => w.f0)) (i : Int) a0 a1 a2 a3 a4 a5 a6 rs ws) (ws.map (fun w => w.f0)) := by
      intro d
      induction d with
      | zero =>
        intro i hi
        rw [List.take_of_length_le (by omega)]
        exact Ev.step (fun k => spec_WriteKeys.l0.eq_2 ..) (ev_neg (by omega) (Ev.now _))
      | succ d ih =>
        intro i hi
        refine Ev.step (fun k => spec_WriteKeys.l0.eq_2 ..) (ev_pos (by omega) (Ev.bind (spec_vt a0 a1 a2 a3 a4 a5 a6 rs ws (by omega) (by omega)) (ev_pos h (ev_pos (by omega) (ev_pos (by simp; omega) ?_)))))
        rw [up i (by omega), take_key ws i (by omega)]
        exact ih (i + 1) (by omega)
    have := this ws.length 0 (by omega)
    rw [List.take_zero] at this
    exact this
  · rw [if_neg h]
    refine Ev.step (fun k => spec_WriteKeys.l0.eq_2 ..) (ev_ite (fun _ => ?_) (fun _ => Ev.now _))
    exact Ev.bind (spec_vt a0 a1 a2 a3 a4 a5 a6 rs ws (by omega) (by omega)) (ev_neg h (Ev.now _))
theorem impl_keys (a0 a1 a2 a3 a4 a5 a6 : Int) (rs : List S84) (ws : List S87) (hr : rs.length ≤ 1048576) (hw : ws.length ≤ 1048576) : Ev (fun k => impl_WriteKeys.f k a0 a1 a2 a3 a4 a5 a6 rs ws) (keysOf a0 a1 a2 a3 a4 a5 a6 rs ws) := by
  unfold impl_WriteKeys.f keysOf
  refine Ev.bind (impl_vt a0 a1 a2 a3 a4 a5 a6 rs ws (by omega) (by omega)) (ev_ite (fun h => ?_) (fun h => ?_))
  · rw [if_pos h]
    have : ∀ d i, i + d = ws.length → Ev (fun k => impl_WriteKeys.l0 k ((ws.take i).map (fun w => w.f0)) ws (ws.length : Int) (i : Int)) (ws.map (fun w => w.f0)) := by
      intro d
      induction d with
      | zero =>
        intro i hi
        rw [List.take_of_length_le (by omega)]
        exact Ev.step (fun k => impl_WriteKeys.l0.eq_2 ..) (ev_neg (by omega) (Ev.now _))
      | succ d ih =>
        intro i hi
        refine Ev.step (fun k => impl_WriteKeys.l0.eq_2 ..) (ev_pos (by omega) (ev_pos (by omega) (ev_pos (by omega) (ev_pos (by simp; omega) ?_))))
        rw [up i (by omega), take_key ws i (by omega)]
        exact ih (i + 1) (by omega)
    have := this ws.length 0 (by omega)
    rw [List.take_zero] at this
    exact this
  · rw [if_neg h]
    exact Ev.now _
theorem FnExactWriteKeys : laws_FnExactWriteKeys.Pure := by
  intro a0 a1 a2 a3 a4 a5 a6 rs ws hr hw
  refine Ev.rounds (g := fun k => laws_FnExactWriteKeys.f k a0 a1 a2 a3 a4 a5 a6 rs ws) ?_
  obtain ⟨q, h1, h2⟩ := sz_trans a0 a1 a2 a3 a4 a5 a6 rs ws hr hw 1048576 (by omega) (by omega)
  refine ev_bindo h1 (ev_ite (fun _ => Ev.now _) (fun h3 => ?_))
  obtain ⟨_, h4, h5⟩ := h2 (by omega)
  have ht := to_trans a0 a1 a2 a3 a4 a5 a6 rs ws (by omega) (by omega)
  have hr' : (rs.map cr).length ≤ 1048576 := by simp; omega
  have hw' : (ws.map cw).length ≤ 1048576 := by simp; omega
  have g1 := spec_keys a0 a1 a2 a3 a4 a5 a6 _ _ hr' hw'
  have g2 := impl_keys a0 a1 a2 a3 a4 a5 a6 _ _ hr' hw'
  have g3 := keysOf_len a0 a1 a2 a3 a4 a5 a6 (rs.map cr) (ws.map cw)
  have g4 := eq_ints (keysOf a0 a1 a2 a3 a4 a5 a6 (rs.map cr) (ws.map cw)) (by omega)
  obtain ⟨m, g5, g6⟩ := mark_trans a0 a1 a2 a3 a4 a5 a6 (rs.map cr) (ws.map cw) hr' hw' 1 (by omega) (by omega)
  obtain ⟨l', g7, g8⟩ := mark_held_ints (keysOf a0 a1 a2 a3 a4 a5 a6 (rs.map cr) (ws.map cw)) (by omega)
  refine Ev.bind ht (Ev.bind g1 (Ev.bind ht (Ev.bind g2 (Ev.bind g4 (ev_pos rfl (Ev.bind ht (Ev.bind (eq_trans a0 a1 a2 a3 a4 a5 a6 (rs.map cr) (ws.map cw) (by omega) (by omega)) (ev_pos rfl (Ev.bind g5 ?_)))))))))
  have tail : Ev (fun k => laws_FnExactWriteKeys.j0 k (keysOf a0 a1 a2 a3 a4 a5 a6 (rs.map cr) (ws.map cw)) (keysOf a0 a1 a2 a3 a4 a5 a6 (rs.map cr) (ws.map cw)) false a0 a1 a2 a3 a4 a5 a6 rs ws) true := by
    refine Ev.step (fun k => laws_FnExactWriteKeys.j0.eq_2 ..) (ev_neg (by simp) (Ev.bind g7 (Ev.bind g8 (ev_neg (by omega) (ev_pos rfl (Ev.bind ht (Ev.bind g2 (Ev.bind g4 (ev_pos rfl (Ev.bind g8 (ev_neg (by omega) (ev_pos rfl (Ev.now _)))))))))))))
  refine ev_ite (fun h => absurd h (by omega)) (fun _ => ?_)
  refine Ev.bind g4 ?_
  exact tail

end Go.Proofs.Ytlnglooomeliiaa.Pure
