/- Both make the same transaction. -/
import Derived.Test.YtlnglooomeliiaaPFnExactNewTransactionx9
import Derived.Test.YtlnglooomeliiaaMEv
namespace Go.Proofs.Ytlnglooomeliiaa.Pure
open Go Go.RowKit Go.Proofs.Ytlnglooomeliiaa.PFnExactNewTransaction Go.Proofs.YtlnglooomeliiaaW.PrintWords Go.Proofs.YtlnglooomeliiaaW.PrintLast Go.Proofs.YtlnglooomeliiaaW.PrintMore Go.Proofs.YtlnglooomeliiaaM
set_option linter.unusedVariables false
set_option linter.unusedSimpArgs false

theorem spec_in (a b c : Int) : spec_l1In.f a b c = some (decide (b ≤ a ∧ a ≤ c)) := by
  unfold spec_l1In.f
  by_cases h : b ≤ a <;> simp [h]
theorem impl_in_ (a b c : Int) : impl_in.f a b c = some (decide (b ≤ a ∧ a ≤ c)) := by
  unfold impl_in.f
  by_cases h : b ≤ a <;> simp [h]
theorem eq_rs (a : List S84) (hl : a.length ≤ 9223372036854775806) : Ev (fun k => laws_eqReadMarkS.f k a a) true := by
  unfold laws_eqReadMarkS.f
  refine ev_pos rfl ?_
  have h : ∀ d i, i + d = a.length → Ev (fun k => laws_eqReadMarkS.l0 k a a (i : Int)) true := by
    intro d
    induction d with
    | zero =>
      intro i hi
      exact Ev.step (fun k => laws_eqReadMarkS.l0.eq_2 ..) (ev_neg (by omega) (Ev.now _))
    | succ d ih =>
      intro i hi
      refine Ev.step (fun k => laws_eqReadMarkS.l0.eq_2 ..) (ev_pos (by omega) (ev_pos (by omega) (ev_pos (by omega) ?_)))
      simp only [laws_eqReadMark.f, if_true, Option.bind_some]
      rw [up i (by omega)]
      exact ih (i + 1) (by omega)
  exact h a.length 0 (by omega)
theorem eq_ws (a : List S87) (hl : a.length ≤ 9223372036854775806) : Ev (fun k => laws_eqWriteS.f k a a) true := by
  unfold laws_eqWriteS.f
  refine ev_pos rfl ?_
  have h : ∀ d i, i + d = a.length → Ev (fun k => laws_eqWriteS.l0 k a a (i : Int)) true := by
    intro d
    induction d with
    | zero =>
      intro i hi
      exact Ev.step (fun k => laws_eqWriteS.l0.eq_2 ..) (ev_neg (by omega) (Ev.now _))
    | succ d ih =>
      intro i hi
      refine Ev.step (fun k => laws_eqWriteS.l0.eq_2 ..) (ev_pos (by omega) (ev_pos (by omega) (ev_pos (by omega) ?_)))
      simp only [laws_eqWrite.f, if_true, Option.bind_some]
      rw [up i (by omega)]
      exact ih (i + 1) (by omega)
  exact h a.length 0 (by omega)
theorem eq_trans (a0 a1 a2 a3 a4 a5 a6 : Int) (rs : List S84) (ws : List S87) (hr : rs.length ≤ 9223372036854775806) (hw : ws.length ≤ 9223372036854775806) :
    Ev (fun k => laws_eqTransaction.f k a0 a1 a2 a3 a4 a5 a6 rs ws a0 a1 a2 a3 a4 a5 a6 rs ws) true := by
  unfold laws_eqTransaction.f
  simp only [if_true]
  exact Ev.bind (eq_rs rs hr) (ev_pos rfl (Ev.bind (eq_ws ws hw) (ev_pos rfl (Ev.now _))))
/-- One mark lies before another. -/
def Bef (a b c d : Int) : Prop := a < c ∨ a = c ∧ b < d
instance (a b c d : Int) : Decidable (Bef a b c d) := by unfold Bef; exact inferInstance
theorem rdr (l : List S84) (i : Nat) : rd_T84 l (i : Int) = l.getD i z84 := by unfold rd_T84; rw [Int.toNat_natCast]
theorem rdw (l : List S87) (i : Nat) : rd_T87 l (i : Int) = l.getD i z87 := by unfold rd_T87; rw [Int.toNat_natCast]
def ROk (l : List S84) (j : Nat) : Prop := (0 ≤ (l.getD j z84).f0 ∧ (l.getD j z84).f0 ≤ 5) ∧ (0 ≤ (l.getD j z84).f1 ∧ (l.getD j z84).f1 ≤ 999) ∧ (0 < j → Bef (l.getD (j - 1) z84).f0 (l.getD (j - 1) z84).f1 (l.getD j z84).f0 (l.getD j z84).f1)
instance (l : List S84) : DecidablePred (ROk l) := fun j => by unfold ROk; exact inferInstance
def WOk (l : List S87) (j : Nat) : Prop := (0 ≤ (l.getD j z87).f0 ∧ (l.getD j z87).f0 ≤ 5) ∧ (-1 ≤ (l.getD j z87).f1 ∧ (l.getD j z87).f1 ≤ 99) ∧ (0 < j → (l.getD (j - 1) z87).f0 < (l.getD j z87).f0)
instance (l : List S87) : DecidablePred (WOk l) := fun j => by unfold WOk; exact inferInstance
def Hd (a0 a1 a2 a3 a4 a5 a6 : Int) : Prop := (1 ≤ a0 ∧ a0 ≤ 9) ∧ (1 ≤ a1 ∧ a1 ≤ 4) ∧ (1 ≤ a2 ∧ a2 ≤ 3) ∧ (0 ≤ a3 ∧ a3 ≤ 999) ∧ (0 ≤ a4 ∧ a4 ≤ 999) ∧ (1 ≤ a5 ∧ a5 ≤ 1000) ∧ (a2 = 2 → 1 ≤ a6 ∧ a6 ≤ 999) ∧ (a2 ≠ 2 → a6 = 0)
instance (a0 a1 a2 a3 a4 a5 a6 : Int) : Decidable (Hd a0 a1 a2 a3 a4 a5 a6) := by unfold Hd; exact inferInstance
/-- What a right transaction is. -/
def vt (a0 a1 a2 a3 a4 a5 a6 : Int) (rs : List S84) (ws : List S87) : Bool :=
  decide (∀ j, j < rs.length → ROk rs j) && (decide (∀ j, j < ws.length → WOk ws j) && (decide (Hd a0 a1 a2 a3 a4 a5 a6) && decide (rs.length ≤ 60)))
theorem spec_bef (a b c d : Int) : spec_l5Before.f a b c d = some (decide (Bef a b c d)) := by
  unfold spec_l5Before.f
  by_cases hb : Bef a b c d
  · rw [decide_eq_true hb]
    rcases hb with h | ⟨h, h2⟩
    · rw [if_pos h]
    · rw [if_neg (by omega), if_pos h, decide_eq_true h2]
  · rw [decide_eq_false hb]
    have h1 : ¬ a < c := fun h => hb (Or.inl h)
    rw [if_neg h1]
    by_cases h : a = c
    · rw [if_pos h, decide_eq_false (fun h2 => hb (Or.inr ⟨h, h2⟩))]
    · rw [if_neg h]
theorem spec_hd (a0 a1 a2 a3 a4 a5 a6 : Int) (rs : List S84) (ws : List S87) (b : Bool) (hb : b = !decide ((1 ≤ a0 ∧ a0 ≤ 9) ∧ (1 ≤ a1 ∧ a1 ≤ 4) ∧ (0 ≤ a3 ∧ a3 ≤ 999))) :
    Ev (fun k => spec_IsValidTransaction.j4 k b a0 a1 a2 a3 a4 a5 a6 rs ws) (decide (Hd a0 a1 a2 a3 a4 a5 a6) && decide (rs.length ≤ 60)) := by
  have hno : ¬ Hd a0 a1 a2 a3 a4 a5 a6 → Ev (fun _ : Nat => some false) (decide (Hd a0 a1 a2 a3 a4 a5 a6) && decide (rs.length ≤ 60)) := fun h => by
    rw [decide_eq_false h]; exact Ev.now _
  refine Ev.step (fun k => spec_IsValidTransaction.j4.eq_2 ..) ?_
  simp only [spec_in, Option.bind_some]
  have hB : b = true ↔ ¬ ((1 ≤ a0 ∧ a0 ≤ 9) ∧ (1 ≤ a1 ∧ a1 ≤ 4) ∧ (0 ≤ a3 ∧ a3 ≤ 999)) := by
    rw [hb, Bool.not_eq_true', decide_eq_false_iff_not]
  have hC : ((a2 == 2) == (decide (a6 > 0))) = true ↔ (a2 = 2 ↔ a6 > 0) := by
    rw [beq_iff_eq, Bool.eq_iff_iff, beq_iff_eq, decide_eq_true_eq]
  refine ev_ite (fun h0 => hno ?_) (fun h0 => ev_ite (fun h1 => ev_ite (fun h2 => ev_ite (fun h3 => ev_ite (fun h4 => ev_ite (fun h5 => ?_) (fun h5 => hno ?_)) (fun h4 => hno ?_)) (fun h3 => hno ?_)) (fun h2 => hno ?_)) (fun h1 => hno ?_))
  all_goals
    simp only [hB, hC, decide_eq_true_eq] at *
    clear hno hb hB hC
  case refine_2 =>
    rw [decide_eq_true (show Hd a0 a1 a2 a3 a4 a5 a6 by unfold Hd; omega), Bool.true_and]
    refine ev_eq (Ev.now _) ?_
    rw [decide_eq_decide]
    omega
  all_goals
    unfold Hd
    omega
theorem spec_ws (a0 a1 a2 a3 a4 a5 a6 : Int) (rs : List S84) (ws : List S87) (hw : ws.length ≤ 9223372036854775806) :
    Ev (fun k => spec_IsValidTransaction.l1 k 0 a0 a1 a2 a3 a4 a5 a6 rs ws) (decide (∀ j, j < ws.length → WOk ws j) && (decide (Hd a0 a1 a2 a3 a4 a5 a6) && decide (rs.length ≤ 60))) := by
  have hno : ∀ i, Ev (fun k => spec_IsValidTransaction.j3 k i true a0 a1 a2 a3 a4 a5 a6 rs ws) false := fun i => Ev.step (fun k => spec_IsValidTransaction.j3.eq_2 ..) (ev_pos rfl (Ev.now _))
  have hgo : ∀ i : Nat, i < ws.length → ∀ r, Ev (fun k => spec_IsValidTransaction.l1 k ((i + 1 : Nat) : Int) a0 a1 a2 a3 a4 a5 a6 rs ws) r → Ev (fun k => spec_IsValidTransaction.j3 k (i : Int) false a0 a1 a2 a3 a4 a5 a6 rs ws) r := by
    intro i hi r h
    refine Ev.step (fun k => spec_IsValidTransaction.j3.eq_2 ..) (ev_neg (by simp) ?_)
    rw [up i (by omega)]
    exact h
  refine all_loop0 (g := fun k i => spec_IsValidTransaction.l1 k i a0 a1 a2 a3 a4 a5 a6 rs ws) ws.length (WOk ws) ?_ ?_ ?_
  · refine Ev.step (fun k => spec_IsValidTransaction.l1.eq_2 ..) (ev_neg (by omega) ?_)
    simp only [spec_in, Option.bind_some]
    refine ev_ite (fun h1 => ev_ite (fun h2 => ?_) (fun h2 => ?_)) (fun h1 => ?_)
    · refine spec_hd a0 a1 a2 a3 a4 a5 a6 rs ws _ ?_
      simp only [decide_eq_true_eq] at h1 h2
      congr 1
      rw [decide_eq_decide]
      exact ⟨fun h => ⟨h1, h2, h⟩, fun h => h.2.2⟩
    · refine spec_hd a0 a1 a2 a3 a4 a5 a6 rs ws _ ?_
      simp only [decide_eq_true_eq] at h1 h2
      symm
      rw [Bool.not_eq_true', decide_eq_false_iff_not]
      exact fun h => h2 h.2.1
    · refine spec_hd a0 a1 a2 a3 a4 a5 a6 rs ws _ ?_
      simp only [decide_eq_true_eq] at h1
      symm
      rw [Bool.not_eq_true', decide_eq_false_iff_not]
      exact fun h => h1 h.1
  · intro i hi hp r h
    refine Ev.step (fun k => spec_IsValidTransaction.l1.eq_2 ..) (ev_pos (by omega) (ev_pos (by omega) ?_))
    simp only [spec_in, Option.bind_some, rdw]
    refine ev_pos (decide_eq_true hp.1) (ev_pos (decide_eq_true hp.2.1) (ev_ite (fun h0 => ?_) (fun h0 => hgo i hi r h)))
    rw [down i (by omega) (by omega), rdw]
    refine ev_pos (by omega) (ev_pos (by omega) ?_)
    have := hp.2.2 (by omega)
    rw [decide_eq_false (by omega)]
    exact hgo i hi r h
  · intro i hi hp
    refine Ev.step (fun k => spec_IsValidTransaction.l1.eq_2 ..) (ev_pos (by omega) (ev_pos (by omega) ?_))
    simp only [spec_in, Option.bind_some, rdw]
    refine ev_ite (fun h1 => ev_ite (fun h2 => ev_ite (fun h0 => ?_) (fun h0 => ?_)) (fun _ => hno _)) (fun _ => hno _)
    · rw [down i (by omega) (by omega), rdw]
      refine ev_pos (by omega) (ev_pos (by omega) ?_)
      rw [decide_eq_true (?_ : (ws.getD (i - 1) z87).f0 ≥ (ws.getD i z87).f0)]
      · exact hno _
      · rcases Int.lt_or_le (ws.getD (i - 1) z87).f0 (ws.getD i z87).f0 with h3 | h3
        · exact absurd ⟨of_decide_eq_true h1, of_decide_eq_true h2, fun _ => h3⟩ hp
        · exact h3
    · exact absurd ⟨of_decide_eq_true h1, of_decide_eq_true h2, fun h => absurd h (by omega)⟩ hp
theorem spec_vt (a0 a1 a2 a3 a4 a5 a6 : Int) (rs : List S84) (ws : List S87) (hr : rs.length ≤ 9223372036854775806) (hw : ws.length ≤ 9223372036854775806) :
    Ev (fun k => spec_IsValidTransaction.f k a0 a1 a2 a3 a4 a5 a6 rs ws) (vt a0 a1 a2 a3 a4 a5 a6 rs ws) := by
  unfold spec_IsValidTransaction.f vt
  have hno : ∀ i, Ev (fun k => spec_IsValidTransaction.j1 k i true a0 a1 a2 a3 a4 a5 a6 rs ws) false := fun i => Ev.step (fun k => spec_IsValidTransaction.j1.eq_2 ..) (ev_pos rfl (Ev.now _))
  have hgo : ∀ i : Nat, i < rs.length → ∀ r, Ev (fun k => spec_IsValidTransaction.l0 k ((i + 1 : Nat) : Int) a0 a1 a2 a3 a4 a5 a6 rs ws) r → Ev (fun k => spec_IsValidTransaction.j1 k (i : Int) false a0 a1 a2 a3 a4 a5 a6 rs ws) r := by
    intro i hi r h
    refine Ev.step (fun k => spec_IsValidTransaction.j1.eq_2 ..) (ev_neg (by simp) ?_)
    rw [up i (by omega)]
    exact h
  refine all_loop0 (g := fun k i => spec_IsValidTransaction.l0 k i a0 a1 a2 a3 a4 a5 a6 rs ws) rs.length (ROk rs) ?_ ?_ ?_
  · exact Ev.step (fun k => spec_IsValidTransaction.l0.eq_2 ..) (ev_neg (by omega) (spec_ws a0 a1 a2 a3 a4 a5 a6 rs ws hw))
  · intro i hi hp r h
    refine Ev.step (fun k => spec_IsValidTransaction.l0.eq_2 ..) (ev_pos (by omega) (ev_pos (by omega) ?_))
    simp only [spec_in, Option.bind_some, rdr]
    refine ev_pos (decide_eq_true hp.1) (ev_pos (decide_eq_true hp.2.1) (ev_ite (fun h0 => ?_) (fun h0 => hgo i hi r h)))
    rw [down i (by omega) (by omega), rdr]
    refine ev_pos (by omega) (ev_pos (by omega) ?_)
    simp only [spec_bef, Option.bind_some]
    rw [decide_eq_true (hp.2.2 (by omega))]
    exact hgo i hi r h
  · intro i hi hp
    refine Ev.step (fun k => spec_IsValidTransaction.l0.eq_2 ..) (ev_pos (by omega) (ev_pos (by omega) ?_))
    simp only [spec_in, Option.bind_some, rdr]
    refine ev_ite (fun h1 => ev_ite (fun h2 => ev_ite (fun h0 => ?_) (fun h0 => ?_)) (fun _ => hno _)) (fun _ => hno _)
    · rw [down i (by omega) (by omega), rdr]
      refine ev_pos (by omega) (ev_pos (by omega) ?_)
      simp only [spec_bef, Option.bind_some]
      rw [decide_eq_false (fun h3 => hp ⟨of_decide_eq_true h1, of_decide_eq_true h2, fun _ => h3⟩)]
      exact hno _
    · exact absurd ⟨of_decide_eq_true h1, of_decide_eq_true h2, fun h => absurd h (by omega)⟩ hp
/-- How one number stands to another. -/
def cmpv (a b : Int) : Int := if a < b then -1 else if a > b then 1 else 0
theorem cmp_ev (a b : Int) : cmp_Compare_int.f a b = some (cmpv a b) := by
  unfold cmp_Compare_int.f cmp_isNaN_int.f cmpv
  simp only [Option.bind_some, bne_self_eq_false, Bool.false_eq_true, if_false]
  by_cases h : a < b
  · simp [h]
  · by_cases h2 : a > b <;> simp [h, h2]
def cmpM (a b c d : Int) : Int := if cmpv a c = 0 then cmpv b d else cmpv a c
theorem impl_cmpM (a b c d : Int) : Ev (fun k => impl_compareMarks.f k a b c d) (cmpM a b c d) := by
  unfold impl_compareMarks.f
  simp only [cmp_ev, Option.bind_some]
  refine Ev.bind (a := cmpM a b c d) ?_ (Ev.now _)
  unfold cmp_Or_int.f cmpM
  refine Ev.step (fun k => cmp_Or_int.l0.eq_2 ..) (ev_pos (by simp) (ev_pos (by omega) (ev_pos (by simp) ?_)))
  refine ev_ite (fun h => ?_) (fun h => ?_)
  · have h' : cmpv a c = 0 := h
    rw [if_pos h', w64 (by omega) (by omega)]
    refine Ev.step (fun k => cmp_Or_int.l0.eq_2 ..) (ev_pos (by simp) (ev_pos (by omega) (ev_pos (by simp) ?_)))
    refine ev_ite (fun h2 => ?_) (fun h2 => ?_)
    · have h2' : cmpv b d = 0 := h2
      rw [h2', w64 (by omega) (by omega)]
      exact Ev.step (fun k => cmp_Or_int.l0.eq_2 ..) (ev_neg (by simp) (Ev.now _))
    · exact Ev.now _
  · have h' : ¬ cmpv a c = 0 := h
    rw [if_neg h']
    exact Ev.now _
theorem cmpM_bef (a b c d : Int) : cmpM a b c d ≥ 0 ↔ ¬ Bef a b c d := by
  unfold cmpM cmpv Bef
  by_cases h1 : a < c
  · simp [h1]
  · by_cases h2 : a > c
    · simp [h1, h2]; omega
    · have : a = c := by omega
      subst this
      by_cases h3 : b < d
      · simp [h3]
      · by_cases h4 : b > d <;> simp [h3, h4]
theorem impl_rs (l : List S84) (hl : l.length ≤ 9223372036854775806) : Ev (fun k => impl_areReads.f k l) (decide (∀ j, j < l.length → ROk l j) && decide (l.length ≤ 60)) := by
  unfold impl_areReads.f
  refine all_loop0 (g := fun k i => impl_areReads.l0 k l l (l.length : Int) i) l.length (ROk l) ?_ ?_ ?_
  · refine Ev.step (fun k => impl_areReads.l0.eq_2 ..) (ev_neg (by omega) (ev_eq (Ev.now _) ?_))
    rw [decide_eq_decide]
    omega
  · intro i hi hp r h
    refine Ev.step (fun k => impl_areReads.l0.eq_2 ..) (ev_pos (by omega) (ev_pos (by omega) (ev_pos (by omega) ?_)))
    simp only [impl_isKey.f, impl_in_, Option.bind_some, rdr]
    rw [up i (by omega)]
    refine ev_pos (decide_eq_true hp.1) (ev_pos (decide_eq_true hp.2.1) (ev_ite (fun h0 => ?_) (fun h0 => h)))
    rw [down i (by omega) (by omega), rdr]
    refine ev_pos (by omega) (ev_pos (by omega) (Ev.bind (impl_cmpM _ _ _ _) (ev_neg ?_ h)))
    rw [cmpM_bef]
    exact fun h2 => h2 (hp.2.2 (by omega))
  · intro i hi hp
    refine Ev.step (fun k => impl_areReads.l0.eq_2 ..) (ev_pos (by omega) (ev_pos (by omega) (ev_pos (by omega) ?_)))
    simp only [impl_isKey.f, impl_in_, Option.bind_some, rdr]
    rw [up i (by omega)]
    refine ev_ite (fun h1 => ev_ite (fun h2 => ev_ite (fun h0 => ?_) (fun h0 => ?_)) (fun _ => Ev.now _)) (fun _ => Ev.now _)
    · rw [down i (by omega) (by omega), rdr]
      refine ev_pos (by omega) (ev_pos (by omega) (Ev.bind (impl_cmpM _ _ _ _) (ev_pos ?_ (Ev.now _))))
      rw [cmpM_bef]
      exact fun h3 => hp ⟨of_decide_eq_true h1, of_decide_eq_true h2, fun _ => h3⟩
    · exact absurd ⟨of_decide_eq_true h1, of_decide_eq_true h2, fun h => absurd h (by omega)⟩ hp
theorem impl_ws (l : List S87) (hl : l.length ≤ 9223372036854775806) : Ev (fun k => impl_areWrites.f k l) (decide (∀ j, j < l.length → WOk l j) && true) := by
  unfold impl_areWrites.f
  refine all_loop0 (g := fun k i => impl_areWrites.l0 k l l (l.length : Int) i) l.length (WOk l) ?_ ?_ ?_
  · exact Ev.step (fun k => impl_areWrites.l0.eq_2 ..) (ev_neg (by omega) (Ev.now _))
  · intro i hi hp r h
    refine Ev.step (fun k => impl_areWrites.l0.eq_2 ..) (ev_pos (by omega) (ev_pos (by omega) (ev_pos (by omega) ?_)))
    simp only [impl_isKey.f, impl_isValue.f, impl_in_, Option.bind_some, rdw]
    rw [up i (by omega)]
    refine ev_pos (decide_eq_true hp.1) (ev_pos (decide_eq_true hp.2.1) (ev_ite (fun h0 => ?_) (fun h0 => h)))
    rw [down i (by omega) (by omega), rdw]
    have := hp.2.2 (by omega)
    exact ev_pos (by omega) (ev_pos (by omega) (ev_neg (by omega) h))
  · intro i hi hp
    refine Ev.step (fun k => impl_areWrites.l0.eq_2 ..) (ev_pos (by omega) (ev_pos (by omega) (ev_pos (by omega) ?_)))
    simp only [impl_isKey.f, impl_isValue.f, impl_in_, Option.bind_some, rdw]
    rw [up i (by omega)]
    refine ev_ite (fun h1 => ev_ite (fun h2 => ev_ite (fun h0 => ?_) (fun h0 => ?_)) (fun _ => Ev.now _)) (fun _ => Ev.now _)
    · rw [down i (by omega) (by omega), rdw]
      refine ev_pos (by omega) (ev_pos (by omega) (ev_pos ?_ (Ev.now _)))
      rcases Int.lt_or_le (l.getD (i - 1) z87).f0 (l.getD i z87).f0 with h3 | h3
      · exact absurd ⟨of_decide_eq_true h1, of_decide_eq_true h2, fun _ => h3⟩ hp
      · exact h3
    · exact absurd ⟨of_decide_eq_true h1, of_decide_eq_true h2, fun h => absurd h (by omega)⟩ hp
theorem impl_vt (a0 a1 a2 a3 a4 a5 a6 : Int) (rs : List S84) (ws : List S87) (hr : rs.length ≤ 9223372036854775806) (hw : ws.length ≤ 9223372036854775806) :
    Ev (fun k => impl_IsValidTransaction.f k a0 a1 a2 a3 a4 a5 a6 rs ws) (vt a0 a1 a2 a3 a4 a5 a6 rs ws) := by
  have h1 : ∀ b : Bool, Ev (fun k => impl_IsValidTransaction.j1 k b a0 a1 a2 a3 a4 a5 a6 rs ws) (!b && ((decide (∀ j, j < rs.length → ROk rs j) && decide (rs.length ≤ 60)) && (decide (∀ j, j < ws.length → WOk ws j) && true))) := by
    intro b
    refine Ev.step (fun k => impl_IsValidTransaction.j1.eq_2 ..) (ev_ite (fun h => ?_) (fun h => ?_))
    · rw [h]; exact Ev.now _
    · rw [Bool.not_eq_true] at h
      rw [h]
      refine Ev.bind (impl_rs rs hr) (ev_ite (fun g => ?_) (fun g => ?_))
      · rw [g]
        exact Ev.bind (impl_ws ws hw) (ev_eq (Ev.now _) (by simp))
      · rw [Bool.not_eq_true] at g
        rw [g]
        exact ev_eq (Ev.now _) (by simp)
  have h0 : ∀ b : Bool, Ev (fun k => impl_IsValidTransaction.j0 k b a0 a1 a2 a3 a4 a5 a6 rs ws) (!b && (decide ((a2 = 2 → 1 ≤ a6 ∧ a6 ≤ 999) ∧ (a2 ≠ 2 → a6 = 0)) && ((decide (∀ j, j < rs.length → ROk rs j) && decide (rs.length ≤ 60)) && (decide (∀ j, j < ws.length → WOk ws j) && true)))) := by
    intro b
    refine Ev.step (fun k => impl_IsValidTransaction.j0.eq_2 ..) (ev_ite (fun h => ?_) (fun h => ?_))
    · rw [h]; exact Ev.now _
    · rw [Bool.not_eq_true] at h
      rw [h]
      simp only [impl_IsStamp.f, impl_in_, Option.bind_some]
      refine ev_ite (fun g => ev_ite (fun g2 => ?_) (fun g2 => ?_)) (fun g => ?_)
      · refine ev_eq (h1 false) ?_
        rw [decide_eq_true (show (a2 = 2 → 1 ≤ a6 ∧ a6 ≤ 999) ∧ (a2 ≠ 2 → a6 = 0) from ⟨fun _ => of_decide_eq_true g2, fun h => absurd g h⟩)]
        simp
      · refine ev_eq (h1 true) ?_
        rw [decide_eq_false (show ¬ ((a2 = 2 → 1 ≤ a6 ∧ a6 ≤ 999) ∧ (a2 ≠ 2 → a6 = 0)) from fun h => g2 (decide_eq_true (h.1 g)))]
        simp
      · refine ev_eq (h1 _) ?_
        by_cases e : a6 = 0
        · rw [decide_eq_true (show (a2 = 2 → 1 ≤ a6 ∧ a6 ≤ 999) ∧ (a2 ≠ 2 → a6 = 0) from ⟨fun h => absurd h g, fun _ => e⟩)]
          simp [e]
        · rw [decide_eq_false (show ¬ ((a2 = 2 → 1 ≤ a6 ∧ a6 ≤ 999) ∧ (a2 ≠ 2 → a6 = 0)) from fun h => e (h.2 g))]
          simp [e]
  unfold impl_IsValidTransaction.f
  simp only [impl_isID.f, impl_isScheme.f, impl_in_, Option.bind_some]
  have key : ∀ (p : Prop) [Decidable p] (b : Bool), (b = !decide p) → (Hd a0 a1 a2 a3 a4 a5 a6 ↔ p ∧ ((a2 = 2 → 1 ≤ a6 ∧ a6 ≤ 999) ∧ (a2 ≠ 2 → a6 = 0))) → (!b && (decide ((a2 = 2 → 1 ≤ a6 ∧ a6 ≤ 999) ∧ (a2 ≠ 2 → a6 = 0)) && ((decide (∀ j, j < rs.length → ROk rs j) && decide (rs.length ≤ 60)) && (decide (∀ j, j < ws.length → WOk ws j) && true)))) = vt a0 a1 a2 a3 a4 a5 a6 rs ws := by
    intro p _ b hb hp
    unfold vt
    rw [show decide (Hd a0 a1 a2 a3 a4 a5 a6) = (decide p && decide ((a2 = 2 → 1 ≤ a6 ∧ a6 ≤ 999) ∧ (a2 ≠ 2 → a6 = 0))) by rw [← Bool.decide_and, decide_eq_decide]; exact hp, hb, Bool.not_not, Bool.and_true]
    generalize decide (∀ j, j < rs.length → ROk rs j) = x1
    generalize decide (rs.length ≤ 60) = x2
    generalize decide (∀ j, j < ws.length → WOk ws j) = x3
    generalize decide ((a2 = 2 → 1 ≤ a6 ∧ a6 ≤ 999) ∧ (a2 ≠ 2 → a6 = 0)) = x4
    generalize decide p = x5
    cases x1 <;> cases x2 <;> cases x3 <;> cases x4 <;> cases x5 <;> rfl
  refine ev_ite (fun g0 => ev_ite (fun g1 => ev_ite (fun g2 => ev_ite (fun g3 => ev_ite (fun g4 => ?_) (fun g4 => ?_)) (fun g3 => ?_)) (fun g2 => ?_)) (fun g1 => ?_)) (fun g0 => ?_)
  · simp only [decide_eq_true_eq] at g0 g1 g2 g3 g4
    exact ev_eq (h0 _) (key (1 ≤ a5 ∧ a5 ≤ 1000) _ rfl (by unfold Hd; exact ⟨fun h => ⟨h.2.2.2.2.2.1, h.2.2.2.2.2.2⟩, fun h => ⟨g0, g1, g2, g3, g4, h.1, h.2⟩⟩))
  all_goals
    simp only [decide_eq_true_eq] at *
    refine ev_eq (h0 true) (key False _ rfl ?_)
    unfold Hd
    simp only [false_and, iff_false]
  · exact fun h => g4 h.2.2.2.2.1
  · exact fun h => g3 h.2.2.2.1
  · exact fun h => g2 h.2.2.1
  · exact fun h => g1 h.2.1
  · exact fun h => g0 h.1
theorem mark_nil (a0 a1 a2 a3 a4 a5 a6 : Int) : Ev (fun k => laws_markTransaction.f k a0 a1 a2 a3 a4 a5 a6 ([] : List S84) ([] : List S87) 1) (1, [], []) := by
  unfold laws_markTransaction.f laws_markReadMarkS.f laws_markWriteS.f
  refine Ev.bind (a := ((1 : Int), ([] : List S84))) (Ev.step (fun k => laws_markReadMarkS.l0.eq_2 ..) (ev_neg (by simp) (Ev.now _))) ?_
  exact Ev.bind (a := ((1 : Int), ([] : List S87))) (Ev.step (fun k => laws_markWriteS.l0.eq_2 ..) (ev_neg (by simp) (Ev.now _))) (Ev.now _)
theorem held_nil (a0 a1 a2 a3 a4 a5 a6 : Int) : Ev (fun k => laws_heldTransaction.f k a0 a1 a2 a3 a4 a5 a6 ([] : List S84) ([] : List S87) 1) 1 := by
  unfold laws_heldTransaction.f laws_heldReadMarkS.f laws_heldWriteS.f
  refine Ev.bind (a := 1) (Ev.step (fun k => laws_heldReadMarkS.l0.eq_2 ..) (ev_neg (by simp) (Ev.now _))) (ev_neg (by omega) ?_)
  exact Ev.bind (a := 1) (Ev.step (fun k => laws_heldWriteS.l0.eq_2 ..) (ev_neg (by simp) (Ev.now _))) (ev_neg (by omega) (Ev.now _))
theorem eq_nil (a0 a1 a2 a3 a4 a5 a6 : Int) : Ev (fun k => laws_eqTransaction.f k a0 a1 a2 a3 a4 a5 a6 ([] : List S84) ([] : List S87) a0 a1 a2 a3 a4 a5 a6 [] []) true := eq_trans a0 a1 a2 a3 a4 a5 a6 [] [] (by simp) (by simp)
/-- What a new transaction is. -/
def newT (a b c : Int) : Int × Int × Int × Int × Int × Int × Int × List S84 × List S87 × Bool :=
  if vt a b 1 c 0 1000 0 [] [] = true then (a, b, 1, c, 0, 1000, 0, [], [], true) else (0, 0, 0, 0, 0, 0, 0, [], [], false)
theorem spec_new (a b c : Int) : Ev (fun k => spec_NewTransaction.f k a b c) (newT a b c) := by
  unfold spec_NewTransaction.f newT
  refine Ev.bind (spec_vt a b 1 c 0 1000 0 [] [] (by simp) (by simp)) (ev_ite (fun h => ?_) (fun h => ?_))
  · rw [if_pos h]; exact Ev.now _
  · rw [if_neg h]; exact Ev.now _
theorem impl_new (a b c : Int) : Ev (fun k => impl_NewTransaction.f k a b c) (newT a b c) := by
  unfold impl_NewTransaction.f newT
  refine Ev.bind (impl_vt a b 1 c 0 1000 0 [] [] (by simp) (by simp)) (ev_ite (fun h => ?_) (fun h => ?_))
  · rw [if_pos h]; exact Ev.now _
  · rw [if_neg h]; exact Ev.now _
theorem FnExactNewTransaction : laws_FnExactNewTransaction.Pure := by
  intro a b c _ _ _
  refine Ev.rounds (g := fun k => laws_FnExactNewTransaction.f k a b c) ?_
  have h1 := spec_new a b c
  have h2 := impl_new a b c
  obtain ⟨y0, y1, y2, y3, y4, y5, y6, y, hy⟩ : ∃ y0 y1 y2 y3 y4 y5 y6 y, newT a b c = (y0, y1, y2, y3, y4, y5, y6, [], [], y) := by
    unfold newT
    split
    · exact ⟨_, _, _, _, _, _, _, _, rfl⟩
    · exact ⟨_, _, _, _, _, _, _, _, rfl⟩
  rw [hy] at h1 h2
  refine Ev.bind h1 (Ev.bind h2 (Ev.bind (eq_nil _ _ _ _ _ _ _) (ev_pos rfl (Ev.step (fun k => laws_FnExactNewTransaction.j0.eq_2 ..) (ev_neg (by simp) ?_)))))
  refine Ev.bind (mark_nil _ _ _ _ _ _ _) (Ev.bind (held_nil _ _ _ _ _ _ _) (ev_neg (by omega) (ev_pos rfl (Ev.bind h2 (Ev.bind (eq_nil _ _ _ _ _ _ _) (ev_pos rfl (Ev.step (fun k => laws_FnExactNewTransaction.j1.eq_2 ..) (ev_neg (by simp) ?_))))))))
  exact Ev.bind (held_nil _ _ _ _ _ _ _) (ev_neg (by omega) (ev_pos rfl (Ev.now _)))

end Go.Proofs.Ytlnglooomeliiaa.Pure
