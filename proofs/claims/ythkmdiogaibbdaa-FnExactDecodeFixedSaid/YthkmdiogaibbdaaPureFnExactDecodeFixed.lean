/- DecodeFixed of the program and of the reference answer alike for every string and width. No condition. -/
import Derived.Test.YthkmdiogaibbdaaPFnExactDecodeFixedx1
import Derived.Test.YthkmdiogaibbdaaMEv
namespace Go.Proofs.Ythkmdiogaibbdaa.Pure
open Go Go.RowKit Go.Proofs.Ythkmdiogaibbdaa.PFnExactDecodeFixed Go.Proofs.YthkmdiogaibbdaaW.PrintWords Go.Proofs.YthkmdiogaibbdaaW.PrintLast Go.Proofs.YthkmdiogaibbdaaW.PrintMore Go.Proofs.YthkmdiogaibbdaaM
set_option linter.unusedVariables false
set_option linter.unusedSimpArgs false

/-- What a number may still be, d bytes before the end. -/
def pw : Nat → Int
  | 0 => 72057594037927936
  | d + 1 => pw d / 256
theorem pw_le (d : Nat) : pw d ≤ 72057594037927936 := by
  induction d with
  | zero => exact Int.le_refl _
  | succ d ih =>
    show pw d / 256 ≤ _
    omega
theorem pw_pos (d : Nat) (h : d ≤ 7) : 0 < pw d := by
  match d, h with
  | 0, _ => decide
  | 1, _ => decide
  | 2, _ => decide
  | 3, _ => decide
  | 4, _ => decide
  | 5, _ => decide
  | 6, _ => decide
  | 7, _ => decide
theorem loops (s : ByteArray) (w : Int) (hw : w ≤ 7) (hs : w ≤ (s.size : Int)) (d : Nat) : ∀ (i n : Int), 0 ≤ i → i + d = w → 0 ≤ n → n < pw d →
    ∃ r, Ev (fun k => spec_DecodeFixed.l0 k s w n i) r ∧ Ev (fun k => impl_DecodeFixed.l0 k s n w i) r := by
  induction d with
  | zero =>
    intro i n h0 h1 h2 h3
    refine ⟨(n, true), Ev.step (fun k => spec_DecodeFixed.l0.eq_2 ..) ?_, Ev.step (fun k => impl_DecodeFixed.l0.eq_2 ..) ?_⟩
    · exact ev_neg (by omega) (Ev.now _)
    · exact ev_neg (by omega) (Ev.now _)
  | succ d ih =>
    intro i n h0 h1 h2 h3
    have hb := bt_range s i
    have hp := pw_le d
    have h4 : n < pw d / 256 := h3
    have e1 : wrap64 (bt s i) = bt s i := w64 (by omega) (by omega)
    have e2 : wrap64 (n * 256) = n * 256 := w64 (by omega) (by omega)
    have e3 : wrap64 (n * 256 + bt s i) = n * 256 + bt s i := w64 (by omega) (by omega)
    have e4 : wrap64 (i + 1) = i + 1 := w64 (by omega) (by omega)
    have e5 : Go.bits .or .i64 (n * 256) (bt s i) = n * 256 + bt s i := or_add 8 _ _ (by omega) (by omega) (by omega) (by omega) (by omega) (by omega)
    obtain ⟨r, hr, hq⟩ := ih (i + 1) (n * 256 + bt s i) (by omega) (by omega) (by omega) (by omega)
    refine ⟨r, Ev.step (fun k => spec_DecodeFixed.l0.eq_2 ..) ?_, Ev.step (fun k => impl_DecodeFixed.l0.eq_2 ..) ?_⟩
    · rw [e1, e2, e3, e4]
      exact ev_pos (by omega) (ev_pos h0 (ev_pos (by omega) hr))
    · rw [e1, e2, e5, e4]
      exact ev_pos (by omega) (ev_pos h0 (ev_pos (by omega) hq))
theorem FnExactDecodeFixed : laws_FnExactDecodeFixed.Pure := by
  intro s w hs hw
  suffices h : ∃ r, Ev (fun k => spec_DecodeFixed.f k s w) r ∧ Ev (fun k => impl_DecodeFixed.f k s w) r by
    obtain ⟨r, h1, h2⟩ := h
    refine Ev.rounds (g := fun k => laws_FnExactDecodeFixed.f k s w) ?_
    unfold laws_FnExactDecodeFixed.f
    by_cases hb : (s.size : Int) > 1048576
    · exact ev_pos hb (Ev.now _)
    · refine ev_neg hb (Ev.bind h1 (Ev.bind h2 ?_))
      simp only [if_true, bne_self_eq_false, Bool.false_eq_true, if_false]
      exact Ev.now _
  unfold spec_DecodeFixed.f impl_DecodeFixed.f spec_l1In.f impl_in.f
  by_cases h1 : 1 ≤ w
  · by_cases h2 : w ≤ 7
    · by_cases h3 : (s.size : Int) < w
      · refine ⟨(0, false), ?_, ?_⟩ <;> simp only [ge_iff_le, h1, h2, h3, if_true, decide_true, Option.bind_some]
        · exact Ev.step (fun k => spec_DecodeFixed.j0.eq_2 ..) (ev_pos rfl (Ev.now _))
        · exact Ev.step (fun k => impl_DecodeFixed.j0.eq_2 ..) (ev_pos rfl (Ev.now _))
      · obtain ⟨r, hr, hq⟩ := loops s w h2 (by omega) w.toNat 0 0 (Int.le_refl _) (by omega) (Int.le_refl _) (pw_pos _ (by omega))
        refine ⟨r, ?_, ?_⟩ <;> simp only [ge_iff_le, h1, h2, h3, if_true, decide_true, decide_false, Option.bind_some]
        · exact Ev.step (fun k => spec_DecodeFixed.j0.eq_2 ..) (ev_neg (by simp) hr)
        · exact Ev.step (fun k => impl_DecodeFixed.j0.eq_2 ..) (ev_neg (by simp) hq)
    · refine ⟨(0, false), ?_, ?_⟩ <;> simp only [ge_iff_le, h1, h2, if_true, decide_false, Bool.false_eq_true, if_false, Option.bind_some]
      · exact Ev.step (fun k => spec_DecodeFixed.j0.eq_2 ..) (ev_pos rfl (Ev.now _))
      · exact Ev.step (fun k => impl_DecodeFixed.j0.eq_2 ..) (ev_pos rfl (Ev.now _))
  · refine ⟨(0, false), ?_, ?_⟩ <;> simp only [ge_iff_le, h1, if_false, Bool.false_eq_true, Option.bind_some]
    · exact Ev.step (fun k => spec_DecodeFixed.j0.eq_2 ..) (ev_pos rfl (Ev.now _))
    · exact Ev.step (fun k => impl_DecodeFixed.j0.eq_2 ..) (ev_pos rfl (Ev.now _))

end Go.Proofs.Ythkmdiogaibbdaa.Pure
