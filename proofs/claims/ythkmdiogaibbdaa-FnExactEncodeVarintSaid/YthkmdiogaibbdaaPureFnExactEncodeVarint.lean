/- EncodeVarint of the program and of the reference answer alike for every int. No condition. -/
import Derived.Test.YthkmdiogaibbdaaPFnExactEncodeVarintx1
import Derived.Test.YthkmdiogaibbdaaMEv
namespace Go.Proofs.Ythkmdiogaibbdaa.Pure
open Go Go.RowKit Go.Proofs.Ythkmdiogaibbdaa.PFnExactEncodeVarint Go.Proofs.YthkmdiogaibbdaaW.PrintWords Go.Proofs.YthkmdiogaibbdaaW.PrintLast Go.Proofs.YthkmdiogaibbdaaW.PrintMore Go.Proofs.YthkmdiogaibbdaaM
set_option linter.unusedVariables false
set_option linter.unusedSimpArgs false

theorem or128 (x : Int) (h0 : 0 ≤ x) (h1 : x < 256) : Go.bits .or .u8 x 128 = 128 + x % 128 := by
  rw [u8_or x 128 h0 (by omega) (by omega) (by omega)]
  have hd : ∀ a : Nat, a < 256 → a ||| 128 = 128 + a % 128 := by decide +kernel
  have := hd x.toNat (by omega)
  show ((x.toNat ||| 128 : Nat) : Int) = _
  rw [this]
  omega
/-- What a number is below, d bytes of seven bits before the last one. -/
def q7 : Nat → Int
  | 0 => 128
  | d + 1 => q7 d * 128
theorem vloops (d : Nat) : ∀ (x : Int) (l : List Int), 0 ≤ x → x < q7 d → l.length + d ≤ 1000 →
    x ≤ 9223372036854775807 → ∃ r, Ev (fun k => spec_EncodeVarint.l0 k x l) r ∧ Ev (fun k => impl_EncodeVarint.l0 k x l) r := by
  induction d with
  | zero =>
    intro x l h0 h1 h2 hm
    have h3 : x < 128 := h1
    exact ⟨_, Ev.step (fun k => spec_EncodeVarint.l0.eq_2 ..) (ev_neg (by omega) (ev_pos (by omega) (Ev.now _))), Ev.step (fun k => impl_EncodeVarint.l0.eq_2 ..) (ev_neg (by omega) (ev_pos (by omega) (Ev.now _)))⟩
  | succ d ih =>
    intro x l h0 h1 h2 hm
    have h3 : x < q7 d * 128 := h1
    by_cases hx : x < 128
    · exact ⟨_, Ev.step (fun k => spec_EncodeVarint.l0.eq_2 ..) (ev_neg (by omega) (ev_pos (by omega) (Ev.now _))), Ev.step (fun k => impl_EncodeVarint.l0.eq_2 ..) (ev_neg (by omega) (ev_pos (by omega) (Ev.now _)))⟩
    · obtain ⟨r, hr, hq⟩ := ih (x / 128) (l ++ [128 + x % 128]) (by omega) (by omega) (by simp; omega) (by omega)
      refine ⟨r, Ev.step (fun k => spec_EncodeVarint.l0.eq_2 ..) (ev_pos (by omega) (ev_pos (by omega) ?_)), Ev.step (fun k => impl_EncodeVarint.l0.eq_2 ..) (ev_pos (by omega) (ev_pos (by omega) ?_))⟩
      · have e1 : Int.tdiv x 128 = x / 128 := Int.tdiv_eq_ediv_of_nonneg h0
        have e2 : Int.tmod x 128 = x % 128 := Int.tmod_eq_emod_of_nonneg h0
        have e3 : wrap64 (128 + x % 128) = 128 + x % 128 := w64 (by omega) (by omega)
        have e4 : (128 + x % 128) % 256 = 128 + x % 128 := by omega
        rw [e1, e2, e3, e4]
        rw [w64 (by omega) (by omega)]
        exact hr
      · rw [or128 (x % 256) (by omega) (by omega), show (x % 256) % 128 = x % 128 by omega]
        exact hq
theorem FnExactEncodeVarint : laws_FnExactEncodeVarint.Pure := by
  intro x hx
  suffices h : ∃ r, Ev (fun k => spec_EncodeVarint.f k x) r ∧ Ev (fun k => impl_EncodeVarint.f k x) r by
    obtain ⟨r, h1, h2⟩ := h
    refine Ev.rounds (g := fun k => laws_FnExactEncodeVarint.f k x) ?_
    exact Ev.bind h1 (Ev.bind h2 (ev_pos rfl (Ev.now _)))
  unfold spec_EncodeVarint.f impl_EncodeVarint.f spec_l1In.f impl_in.f
  by_cases h1 : 0 ≤ x
  · by_cases h2 : x ≤ 562949953421311
    · obtain ⟨r, hr, hq⟩ := vloops 6 x [] h1 (by show x < 562949953421312; omega) (by simp) (by omega)
      refine ⟨r, ?_, ?_⟩ <;> simp only [ge_iff_le, h1, h2, if_true, decide_true, Option.bind_some]
      · exact hr
      · exact hq
    · refine ⟨(⟨#[]⟩ : ByteArray), ?_, ?_⟩
      · simp only [ge_iff_le, h1, h2, if_true, decide_false, Bool.false_eq_true, if_false, Option.bind_some]
        exact Ev.now _
      · simp only [ge_iff_le, h1, h2, if_true, decide_false, Bool.false_eq_true, if_false, Option.bind_some]
        exact Ev.now _
  · refine ⟨(⟨#[]⟩ : ByteArray), ?_, ?_⟩
    · simp only [ge_iff_le, h1, if_false, Bool.false_eq_true, Option.bind_some]
      exact Ev.now _
    · simp only [ge_iff_le, h1, if_false, Bool.false_eq_true, Option.bind_some]
      exact Ev.now _

end Go.Proofs.Ythkmdiogaibbdaa.Pure
