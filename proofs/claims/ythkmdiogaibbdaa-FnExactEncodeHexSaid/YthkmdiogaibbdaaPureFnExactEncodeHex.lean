/- Both write the same digits. -/
import Derived.Test.YthkmdiogaibbdaaPFnExactEncodeHexx1
import Derived.Test.YthkmdiogaibbdaaMEv
namespace Go.Proofs.Ythkmdiogaibbdaa.Pure
open Go Go.RowKit Go.Proofs.Ythkmdiogaibbdaa.PFnExactEncodeHex Go.Proofs.YthkmdiogaibbdaaW.PrintWords Go.Proofs.YthkmdiogaibbdaaW.PrintLast Go.Proofs.YthkmdiogaibbdaaW.PrintMore Go.Proofs.YthkmdiogaibbdaaM
set_option linter.unusedVariables false
set_option linter.unusedSimpArgs false

theorem and15 (x : Int) (h0 : 0 ≤ x) (h1 : x < 256) : Go.bits .and .u8 x 15 = x % 16 := bits_mask .u8 8 (by decide) wraps_u8 4 (by decide) x h0 (by omega)
theorem eh_loop (s : ByteArray) (hs : s.size ≤ 1048576) (d : Nat) : ∀ (i : Nat) (acc : List Int), i + d = s.size → acc.length ≤ 2 * i →
    ∃ r, Ev (fun k => spec_EncodeHex.l0 k s acc (i : Int)) r ∧ Ev (fun k => impl_EncodeHex.l0 k s acc (s.size : Int) (i : Int)) r := by
  induction d with
  | zero =>
    intro i acc hi ha
    exact ⟨_, Ev.step (fun k => spec_EncodeHex.l0.eq_2 ..) (ev_neg (by omega) (Ev.now _)), Ev.step (fun k => impl_EncodeHex.l0.eq_2 ..) (ev_neg (by omega) (Ev.now _))⟩
  | succ d ih =>
    intro i acc hi ha
    obtain ⟨hb0, hb1⟩ := bt_range s (i : Int)
    have e0 : wrap64 (bt s (i : Int)) = bt s (i : Int) := w64 (by omega) (by omega)
    have e1 : wrap64 (Int.tdiv (bt s (i : Int)) 16) = bt s (i : Int) / 16 := by
      rw [Int.tdiv_eq_ediv_of_nonneg hb0]
      exact w64 (by omega) (by omega)
    have e2 : Int.tmod (bt s (i : Int)) 16 = bt s (i : Int) % 16 := Int.tmod_eq_emod_of_nonneg hb0
    have e3 : Go.bits .and .u8 (bt s (i : Int)) 15 = bt s (i : Int) % 16 := and15 _ hb0 (by omega)
    obtain ⟨b, hb⟩ : ∃ b, b = bt s (i : Int) := ⟨_, rfl⟩
    rw [← hb] at hb0 hb1 e0 e1 e2 e3
    have hd : ∀ x : Int, 0 ≤ x → x < 16 → spec_l1Digit.f x = some (bt (⟨#[48, 49, 50, 51, 52, 53, 54, 55, 56, 57, 97, 98, 99, 100, 101, 102]⟩ : ByteArray) x) := fun x h0 h1 => by
      unfold spec_l1Digit.f
      rw [if_pos h0, if_pos h1]
    obtain ⟨r, h1, h2⟩ := ih (i + 1) (acc ++ [bt (⟨#[48, 49, 50, 51, 52, 53, 54, 55, 56, 57, 97, 98, 99, 100, 101, 102]⟩ : ByteArray) (b / 16), bt (⟨#[48, 49, 50, 51, 52, 53, 54, 55, 56, 57, 97, 98, 99, 100, 101, 102]⟩ : ByteArray) (b % 16)]) (by omega) (by simp; omega)
    refine ⟨r, Ev.step (fun k => spec_EncodeHex.l0.eq_2 ..) (ev_pos (by omega) (ev_pos (by omega) ?_)), Ev.step (fun k => impl_EncodeHex.l0.eq_2 ..) (ev_pos (by omega) (ev_pos (by omega) (ev_pos (by omega) ?_)))⟩
    · rw [← hb, e0, e1, e2]
      refine ev_bindo (hd _ (by omega) (by omega)) (ev_bindo (hd _ (by omega) (by omega)) (ev_bindo rfl (ev_pos (by simp; omega) ?_)))
      rw [show wrap64 ((i : Int) + 1) = ((i + 1 : Nat) : Int) from w64 (by omega) (by omega)]
      exact h1
    · rw [← hb, e3]
      refine ev_pos (by omega) (ev_pos (by omega) (ev_pos (by omega) (ev_pos (by omega) (ev_bindo rfl (ev_pos (by simp; omega) ?_)))))
      rw [show wrap64 ((i : Int) + 1) = ((i + 1 : Nat) : Int) from w64 (by omega) (by omega)]
      exact h2
theorem FnExactEncodeHex : laws_FnExactEncodeHex.Pure := by
  intro s _
  refine Ev.rounds (g := fun k => laws_FnExactEncodeHex.f k s) ?_
  refine ev_ite (fun _ => Ev.now _) (fun h => ?_)
  obtain ⟨r, h1, h2⟩ := eh_loop s (by omega) s.size 0 [] (by omega) (by simp)
  have e : wrap64 (2 * (s.size : Int)) = 2 * (s.size : Int) := w64 (by omega) (by omega)
  refine Ev.bind h1 (Ev.bind (a := r) ?_ (ev_pos rfl (Ev.now _)))
  show Ev (fun k => impl_EncodeHex.f k s) r
  unfold impl_EncodeHex.f
  rw [e]
  exact ev_pos (by omega) (ev_pos (by omega) h2)

end Go.Proofs.Ythkmdiogaibbdaa.Pure
