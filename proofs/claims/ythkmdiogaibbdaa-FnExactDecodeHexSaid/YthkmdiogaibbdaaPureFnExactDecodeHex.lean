/- Both read the same bytes. -/
import Derived.Test.YthkmdiogaibbdaaPFnExactDecodeHexx2
import Derived.Test.YthkmdiogaibbdaaMEv
namespace Go.Proofs.Ythkmdiogaibbdaa.Pure
open Go Go.RowKit Go.Proofs.Ythkmdiogaibbdaa.PFnExactDecodeHex Go.Proofs.YthkmdiogaibbdaaW.PrintWords Go.Proofs.YthkmdiogaibbdaaW.PrintLast Go.Proofs.YthkmdiogaibbdaaW.PrintMore Go.Proofs.YthkmdiogaibbdaaM
set_option linter.unusedVariables false
set_option linter.unusedSimpArgs false

def hexS : ByteArray := ⟨#[48, 49, 50, 51, 52, 53, 54, 55, 56, 57, 97, 98, 99, 100, 101, 102]⟩
theorem hex_at : ∀ j : Nat, j < 16 → bt (⟨#[48, 49, 50, 51, 52, 53, 54, 55, 56, 57, 97, 98, 99, 100, 101, 102]⟩ : ByteArray) (j : Int) = (([48, 49, 50, 51, 52, 53, 54, 55, 56, 57, 97, 98, 99, 100, 101, 102] : List Int).getD j 0) := by decide
theorem from_end (b : Int) : Ev (fun k => spec_l1FromHex.l0 k b 16) (-1) := Ev.step (fun k => spec_l1FromHex.l0.eq_2 ..) (ev_neg (by omega) (Ev.now _))
/-- The place of a digit, from place i on. -/
def frmH (b : Int) : Nat → Nat → Int
  | 0, _ => -1
  | d + 1, i => if (([48, 49, 50, 51, 52, 53, 54, 55, 56, 57, 97, 98, 99, 100, 101, 102] : List Int).getD i 0) = b then (i : Int) else frmH b d (i + 1)
theorem from_hex (b : Int) (d : Nat) : ∀ i : Nat, i + d = 16 → Ev (fun k => spec_l1FromHex.l0 k b (i : Int)) (frmH b d i) := by
  induction d with
  | zero =>
    intro i hi
    obtain rfl : i = 16 := by omega
    exact from_end b
  | succ d ih =>
    intro i hi
    have hd : spec_l1Digit.f (i : Int) = some (([48, 49, 50, 51, 52, 53, 54, 55, 56, 57, 97, 98, 99, 100, 101, 102] : List Int).getD i 0) := by
      unfold spec_l1Digit.f
      rw [if_pos (by omega), if_pos (by omega), hex_at i (by omega)]
    refine Ev.step (fun k => spec_l1FromHex.l0.eq_2 ..) (ev_pos (by omega) (ev_bindo hd ?_))
    unfold frmH
    refine ev_ite (fun h => ?_) (fun h => ?_)
    · rw [if_pos h]
      exact Ev.now _
    · rw [if_neg h, show wrap64 ((i : Int) + 1) = ((i + 1 : Nat) : Int) from w64 (by omega) (by omega)]
      exact ih (i + 1) (by omega)
set_option maxRecDepth 100000 in
theorem frmH_eq : ∀ n : Nat, n < 256 → Lib.indexByte (⟨#[48, 49, 50, 51, 52, 53, 54, 55, 56, 57, 97, 98, 99, 100, 101, 102]⟩ : ByteArray).data.toList ((n : Int)).toNat.toUInt8 = frmH (n : Int) 16 0 := by decide
set_option maxRecDepth 100000 in
theorem frmH_bd : ∀ n : Nat, n < 256 → -1 ≤ frmH (n : Int) 16 0 ∧ frmH (n : Int) 16 0 < 16 := by decide
theorem or_hex (a b : Int) (ha : 0 ≤ a) (ha1 : a < 16) (hb : 0 ≤ b) (hb1 : b < 16) : Go.bits .or .i64 (wrap64 (a * 16)) b = a * 16 + b := by
  rw [w64 (by omega) (by omega)]
  exact or_add 4 (a * 16) b (by omega) (by omega) (by omega) hb (by omega) (by omega)
theorem dh_loop (s : ByteArray) (hs : s.size ≤ 1048576) (he : s.size % 2 = 0) (d : Nat) : ∀ (i : Nat) (acc : List Int), i + 2 * d = s.size → acc.length ≤ i →
    ∃ r, Ev (fun k => spec_DecodeHex.l0 k s acc (i : Int)) r ∧ Ev (fun k => impl_DecodeHex.l0 k s acc (i : Int)) r := by
  induction d with
  | zero =>
    intro i acc hi ha
    exact ⟨_, Ev.step (fun k => spec_DecodeHex.l0.eq_2 ..) (ev_neg (by omega) (Ev.now _)), Ev.step (fun k => impl_DecodeHex.l0.eq_2 ..) (ev_neg (by omega) (Ev.now _))⟩
  | succ d ih =>
    intro i acc hi ha
    obtain ⟨hx0, hx1⟩ := bt_range s (i : Int)
    obtain ⟨hy0, hy1⟩ := bt_range s ((i + 1 : Nat) : Int)
    have e1 : wrap64 ((i : Int) + 1) = ((i + 1 : Nat) : Int) := w64 (by omega) (by omega)
    have e2 : wrap64 ((i : Int) + 2) = ((i + 2 : Nat) : Int) := w64 (by omega) (by omega)
    obtain ⟨x, hx⟩ : ∃ x : Nat, bt s (i : Int) = (x : Int) := ⟨(bt s (i : Int)).toNat, by omega⟩
    obtain ⟨y, hy⟩ : ∃ y : Nat, bt s ((i + 1 : Nat) : Int) = (y : Int) := ⟨(bt s ((i + 1 : Nat) : Int)).toNat, by omega⟩
    rw [hx] at hx0 hx1
    rw [hy] at hy0 hy1
    have gx := from_hex (x : Int) 16 0 (by omega)
    have gy := from_hex (y : Int) 16 0 (by omega)
    have ix : strings_IndexByte.f (⟨#[48, 49, 50, 51, 52, 53, 54, 55, 56, 57, 97, 98, 99, 100, 101, 102]⟩ : ByteArray) (x : Int) = some (frmH (x : Int) 16 0) := by
      unfold strings_IndexByte.f
      rw [frmH_eq x (by omega)]
    have iy : strings_IndexByte.f (⟨#[48, 49, 50, 51, 52, 53, 54, 55, 56, 57, 97, 98, 99, 100, 101, 102]⟩ : ByteArray) (y : Int) = some (frmH (y : Int) 16 0) := by
      unfold strings_IndexByte.f
      rw [frmH_eq y (by omega)]
    obtain ⟨bx0, bx1⟩ := frmH_bd x (by omega)
    obtain ⟨by0, by1⟩ := frmH_bd y (by omega)
    obtain ⟨a, ha'⟩ : ∃ a, a = frmH (x : Int) 16 0 := ⟨_, rfl⟩
    obtain ⟨b, hb'⟩ : ∃ b, b = frmH (y : Int) 16 0 := ⟨_, rfl⟩
    rw [← ha'] at gx ix bx0 bx1
    rw [← hb'] at gy iy by0 by1
    clear ha' hb'
    have key : ∃ r, Ev (fun k => if a < 0 then (some ((⟨#[]⟩ : ByteArray), false)) else (if b < 0 then (some ((⟨#[]⟩ : ByteArray), false)) else (if acc.length < 140737488355328 then (spec_DecodeHex.l0 k s (acc ++ [(wrap64 ((wrap64 (16 * a)) + b)) % 256]) (wrap64 ((i : Int) + 2))) else none))) r ∧
        Ev (fun k => if a < 0 then (some ((⟨#[]⟩ : ByteArray), false)) else (if b < 0 then (some ((⟨#[]⟩ : ByteArray), false)) else (if acc.length < 140737488355328 then (impl_DecodeHex.l0 k s (acc ++ [(Go.bits .or .i64 (wrap64 (a * 16)) b) % 256]) (wrap64 ((i : Int) + 2))) else none))) r := by
      by_cases h1 : a < 0
      · exact ⟨_, ev_pos h1 (Ev.now _), ev_pos h1 (Ev.now _)⟩
      · by_cases h2 : b < 0
        · exact ⟨_, ev_neg h1 (ev_pos h2 (Ev.now _)), ev_neg h1 (ev_pos h2 (Ev.now _))⟩
        · obtain ⟨r, g1, g2⟩ := ih (i + 2) (acc ++ [a * 16 + b]) (by omega) (by simp; omega)
          refine ⟨r, ev_neg h1 (ev_neg h2 (ev_pos (by omega) ?_)), ev_neg h1 (ev_neg h2 (ev_pos (by omega) ?_))⟩
          · rw [e2, w64 (n := 16 * a) (by omega) (by omega), w64 (n := 16 * a + b) (by omega) (by omega), show (16 * a + b) % 256 = a * 16 + b by omega]
            exact g1
          · rw [e2, or_hex a b (by omega) bx1 (by omega) by1, show (a * 16 + b) % 256 = a * 16 + b by omega]
            exact g2
    obtain ⟨r, k1, k2⟩ := key
    refine ⟨r, Ev.step (fun k => spec_DecodeHex.l0.eq_2 ..) (ev_pos (by omega) (ev_pos (by omega) ?_)), Ev.step (fun k => impl_DecodeHex.l0.eq_2 ..) (ev_pos (by omega) (ev_pos (by omega) ?_))⟩
    · rw [hx, e1, hy]
      exact Ev.bind gx (ev_pos (by omega) (ev_pos (by omega) (Ev.bind gy k1)))
    · rw [hx, e1, hy]
      exact ev_bindo ix (ev_pos (by omega) (ev_pos (by omega) (ev_bindo iy k2)))
theorem FnExactDecodeHex : laws_FnExactDecodeHex.Pure := by
  intro s _
  refine Ev.rounds (g := fun k => laws_FnExactDecodeHex.f k s) ?_
  refine ev_ite (fun _ => Ev.now _) (fun h => ?_)
  have key : ∃ r, Ev (fun k => spec_DecodeHex.f k s) r ∧ Ev (fun k => impl_DecodeHex.f k s) r := by
    unfold spec_DecodeHex.f impl_DecodeHex.f
    by_cases he : s.size % 2 = 0
    · obtain ⟨r, h1, h2⟩ := dh_loop s (by omega) he (s.size / 2) 0 [] (by omega) (by simp)
      have e : wrap64 ((s.size : Int) / 2) = (s.size : Int) / 2 := w64 (by omega) (by omega)
      rw [e]
      exact ⟨r, ev_neg (by omega) h1, ev_pos (by omega) (ev_pos (by omega) (ev_pos (by omega) h2))⟩
    · exact ⟨_, ev_pos (by omega) (Ev.now _), ev_neg (by omega) (Ev.now _)⟩
  obtain ⟨r, h1, h2⟩ := key
  exact Ev.bind h1 (Ev.bind h2 (ev_pos rfl (ev_neg (by simp) (Ev.now _))))

end Go.Proofs.Ythkmdiogaibbdaa.Pure
