-- Printed by my own myprint.py out of the translation of the seat YtacdaekigoldaaaDoor. Not trusted: Lean checks it.
import Derived.Test.YtacdaekigoldaaaDoorPFnIntegerEncodingsx0
import Derived.Test.YtacdaekigoldaaaDoorPFnIntegerEncodingsx1
import Derived.Test.YtacdaekigoldaaaDoorPFnIntegerEncodingsx2
import Derived.Test.YtacdaekigoldaaaDoorPFnIntegerEncodingsx3
import Derived.Test.YtacdaekigoldaaaDoorPFnIntegerEncodingsx4
namespace Go.Proofs.YtacdaekigoldaaaDoor.PFnIntegerEncodings
open Go.RowKit Go.Proofs.YtacdaekigoldaaaDoorW.PrintWords Go.Proofs.YtacdaekigoldaaaDoorW.PrintLast Go.Proofs.YtacdaekigoldaaaDoorW.PrintMore
attribute [local go_sem] max2_int min2_int max_two min_two max_three min_three max_four min_four   -- for this text's walks alone
set_option linter.unusedVariables false
set_option linter.unusedSimpArgs false

/-! ### laws_FnIntegerEncodings: function 3 -/
mutual
def laws_FnIntegerEncodings.j0 : Nat → List Int → ByteArray → Bool → Option (Bool)
  | 0, _, _, _ => none
  | k + 1, x0, x4, x57 => if x57 = true then (some false) else ((spec_DrawEncodeFixed.f k x0).bind fun bt244 => ((impl_EncodeFixed.f k bt244.1 bt244.2).bind fun t246 => (if t246.size + x4.size ≤ 9223372036854775807 then ((impl_DecodeFixed.f k (t246 ++ x4) bt244.2).bind fun bt247 => (if t246.toList = ([] : List UInt8) then ((spec_EncodeFixed.f k bt244.1 bt244.2).bind fun t249 => (laws_FnIntegerEncodings.j1 k x4 bt244.1 ((t246.toList != ([] : List UInt8)) != (t249.toList != ([] : List UInt8))))) else (if bt247.2 = true then (if bt247.1 = bt244.1 then (if (t246.size : Int) = bt244.2 then ((spec_EncodeFixed.f k bt244.1 bt244.2).bind fun t250 => (laws_FnIntegerEncodings.j1 k x4 bt244.1 ((t246.toList != ([] : List UInt8)) != (t250.toList != ([] : List UInt8))))) else (laws_FnIntegerEncodings.j1 k x4 bt244.1 true)) else (laws_FnIntegerEncodings.j1 k x4 bt244.1 true)) else (laws_FnIntegerEncodings.j1 k x4 bt244.1 true)))) else (none))))
def laws_FnIntegerEncodings.j1 : Nat → ByteArray → Int → Bool → Option (Bool)
  | 0, _, _, _ => none
  | k + 1, x4, x8, x99 => if x99 = true then (some false) else ((impl_EncodeHex.f k x4).bind fun t251 => ((impl_DecodeHex.f k t251).bind fun bt252 => ((impl_FormatInt.f x8).bind fun t254 => ((impl_ParseInt.f t254).bind fun bt255 => (if bt252.2 = true then (if bt252.1.toList = x4.toList then (if (t251.size : Int) = (wrap64 (2 * (x4.size : Int))) then ((spec_FormatInt.f k x8).bind fun t257 => (if t254.toList = t257.toList then (if bt255.2 = true then (if bt255.1 = x8 then (if x8 > (-1000000000) then (some (bt255.2 == (decide (x8 < 1000000000)))) else (some (bt255.2 == false))) else (some false)) else (if x8 > (-1000000000) then (some (bt255.2 == (decide (x8 < 1000000000)))) else (some (bt255.2 == false)))) else (some false))) else (some false)) else (some false)) else (some false))))))
end
def laws_FnIntegerEncodings.f (k : Nat) (l0 : List Int) : Option (Bool) := (laws_big.f l0).bind fun t238 => (if t238 = true then (some true) else ((spec_DrawEncodeVarint.f k l0).bind fun t239 => ((spec_DrawEncodeHex.f k l0).bind fun t240 => ((impl_EncodeVarint.f k t239).bind fun t241 => (if t241.size + t240.size ≤ 9223372036854775807 then ((impl_DecodeVarint.f k (t241 ++ t240)).bind fun bt242 => (if t239 ≥ 0 then (if ((t241.toList != ([] : List UInt8)) != (decide (t239 ≤ 562949953421311))) = true then (laws_FnIntegerEncodings.j0 k l0 t240 true) else (if t241.toList = ([] : List UInt8) then (laws_FnIntegerEncodings.j0 k l0 t240 false) else (if bt242.1 = t239 then (laws_FnIntegerEncodings.j0 k l0 t240 (bt242.2 != (t241.size : Int))) else (laws_FnIntegerEncodings.j0 k l0 t240 true)))) else (if ((t241.toList != ([] : List UInt8)) != false) = true then (laws_FnIntegerEncodings.j0 k l0 t240 true) else (if t241.toList = ([] : List UInt8) then (laws_FnIntegerEncodings.j0 k l0 t240 false) else (if bt242.1 = t239 then (laws_FnIntegerEncodings.j0 k l0 t240 (bt242.2 != (t241.size : Int))) else (laws_FnIntegerEncodings.j0 k l0 t240 true)))))) else (none))))))
theorem laws_FnIntegerEncodings.mono_l : ∀ k, (∀ y0 y1 y2, LeO (laws_FnIntegerEncodings.j0 k y0 y1 y2) (laws_FnIntegerEncodings.j0 (k + 1) y0 y1 y2)) ∧ (∀ y0 y1 y2, LeO (laws_FnIntegerEncodings.j1 k y0 y1 y2) (laws_FnIntegerEncodings.j1 (k + 1) y0 y1 y2))
  | 0 => ⟨fun _ _ _ r h => by simp [laws_FnIntegerEncodings.j0] at h, fun _ _ _ r h => by simp [laws_FnIntegerEncodings.j1] at h⟩
  | k + 1 => by
    obtain ⟨ih0, ih1⟩ := laws_FnIntegerEncodings.mono_l k; refine ⟨?_, ?_⟩
    · intro y0 y1 y2; unfold laws_FnIntegerEncodings.j0
      repeat' first
      | (with_reducible first | apply ih0 | apply ih1 | apply impl_DecodeFixed.mono | apply impl_DecodeHex.mono | apply impl_DecodeVarint.mono | apply impl_EncodeFixed.mono | apply impl_EncodeHex.mono | apply impl_EncodeVarint.mono | apply spec_DrawEncodeFixed.mono | apply spec_DrawEncodeHex.mono | apply spec_DrawEncodeVarint.mono | apply spec_EncodeFixed.mono | apply spec_FormatInt.mono | exact LeO.refl _ | exact LeO.none _ | refine LeO.ite ?_ ?_ | refine LeO.bind ?_ (fun _ => ?_))
    · intro y0 y1 y2; unfold laws_FnIntegerEncodings.j1
      repeat' first
      | (with_reducible first | apply ih0 | apply ih1 | apply impl_DecodeFixed.mono | apply impl_DecodeHex.mono | apply impl_DecodeVarint.mono | apply impl_EncodeFixed.mono | apply impl_EncodeHex.mono | apply impl_EncodeVarint.mono | apply spec_DrawEncodeFixed.mono | apply spec_DrawEncodeHex.mono | apply spec_DrawEncodeVarint.mono | apply spec_EncodeFixed.mono | apply spec_FormatInt.mono | exact LeO.refl _ | exact LeO.none _ | refine LeO.ite ?_ ?_ | refine LeO.bind ?_ (fun _ => ?_))
theorem laws_FnIntegerEncodings.mono : ∀ a0 k, LeO (laws_FnIntegerEncodings.f k a0) (laws_FnIntegerEncodings.f (k + 1) a0) := by
  intro a0 k; obtain ⟨ih0, ih1⟩ := laws_FnIntegerEncodings.mono_l k; unfold laws_FnIntegerEncodings.f
  repeat' first
      | (with_reducible first | apply ih0 | apply ih1 | apply impl_DecodeFixed.mono | apply impl_DecodeHex.mono | apply impl_DecodeVarint.mono | apply impl_EncodeFixed.mono | apply impl_EncodeHex.mono | apply impl_EncodeVarint.mono | apply spec_DrawEncodeFixed.mono | apply spec_DrawEncodeHex.mono | apply spec_DrawEncodeVarint.mono | apply spec_EncodeFixed.mono | apply spec_FormatInt.mono | exact LeO.refl _ | exact LeO.none _ | refine LeO.ite ?_ ?_ | refine LeO.bind ?_ (fun _ => ?_))
set_option maxHeartbeats 8000000 in
set_option maxRecDepth 100000 in
theorem laws_FnIntegerEncodings.calls (k : Nat) (A0 : Option Addr) (c0 : Nat) (l0 : List Int) (r : Bool) (w : World) (hr0 : Kd.C (Kd.int .u8) w A0 l0.length l0) (hc0 : l0.length ≤ c0) (htab : Go.Proofs.YtacdaekigoldaaaDoor.ShP.Door w) (h : laws_FnIntegerEncodings.f k l0 = some r) :
    Calls Tryd.prog 3 #[.slice A0 l0.length c0] w fun e w' => e = .returned (.bool r) ∧ Below w.heap.size w w' := by
  have HTAB := Aside0.mk htab; clear htab; have HR0 := Aside0.mk hr0; have HC0 := Aside0.mk hc0; clear hr0 hc0; have HB := Aside0.mk (Below.refl w.heap.size w); have H : ((laws_big.f l0).bind fun t238 => (if t238 = true then (some true) else ((spec_DrawEncodeVarint.f k l0).bind fun t239 => ((spec_DrawEncodeHex.f k l0).bind fun t240 => ((impl_EncodeVarint.f k t239).bind fun t241 => (if t241.size + t240.size ≤ 9223372036854775807 then ((impl_DecodeVarint.f k (t241 ++ t240)).bind fun bt242 => (if t239 ≥ 0 then (if ((t241.toList != ([] : List UInt8)) != (decide (t239 ≤ 562949953421311))) = true then (laws_FnIntegerEncodings.j0 k l0 t240 true) else (if t241.toList = ([] : List UInt8) then (laws_FnIntegerEncodings.j0 k l0 t240 false) else (if bt242.1 = t239 then (laws_FnIntegerEncodings.j0 k l0 t240 (bt242.2 != (t241.size : Int))) else (laws_FnIntegerEncodings.j0 k l0 t240 true)))) else (if ((t241.toList != ([] : List UInt8)) != false) = true then (laws_FnIntegerEncodings.j0 k l0 t240 true) else (if t241.toList = ([] : List UInt8) then (laws_FnIntegerEncodings.j0 k l0 t240 false) else (if bt242.1 = t239 then (laws_FnIntegerEncodings.j0 k l0 t240 (bt242.2 != (t241.size : Int))) else (laws_FnIntegerEncodings.j0 k l0 t240 true)))))) else (none))))))) = some r := h; clear h; replace H := Option.bind_eq_some_iff.mp H; obtain ⟨t238, A20, H⟩ := H; have A2 := Aside0.mk A20; clear A20
  by_cases c3 : t238 = true
  · subst c3; rw [if_pos rfl] at H; obtain rfl := Option.some.inj H
    go_enter Tryd.func3, Tryd.ntmps3
    go_wp2_with (first | ((with_reducible refine gate_callee (f := 6) rfl ?_); refine goesL_ (some 20) rfl rfl Tryd.func6 (by kernel_rfl) rfl #[.slice A0 l0.length c0] rfl mp_ ?_; (with_reducible refine (laws_big.calls _ _ l0 true _ ?side1 ?side2 A2.out).mono ?_); (case side1 => repeat (first | exact HR0.out | (with_reducible refine Kd.C_alloc ?_ _) | (with_reducible refine Kd.C_drewN ?_ _) | (with_reducible refine Kd.C_drew ?_))); (case side2 => exact HC0.out); rintro e w' ⟨rfl, ⟨nd, rfl⟩⟩; refine ⟨_, rfl, ?_⟩))
    go_ret; exact ⟨ew_, hq0_ HB.out⟩
  · replace c3 := Bool.eq_false_iff.mpr c3; subst c3; rw [if_neg nt_] at H; replace H := Option.bind_eq_some_iff.mp H; obtain ⟨t239, A40, H⟩ := H; have A4 := Aside0.mk A40; clear A40; replace H := Option.bind_eq_some_iff.mp H; obtain ⟨t240, A50, H⟩ := H; have A5 := Aside0.mk A50; clear A50; replace H := Option.bind_eq_some_iff.mp H; obtain ⟨t241, A60, H⟩ := H; have A6 := Aside0.mk A60; clear A60
    by_cases c7 : t241.size + t240.size ≤ 9223372036854775807
    · rw [if_pos c7] at H; have c7b0 := eq_true c7; have c7b1 : decide (t241.size + t240.size ≤ 9223372036854775807) = true := decide_eq_true c7; (try have c7b2 : (9223372036854775807 < t241.size + t240.size) = False := eq_false (Nat.not_lt.2 c7)); replace H := Option.bind_eq_some_iff.mp H; obtain ⟨⟨t242, t243⟩, A80, H⟩ := H; replace H : (if t239 ≥ 0 then (if ((t241.toList != ([] : List UInt8)) != (decide (t239 ≤ 562949953421311))) = true then (laws_FnIntegerEncodings.j0 k l0 t240 true) else (if t241.toList = ([] : List UInt8) then (laws_FnIntegerEncodings.j0 k l0 t240 false) else (if t242 = t239 then (laws_FnIntegerEncodings.j0 k l0 t240 (t243 != (t241.size : Int))) else (laws_FnIntegerEncodings.j0 k l0 t240 true)))) else (if ((t241.toList != ([] : List UInt8)) != false) = true then (laws_FnIntegerEncodings.j0 k l0 t240 true) else (if t241.toList = ([] : List UInt8) then (laws_FnIntegerEncodings.j0 k l0 t240 false) else (if t242 = t239 then (laws_FnIntegerEncodings.j0 k l0 t240 (t243 != (t241.size : Int))) else (laws_FnIntegerEncodings.j0 k l0 t240 true))))) = some r := H; have A8 := Aside0.mk A80; clear A80; have HC9 := Aside0.mk H; clear H
      go_enter Tryd.func3, Tryd.ntmps3
      go_upto_region 7 with (first | ((with_reducible refine gate_callee (f := 6) rfl ?_); refine goesL_ (some 20) rfl rfl Tryd.func6 (by kernel_rfl) rfl #[.slice A0 l0.length c0] rfl mp_ ?_; (with_reducible refine (laws_big.calls _ _ l0 false _ ?side1 ?side2 A2.out).mono ?_); (case side1 => repeat (first | exact HR0.out | (with_reducible refine Kd.C_alloc ?_ _) | (with_reducible refine Kd.C_drewN ?_ _) | (with_reducible refine Kd.C_drew ?_))); (case side2 => exact HC0.out); rintro e w' ⟨rfl, ⟨nd, rfl⟩⟩; refine ⟨_, rfl, ?_⟩) | ((with_reducible refine gate_callee (f := 7) rfl ?_); refine goesL_ (some 22) rfl rfl Tryd.func7 (by kernel_rfl) rfl #[.slice A0 l0.length c0] rfl mp_ ?_; (with_reducible refine (spec_DrawEncodeVarint.calls k _ _ l0 t239 _ ?side1 ?side2 A4.out).mono ?_); (case side1 => repeat (first | exact HR0.out | (with_reducible refine Kd.C_alloc ?_ _) | (with_reducible refine Kd.C_drewN ?_ _) | (with_reducible refine Kd.C_drew ?_))); (case side2 => exact HC0.out); rintro e w10 ⟨rfl, hb⟩; refine ⟨_, rfl, ?_⟩; have n0_ := Aside0.mk (below_step (hq0_ HB.out) hb); clear HB; have HB := n0_; clear n0_; (try clear hb); (try clear hb2); (try clear hk); (try clear hi)) | ((with_reducible refine gate_callee (f := 8) rfl ?_); refine goesL_ (some 24) rfl rfl Tryd.func8 (by kernel_rfl) rfl #[.slice A0 l0.length c0] rfl mp_ ?_; (with_reducible refine (spec_DrawEncodeHex.calls k _ _ l0 t240 _ ?side1 ?side2 A5.out).mono ?_); (case side1 => exact cq_ HR0.out HB.out); (case side2 => exact HC0.out); rintro e w11 ⟨rfl, hb⟩; refine ⟨_, rfl, ?_⟩; have n0_ := Aside0.mk (below_step (hq0_ HB.out) hb); clear HB; have HB := n0_; clear n0_; (try clear hb); (try clear hb2); (try clear hk); (try clear hi)) | ((with_reducible refine gate_callee (f := 9) rfl ?_); refine goesL_ (some 26) rfl rfl Tryd.func9 (by kernel_rfl) rfl #[.int .i64 t239] rfl mp_ ?_; (with_reducible refine (impl_EncodeVarint.calls k t239 t241 _ A6.out).mono ?_); rintro e w12 ⟨rfl, hb⟩; refine ⟨_, rfl, ?_⟩; have n0_ := Aside0.mk (below_step (hq0_ HB.out) hb); clear HB; have HB := n0_; clear n0_; (try clear hb); (try clear hb2); (try clear hk); (try clear hi)) | ((with_reducible refine gate_callee (f := 10) rfl ?_); refine goesL_ (some 31) rfl rfl Tryd.func10 (by kernel_rfl) rfl #[.string (t241 ++ t240)] rfl mp_ ?_; (with_reducible refine (impl_DecodeVarint.calls k (t241 ++ t240) t242 t243 _ A8.out).mono ?_); rintro e w' ⟨rfl, ⟨nd, rfl⟩⟩; refine ⟨_, rfl, ?_⟩))
      (try simp only [Act.put, List.setIfInBounds_toArray, List.set_cons_zero, List.set_cons_succ])
      go_cut [57] (fun v57 wc => ∃ (kq : Nat) (x57_8 : Bool), v57 = .bool x57_8 ∧ Aside0 (laws_FnIntegerEncodings.j0 kq l0 t240 x57_8 = some r) ∧ Aside0 (kq ≤ k) ∧ Aside0 (Below w.heap.size w wc))
      case first =>
        have H := HC9.out; clear HC9
        by_cases c13 : t239 ≥ 0
        · rw [if_pos c13] at H; have c13b0 : decide (0 ≤ t239) = true := decide_eq_true c13; clear c13; (first | rw [c13b0] | (simp only [i64_w, i32_w]; rw [c13b0]) | skip)
          by_cases c14 : ((t241.toList != ([] : List UInt8)) != (decide (t239 ≤ 562949953421311))) = true
          · rw [if_pos c14] at H; have c14b0 : ((t241.toList != ([] : List UInt8)) != (decide (t239 ≤ 562949953421311))) = true := c14; (try (have c14b1 : decide ((t241.toList != ([] : List UInt8)) = (decide (t239 ≤ 562949953421311))) = false := by simpa using c14)); (try (have c14b2 : ((t241.toList != ([] : List UInt8)) == (decide (t239 ≤ 562949953421311))) = false := by simpa using c14)); (try (have c14b3 : ¬ ((t241.toList != ([] : List UInt8)) = (decide (t239 ≤ 562949953421311))) := by simpa using c14)); clear c14; have H' := Aside0.mk H; clear H
            by_cases z1_ : t241.toList = ([] : List UInt8)
            · have z1a_ : (t241.toList == ([] : List UInt8)) = true := beq_iff_eq.mpr z1_; have z1b_ : (t241.toList != ([] : List UInt8)) = false := bne_eq_false_iff_eq.mpr z1_
              by_cases z2_ : t239 ≤ 562949953421311
              · have z2b_ : decide (t239 ≤ 562949953421311) = true := decide_eq_true z2_
                first
                | (exfalso; revert c14b0; rw [z1b_, z2b_]; decide)
                | (go_wp2
                   go_meet
                   case rel => exact ⟨_, (true), rs_, H', ⟨by first | omega | exact Nat.le_refl _⟩, ⟨hq0_ HB.out⟩⟩)
              · have z2b_ : decide (t239 ≤ 562949953421311) = false := decide_eq_false z2_
                first
                | (exfalso; revert c14b0; rw [z1b_, z2b_]; decide)
                | (go_wp2
                   go_meet
                   case rel => exact ⟨_, (true), rs_, H', ⟨by first | omega | exact Nat.le_refl _⟩, ⟨hq0_ HB.out⟩⟩)
            · have z1a_ : (t241.toList == ([] : List UInt8)) = false := beq_eq_false_iff_ne.mpr z1_; have z1b_ : (t241.toList != ([] : List UInt8)) = true := bne_iff_ne.mpr z1_
              by_cases z2_ : t239 ≤ 562949953421311
              · have z2b_ : decide (t239 ≤ 562949953421311) = true := decide_eq_true z2_
                first
                | (exfalso; revert c14b0; rw [z1b_, z2b_]; decide)
                | (go_wp2
                   go_meet
                   case rel => exact ⟨_, (true), rs_, H', ⟨by first | omega | exact Nat.le_refl _⟩, ⟨hq0_ HB.out⟩⟩)
              · have z2b_ : decide (t239 ≤ 562949953421311) = false := decide_eq_false z2_
                first
                | (exfalso; revert c14b0; rw [z1b_, z2b_]; decide)
                | (go_wp2
                   go_meet
                   case rel => exact ⟨_, (true), rs_, H', ⟨by first | omega | exact Nat.le_refl _⟩, ⟨hq0_ HB.out⟩⟩)
          · rw [if_neg c14] at H; (have c14b0 : ((t241.toList != ([] : List UInt8)) != (decide (t239 ≤ 562949953421311))) = false := by simpa using c14); (try (have c14b1 : decide ((t241.toList != ([] : List UInt8)) = (decide (t239 ≤ 562949953421311))) = true := by simpa using c14)); (try (have c14b2 : ((t241.toList != ([] : List UInt8)) == (decide (t239 ≤ 562949953421311))) = true := by simpa using c14)); clear c14
            by_cases c15 : t241.toList = ([] : List UInt8)
            · rw [if_pos c15] at H; have c15b0 : (t241.toList == ([] : List UInt8)) = true := beq_iff_eq.mpr c15; have c15b1 : (t241.toList != ([] : List UInt8)) = false := bne_eq_false_iff_eq.mpr c15; clear c15; have H' := Aside0.mk H; clear H
              by_cases z1_ : t241.toList = ([] : List UInt8)
              · have z1a_ : (t241.toList == ([] : List UInt8)) = true := beq_iff_eq.mpr z1_; have z1b_ : (t241.toList != ([] : List UInt8)) = false := bne_eq_false_iff_eq.mpr z1_
                by_cases z2_ : t239 ≤ 562949953421311
                · have z2b_ : decide (t239 ≤ 562949953421311) = true := decide_eq_true z2_
                  first
                  | (exfalso; revert c14b0; rw [z1b_, z2b_]; decide)
                  | exact absurd (c15b1.symm.trans z1b_) (by decide)
                  | (go_wp2
                     go_meet
                     case rel => exact ⟨_, (false), rs_, H', ⟨by first | omega | exact Nat.le_refl _⟩, ⟨hq0_ HB.out⟩⟩)
                · have z2b_ : decide (t239 ≤ 562949953421311) = false := decide_eq_false z2_
                  first
                  | (exfalso; revert c14b0; rw [z1b_, z2b_]; decide)
                  | exact absurd (c15b1.symm.trans z1b_) (by decide)
                  | (go_wp2
                     go_meet
                     case rel => exact ⟨_, (false), rs_, H', ⟨by first | omega | exact Nat.le_refl _⟩, ⟨hq0_ HB.out⟩⟩)
              · have z1a_ : (t241.toList == ([] : List UInt8)) = false := beq_eq_false_iff_ne.mpr z1_; have z1b_ : (t241.toList != ([] : List UInt8)) = true := bne_iff_ne.mpr z1_
                by_cases z2_ : t239 ≤ 562949953421311
                · have z2b_ : decide (t239 ≤ 562949953421311) = true := decide_eq_true z2_
                  first
                  | (exfalso; revert c14b0; rw [z1b_, z2b_]; decide)
                  | exact absurd (c15b1.symm.trans z1b_) (by decide)
                  | (go_wp2
                     go_meet
                     case rel => exact ⟨_, (false), rs_, H', ⟨by first | omega | exact Nat.le_refl _⟩, ⟨hq0_ HB.out⟩⟩)
                · have z2b_ : decide (t239 ≤ 562949953421311) = false := decide_eq_false z2_
                  first
                  | (exfalso; revert c14b0; rw [z1b_, z2b_]; decide)
                  | exact absurd (c15b1.symm.trans z1b_) (by decide)
                  | (go_wp2
                     go_meet
                     case rel => exact ⟨_, (false), rs_, H', ⟨by first | omega | exact Nat.le_refl _⟩, ⟨hq0_ HB.out⟩⟩)
            · rw [if_neg c15] at H; have c15b0 : (t241.toList == ([] : List UInt8)) = false := beq_eq_false_iff_ne.mpr c15; have c15b1 : (t241.toList != ([] : List UInt8)) = true := bne_iff_ne.mpr c15
              by_cases c16 : t242 = t239
              · rw [if_pos c16] at H; have c16b0 : (t242 == t239) = true := beq_iff_eq.mpr c16; have c16b1 : (t242 != t239) = false := bne_eq_false_iff_eq.mpr c16; clear c16; have H' := Aside0.mk H; clear H
                by_cases z1_ : t241.toList = ([] : List UInt8)
                · have z1a_ : (t241.toList == ([] : List UInt8)) = true := beq_iff_eq.mpr z1_; have z1b_ : (t241.toList != ([] : List UInt8)) = false := bne_eq_false_iff_eq.mpr z1_
                  by_cases z2_ : t239 ≤ 562949953421311
                  · have z2b_ : decide (t239 ≤ 562949953421311) = true := decide_eq_true z2_
                    first
                    | (exfalso; revert c14b0; rw [z1b_, z2b_]; decide)
                    | exact absurd (c15b1.symm.trans z1b_) (by decide)
                    | (go_wp2
                       go_meet
                       case rel => exact ⟨_, ((t243 != (t241.size : Int))), rs_, H', ⟨by first | omega | exact Nat.le_refl _⟩, ⟨hq0_ HB.out⟩⟩)
                  · have z2b_ : decide (t239 ≤ 562949953421311) = false := decide_eq_false z2_
                    first
                    | (exfalso; revert c14b0; rw [z1b_, z2b_]; decide)
                    | exact absurd (c15b1.symm.trans z1b_) (by decide)
                    | (go_wp2
                       go_meet
                       case rel => exact ⟨_, ((t243 != (t241.size : Int))), rs_, H', ⟨by first | omega | exact Nat.le_refl _⟩, ⟨hq0_ HB.out⟩⟩)
                · have z1a_ : (t241.toList == ([] : List UInt8)) = false := beq_eq_false_iff_ne.mpr z1_; have z1b_ : (t241.toList != ([] : List UInt8)) = true := bne_iff_ne.mpr z1_
                  by_cases z2_ : t239 ≤ 562949953421311
                  · have z2b_ : decide (t239 ≤ 562949953421311) = true := decide_eq_true z2_
                    first
                    | (exfalso; revert c14b0; rw [z1b_, z2b_]; decide)
                    | exact absurd (c15b1.symm.trans z1b_) (by decide)
                    | (go_wp2
                       go_meet
                       case rel => exact ⟨_, ((t243 != (t241.size : Int))), rs_, H', ⟨by first | omega | exact Nat.le_refl _⟩, ⟨hq0_ HB.out⟩⟩)
                  · have z2b_ : decide (t239 ≤ 562949953421311) = false := decide_eq_false z2_
                    first
                    | (exfalso; revert c14b0; rw [z1b_, z2b_]; decide)
                    | exact absurd (c15b1.symm.trans z1b_) (by decide)
                    | (go_wp2
                       go_meet
                       case rel => exact ⟨_, ((t243 != (t241.size : Int))), rs_, H', ⟨by first | omega | exact Nat.le_refl _⟩, ⟨hq0_ HB.out⟩⟩)
              · rw [if_neg c16] at H; have c16b0 : (t242 == t239) = false := beq_eq_false_iff_ne.mpr c16; have c16b1 : (t242 != t239) = true := bne_iff_ne.mpr c16; have H' := Aside0.mk H; clear H
                by_cases z1_ : t241.toList = ([] : List UInt8)
                · have z1a_ : (t241.toList == ([] : List UInt8)) = true := beq_iff_eq.mpr z1_; have z1b_ : (t241.toList != ([] : List UInt8)) = false := bne_eq_false_iff_eq.mpr z1_
                  by_cases z2_ : t239 ≤ 562949953421311
                  · have z2b_ : decide (t239 ≤ 562949953421311) = true := decide_eq_true z2_
                    first
                    | (exfalso; revert c14b0; rw [z1b_, z2b_]; decide)
                    | exact absurd (c15b1.symm.trans z1b_) (by decide)
                    | (go_wp2
                       go_meet
                       case rel => exact ⟨_, (true), rs_, H', ⟨by first | omega | exact Nat.le_refl _⟩, ⟨hq0_ HB.out⟩⟩)
                  · have z2b_ : decide (t239 ≤ 562949953421311) = false := decide_eq_false z2_
                    first
                    | (exfalso; revert c14b0; rw [z1b_, z2b_]; decide)
                    | exact absurd (c15b1.symm.trans z1b_) (by decide)
                    | (go_wp2
                       go_meet
                       case rel => exact ⟨_, (true), rs_, H', ⟨by first | omega | exact Nat.le_refl _⟩, ⟨hq0_ HB.out⟩⟩)
                · have z1a_ : (t241.toList == ([] : List UInt8)) = false := beq_eq_false_iff_ne.mpr z1_; have z1b_ : (t241.toList != ([] : List UInt8)) = true := bne_iff_ne.mpr z1_
                  by_cases z2_ : t239 ≤ 562949953421311
                  · have z2b_ : decide (t239 ≤ 562949953421311) = true := decide_eq_true z2_
                    first
                    | (exfalso; revert c14b0; rw [z1b_, z2b_]; decide)
                    | exact absurd (c15b1.symm.trans z1b_) (by decide)
                    | (go_wp2
                       go_meet
                       case rel => exact ⟨_, (true), rs_, H', ⟨by first | omega | exact Nat.le_refl _⟩, ⟨hq0_ HB.out⟩⟩)
                  · have z2b_ : decide (t239 ≤ 562949953421311) = false := decide_eq_false z2_
                    first
                    | (exfalso; revert c14b0; rw [z1b_, z2b_]; decide)
                    | exact absurd (c15b1.symm.trans z1b_) (by decide)
                    | (go_wp2
                       go_meet
                       case rel => exact ⟨_, (true), rs_, H', ⟨by first | omega | exact Nat.le_refl _⟩, ⟨hq0_ HB.out⟩⟩)
        · rw [if_neg c13] at H; have c13b0 : decide (0 ≤ t239) = false := decide_eq_false c13; clear c13; (first | rw [c13b0] | (simp only [i64_w, i32_w]; rw [c13b0]) | skip)
          by_cases c17 : ((t241.toList != ([] : List UInt8)) != false) = true
          · rw [if_pos c17] at H; have c17b0 : ((t241.toList != ([] : List UInt8)) != false) = true := c17; (try (have c17b1 : decide ((t241.toList != ([] : List UInt8)) = false) = false := by simpa using c17)); (try (have c17b2 : ((t241.toList != ([] : List UInt8)) == false) = false := by simpa using c17)); (try (have c17b3 : ¬ ((t241.toList != ([] : List UInt8)) = false) := by simpa using c17)); clear c17; have H' := Aside0.mk H; clear H
            by_cases z1_ : t241.toList = ([] : List UInt8)
            · have z1a_ : (t241.toList == ([] : List UInt8)) = true := beq_iff_eq.mpr z1_; have z1b_ : (t241.toList != ([] : List UInt8)) = false := bne_eq_false_iff_eq.mpr z1_
              first
              | (exfalso; revert c17b0; rw [z1b_]; decide)
              | (go_wp2
                 go_meet
                 case rel => exact ⟨_, (true), rs_, H', ⟨by first | omega | exact Nat.le_refl _⟩, ⟨hq0_ HB.out⟩⟩)
            · have z1a_ : (t241.toList == ([] : List UInt8)) = false := beq_eq_false_iff_ne.mpr z1_; have z1b_ : (t241.toList != ([] : List UInt8)) = true := bne_iff_ne.mpr z1_
              first
              | (exfalso; revert c17b0; rw [z1b_]; decide)
              | (go_wp2
                 go_meet
                 case rel => exact ⟨_, (true), rs_, H', ⟨by first | omega | exact Nat.le_refl _⟩, ⟨hq0_ HB.out⟩⟩)
          · rw [if_neg c17] at H; (have c17b0 : ((t241.toList != ([] : List UInt8)) != false) = false := by simpa using c17); (try (have c17b1 : decide ((t241.toList != ([] : List UInt8)) = false) = true := by simpa using c17)); (try (have c17b2 : ((t241.toList != ([] : List UInt8)) == false) = true := by simpa using c17)); clear c17
            by_cases c18 : t241.toList = ([] : List UInt8)
            · rw [if_pos c18] at H; have c18b0 : (t241.toList == ([] : List UInt8)) = true := beq_iff_eq.mpr c18; have c18b1 : (t241.toList != ([] : List UInt8)) = false := bne_eq_false_iff_eq.mpr c18; clear c18; have H' := Aside0.mk H; clear H
              by_cases z1_ : t241.toList = ([] : List UInt8)
              · have z1a_ : (t241.toList == ([] : List UInt8)) = true := beq_iff_eq.mpr z1_; have z1b_ : (t241.toList != ([] : List UInt8)) = false := bne_eq_false_iff_eq.mpr z1_
                first
                | (exfalso; revert c17b0; rw [z1b_]; decide)
                | exact absurd (c18b1.symm.trans z1b_) (by decide)
                | (go_wp2
                   go_meet
                   case rel => exact ⟨_, (false), rs_, H', ⟨by first | omega | exact Nat.le_refl _⟩, ⟨hq0_ HB.out⟩⟩)
              · have z1a_ : (t241.toList == ([] : List UInt8)) = false := beq_eq_false_iff_ne.mpr z1_; have z1b_ : (t241.toList != ([] : List UInt8)) = true := bne_iff_ne.mpr z1_
                first
                | (exfalso; revert c17b0; rw [z1b_]; decide)
                | exact absurd (c18b1.symm.trans z1b_) (by decide)
                | (go_wp2
                   go_meet
                   case rel => exact ⟨_, (false), rs_, H', ⟨by first | omega | exact Nat.le_refl _⟩, ⟨hq0_ HB.out⟩⟩)
            · rw [if_neg c18] at H; have c18b0 : (t241.toList == ([] : List UInt8)) = false := beq_eq_false_iff_ne.mpr c18; have c18b1 : (t241.toList != ([] : List UInt8)) = true := bne_iff_ne.mpr c18
              by_cases c19 : t242 = t239
              · rw [if_pos c19] at H; have c19b0 : (t242 == t239) = true := beq_iff_eq.mpr c19; have c19b1 : (t242 != t239) = false := bne_eq_false_iff_eq.mpr c19; clear c19; have H' := Aside0.mk H; clear H
                by_cases z1_ : t241.toList = ([] : List UInt8)
                · have z1a_ : (t241.toList == ([] : List UInt8)) = true := beq_iff_eq.mpr z1_; have z1b_ : (t241.toList != ([] : List UInt8)) = false := bne_eq_false_iff_eq.mpr z1_
                  first
                  | (exfalso; revert c17b0; rw [z1b_]; decide)
                  | exact absurd (c18b1.symm.trans z1b_) (by decide)
                  | (go_wp2
                     go_meet
                     case rel => exact ⟨_, ((t243 != (t241.size : Int))), rs_, H', ⟨by first | omega | exact Nat.le_refl _⟩, ⟨hq0_ HB.out⟩⟩)
                · have z1a_ : (t241.toList == ([] : List UInt8)) = false := beq_eq_false_iff_ne.mpr z1_; have z1b_ : (t241.toList != ([] : List UInt8)) = true := bne_iff_ne.mpr z1_
                  first
                  | (exfalso; revert c17b0; rw [z1b_]; decide)
                  | exact absurd (c18b1.symm.trans z1b_) (by decide)
                  | (go_wp2
                     go_meet
                     case rel => exact ⟨_, ((t243 != (t241.size : Int))), rs_, H', ⟨by first | omega | exact Nat.le_refl _⟩, ⟨hq0_ HB.out⟩⟩)
              · rw [if_neg c19] at H; have c19b0 : (t242 == t239) = false := beq_eq_false_iff_ne.mpr c19; have c19b1 : (t242 != t239) = true := bne_iff_ne.mpr c19; have H' := Aside0.mk H; clear H
                by_cases z1_ : t241.toList = ([] : List UInt8)
                · have z1a_ : (t241.toList == ([] : List UInt8)) = true := beq_iff_eq.mpr z1_; have z1b_ : (t241.toList != ([] : List UInt8)) = false := bne_eq_false_iff_eq.mpr z1_
                  first
                  | (exfalso; revert c17b0; rw [z1b_]; decide)
                  | exact absurd (c18b1.symm.trans z1b_) (by decide)
                  | (go_wp2
                     go_meet
                     case rel => exact ⟨_, (true), rs_, H', ⟨by first | omega | exact Nat.le_refl _⟩, ⟨hq0_ HB.out⟩⟩)
                · have z1a_ : (t241.toList == ([] : List UInt8)) = false := beq_eq_false_iff_ne.mpr z1_; have z1b_ : (t241.toList != ([] : List UInt8)) = true := bne_iff_ne.mpr z1_
                  first
                  | (exfalso; revert c17b0; rw [z1b_]; decide)
                  | exact absurd (c18b1.symm.trans z1b_) (by decide)
                  | (go_wp2
                     go_meet
                     case rel => exact ⟨_, (true), rs_, H', ⟨by first | omega | exact Nat.le_refl _⟩, ⟨hq0_ HB.out⟩⟩)
      case rest =>
        clear HC9; (try clear c1); (try clear p2); (try clear c3); (try clear c6); (try clear c7); (try clear c7b0); (try clear c7b1); (try clear c7b2); (try clear c8); (try clear c9); (try clear c10); (try clear c13); (try clear c13b0); (try clear c14); (try clear c14b0); (try clear c14b1); (try clear c14b2); (try clear c15); (try clear c15b0); (try clear c15b1); (try clear c16); (try clear c16b0); (try clear c16b1); (try clear c17); (try clear c17b0); (try clear c17b1); (try clear c17b2); (try clear c18); (try clear c18b0); (try clear c18b1); (try clear c19); (try clear c19b0); (try clear c19b1); obtain ⟨kq, x57_8, rfl, HA, HJ8, HB⟩ := hcut
        cases kq with
        | zero => exact absurd HA.out (by simp [laws_FnIntegerEncodings.j0])
        | succ kj8 =>
          have H := HA.out; clear HA; simp only [laws_FnIntegerEncodings.j0] at H
          by_cases c20 : x57_8 = true
          · subst c20; rw [if_pos rfl] at H; obtain rfl := Option.some.inj H
            go_wp2
            go_ret; exact ⟨ew_, hq0_ HB.out⟩
          · replace c20 := Bool.eq_false_iff.mpr c20; subst c20; rw [if_neg nt_] at H; replace H := Option.bind_eq_some_iff.mp H; obtain ⟨⟨t244, t245⟩, A210, H⟩ := H; replace H : ((impl_EncodeFixed.f kj8 t244 t245).bind fun t246 => (if t246.size + t240.size ≤ 9223372036854775807 then ((impl_DecodeFixed.f kj8 (t246 ++ t240) t245).bind fun bt247 => (if t246.toList = ([] : List UInt8) then ((spec_EncodeFixed.f kj8 t244 t245).bind fun t249 => (laws_FnIntegerEncodings.j1 kj8 t240 t244 ((t246.toList != ([] : List UInt8)) != (t249.toList != ([] : List UInt8))))) else (if bt247.2 = true then (if bt247.1 = t244 then (if (t246.size : Int) = t245 then ((spec_EncodeFixed.f kj8 t244 t245).bind fun t250 => (laws_FnIntegerEncodings.j1 kj8 t240 t244 ((t246.toList != ([] : List UInt8)) != (t250.toList != ([] : List UInt8))))) else (laws_FnIntegerEncodings.j1 kj8 t240 t244 true)) else (laws_FnIntegerEncodings.j1 kj8 t240 t244 true)) else (laws_FnIntegerEncodings.j1 kj8 t240 t244 true)))) else (none))) = some r := H; have A21 := Aside0.mk A210; clear A210; replace H := Option.bind_eq_some_iff.mp H; obtain ⟨t246, A220, H⟩ := H; have A22 := Aside0.mk A220; clear A220
            by_cases c23 : t246.size + t240.size ≤ 9223372036854775807
            · rw [if_pos c23] at H; have c23b0 := eq_true c23; have c23b1 : decide (t246.size + t240.size ≤ 9223372036854775807) = true := decide_eq_true c23; (try have c23b2 : (9223372036854775807 < t246.size + t240.size) = False := eq_false (Nat.not_lt.2 c23)); replace H := Option.bind_eq_some_iff.mp H; obtain ⟨⟨t247, t248⟩, A240, H⟩ := H; replace H : (if t246.toList = ([] : List UInt8) then ((spec_EncodeFixed.f kj8 t244 t245).bind fun t249 => (laws_FnIntegerEncodings.j1 kj8 t240 t244 ((t246.toList != ([] : List UInt8)) != (t249.toList != ([] : List UInt8))))) else (if t248 = true then (if t247 = t244 then (if (t246.size : Int) = t245 then ((spec_EncodeFixed.f kj8 t244 t245).bind fun t250 => (laws_FnIntegerEncodings.j1 kj8 t240 t244 ((t246.toList != ([] : List UInt8)) != (t250.toList != ([] : List UInt8))))) else (laws_FnIntegerEncodings.j1 kj8 t240 t244 true)) else (laws_FnIntegerEncodings.j1 kj8 t240 t244 true)) else (laws_FnIntegerEncodings.j1 kj8 t240 t244 true))) = some r := H; have A24 := Aside0.mk A240; clear A240; have HC25 := Aside0.mk H; clear H
              go_upto_region 12 with (first | ((with_reducible refine gate_callee (f := 11) rfl ?_); refine goesL_ (some 60) rfl rfl Tryd.func11 (by kernel_rfl) rfl #[.slice A0 l0.length c0] rfl mp_ ?_; (with_reducible refine (spec_DrawEncodeFixed.calls kj8 _ _ l0 t244 t245 _ ?side1 ?side2 A21.out).mono ?_); (case side1 => exact cq_ HR0.out HB.out); (case side2 => exact HC0.out); rintro e w26 ⟨rfl, hb⟩; refine ⟨_, rfl, ?_⟩; have n0_ := Aside0.mk (below_step (hq0_ HB.out) hb); clear HB; have HB := n0_; clear n0_; (try clear hb); (try clear hb2); (try clear hk); (try clear hi)) | ((with_reducible refine gate_callee (f := 12) rfl ?_); refine goesL_ (some 65) rfl rfl Tryd.func12 (by kernel_rfl) rfl #[.int .i64 t244, .int .i64 t245] rfl mp_ ?_; (with_reducible refine (impl_EncodeFixed.calls kj8 t244 t245 t246 _ A22.out).mono ?_); rintro e w27 ⟨rfl, hb⟩; refine ⟨_, rfl, ?_⟩; have n0_ := Aside0.mk (below_step (hq0_ HB.out) hb); clear HB; have HB := n0_; clear n0_; (try clear hb); (try clear hb2); (try clear hk); (try clear hi)) | ((with_reducible refine gate_callee (f := 13) rfl ?_); refine goesL_ (some 71) rfl rfl Tryd.func13 (by kernel_rfl) rfl #[.string (t246 ++ t240), .int .i64 t245] rfl mp_ ?_; (with_reducible refine (impl_DecodeFixed.calls kj8 (t246 ++ t240) t245 t247 t248 _ A24.out).mono ?_); rintro e w' ⟨rfl, ⟨nd, rfl⟩⟩; refine ⟨_, rfl, ?_⟩))
              (try simp only [Act.put, List.setIfInBounds_toArray, List.set_cons_zero, List.set_cons_succ])
              go_cut [99] (fun v99 wc => ∃ (kq : Nat) (x99_24 : Bool), v99 = .bool x99_24 ∧ Aside0 (laws_FnIntegerEncodings.j1 kq t240 t244 x99_24 = some r) ∧ Aside0 (kq ≤ kj8) ∧ Aside0 (Below w.heap.size w wc))
              case first =>
                have H := HC25.out; clear HC25
                by_cases c28 : t246.toList = ([] : List UInt8)
                · rw [if_pos c28] at H; have c28b0 : (t246.toList == ([] : List UInt8)) = true := beq_iff_eq.mpr c28; have c28b1 : (t246.toList != ([] : List UInt8)) = false := bne_eq_false_iff_eq.mpr c28; clear c28; (first | rw [c28b0] | (simp only [i64_w, i32_w]; rw [c28b0]) | skip); replace H := Option.bind_eq_some_iff.mp H; obtain ⟨t249, A290, H⟩ := H; have A29 := Aside0.mk A290; clear A290
                  by_cases z1_ : t249.toList = ([] : List UInt8)
                  · have z1a_ : (t249.toList == ([] : List UInt8)) = true := beq_iff_eq.mpr z1_; have z1b_ : (t249.toList != ([] : List UInt8)) = false := bne_eq_false_iff_eq.mpr z1_; rw [c28b1, z1b_] at H; have H' := Aside0.mk H; clear H
                    go_wp2_with (first | (go_at_call 14; (with_reducible refine (spec_EncodeFixed.calls kj8 t244 t245 t249 _ A29.out).mono ?_); rintro e w30 ⟨rfl, hb⟩; have n0_ := Aside0.mk (below_step (hq0_ HB.out) hb); clear HB; have HB := n0_; clear n0_; (try clear hb); (try clear hb2); (try clear hk); (try clear hi)))
                    go_meet
                    case rel => exact ⟨_, (false != false), rs_, H', ⟨by have := HJ8.out; first | omega | exact Nat.le_refl _⟩, ⟨hq0_ HB.out⟩⟩
                  · have z1a_ : (t249.toList == ([] : List UInt8)) = false := beq_eq_false_iff_ne.mpr z1_; have z1b_ : (t249.toList != ([] : List UInt8)) = true := bne_iff_ne.mpr z1_; rw [c28b1, z1b_] at H; have H' := Aside0.mk H; clear H
                    go_wp2_with (first | (go_at_call 14; (with_reducible refine (spec_EncodeFixed.calls kj8 t244 t245 t249 _ A29.out).mono ?_); rintro e w30 ⟨rfl, hb⟩; have n0_ := Aside0.mk (below_step (hq0_ HB.out) hb); clear HB; have HB := n0_; clear n0_; (try clear hb); (try clear hb2); (try clear hk); (try clear hi)))
                    go_meet
                    case rel => exact ⟨_, (false != true), rs_, H', ⟨by have := HJ8.out; first | omega | exact Nat.le_refl _⟩, ⟨hq0_ HB.out⟩⟩
                · rw [if_neg c28] at H; have c28b0 : (t246.toList == ([] : List UInt8)) = false := beq_eq_false_iff_ne.mpr c28; have c28b1 : (t246.toList != ([] : List UInt8)) = true := bne_iff_ne.mpr c28; (first | rw [c28b0] | (simp only [i64_w, i32_w]; rw [c28b0]) | skip)
                  by_cases c31 : t248 = true
                  · subst c31; rw [if_pos rfl] at H
                    by_cases c32 : t247 = t244
                    · rw [if_pos c32] at H; have c32b0 : (t247 == t244) = true := beq_iff_eq.mpr c32; have c32b1 : (t247 != t244) = false := bne_eq_false_iff_eq.mpr c32; clear c32
                      by_cases c33 : (t246.size : Int) = t245
                      · rw [if_pos c33] at H; have c33b0 : ((t246.size : Int) == t245) = true := beq_iff_eq.mpr c33; have c33b1 : ((t246.size : Int) != t245) = false := bne_eq_false_iff_eq.mpr c33; clear c33; replace H := Option.bind_eq_some_iff.mp H; obtain ⟨t250, A340, H⟩ := H; have A34 := Aside0.mk A340; clear A340
                        by_cases z1_ : t250.toList = ([] : List UInt8)
                        · have z1a_ : (t250.toList == ([] : List UInt8)) = true := beq_iff_eq.mpr z1_; have z1b_ : (t250.toList != ([] : List UInt8)) = false := bne_eq_false_iff_eq.mpr z1_; rw [c28b1, z1b_] at H; have H' := Aside0.mk H; clear H
                          go_wp2_with (first | (go_at_call 14; (with_reducible refine (spec_EncodeFixed.calls kj8 t244 t245 t250 _ A34.out).mono ?_); rintro e w35 ⟨rfl, hb⟩; have n0_ := Aside0.mk (below_step (hq0_ HB.out) hb); clear HB; have HB := n0_; clear n0_; (try clear hb); (try clear hb2); (try clear hk); (try clear hi)))
                          go_meet
                          case rel => exact ⟨_, (true != false), rs_, H', ⟨by have := HJ8.out; first | omega | exact Nat.le_refl _⟩, ⟨hq0_ HB.out⟩⟩
                        · have z1a_ : (t250.toList == ([] : List UInt8)) = false := beq_eq_false_iff_ne.mpr z1_; have z1b_ : (t250.toList != ([] : List UInt8)) = true := bne_iff_ne.mpr z1_; rw [c28b1, z1b_] at H; have H' := Aside0.mk H; clear H
                          go_wp2_with (first | (go_at_call 14; (with_reducible refine (spec_EncodeFixed.calls kj8 t244 t245 t250 _ A34.out).mono ?_); rintro e w35 ⟨rfl, hb⟩; have n0_ := Aside0.mk (below_step (hq0_ HB.out) hb); clear HB; have HB := n0_; clear n0_; (try clear hb); (try clear hb2); (try clear hk); (try clear hi)))
                          go_meet
                          case rel => exact ⟨_, (true != true), rs_, H', ⟨by have := HJ8.out; first | omega | exact Nat.le_refl _⟩, ⟨hq0_ HB.out⟩⟩
                      · rw [if_neg c33] at H; have c33b0 : ((t246.size : Int) == t245) = false := beq_eq_false_iff_ne.mpr c33; have c33b1 : ((t246.size : Int) != t245) = true := bne_iff_ne.mpr c33; have H' := Aside0.mk H; clear H
                        go_wp2
                        go_meet
                        case rel => exact ⟨_, (true), rs_, H', ⟨by have := HJ8.out; first | omega | exact Nat.le_refl _⟩, ⟨hq0_ HB.out⟩⟩
                    · rw [if_neg c32] at H; have c32b0 : (t247 == t244) = false := beq_eq_false_iff_ne.mpr c32; have c32b1 : (t247 != t244) = true := bne_iff_ne.mpr c32; have H' := Aside0.mk H; clear H
                      go_wp2
                      go_meet
                      case rel => exact ⟨_, (true), rs_, H', ⟨by have := HJ8.out; first | omega | exact Nat.le_refl _⟩, ⟨hq0_ HB.out⟩⟩
                  · replace c31 := Bool.eq_false_iff.mpr c31; subst c31; rw [if_neg nt_] at H; have H' := Aside0.mk H; clear H
                    go_wp2
                    go_meet
                    case rel => exact ⟨_, (true), rs_, H', ⟨by have := HJ8.out; first | omega | exact Nat.le_refl _⟩, ⟨hq0_ HB.out⟩⟩
              case rest =>
                clear HC25; (try clear c1); (try clear c2); (try clear p2); (try clear c3); (try clear c6); (try clear c7); (try clear c7b0); (try clear c7b1); (try clear c7b2); (try clear c8); (try clear c9); (try clear c10); (try clear c11); (try clear c12); (try clear c13); (try clear c13b0); (try clear c14); (try clear c14b0); (try clear c14b1); (try clear c14b2); (try clear c15); (try clear c15b0); (try clear c15b1); (try clear c16); (try clear c16b0); (try clear c16b1); (try clear c17); (try clear c17b0); (try clear c17b1); (try clear c17b2); (try clear c18); (try clear c18b0); (try clear c18b1); (try clear c19); (try clear c19b0); (try clear c19b1); (try clear c20); (try clear c23); (try clear c23b0); (try clear c23b1); (try clear c23b2); (try clear c28); (try clear c28b0); (try clear c28b1); (try clear c31); (try clear c32); (try clear c32b0); (try clear c32b1); (try clear c33); (try clear c33b0); (try clear c33b1); (try clear p2); obtain ⟨kq, x99_24, rfl, HA, HJ24, HB⟩ := hcut
                cases kq with
                | zero => exact absurd HA.out (by simp [laws_FnIntegerEncodings.j1])
                | succ kj24 =>
                  have H := HA.out; clear HA; simp only [laws_FnIntegerEncodings.j1] at H
                  by_cases c36 : x99_24 = true
                  · subst c36; rw [if_pos rfl] at H; obtain rfl := Option.some.inj H
                    go_wp2
                    go_ret; exact ⟨ew_, hq0_ HB.out⟩
                  · replace c36 := Bool.eq_false_iff.mpr c36; subst c36; rw [if_neg nt_] at H; replace H := Option.bind_eq_some_iff.mp H; obtain ⟨t251, A370, H⟩ := H; have A37 := Aside0.mk A370; clear A370; replace H := Option.bind_eq_some_iff.mp H; obtain ⟨⟨t252, t253⟩, A380, H⟩ := H; replace H : ((impl_FormatInt.f t244).bind fun t254 => ((impl_ParseInt.f t254).bind fun bt255 => (if t253 = true then (if t252.toList = t240.toList then (if (t251.size : Int) = (wrap64 (2 * (t240.size : Int))) then ((spec_FormatInt.f kj24 t244).bind fun t257 => (if t254.toList = t257.toList then (if bt255.2 = true then (if bt255.1 = t244 then (if t244 > (-1000000000) then (some (bt255.2 == (decide (t244 < 1000000000)))) else (some (bt255.2 == false))) else (some false)) else (if t244 > (-1000000000) then (some (bt255.2 == (decide (t244 < 1000000000)))) else (some (bt255.2 == false)))) else (some false))) else (some false)) else (some false)) else (some false)))) = some r := H; have A38 := Aside0.mk A380; clear A380; replace H := Option.bind_eq_some_iff.mp H; obtain ⟨t254, A390, H⟩ := H; have A39 := Aside0.mk A390; clear A390; replace H := Option.bind_eq_some_iff.mp H; obtain ⟨⟨t255, t256⟩, A400, H⟩ := H; replace H : (if t253 = true then (if t252.toList = t240.toList then (if (t251.size : Int) = (wrap64 (2 * (t240.size : Int))) then ((spec_FormatInt.f kj24 t244).bind fun t257 => (if t254.toList = t257.toList then (if t256 = true then (if t255 = t244 then (if t244 > (-1000000000) then (some (t256 == (decide (t244 < 1000000000)))) else (some (t256 == false))) else (some false)) else (if t244 > (-1000000000) then (some (t256 == (decide (t244 < 1000000000)))) else (some (t256 == false)))) else (some false))) else (some false)) else (some false)) else (some false)) = some r := H; have A40 := Aside0.mk A400; clear A400
                    by_cases c41 : t253 = true
                    · subst c41; rw [if_pos rfl] at H
                      by_cases c42 : t252.toList = t240.toList
                      · rw [if_pos c42] at H; have c42b0 : (t252.toList == t240.toList) = true := beq_iff_eq.mpr c42; have c42b1 : (t252.toList != t240.toList) = false := bne_eq_false_iff_eq.mpr c42; clear c42
                        by_cases c43 : (t251.size : Int) = (wrap64 (2 * (t240.size : Int)))
                        · rw [if_pos c43] at H; have c43b0 : ((t251.size : Int) == (wrap64 (2 * (t240.size : Int)))) = true := beq_iff_eq.mpr c43; have c43b1 : ((t251.size : Int) != (wrap64 (2 * (t240.size : Int)))) = false := bne_eq_false_iff_eq.mpr c43; clear c43; replace H := Option.bind_eq_some_iff.mp H; obtain ⟨t257, A440, H⟩ := H; have A44 := Aside0.mk A440; clear A440
                          by_cases c45 : t254.toList = t257.toList
                          · rw [if_pos c45] at H; have c45b0 : (t254.toList == t257.toList) = true := beq_iff_eq.mpr c45; have c45b1 : (t254.toList != t257.toList) = false := bne_eq_false_iff_eq.mpr c45; clear c45
                            by_cases c46 : t256 = true
                            · subst c46; rw [if_pos rfl] at H
                              by_cases c47 : t255 = t244
                              · rw [if_pos c47] at H; have c47b0 : (t255 == t244) = true := beq_iff_eq.mpr c47; have c47b1 : (t255 != t244) = false := bne_eq_false_iff_eq.mpr c47; clear c47
                                by_cases c48 : t244 > (-1000000000)
                                · rw [if_pos c48] at H; have c48b0 : decide ((-1000000000) < t244) = true := decide_eq_true c48; clear c48; obtain rfl := Option.some.inj H
                                  go_wp2_with (first | ((with_reducible refine gate_callee (f := 15) rfl ?_); refine goesL_ (some 101) rfl rfl Tryd.func15 (by kernel_rfl) rfl #[.string t240] rfl mp_ ?_; (with_reducible refine (impl_EncodeHex.calls kj24 t240 t251 _ A37.out).mono ?_); rintro e w49 ⟨rfl, hb⟩; refine ⟨_, rfl, ?_⟩; have n0_ := Aside0.mk (below_step (hq0_ HB.out) hb); clear HB; have HB := n0_; clear n0_; (try clear hb); (try clear hb2); (try clear hk); (try clear hi)) | ((with_reducible refine gate_callee (f := 16) rfl ?_); refine goesL_ (some 104) rfl rfl Tryd.func16 (by kernel_rfl) rfl #[.string t251] rfl mp_ ?_; (with_reducible refine (impl_DecodeHex.calls kj24 t251 t252 true _ A38.out).mono ?_); rintro e w50 ⟨rfl, hb⟩; refine ⟨_, rfl, ?_⟩; have n0_ := Aside0.mk (below_step (hq0_ HB.out) hb); clear HB; have HB := n0_; clear n0_; (try clear hb); (try clear hb2); (try clear hk); (try clear hi)) | ((with_reducible refine gate_callee (f := 17) rfl ?_); refine goesL_ (some 108) rfl rfl Tryd.func17 (by kernel_rfl) rfl #[.int .i64 t244] rfl mp_ ?_; (with_reducible refine (impl_FormatInt.calls t244 t254 _ ?tab A39.out).mono ?_); (case tab => exact HTAB.out.below (hq0_ HB.out)); rintro e w51 ⟨rfl, hb⟩; refine ⟨_, rfl, ?_⟩; have n0_ := Aside0.mk (below_step (hq0_ HB.out) hb); clear HB; have HB := n0_; clear n0_; (try clear hb); (try clear hb2); (try clear hk); (try clear hi)) | ((with_reducible refine gate_callee (f := 18) rfl ?_); refine goesL_ (some 111) rfl rfl Tryd.func18 (by kernel_rfl) rfl #[.string t254] rfl mp_ ?_; (with_reducible refine (impl_ParseInt.calls t254 t255 true _ ?tab A40.out).mono ?_); (case tab => exact HTAB.out.below (hq0_ HB.out)); rintro e w52 ⟨rfl, hb⟩; refine ⟨_, rfl, ?_⟩; have n0_ := Aside0.mk (below_step (hq0_ HB.out) hb); clear HB; have HB := n0_; clear n0_; (try clear hb); (try clear hb2); (try clear hk); (try clear hi)) | (go_at_call 19; (with_reducible refine (spec_FormatInt.calls kj24 t244 t257 _ A44.out).mono ?_); rintro e w53 ⟨rfl, hb⟩; have n0_ := Aside0.mk (below_step (hq0_ HB.out) hb); clear HB; have HB := n0_; clear n0_; (try clear hb); (try clear hb2); (try clear hk); (try clear hi)))
                                  go_ret; exact ⟨ew_, hq0_ HB.out⟩
                                · rw [if_neg c48] at H; have c48b0 : decide ((-1000000000) < t244) = false := decide_eq_false c48; clear c48; obtain rfl := Option.some.inj H
                                  go_wp2_with (first | ((with_reducible refine gate_callee (f := 15) rfl ?_); refine goesL_ (some 101) rfl rfl Tryd.func15 (by kernel_rfl) rfl #[.string t240] rfl mp_ ?_; (with_reducible refine (impl_EncodeHex.calls kj24 t240 t251 _ A37.out).mono ?_); rintro e w54 ⟨rfl, hb⟩; refine ⟨_, rfl, ?_⟩; have n0_ := Aside0.mk (below_step (hq0_ HB.out) hb); clear HB; have HB := n0_; clear n0_; (try clear hb); (try clear hb2); (try clear hk); (try clear hi)) | ((with_reducible refine gate_callee (f := 16) rfl ?_); refine goesL_ (some 104) rfl rfl Tryd.func16 (by kernel_rfl) rfl #[.string t251] rfl mp_ ?_; (with_reducible refine (impl_DecodeHex.calls kj24 t251 t252 true _ A38.out).mono ?_); rintro e w55 ⟨rfl, hb⟩; refine ⟨_, rfl, ?_⟩; have n0_ := Aside0.mk (below_step (hq0_ HB.out) hb); clear HB; have HB := n0_; clear n0_; (try clear hb); (try clear hb2); (try clear hk); (try clear hi)) | ((with_reducible refine gate_callee (f := 17) rfl ?_); refine goesL_ (some 108) rfl rfl Tryd.func17 (by kernel_rfl) rfl #[.int .i64 t244] rfl mp_ ?_; (with_reducible refine (impl_FormatInt.calls t244 t254 _ ?tab A39.out).mono ?_); (case tab => exact HTAB.out.below (hq0_ HB.out)); rintro e w56 ⟨rfl, hb⟩; refine ⟨_, rfl, ?_⟩; have n0_ := Aside0.mk (below_step (hq0_ HB.out) hb); clear HB; have HB := n0_; clear n0_; (try clear hb); (try clear hb2); (try clear hk); (try clear hi)) | ((with_reducible refine gate_callee (f := 18) rfl ?_); refine goesL_ (some 111) rfl rfl Tryd.func18 (by kernel_rfl) rfl #[.string t254] rfl mp_ ?_; (with_reducible refine (impl_ParseInt.calls t254 t255 true _ ?tab A40.out).mono ?_); (case tab => exact HTAB.out.below (hq0_ HB.out)); rintro e w57 ⟨rfl, hb⟩; refine ⟨_, rfl, ?_⟩; have n0_ := Aside0.mk (below_step (hq0_ HB.out) hb); clear HB; have HB := n0_; clear n0_; (try clear hb); (try clear hb2); (try clear hk); (try clear hi)) | (go_at_call 19; (with_reducible refine (spec_FormatInt.calls kj24 t244 t257 _ A44.out).mono ?_); rintro e w58 ⟨rfl, hb⟩; have n0_ := Aside0.mk (below_step (hq0_ HB.out) hb); clear HB; have HB := n0_; clear n0_; (try clear hb); (try clear hb2); (try clear hk); (try clear hi)))
                                  go_ret; exact ⟨ew_, hq0_ HB.out⟩
                              · rw [if_neg c47] at H; have c47b0 : (t255 == t244) = false := beq_eq_false_iff_ne.mpr c47; have c47b1 : (t255 != t244) = true := bne_iff_ne.mpr c47; obtain rfl := Option.some.inj H
                                go_wp2_with (first | ((with_reducible refine gate_callee (f := 15) rfl ?_); refine goesL_ (some 101) rfl rfl Tryd.func15 (by kernel_rfl) rfl #[.string t240] rfl mp_ ?_; (with_reducible refine (impl_EncodeHex.calls kj24 t240 t251 _ A37.out).mono ?_); rintro e w59 ⟨rfl, hb⟩; refine ⟨_, rfl, ?_⟩; have n0_ := Aside0.mk (below_step (hq0_ HB.out) hb); clear HB; have HB := n0_; clear n0_; (try clear hb); (try clear hb2); (try clear hk); (try clear hi)) | ((with_reducible refine gate_callee (f := 16) rfl ?_); refine goesL_ (some 104) rfl rfl Tryd.func16 (by kernel_rfl) rfl #[.string t251] rfl mp_ ?_; (with_reducible refine (impl_DecodeHex.calls kj24 t251 t252 true _ A38.out).mono ?_); rintro e w60 ⟨rfl, hb⟩; refine ⟨_, rfl, ?_⟩; have n0_ := Aside0.mk (below_step (hq0_ HB.out) hb); clear HB; have HB := n0_; clear n0_; (try clear hb); (try clear hb2); (try clear hk); (try clear hi)) | ((with_reducible refine gate_callee (f := 17) rfl ?_); refine goesL_ (some 108) rfl rfl Tryd.func17 (by kernel_rfl) rfl #[.int .i64 t244] rfl mp_ ?_; (with_reducible refine (impl_FormatInt.calls t244 t254 _ ?tab A39.out).mono ?_); (case tab => exact HTAB.out.below (hq0_ HB.out)); rintro e w61 ⟨rfl, hb⟩; refine ⟨_, rfl, ?_⟩; have n0_ := Aside0.mk (below_step (hq0_ HB.out) hb); clear HB; have HB := n0_; clear n0_; (try clear hb); (try clear hb2); (try clear hk); (try clear hi)) | ((with_reducible refine gate_callee (f := 18) rfl ?_); refine goesL_ (some 111) rfl rfl Tryd.func18 (by kernel_rfl) rfl #[.string t254] rfl mp_ ?_; (with_reducible refine (impl_ParseInt.calls t254 t255 true _ ?tab A40.out).mono ?_); (case tab => exact HTAB.out.below (hq0_ HB.out)); rintro e w62 ⟨rfl, hb⟩; refine ⟨_, rfl, ?_⟩; have n0_ := Aside0.mk (below_step (hq0_ HB.out) hb); clear HB; have HB := n0_; clear n0_; (try clear hb); (try clear hb2); (try clear hk); (try clear hi)) | (go_at_call 19; (with_reducible refine (spec_FormatInt.calls kj24 t244 t257 _ A44.out).mono ?_); rintro e w63 ⟨rfl, hb⟩; have n0_ := Aside0.mk (below_step (hq0_ HB.out) hb); clear HB; have HB := n0_; clear n0_; (try clear hb); (try clear hb2); (try clear hk); (try clear hi)))
                                go_ret; exact ⟨ew_, hq0_ HB.out⟩
                            · replace c46 := Bool.eq_false_iff.mpr c46; subst c46; rw [if_neg nt_] at H
                              by_cases c64 : t244 > (-1000000000)
                              · rw [if_pos c64] at H; have c64b0 : decide ((-1000000000) < t244) = true := decide_eq_true c64; clear c64; obtain rfl := Option.some.inj H
                                go_wp2_with (first | ((with_reducible refine gate_callee (f := 15) rfl ?_); refine goesL_ (some 101) rfl rfl Tryd.func15 (by kernel_rfl) rfl #[.string t240] rfl mp_ ?_; (with_reducible refine (impl_EncodeHex.calls kj24 t240 t251 _ A37.out).mono ?_); rintro e w65 ⟨rfl, hb⟩; refine ⟨_, rfl, ?_⟩; have n0_ := Aside0.mk (below_step (hq0_ HB.out) hb); clear HB; have HB := n0_; clear n0_; (try clear hb); (try clear hb2); (try clear hk); (try clear hi)) | ((with_reducible refine gate_callee (f := 16) rfl ?_); refine goesL_ (some 104) rfl rfl Tryd.func16 (by kernel_rfl) rfl #[.string t251] rfl mp_ ?_; (with_reducible refine (impl_DecodeHex.calls kj24 t251 t252 true _ A38.out).mono ?_); rintro e w66 ⟨rfl, hb⟩; refine ⟨_, rfl, ?_⟩; have n0_ := Aside0.mk (below_step (hq0_ HB.out) hb); clear HB; have HB := n0_; clear n0_; (try clear hb); (try clear hb2); (try clear hk); (try clear hi)) | ((with_reducible refine gate_callee (f := 17) rfl ?_); refine goesL_ (some 108) rfl rfl Tryd.func17 (by kernel_rfl) rfl #[.int .i64 t244] rfl mp_ ?_; (with_reducible refine (impl_FormatInt.calls t244 t254 _ ?tab A39.out).mono ?_); (case tab => exact HTAB.out.below (hq0_ HB.out)); rintro e w67 ⟨rfl, hb⟩; refine ⟨_, rfl, ?_⟩; have n0_ := Aside0.mk (below_step (hq0_ HB.out) hb); clear HB; have HB := n0_; clear n0_; (try clear hb); (try clear hb2); (try clear hk); (try clear hi)) | ((with_reducible refine gate_callee (f := 18) rfl ?_); refine goesL_ (some 111) rfl rfl Tryd.func18 (by kernel_rfl) rfl #[.string t254] rfl mp_ ?_; (with_reducible refine (impl_ParseInt.calls t254 t255 false _ ?tab A40.out).mono ?_); (case tab => exact HTAB.out.below (hq0_ HB.out)); rintro e w68 ⟨rfl, hb⟩; refine ⟨_, rfl, ?_⟩; have n0_ := Aside0.mk (below_step (hq0_ HB.out) hb); clear HB; have HB := n0_; clear n0_; (try clear hb); (try clear hb2); (try clear hk); (try clear hi)) | (go_at_call 19; (with_reducible refine (spec_FormatInt.calls kj24 t244 t257 _ A44.out).mono ?_); rintro e w69 ⟨rfl, hb⟩; have n0_ := Aside0.mk (below_step (hq0_ HB.out) hb); clear HB; have HB := n0_; clear n0_; (try clear hb); (try clear hb2); (try clear hk); (try clear hi)))
                                go_ret; exact ⟨ew_, hq0_ HB.out⟩
                              · rw [if_neg c64] at H; have c64b0 : decide ((-1000000000) < t244) = false := decide_eq_false c64; clear c64; obtain rfl := Option.some.inj H
                                go_wp2_with (first | ((with_reducible refine gate_callee (f := 15) rfl ?_); refine goesL_ (some 101) rfl rfl Tryd.func15 (by kernel_rfl) rfl #[.string t240] rfl mp_ ?_; (with_reducible refine (impl_EncodeHex.calls kj24 t240 t251 _ A37.out).mono ?_); rintro e w70 ⟨rfl, hb⟩; refine ⟨_, rfl, ?_⟩; have n0_ := Aside0.mk (below_step (hq0_ HB.out) hb); clear HB; have HB := n0_; clear n0_; (try clear hb); (try clear hb2); (try clear hk); (try clear hi)) | ((with_reducible refine gate_callee (f := 16) rfl ?_); refine goesL_ (some 104) rfl rfl Tryd.func16 (by kernel_rfl) rfl #[.string t251] rfl mp_ ?_; (with_reducible refine (impl_DecodeHex.calls kj24 t251 t252 true _ A38.out).mono ?_); rintro e w71 ⟨rfl, hb⟩; refine ⟨_, rfl, ?_⟩; have n0_ := Aside0.mk (below_step (hq0_ HB.out) hb); clear HB; have HB := n0_; clear n0_; (try clear hb); (try clear hb2); (try clear hk); (try clear hi)) | ((with_reducible refine gate_callee (f := 17) rfl ?_); refine goesL_ (some 108) rfl rfl Tryd.func17 (by kernel_rfl) rfl #[.int .i64 t244] rfl mp_ ?_; (with_reducible refine (impl_FormatInt.calls t244 t254 _ ?tab A39.out).mono ?_); (case tab => exact HTAB.out.below (hq0_ HB.out)); rintro e w72 ⟨rfl, hb⟩; refine ⟨_, rfl, ?_⟩; have n0_ := Aside0.mk (below_step (hq0_ HB.out) hb); clear HB; have HB := n0_; clear n0_; (try clear hb); (try clear hb2); (try clear hk); (try clear hi)) | ((with_reducible refine gate_callee (f := 18) rfl ?_); refine goesL_ (some 111) rfl rfl Tryd.func18 (by kernel_rfl) rfl #[.string t254] rfl mp_ ?_; (with_reducible refine (impl_ParseInt.calls t254 t255 false _ ?tab A40.out).mono ?_); (case tab => exact HTAB.out.below (hq0_ HB.out)); rintro e w73 ⟨rfl, hb⟩; refine ⟨_, rfl, ?_⟩; have n0_ := Aside0.mk (below_step (hq0_ HB.out) hb); clear HB; have HB := n0_; clear n0_; (try clear hb); (try clear hb2); (try clear hk); (try clear hi)) | (go_at_call 19; (with_reducible refine (spec_FormatInt.calls kj24 t244 t257 _ A44.out).mono ?_); rintro e w74 ⟨rfl, hb⟩; have n0_ := Aside0.mk (below_step (hq0_ HB.out) hb); clear HB; have HB := n0_; clear n0_; (try clear hb); (try clear hb2); (try clear hk); (try clear hi)))
                                go_ret; exact ⟨ew_, hq0_ HB.out⟩
                          · rw [if_neg c45] at H; have c45b0 : (t254.toList == t257.toList) = false := beq_eq_false_iff_ne.mpr c45; have c45b1 : (t254.toList != t257.toList) = true := bne_iff_ne.mpr c45; obtain rfl := Option.some.inj H
                            go_wp2_with (first | ((with_reducible refine gate_callee (f := 15) rfl ?_); refine goesL_ (some 101) rfl rfl Tryd.func15 (by kernel_rfl) rfl #[.string t240] rfl mp_ ?_; (with_reducible refine (impl_EncodeHex.calls kj24 t240 t251 _ A37.out).mono ?_); rintro e w75 ⟨rfl, hb⟩; refine ⟨_, rfl, ?_⟩; have n0_ := Aside0.mk (below_step (hq0_ HB.out) hb); clear HB; have HB := n0_; clear n0_; (try clear hb); (try clear hb2); (try clear hk); (try clear hi)) | ((with_reducible refine gate_callee (f := 16) rfl ?_); refine goesL_ (some 104) rfl rfl Tryd.func16 (by kernel_rfl) rfl #[.string t251] rfl mp_ ?_; (with_reducible refine (impl_DecodeHex.calls kj24 t251 t252 true _ A38.out).mono ?_); rintro e w76 ⟨rfl, hb⟩; refine ⟨_, rfl, ?_⟩; have n0_ := Aside0.mk (below_step (hq0_ HB.out) hb); clear HB; have HB := n0_; clear n0_; (try clear hb); (try clear hb2); (try clear hk); (try clear hi)) | ((with_reducible refine gate_callee (f := 17) rfl ?_); refine goesL_ (some 108) rfl rfl Tryd.func17 (by kernel_rfl) rfl #[.int .i64 t244] rfl mp_ ?_; (with_reducible refine (impl_FormatInt.calls t244 t254 _ ?tab A39.out).mono ?_); (case tab => exact HTAB.out.below (hq0_ HB.out)); rintro e w77 ⟨rfl, hb⟩; refine ⟨_, rfl, ?_⟩; have n0_ := Aside0.mk (below_step (hq0_ HB.out) hb); clear HB; have HB := n0_; clear n0_; (try clear hb); (try clear hb2); (try clear hk); (try clear hi)) | ((with_reducible refine gate_callee (f := 18) rfl ?_); refine goesL_ (some 111) rfl rfl Tryd.func18 (by kernel_rfl) rfl #[.string t254] rfl mp_ ?_; (with_reducible refine (impl_ParseInt.calls t254 t255 t256 _ ?tab A40.out).mono ?_); (case tab => exact HTAB.out.below (hq0_ HB.out)); rintro e w78 ⟨rfl, hb⟩; refine ⟨_, rfl, ?_⟩; have n0_ := Aside0.mk (below_step (hq0_ HB.out) hb); clear HB; have HB := n0_; clear n0_; (try clear hb); (try clear hb2); (try clear hk); (try clear hi)) | (go_at_call 19; (with_reducible refine (spec_FormatInt.calls kj24 t244 t257 _ A44.out).mono ?_); rintro e w79 ⟨rfl, hb⟩; have n0_ := Aside0.mk (below_step (hq0_ HB.out) hb); clear HB; have HB := n0_; clear n0_; (try clear hb); (try clear hb2); (try clear hk); (try clear hi)))
                            go_ret; exact ⟨ew_, hq0_ HB.out⟩
                        · rw [if_neg c43] at H; have c43b0 : ((t251.size : Int) == (wrap64 (2 * (t240.size : Int)))) = false := beq_eq_false_iff_ne.mpr c43; have c43b1 : ((t251.size : Int) != (wrap64 (2 * (t240.size : Int)))) = true := bne_iff_ne.mpr c43; obtain rfl := Option.some.inj H
                          go_wp2_with (first | ((with_reducible refine gate_callee (f := 15) rfl ?_); refine goesL_ (some 101) rfl rfl Tryd.func15 (by kernel_rfl) rfl #[.string t240] rfl mp_ ?_; (with_reducible refine (impl_EncodeHex.calls kj24 t240 t251 _ A37.out).mono ?_); rintro e w80 ⟨rfl, hb⟩; refine ⟨_, rfl, ?_⟩; have n0_ := Aside0.mk (below_step (hq0_ HB.out) hb); clear HB; have HB := n0_; clear n0_; (try clear hb); (try clear hb2); (try clear hk); (try clear hi)) | ((with_reducible refine gate_callee (f := 16) rfl ?_); refine goesL_ (some 104) rfl rfl Tryd.func16 (by kernel_rfl) rfl #[.string t251] rfl mp_ ?_; (with_reducible refine (impl_DecodeHex.calls kj24 t251 t252 true _ A38.out).mono ?_); rintro e w81 ⟨rfl, hb⟩; refine ⟨_, rfl, ?_⟩; have n0_ := Aside0.mk (below_step (hq0_ HB.out) hb); clear HB; have HB := n0_; clear n0_; (try clear hb); (try clear hb2); (try clear hk); (try clear hi)) | ((with_reducible refine gate_callee (f := 17) rfl ?_); refine goesL_ (some 108) rfl rfl Tryd.func17 (by kernel_rfl) rfl #[.int .i64 t244] rfl mp_ ?_; (with_reducible refine (impl_FormatInt.calls t244 t254 _ ?tab A39.out).mono ?_); (case tab => exact HTAB.out.below (hq0_ HB.out)); rintro e w82 ⟨rfl, hb⟩; refine ⟨_, rfl, ?_⟩; have n0_ := Aside0.mk (below_step (hq0_ HB.out) hb); clear HB; have HB := n0_; clear n0_; (try clear hb); (try clear hb2); (try clear hk); (try clear hi)) | ((with_reducible refine gate_callee (f := 18) rfl ?_); refine goesL_ (some 111) rfl rfl Tryd.func18 (by kernel_rfl) rfl #[.string t254] rfl mp_ ?_; (with_reducible refine (impl_ParseInt.calls t254 t255 t256 _ ?tab A40.out).mono ?_); (case tab => exact HTAB.out.below (hq0_ HB.out)); rintro e w83 ⟨rfl, hb⟩; refine ⟨_, rfl, ?_⟩; have n0_ := Aside0.mk (below_step (hq0_ HB.out) hb); clear HB; have HB := n0_; clear n0_; (try clear hb); (try clear hb2); (try clear hk); (try clear hi)))
                          go_ret; exact ⟨ew_, hq0_ HB.out⟩
                      · rw [if_neg c42] at H; have c42b0 : (t252.toList == t240.toList) = false := beq_eq_false_iff_ne.mpr c42; have c42b1 : (t252.toList != t240.toList) = true := bne_iff_ne.mpr c42; obtain rfl := Option.some.inj H
                        go_wp2_with (first | ((with_reducible refine gate_callee (f := 15) rfl ?_); refine goesL_ (some 101) rfl rfl Tryd.func15 (by kernel_rfl) rfl #[.string t240] rfl mp_ ?_; (with_reducible refine (impl_EncodeHex.calls kj24 t240 t251 _ A37.out).mono ?_); rintro e w84 ⟨rfl, hb⟩; refine ⟨_, rfl, ?_⟩; have n0_ := Aside0.mk (below_step (hq0_ HB.out) hb); clear HB; have HB := n0_; clear n0_; (try clear hb); (try clear hb2); (try clear hk); (try clear hi)) | ((with_reducible refine gate_callee (f := 16) rfl ?_); refine goesL_ (some 104) rfl rfl Tryd.func16 (by kernel_rfl) rfl #[.string t251] rfl mp_ ?_; (with_reducible refine (impl_DecodeHex.calls kj24 t251 t252 true _ A38.out).mono ?_); rintro e w85 ⟨rfl, hb⟩; refine ⟨_, rfl, ?_⟩; have n0_ := Aside0.mk (below_step (hq0_ HB.out) hb); clear HB; have HB := n0_; clear n0_; (try clear hb); (try clear hb2); (try clear hk); (try clear hi)) | ((with_reducible refine gate_callee (f := 17) rfl ?_); refine goesL_ (some 108) rfl rfl Tryd.func17 (by kernel_rfl) rfl #[.int .i64 t244] rfl mp_ ?_; (with_reducible refine (impl_FormatInt.calls t244 t254 _ ?tab A39.out).mono ?_); (case tab => exact HTAB.out.below (hq0_ HB.out)); rintro e w86 ⟨rfl, hb⟩; refine ⟨_, rfl, ?_⟩; have n0_ := Aside0.mk (below_step (hq0_ HB.out) hb); clear HB; have HB := n0_; clear n0_; (try clear hb); (try clear hb2); (try clear hk); (try clear hi)) | ((with_reducible refine gate_callee (f := 18) rfl ?_); refine goesL_ (some 111) rfl rfl Tryd.func18 (by kernel_rfl) rfl #[.string t254] rfl mp_ ?_; (with_reducible refine (impl_ParseInt.calls t254 t255 t256 _ ?tab A40.out).mono ?_); (case tab => exact HTAB.out.below (hq0_ HB.out)); rintro e w87 ⟨rfl, hb⟩; refine ⟨_, rfl, ?_⟩; have n0_ := Aside0.mk (below_step (hq0_ HB.out) hb); clear HB; have HB := n0_; clear n0_; (try clear hb); (try clear hb2); (try clear hk); (try clear hi)))
                        go_ret; exact ⟨ew_, hq0_ HB.out⟩
                    · replace c41 := Bool.eq_false_iff.mpr c41; subst c41; rw [if_neg nt_] at H; obtain rfl := Option.some.inj H
                      go_wp2_with (first | ((with_reducible refine gate_callee (f := 15) rfl ?_); refine goesL_ (some 101) rfl rfl Tryd.func15 (by kernel_rfl) rfl #[.string t240] rfl mp_ ?_; (with_reducible refine (impl_EncodeHex.calls kj24 t240 t251 _ A37.out).mono ?_); rintro e w88 ⟨rfl, hb⟩; refine ⟨_, rfl, ?_⟩; have n0_ := Aside0.mk (below_step (hq0_ HB.out) hb); clear HB; have HB := n0_; clear n0_; (try clear hb); (try clear hb2); (try clear hk); (try clear hi)) | ((with_reducible refine gate_callee (f := 16) rfl ?_); refine goesL_ (some 104) rfl rfl Tryd.func16 (by kernel_rfl) rfl #[.string t251] rfl mp_ ?_; (with_reducible refine (impl_DecodeHex.calls kj24 t251 t252 false _ A38.out).mono ?_); rintro e w89 ⟨rfl, hb⟩; refine ⟨_, rfl, ?_⟩; have n0_ := Aside0.mk (below_step (hq0_ HB.out) hb); clear HB; have HB := n0_; clear n0_; (try clear hb); (try clear hb2); (try clear hk); (try clear hi)) | ((with_reducible refine gate_callee (f := 17) rfl ?_); refine goesL_ (some 108) rfl rfl Tryd.func17 (by kernel_rfl) rfl #[.int .i64 t244] rfl mp_ ?_; (with_reducible refine (impl_FormatInt.calls t244 t254 _ ?tab A39.out).mono ?_); (case tab => exact HTAB.out.below (hq0_ HB.out)); rintro e w90 ⟨rfl, hb⟩; refine ⟨_, rfl, ?_⟩; have n0_ := Aside0.mk (below_step (hq0_ HB.out) hb); clear HB; have HB := n0_; clear n0_; (try clear hb); (try clear hb2); (try clear hk); (try clear hi)) | ((with_reducible refine gate_callee (f := 18) rfl ?_); refine goesL_ (some 111) rfl rfl Tryd.func18 (by kernel_rfl) rfl #[.string t254] rfl mp_ ?_; (with_reducible refine (impl_ParseInt.calls t254 t255 t256 _ ?tab A40.out).mono ?_); (case tab => exact HTAB.out.below (hq0_ HB.out)); rintro e w91 ⟨rfl, hb⟩; refine ⟨_, rfl, ?_⟩; have n0_ := Aside0.mk (below_step (hq0_ HB.out) hb); clear HB; have HB := n0_; clear n0_; (try clear hb); (try clear hb2); (try clear hk); (try clear hi)))
                      go_ret; exact ⟨ew_, hq0_ HB.out⟩
            · rw [if_neg c23] at H; exact absurd H (by simp)
    · rw [if_neg c7] at H; exact absurd H (by simp)

/-- THE ONE PURE STATEMENT of laws_FnIntegerEncodings: yours. -/
def laws_FnIntegerEncodings.Pure : Prop := ∀ (l0 : List Int), l0.length ≤ maxLen → l0.length * 1 ≤ 140737488351232 → (∀ x ∈ l0, (Lit.int .u8 x).wf = true) → ∃ k, laws_FnIntegerEncodings.f k l0 = some true
theorem laws_FnIntegerEncodings.walk (P : laws_FnIntegerEncodings.Pure) (a0 : Option Addr) (len0 cap0 : Nat) (z0 : List Int) (w : World) (htab : Go.Proofs.YtacdaekigoldaaaDoor.ShP.Door w) (w0 : (a0 = none ∧ len0 = 0 ∧ cap0 = 0 ∧ z0 = []) ∨ ∃ x, a0 = some x ∧ len0 ≤ cap0 ∧ cap0 ≤ maxLen ∧ z0.length = cap0 ∧ (∀ i, i < z0.length → w.cell? (x.add i) = some (.int .u8 (z0.getD i 0))) ∧ ∀ n ∈ z0, (Lit.int .u8 n).wf = true) (y0 : len0 * 1 ≤ 140737488351232) :
    Calls Tryd.prog 3 #[.slice a0 len0 cap0] w fun e w' => e = .returned (.bool true) ∧ Below w.heap.size w w' := by
  obtain ⟨l0, rfl, hr0, hm0, hw0, hc0⟩ := ReadsInt.ofRowC w0; obtain ⟨k, h⟩ := P l0 hm0 y0 hw0; refine (laws_FnIntegerEncodings.calls k _ _ l0 true w (Kd.C_of_reads (d := (0 : Int)) (h1 := fun _ => rfl) hr0) hc0 htab h).mono ?_; rintro e w' ⟨rfl, hd⟩; exact ⟨rfl, hd⟩

end Go.Proofs.YtacdaekigoldaaaDoor.PFnIntegerEncodings
