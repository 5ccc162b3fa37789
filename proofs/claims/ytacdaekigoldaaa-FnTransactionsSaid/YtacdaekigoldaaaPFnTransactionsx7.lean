-- Printed by my own myprint.py out of the translation of the seat Ytacdaekigoldaaa. Not trusted: Lean checks it.
import Derived.Test.YtacdaekigoldaaaPFnTransactionsx0
import Derived.Test.YtacdaekigoldaaaPFnTransactionsx3
import Derived.Test.YtacdaekigoldaaaPFnTransactionsx5
import Derived.Test.YtacdaekigoldaaaPFnTransactionsx6
namespace Go.Proofs.Ytacdaekigoldaaa.PFnTransactions
open Go.RowKit Go.Proofs.YtacdaekigoldaaaW.PrintWords Go.Proofs.YtacdaekigoldaaaW.PrintLast Go.Proofs.YtacdaekigoldaaaW.PrintMore
attribute [local go_sem] max2_int min2_int max_two min_two max_three min_three max_four min_four   -- for this text's walks alone
set_option linter.unusedVariables false
set_option linter.unusedSimpArgs false

/-! ### impl_IsValidTransaction: function 12 -/
mutual
def impl_IsValidTransaction.j0 : Nat → Bool → Int → Int → Int → Int → Int → Int → Int → List (S47) → List (S58) → Option (Bool)
  | 0, _, _, _, _, _, _, _, _, _, _ => none
  | k + 1, x36, x174000, x174001, x174002, x174003, x174004, x174005, x174006, x174007, x174008 => if x36 = true then (some false) else (if x174002 = 2 then ((impl_IsStamp.f x174006).bind fun t180 => (if t180 = true then (impl_IsValidTransaction.j1 k false x174000 x174001 x174002 x174003 x174004 x174005 x174006 x174007 x174008) else (impl_IsValidTransaction.j1 k true x174000 x174001 x174002 x174003 x174004 x174005 x174006 x174007 x174008))) else (impl_IsValidTransaction.j1 k (x174006 != 0) x174000 x174001 x174002 x174003 x174004 x174005 x174006 x174007 x174008))
def impl_IsValidTransaction.j1 : Nat → Bool → Int → Int → Int → Int → Int → Int → Int → List (S47) → List (S58) → Option (Bool)
  | 0, _, _, _, _, _, _, _, _, _, _ => none
  | k + 1, x55, x174000, x174001, x174002, x174003, x174004, x174005, x174006, x174007, x174008 => if x55 = true then (some false) else ((impl_areReads.f k x174007).bind fun t181 => (if t181 = true then ((impl_areWrites.f k x174008).bind fun t182 => (some t182)) else (some false)))
end
def impl_IsValidTransaction.f (k : Nat) (a0_0 : Int) (a0_1 : Int) (a0_2 : Int) (a0_3 : Int) (a0_4 : Int) (a0_5 : Int) (a0_6 : Int) (l0_7 : List (S47)) (l0_8 : List (S58)) : Option (Bool) := (impl_isID.f a0_0).bind fun t174 => (if t174 = true then ((impl_isScheme.f a0_1).bind fun t175 => (if t175 = true then ((impl_in.f a0_2 1 3).bind fun t176 => (if t176 = true then ((impl_in.f a0_3 0 999).bind fun t177 => (if t177 = true then ((impl_in.f a0_4 0 999).bind fun t178 => (if t178 = true then ((impl_in.f a0_5 1 1000).bind fun t179 => (impl_IsValidTransaction.j0 k (!t179) a0_0 a0_1 a0_2 a0_3 a0_4 a0_5 a0_6 l0_7 l0_8)) else (impl_IsValidTransaction.j0 k true a0_0 a0_1 a0_2 a0_3 a0_4 a0_5 a0_6 l0_7 l0_8))) else (impl_IsValidTransaction.j0 k true a0_0 a0_1 a0_2 a0_3 a0_4 a0_5 a0_6 l0_7 l0_8))) else (impl_IsValidTransaction.j0 k true a0_0 a0_1 a0_2 a0_3 a0_4 a0_5 a0_6 l0_7 l0_8))) else (impl_IsValidTransaction.j0 k true a0_0 a0_1 a0_2 a0_3 a0_4 a0_5 a0_6 l0_7 l0_8))) else (impl_IsValidTransaction.j0 k true a0_0 a0_1 a0_2 a0_3 a0_4 a0_5 a0_6 l0_7 l0_8))
theorem impl_IsValidTransaction.mono_l : ∀ k, (∀ y0 y1 y2 y3 y4 y5 y6 y7 y8 y9, LeO (impl_IsValidTransaction.j0 k y0 y1 y2 y3 y4 y5 y6 y7 y8 y9) (impl_IsValidTransaction.j0 (k + 1) y0 y1 y2 y3 y4 y5 y6 y7 y8 y9)) ∧ (∀ y0 y1 y2 y3 y4 y5 y6 y7 y8 y9, LeO (impl_IsValidTransaction.j1 k y0 y1 y2 y3 y4 y5 y6 y7 y8 y9) (impl_IsValidTransaction.j1 (k + 1) y0 y1 y2 y3 y4 y5 y6 y7 y8 y9))
  | 0 => ⟨fun _ _ _ _ _ _ _ _ _ _ r h => by simp [impl_IsValidTransaction.j0] at h, fun _ _ _ _ _ _ _ _ _ _ r h => by simp [impl_IsValidTransaction.j1] at h⟩
  | k + 1 => by
    obtain ⟨ih0, ih1⟩ := impl_IsValidTransaction.mono_l k; refine ⟨?_, ?_⟩
    · intro y0 y1 y2 y3 y4 y5 y6 y7 y8 y9; unfold impl_IsValidTransaction.j0
      repeat' first
      | (with_reducible first | apply ih0 | apply ih1 | apply impl_areReads.mono | apply impl_areWrites.mono | exact LeO.refl _ | exact LeO.none _ | refine LeO.ite ?_ ?_ | refine LeO.bind ?_ (fun _ => ?_))
    · intro y0 y1 y2 y3 y4 y5 y6 y7 y8 y9; unfold impl_IsValidTransaction.j1
      repeat' first
      | (with_reducible first | apply ih0 | apply ih1 | apply impl_areReads.mono | apply impl_areWrites.mono | exact LeO.refl _ | exact LeO.none _ | refine LeO.ite ?_ ?_ | refine LeO.bind ?_ (fun _ => ?_))
theorem impl_IsValidTransaction.mono : ∀ a0 a1 a2 a3 a4 a5 a6 a7 a8 k, LeO (impl_IsValidTransaction.f k a0 a1 a2 a3 a4 a5 a6 a7 a8) (impl_IsValidTransaction.f (k + 1) a0 a1 a2 a3 a4 a5 a6 a7 a8) := by
  intro a0 a1 a2 a3 a4 a5 a6 a7 a8 k; obtain ⟨ih0, ih1⟩ := impl_IsValidTransaction.mono_l k; unfold impl_IsValidTransaction.f
  repeat' first
      | (with_reducible first | apply ih0 | apply ih1 | apply impl_areReads.mono | apply impl_areWrites.mono | exact LeO.refl _ | exact LeO.none _ | refine LeO.ite ?_ ?_ | refine LeO.bind ?_ (fun _ => ?_))
set_option maxHeartbeats 8000000 in
set_option maxRecDepth 100000 in
theorem impl_IsValidTransaction.calls (k : Nat) (a0_0 : Int) (a0_1 : Int) (a0_2 : Int) (a0_3 : Int) (a0_4 : Int) (a0_5 : Int) (a0_6 : Int) (A0_7 : Option Addr) (c0_7 : Nat) (l0_7 : List (S47)) (A0_8 : Option Addr) (c0_8 : Nat) (l0_8 : List (S58)) (r : Bool) (w : World) (hr0_7 : Kd.C k47 w A0_7 l0_7.length l0_7) (hc0_7 : l0_7.length ≤ c0_7) (hr0_8 : Kd.C k58 w A0_8 l0_8.length l0_8) (hc0_8 : l0_8.length ≤ c0_8) (h : impl_IsValidTransaction.f k a0_0 a0_1 a0_2 a0_3 a0_4 a0_5 a0_6 l0_7 l0_8 = some r) :
    Calls Try.prog 12 #[.agg #[.int .i64 a0_0, .int .i64 a0_1, .int .i64 a0_2, .int .i64 a0_3, .int .i64 a0_4, .int .i64 a0_5, .int .i64 a0_6, .slice A0_7 l0_7.length c0_7, .slice A0_8 l0_8.length c0_8]] w fun e w' => e = .returned (.bool r) ∧ Below w.heap.size w w' := by
  have hu29 := Try.underlying29; have HR0_7 := Aside0.mk hr0_7; have HC0_7 := Aside0.mk hc0_7; clear hr0_7 hc0_7; have HR0_8 := Aside0.mk hr0_8; have HC0_8 := Aside0.mk hc0_8; clear hr0_8 hc0_8; have HB := Aside0.mk (Below.refl w.heap.size w); have H : ((impl_isID.f a0_0).bind fun t174 => (if t174 = true then ((impl_isScheme.f a0_1).bind fun t175 => (if t175 = true then ((impl_in.f a0_2 1 3).bind fun t176 => (if t176 = true then ((impl_in.f a0_3 0 999).bind fun t177 => (if t177 = true then ((impl_in.f a0_4 0 999).bind fun t178 => (if t178 = true then ((impl_in.f a0_5 1 1000).bind fun t179 => (impl_IsValidTransaction.j0 k (!t179) a0_0 a0_1 a0_2 a0_3 a0_4 a0_5 a0_6 l0_7 l0_8)) else (impl_IsValidTransaction.j0 k true a0_0 a0_1 a0_2 a0_3 a0_4 a0_5 a0_6 l0_7 l0_8))) else (impl_IsValidTransaction.j0 k true a0_0 a0_1 a0_2 a0_3 a0_4 a0_5 a0_6 l0_7 l0_8))) else (impl_IsValidTransaction.j0 k true a0_0 a0_1 a0_2 a0_3 a0_4 a0_5 a0_6 l0_7 l0_8))) else (impl_IsValidTransaction.j0 k true a0_0 a0_1 a0_2 a0_3 a0_4 a0_5 a0_6 l0_7 l0_8))) else (impl_IsValidTransaction.j0 k true a0_0 a0_1 a0_2 a0_3 a0_4 a0_5 a0_6 l0_7 l0_8))) = some r := h; clear h; have HC2 := Aside0.mk H; clear H
  go_enter Try.func12, Try.ntmps12
  go_upto_region 1 with (first | ((with_reducible refine gate_dst (N := 1) rfl ?_); refine be_ 1 #[.int .i64 a0_0, .int .i64 a0_1, .int .i64 a0_2, .int .i64 a0_3, .int .i64 a0_4, .int .i64 a0_5, .int .i64 a0_6, .slice A0_7 l0_7.length c0_7, .slice A0_8 l0_8.length c0_8] 29 ?_; intro gb173 hg w3 hbox hb; have BK173 := Aside0.mk (hbox); have GW173 := wk_ hg HB; replace HB := hs_ HB hb; have GE173 := GW173; clear hb hbox hg))
  (try simp only [Act.put, List.setIfInBounds_toArray, List.set_cons_zero, List.set_cons_succ])
  go_cut [36] (fun v36 wc => ∃ (kq : Nat) (x36_1 : Bool), v36 = .bool x36_1 ∧ Aside0 (impl_IsValidTransaction.j0 kq x36_1 a0_0 a0_1 a0_2 a0_3 a0_4 a0_5 a0_6 l0_7 l0_8 = some r) ∧ Aside0 (kq ≤ k) ∧ Aside0 (wc.heap[gb173]? = some (.cells #[.int .i64 a0_0, .int .i64 a0_1, .int .i64 a0_2, .int .i64 a0_3, .int .i64 a0_4, .int .i64 a0_5, .int .i64 a0_6, (.slice A0_7 l0_7.length c0_7), (.slice A0_8 l0_8.length c0_8)] 29 (0, 0))) ∧ Aside0 (Below w.heap.size w wc))
  case first =>
    have H := HC2.out; clear HC2; replace H := Option.bind_eq_some_iff.mp H; obtain ⟨t174, A40, H⟩ := H; have A4 := Aside0.mk A40; clear A40
    by_cases c5 : t174 = true
    · subst c5; rw [if_pos rfl] at H; replace H := Option.bind_eq_some_iff.mp H; obtain ⟨t175, A60, H⟩ := H; have A6 := Aside0.mk A60; clear A60
      by_cases c7 : t175 = true
      · subst c7; rw [if_pos rfl] at H; replace H := Option.bind_eq_some_iff.mp H; obtain ⟨t176, A80, H⟩ := H; have A8 := Aside0.mk A80; clear A80
        by_cases c9 : t176 = true
        · subst c9; rw [if_pos rfl] at H; replace H := Option.bind_eq_some_iff.mp H; obtain ⟨t177, A100, H⟩ := H; have A10 := Aside0.mk A100; clear A100
          by_cases c11 : t177 = true
          · subst c11; rw [if_pos rfl] at H; replace H := Option.bind_eq_some_iff.mp H; obtain ⟨t178, A120, H⟩ := H; have A12 := Aside0.mk A120; clear A120
            by_cases c13 : t178 = true
            · subst c13; rw [if_pos rfl] at H; replace H := Option.bind_eq_some_iff.mp H; obtain ⟨t179, A140, H⟩ := H; have A14 := Aside0.mk A140; clear A140; have H' := Aside0.mk H; clear H; have hcz15 := bc9_ BK173.out; have hfz15 := bf9_ BK173.out
              go_wp2_with (first | ((with_reducible refine gate_callee (f := 35) rfl ?_); refine goesL_ (some 5) rfl rfl Try.func35 (by kernel_rfl) rfl #[.int .i64 a0_0] rfl mp_ ?_; (with_reducible refine (impl_isID.calls a0_0 true _ A4.out).mono ?_); rintro e w' ⟨rfl, ⟨nd, rfl⟩⟩; refine ⟨_, rfl, ?_⟩) | (go_at_call 33; (with_reducible refine (impl_isScheme.calls a0_1 true _ A6.out).mono ?_); rintro e w' ⟨rfl, ⟨nd, rfl⟩⟩) | (go_at_call 36; (with_reducible refine (impl_in.calls a0_2 1 3 true _ A8.out).mono ?_); rintro e w' ⟨rfl, ⟨nd, rfl⟩⟩) | (go_at_call 36; (with_reducible refine (impl_in.calls a0_3 0 999 true _ A10.out).mono ?_); rintro e w' ⟨rfl, ⟨nd, rfl⟩⟩) | (go_at_call 36; (with_reducible refine (impl_in.calls a0_4 0 999 true _ A12.out).mono ?_); rintro e w' ⟨rfl, ⟨nd, rfl⟩⟩) | (go_at_call 36; (with_reducible refine (impl_in.calls a0_5 1 1000 t179 _ A14.out).mono ?_); rintro e w' ⟨rfl, ⟨nd, rfl⟩⟩))
              go_meet
              case rel => exact ⟨_, (!t179), rs_, H', ⟨by first | omega | exact Nat.le_refl _⟩, ⟨bq_ BK173.out⟩, ⟨hbw_ HB⟩⟩
            · replace c13 := Bool.eq_false_iff.mpr c13; subst c13; rw [if_neg nt_] at H; have H' := Aside0.mk H; clear H; have hcz16 := bc9_ BK173.out; have hfz16 := bf9_ BK173.out
              go_wp2_with (first | ((with_reducible refine gate_callee (f := 35) rfl ?_); refine goesL_ (some 5) rfl rfl Try.func35 (by kernel_rfl) rfl #[.int .i64 a0_0] rfl mp_ ?_; (with_reducible refine (impl_isID.calls a0_0 true _ A4.out).mono ?_); rintro e w' ⟨rfl, ⟨nd, rfl⟩⟩; refine ⟨_, rfl, ?_⟩) | (go_at_call 33; (with_reducible refine (impl_isScheme.calls a0_1 true _ A6.out).mono ?_); rintro e w' ⟨rfl, ⟨nd, rfl⟩⟩) | (go_at_call 36; (with_reducible refine (impl_in.calls a0_2 1 3 true _ A8.out).mono ?_); rintro e w' ⟨rfl, ⟨nd, rfl⟩⟩) | (go_at_call 36; (with_reducible refine (impl_in.calls a0_3 0 999 true _ A10.out).mono ?_); rintro e w' ⟨rfl, ⟨nd, rfl⟩⟩) | (go_at_call 36; (with_reducible refine (impl_in.calls a0_4 0 999 false _ A12.out).mono ?_); rintro e w' ⟨rfl, ⟨nd, rfl⟩⟩))
              go_meet
              case rel => exact ⟨_, (true), rs_, H', ⟨by first | omega | exact Nat.le_refl _⟩, ⟨bq_ BK173.out⟩, ⟨hbw_ HB⟩⟩
          · replace c11 := Bool.eq_false_iff.mpr c11; subst c11; rw [if_neg nt_] at H; have H' := Aside0.mk H; clear H; have hcz17 := bc9_ BK173.out; have hfz17 := bf9_ BK173.out
            go_wp2_with (first | ((with_reducible refine gate_callee (f := 35) rfl ?_); refine goesL_ (some 5) rfl rfl Try.func35 (by kernel_rfl) rfl #[.int .i64 a0_0] rfl mp_ ?_; (with_reducible refine (impl_isID.calls a0_0 true _ A4.out).mono ?_); rintro e w' ⟨rfl, ⟨nd, rfl⟩⟩; refine ⟨_, rfl, ?_⟩) | (go_at_call 33; (with_reducible refine (impl_isScheme.calls a0_1 true _ A6.out).mono ?_); rintro e w' ⟨rfl, ⟨nd, rfl⟩⟩) | (go_at_call 36; (with_reducible refine (impl_in.calls a0_2 1 3 true _ A8.out).mono ?_); rintro e w' ⟨rfl, ⟨nd, rfl⟩⟩) | (go_at_call 36; (with_reducible refine (impl_in.calls a0_3 0 999 false _ A10.out).mono ?_); rintro e w' ⟨rfl, ⟨nd, rfl⟩⟩))
            go_meet
            case rel => exact ⟨_, (true), rs_, H', ⟨by first | omega | exact Nat.le_refl _⟩, ⟨bq_ BK173.out⟩, ⟨hbw_ HB⟩⟩
        · replace c9 := Bool.eq_false_iff.mpr c9; subst c9; rw [if_neg nt_] at H; have H' := Aside0.mk H; clear H; have hcz18 := bc9_ BK173.out; have hfz18 := bf9_ BK173.out
          go_wp2_with (first | ((with_reducible refine gate_callee (f := 35) rfl ?_); refine goesL_ (some 5) rfl rfl Try.func35 (by kernel_rfl) rfl #[.int .i64 a0_0] rfl mp_ ?_; (with_reducible refine (impl_isID.calls a0_0 true _ A4.out).mono ?_); rintro e w' ⟨rfl, ⟨nd, rfl⟩⟩; refine ⟨_, rfl, ?_⟩) | (go_at_call 33; (with_reducible refine (impl_isScheme.calls a0_1 true _ A6.out).mono ?_); rintro e w' ⟨rfl, ⟨nd, rfl⟩⟩) | (go_at_call 36; (with_reducible refine (impl_in.calls a0_2 1 3 false _ A8.out).mono ?_); rintro e w' ⟨rfl, ⟨nd, rfl⟩⟩))
          go_meet
          case rel => exact ⟨_, (true), rs_, H', ⟨by first | omega | exact Nat.le_refl _⟩, ⟨bq_ BK173.out⟩, ⟨hbw_ HB⟩⟩
      · replace c7 := Bool.eq_false_iff.mpr c7; subst c7; rw [if_neg nt_] at H; have H' := Aside0.mk H; clear H; have hcz19 := bc9_ BK173.out; have hfz19 := bf9_ BK173.out
        go_wp2_with (first | ((with_reducible refine gate_callee (f := 35) rfl ?_); refine goesL_ (some 5) rfl rfl Try.func35 (by kernel_rfl) rfl #[.int .i64 a0_0] rfl mp_ ?_; (with_reducible refine (impl_isID.calls a0_0 true _ A4.out).mono ?_); rintro e w' ⟨rfl, ⟨nd, rfl⟩⟩; refine ⟨_, rfl, ?_⟩) | (go_at_call 33; (with_reducible refine (impl_isScheme.calls a0_1 false _ A6.out).mono ?_); rintro e w' ⟨rfl, ⟨nd, rfl⟩⟩))
        go_meet
        case rel => exact ⟨_, (true), rs_, H', ⟨by first | omega | exact Nat.le_refl _⟩, ⟨bq_ BK173.out⟩, ⟨hbw_ HB⟩⟩
    · replace c5 := Bool.eq_false_iff.mpr c5; subst c5; rw [if_neg nt_] at H; have H' := Aside0.mk H; clear H; have hcz20 := bc9_ BK173.out; have hfz20 := bf9_ BK173.out
      go_wp2_with (first | ((with_reducible refine gate_callee (f := 35) rfl ?_); refine goesL_ (some 5) rfl rfl Try.func35 (by kernel_rfl) rfl #[.int .i64 a0_0] rfl mp_ ?_; (with_reducible refine (impl_isID.calls a0_0 false _ A4.out).mono ?_); rintro e w' ⟨rfl, ⟨nd, rfl⟩⟩; refine ⟨_, rfl, ?_⟩))
      go_meet
      case rel => exact ⟨_, (true), rs_, H', ⟨by first | omega | exact Nat.le_refl _⟩, ⟨bq_ BK173.out⟩, ⟨hbw_ HB⟩⟩
  case rest =>
    clear HC2; obtain ⟨kq, x36_1, rfl, HA, HJ1, BK173, HB⟩ := hcut
    cases kq with
    | zero => exact absurd HA.out (by simp [impl_IsValidTransaction.j0])
    | succ kj1 =>
      have H := HA.out; clear HA; simp only [impl_IsValidTransaction.j0] at H
      by_cases c21 : x36_1 = true
      · subst c21; rw [if_pos rfl] at H; obtain rfl := Option.some.inj H
        go_wp2
        go_ret; exact ⟨ew_, hq1_ HB.out GE173.out⟩
      · replace c21 := Bool.eq_false_iff.mpr c21; subst c21; rw [if_neg nt_] at H; have HC22 := Aside0.mk H; clear H
        go_upto_region 3 with (fail)
        go_cut [55] (fun v55 wc => ∃ (kq : Nat) (x55_21 : Bool), v55 = .bool x55_21 ∧ Aside0 (impl_IsValidTransaction.j1 kq x55_21 a0_0 a0_1 a0_2 a0_3 a0_4 a0_5 a0_6 l0_7 l0_8 = some r) ∧ Aside0 (kq ≤ kj1) ∧ Aside0 (wc.heap[gb173]? = some (.cells #[.int .i64 a0_0, .int .i64 a0_1, .int .i64 a0_2, .int .i64 a0_3, .int .i64 a0_4, .int .i64 a0_5, .int .i64 a0_6, (.slice A0_7 l0_7.length c0_7), (.slice A0_8 l0_8.length c0_8)] 29 (0, 0))) ∧ Aside0 (Below w.heap.size w wc))
        case first =>
          have H := HC22.out; clear HC22
          by_cases c23 : a0_2 = 2
          · rw [if_pos c23] at H; have c23b0 : (a0_2 == 2) = true := beq_iff_eq.mpr c23; have c23b1 : (a0_2 != 2) = false := bne_eq_false_iff_eq.mpr c23; clear c23; (first | rw [c23b0] | (simp only [i64_w, i32_w]; rw [c23b0]) | skip); replace H := Option.bind_eq_some_iff.mp H; obtain ⟨t180, A240, H⟩ := H; have A24 := Aside0.mk A240; clear A240
            by_cases c25 : t180 = true
            · subst c25; rw [if_pos rfl] at H; have H' := Aside0.mk H; clear H; have hcz26 := bc9_ BK173.out; have hfz26 := bf9_ BK173.out
              go_wp2_with (first | (go_at_call 37; (with_reducible refine (impl_IsStamp.calls a0_6 true _ A24.out).mono ?_); rintro e w' ⟨rfl, ⟨nd, rfl⟩⟩))
              go_meet
              case rel => exact ⟨_, (false), rs_, H', ⟨by have := HJ1.out; first | omega | exact Nat.le_refl _⟩, ⟨bq_ BK173.out⟩, ⟨hbw_ HB⟩⟩
            · replace c25 := Bool.eq_false_iff.mpr c25; subst c25; rw [if_neg nt_] at H; have H' := Aside0.mk H; clear H; have hcz27 := bc9_ BK173.out; have hfz27 := bf9_ BK173.out
              go_wp2_with (first | (go_at_call 37; (with_reducible refine (impl_IsStamp.calls a0_6 false _ A24.out).mono ?_); rintro e w' ⟨rfl, ⟨nd, rfl⟩⟩))
              go_meet
              case rel => exact ⟨_, (true), rs_, H', ⟨by have := HJ1.out; first | omega | exact Nat.le_refl _⟩, ⟨bq_ BK173.out⟩, ⟨hbw_ HB⟩⟩
          · rw [if_neg c23] at H; have c23b0 : (a0_2 == 2) = false := beq_eq_false_iff_ne.mpr c23; have c23b1 : (a0_2 != 2) = true := bne_iff_ne.mpr c23; (first | rw [c23b0] | (simp only [i64_w, i32_w]; rw [c23b0]) | skip); have H' := Aside0.mk H; clear H; have hcz28 := bc9_ BK173.out; have hfz28 := bf9_ BK173.out
            go_wp2
            go_meet
            case rel => exact ⟨_, ((a0_6 != 0)), rs_, H', ⟨by have := HJ1.out; first | omega | exact Nat.le_refl _⟩, ⟨bq_ BK173.out⟩, ⟨hbw_ HB⟩⟩
        case rest =>
          clear HC22; (try clear c23b0); (try clear c23b1); obtain ⟨kq, x55_21, rfl, HA, HJ21, BK173, HB⟩ := hcut
          cases kq with
          | zero => exact absurd HA.out (by simp [impl_IsValidTransaction.j1])
          | succ kj21 =>
            have H := HA.out; clear HA; simp only [impl_IsValidTransaction.j1] at H
            by_cases c29 : x55_21 = true
            · subst c29; rw [if_pos rfl] at H; obtain rfl := Option.some.inj H
              go_wp2
              go_ret; exact ⟨ew_, hq1_ HB.out GE173.out⟩
            · replace c29 := Bool.eq_false_iff.mpr c29; subst c29; rw [if_neg nt_] at H; replace H := Option.bind_eq_some_iff.mp H; obtain ⟨t181, A300, H⟩ := H; have A30 := Aside0.mk A300; clear A300
              by_cases c31 : t181 = true
              · subst c31; rw [if_pos rfl] at H; replace H := Option.bind_eq_some_iff.mp H; obtain ⟨t182, A320, H⟩ := H; have A32 := Aside0.mk A320; clear A320; obtain rfl := Option.some.inj H; have hcz33 := bc9_ BK173.out; have hfz33 := bf9_ BK173.out
                go_wp2_with (first | ((with_reducible refine gate_callee (f := 38) rfl ?_); refine goesL_ (some 58) rfl rfl Try.func38 (by kernel_rfl) rfl #[.slice A0_7 l0_7.length c0_7] rfl mp_ ?_; (with_reducible refine (impl_areReads.calls kj21 _ _ l0_7 true _ ?side1 ?side2 A30.out).mono ?_); (case side1 => exact cq_ HR0_7.out HB.out); (case side2 => exact HC0_7.out); rintro e w34 ⟨rfl, hb⟩; refine ⟨_, rfl, ?_⟩; replace BK173 := bb_ BK173 hb; replace HB := hs_ HB hb; (try clear hb); (try clear hb2); (try clear hk); (try clear hi); have hcz35 := bc9_ BK173.out; have hfz35 := bf9_ BK173.out) | (go_at_call 39; (with_reducible refine (impl_areWrites.calls kj21 _ _ l0_8 t182 _ ?side1 ?side2 A32.out).mono ?_); (case side1 => exact cq_ HR0_8.out HB.out); (case side2 => exact HC0_8.out); rintro e w36 ⟨rfl, hb⟩; replace BK173 := bb_ BK173 hb; replace HB := hs_ HB hb; (try clear hb); (try clear hb2); (try clear hk); (try clear hi)))
                go_ret; exact ⟨ew_, hq1_ HB.out GE173.out⟩
              · replace c31 := Bool.eq_false_iff.mpr c31; subst c31; rw [if_neg nt_] at H; obtain rfl := Option.some.inj H; have hcz37 := bc9_ BK173.out; have hfz37 := bf9_ BK173.out
                go_wp2_with (first | ((with_reducible refine gate_callee (f := 38) rfl ?_); refine goesL_ (some 58) rfl rfl Try.func38 (by kernel_rfl) rfl #[.slice A0_7 l0_7.length c0_7] rfl mp_ ?_; (with_reducible refine (impl_areReads.calls kj21 _ _ l0_7 false _ ?side1 ?side2 A30.out).mono ?_); (case side1 => exact cq_ HR0_7.out HB.out); (case side2 => exact HC0_7.out); rintro e w38 ⟨rfl, hb⟩; refine ⟨_, rfl, ?_⟩; replace BK173 := bb_ BK173 hb; replace HB := hs_ HB hb; (try clear hb); (try clear hb2); (try clear hk); (try clear hi)))
                go_ret; exact ⟨ew_, hq1_ HB.out GE173.out⟩

/-! ### impl_NewTransaction: function 7 -/
def impl_NewTransaction.f (k : Nat) (a0 : Int) (a1 : Int) (a2 : Int) : Option (Int × Int × Int × Int × Int × Int × Int × (List (S47)) × (List (S58)) × Bool) := (impl_IsValidTransaction.f k a0 a1 1 a2 0 1000 0 ([] : List (S47)) ([] : List (S58))).bind fun t185 => (if t185 = true then (some (a0, a1, 1, a2, 0, 1000, 0, ([] : List (S47)), ([] : List (S58)), true)) else (some (0, 0, 0, 0, 0, 0, 0, ([] : List (S47)), ([] : List (S58)), false)))
theorem impl_NewTransaction.mono : ∀ a0 a1 a2 k, LeO (impl_NewTransaction.f k a0 a1 a2) (impl_NewTransaction.f (k + 1) a0 a1 a2) := by
  intro a0 a1 a2 k; unfold impl_NewTransaction.f
  repeat' first
      | (with_reducible first | apply impl_IsValidTransaction.mono | exact LeO.refl _ | exact LeO.none _ | refine LeO.ite ?_ ?_ | refine LeO.bind ?_ (fun _ => ?_))
set_option maxHeartbeats 8000000 in
set_option maxRecDepth 100000 in
theorem impl_NewTransaction.calls (k : Nat) (a0 : Int) (a1 : Int) (a2 : Int) (r1 : Int) (r2 : Int) (r3 : Int) (r4 : Int) (r5 : Int) (r6 : Int) (r7 : Int) (r8 : List (S47)) (r9 : List (S58)) (r10 : Bool) (w : World) (h : impl_NewTransaction.f k a0 a1 a2 = some (r1, r2, r3, r4, r5, r6, r7, r8, r9, r10)) :
    Calls Try.prog 7 #[.int .i64 a0, .int .i64 a1, .int .i64 a2] w fun e w' => ∃ v7_ v8_ : Value, e = .returned (.tuple #[.agg #[.int .i64 r1, .int .i64 r2, .int .i64 r3, .int .i64 r4, .int .i64 r5, .int .i64 r6, .int .i64 r7, v7_, v8_], .bool r10]) ∧ Kd.R k47 47 w' w.heap.size (fun _ => True) v7_ r8 ∧ Kd.R k58 58 w' w.heap.size (fun _ => True) v8_ r9 ∧ Below w.heap.size w w' := by
  have hu29 := Try.underlying29; have HB := Aside0.mk (Below.refl w.heap.size w); have H : ((impl_IsValidTransaction.f k a0 a1 1 a2 0 1000 0 ([] : List (S47)) ([] : List (S58))).bind fun t185 => (if t185 = true then (some (a0, a1, 1, a2, 0, 1000, 0, ([] : List (S47)), ([] : List (S58)), true)) else (some (0, 0, 0, 0, 0, 0, 0, ([] : List (S47)), ([] : List (S58)), false)))) = some (r1, r2, r3, r4, r5, r6, r7, r8, r9, r10) := h; clear h; replace H := Option.bind_eq_some_iff.mp H; obtain ⟨t185, A40, H⟩ := H; have A4 := Aside0.mk A40; clear A40
  by_cases c5 : t185 = true
  · subst c5; rw [if_pos rfl] at H; simp only [Option.some.injEq, Prod.mk.injEq] at H; obtain ⟨rfl, rfl, rfl, rfl, rfl, rfl, rfl, rfl, rfl, rfl⟩ := H
    go_enter Try.func7, Try.ntmps7
    go_wp2_with (first | ((with_reducible refine gate_dst (N := 6) rfl ?_); refine be_ 6 #[.int .i64 0, .int .i64 0, .int .i64 0, .int .i64 0, .int .i64 0, .int .i64 0, .int .i64 0, .slice none 0 0, .slice none 0 0] 29 ?_; intro gb183 hg w6 hbox hb; have BK183 := Aside0.mk (hbox); have GW183 := wk_ hg HB; replace HB := hs_ HB hb; have GE183 := GW183; clear hb hbox hg) | ((with_reducible refine gate_dst (N := 8) rfl ?_); refine be_ 8 #[.int .i64 0, .int .i64 0, .int .i64 0, .int .i64 0, .int .i64 0, .int .i64 0, .int .i64 0, .slice none 0 0, .slice none 0 0] 29 ?_; intro gb184 hg w7 hbox hb; have BK184 := Aside0.mk (hbox); have GW184 := wk_ hg HB; replace HB := hs_ HB hb; have GE184 := GW184; have NB183_184 := nk_ hg BK183; replace BK183 := bb_ BK183 hb; have NB184_183 := ny_ NB183_184; clear hb hbox hg; have hnb8 := NB184_183.out; have hnc8 := NB183_184.out; have hcz9 := bc9_ BK184.out; have hfz9 := bf9_ BK184.out) | ((with_reducible refine gate_callee (f := 12) rfl ?_); refine goesL_ (some 14) rfl rfl Try.func12 (by kernel_rfl) rfl #[.agg #[.int .i64 a0, .int .i64 a1, .int .i64 1, .int .i64 a2, .int .i64 0, .int .i64 1000, .int .i64 0, .slice none 0 0, .slice none 0 0]] rfl mp_ ?_; (refine (impl_IsValidTransaction.calls k a0 a1 1 a2 0 1000 0 _ _ ([] : List (S47)) _ _ ([] : List (S58)) true _ ?side1 ?side2 ?side3 ?side4 A4.out).mono ?_); (case side1 => exact Kd.C_nil _ _); (case side2 => exact Nat.le_refl _); (case side3 => exact Kd.C_nil _ _); (case side4 => exact Nat.le_refl _); rintro e w10 ⟨rfl, hb⟩; refine ⟨_, rfl, ?_⟩; replace BK183 := Aside0.mk (blk_below (g := gb183) (o := .cells #[.int .i64 0, .int .i64 0, .int .i64 0, .int .i64 0, .int .i64 0, .int .i64 0, .int .i64 0, .slice none 0 0, .slice none 0 0] 29 (0, 0)) (bk1_ BK183.out NB183_184.out) hb); replace BK184 := Aside0.mk (blk_below (g := gb184) (o := .cells #[.int .i64 a0, .int .i64 a1, .int .i64 1, .int .i64 a2, .int .i64 0, .int .i64 1000, .int .i64 0, .slice none 0 0, .slice none 0 0] 29 (0, 0)) (bz9_ BK184.out) hb); replace HB := hs_ HB hb; (try clear hb); (try clear hb2); (try clear hk); (try clear hi); have hcz11 := bc9_ BK184.out; have hfz11 := bf9_ BK184.out; have hcz12 := bc9_ BK183.out; have hfz12 := bf9_ BK183.out))
    refine bodyPost_ret (results_ct rfl _ _ gb183 29 #[.int .i64 a0, .int .i64 a1, .int .i64 1, .int .i64 a2, .int .i64 0, .int .i64 1000, .int .i64 0, .slice none 0 0, .slice none 0 0] (0, 0) _ rfl (bz9_ BK183.out) Try.underlying29 rfl (by kernel_rfl)) rfl ?_; exact ⟨_, _, by first | rfl | (simp [errW_none, errW_some] <;> rfl) | (simp [*, errW_none, errW_some] <;> rfl), by first | exact Kd.R_nil _ _ _ _ _ | exact Kd.N_nil _ _ _ _ _ | exact Kd.V_nil _ _ _ _ _ | exact Kd.Q_nil _ _ _ _ _ | exact Kd.S_nil _ _ _ _ _, by first | exact Kd.R_nil _ _ _ _ _ | exact Kd.N_nil _ _ _ _ _ | exact Kd.V_nil _ _ _ _ _ | exact Kd.Q_nil _ _ _ _ _ | exact Kd.S_nil _ _ _ _ _, hq2_ HB.out GE183.out GE184.out⟩
  · replace c5 := Bool.eq_false_iff.mpr c5; subst c5; rw [if_neg nt_] at H; simp only [Option.some.injEq, Prod.mk.injEq] at H; obtain ⟨rfl, rfl, rfl, rfl, rfl, rfl, rfl, rfl, rfl, rfl⟩ := H
    go_enter Try.func7, Try.ntmps7
    go_wp2_with (first | ((with_reducible refine gate_dst (N := 6) rfl ?_); refine be_ 6 #[.int .i64 0, .int .i64 0, .int .i64 0, .int .i64 0, .int .i64 0, .int .i64 0, .int .i64 0, .slice none 0 0, .slice none 0 0] 29 ?_; intro gb183 hg w13 hbox hb; have BK183 := Aside0.mk (hbox); have GW183 := wk_ hg HB; replace HB := hs_ HB hb; have GE183 := GW183; clear hb hbox hg) | ((with_reducible refine gate_dst (N := 8) rfl ?_); refine be_ 8 #[.int .i64 0, .int .i64 0, .int .i64 0, .int .i64 0, .int .i64 0, .int .i64 0, .int .i64 0, .slice none 0 0, .slice none 0 0] 29 ?_; intro gb184 hg w14 hbox hb; have BK184 := Aside0.mk (hbox); have GW184 := wk_ hg HB; replace HB := hs_ HB hb; have GE184 := GW184; have NB183_184 := nk_ hg BK183; replace BK183 := bb_ BK183 hb; have NB184_183 := ny_ NB183_184; clear hb hbox hg; have hnb15 := NB184_183.out; have hnc15 := NB183_184.out; have hcz16 := bc9_ BK184.out; have hfz16 := bf9_ BK184.out) | ((with_reducible refine gate_callee (f := 12) rfl ?_); refine goesL_ (some 14) rfl rfl Try.func12 (by kernel_rfl) rfl #[.agg #[.int .i64 a0, .int .i64 a1, .int .i64 1, .int .i64 a2, .int .i64 0, .int .i64 1000, .int .i64 0, .slice none 0 0, .slice none 0 0]] rfl mp_ ?_; (refine (impl_IsValidTransaction.calls k a0 a1 1 a2 0 1000 0 _ _ ([] : List (S47)) _ _ ([] : List (S58)) false _ ?side1 ?side2 ?side3 ?side4 A4.out).mono ?_); (case side1 => exact Kd.C_nil _ _); (case side2 => exact Nat.le_refl _); (case side3 => exact Kd.C_nil _ _); (case side4 => exact Nat.le_refl _); rintro e w17 ⟨rfl, hb⟩; refine ⟨_, rfl, ?_⟩; replace BK183 := Aside0.mk (blk_below (g := gb183) (o := .cells #[.int .i64 0, .int .i64 0, .int .i64 0, .int .i64 0, .int .i64 0, .int .i64 0, .int .i64 0, .slice none 0 0, .slice none 0 0] 29 (0, 0)) (bk1_ BK183.out NB183_184.out) hb); replace BK184 := Aside0.mk (blk_below (g := gb184) (o := .cells #[.int .i64 a0, .int .i64 a1, .int .i64 1, .int .i64 a2, .int .i64 0, .int .i64 1000, .int .i64 0, .slice none 0 0, .slice none 0 0] 29 (0, 0)) (bz9_ BK184.out) hb); replace HB := hs_ HB hb; (try clear hb); (try clear hb2); (try clear hk); (try clear hi); have hcz18 := bc9_ BK183.out; have hfz18 := bf9_ BK183.out))
    refine bodyPost_ret (results_ct rfl _ _ gb183 29 #[.int .i64 0, .int .i64 0, .int .i64 0, .int .i64 0, .int .i64 0, .int .i64 0, .int .i64 0, .slice none 0 0, .slice none 0 0] (0, 0) _ rfl (bz9_ BK183.out) Try.underlying29 rfl (by kernel_rfl)) rfl ?_; exact ⟨_, _, by first | rfl | (simp [errW_none, errW_some] <;> rfl) | (simp [*, errW_none, errW_some] <;> rfl), by first | exact Kd.R_nil _ _ _ _ _ | exact Kd.N_nil _ _ _ _ _ | exact Kd.V_nil _ _ _ _ _ | exact Kd.Q_nil _ _ _ _ _ | exact Kd.S_nil _ _ _ _ _, by first | exact Kd.R_nil _ _ _ _ _ | exact Kd.N_nil _ _ _ _ _ | exact Kd.V_nil _ _ _ _ _ | exact Kd.Q_nil _ _ _ _ _ | exact Kd.S_nil _ _ _ _ _, hq2_ HB.out GE183.out GE184.out⟩

end Go.Proofs.Ytacdaekigoldaaa.PFnTransactions
