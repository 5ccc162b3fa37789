-- Printed by my own myprint.py out of the translation of the seat Ytbcllflajakajaa. Not trusted: Lean checks it.
import Derived.Test.YtbcllflajakajaaPFnExactStaleReadsx0
import Derived.Test.YtbcllflajakajaaPFnExactStaleReadsx8
import Derived.Test.YtbcllflajakajaaPFnExactStaleReadsx11
import Derived.Test.YtbcllflajakajaaPFnExactStaleReadsx12
import Derived.Test.YtbcllflajakajaaPFnExactStaleReadsx13
namespace Go.Proofs.Ytbcllflajakajaa.PFnExactStaleReads
open Go.RowKit Go.Proofs.YtbcllflajakajaaW.PrintWords Go.Proofs.YtbcllflajakajaaW.PrintLast Go.Proofs.YtbcllflajakajaaW.PrintMore
attribute [local go_sem] max2_int min2_int max_two min_two max_three min_three max_four min_four   -- for this text's walks alone
set_option linter.unusedVariables false
set_option linter.unusedSimpArgs false

/-! ### impl_IsValidTransaction: function 52 -/
mutual
def impl_IsValidTransaction.j0 : Nat → Bool → Int → Int → Int → Int → Int → Int → Int → List (S55) → List (S76) → Option (Bool)
  | 0, _, _, _, _, _, _, _, _, _, _ => none
  | k + 1, x36, x309000, x309001, x309002, x309003, x309004, x309005, x309006, x309007, x309008 => if x36 = true then (some false) else (if x309002 = 2 then ((impl_IsStamp.f x309006).bind fun t315 => (if t315 = true then (impl_IsValidTransaction.j1 k false x309000 x309001 x309002 x309003 x309004 x309005 x309006 x309007 x309008) else (impl_IsValidTransaction.j1 k true x309000 x309001 x309002 x309003 x309004 x309005 x309006 x309007 x309008))) else (impl_IsValidTransaction.j1 k (x309006 != 0) x309000 x309001 x309002 x309003 x309004 x309005 x309006 x309007 x309008))
def impl_IsValidTransaction.j1 : Nat → Bool → Int → Int → Int → Int → Int → Int → Int → List (S55) → List (S76) → Option (Bool)
  | 0, _, _, _, _, _, _, _, _, _, _ => none
  | k + 1, x55, x309000, x309001, x309002, x309003, x309004, x309005, x309006, x309007, x309008 => if x55 = true then (some false) else ((impl_areReads.f k x309007).bind fun t316 => (if t316 = true then ((impl_areWrites.f k x309008).bind fun t317 => (some t317)) else (some false)))
end
def impl_IsValidTransaction.f (k : Nat) (a0_0 : Int) (a0_1 : Int) (a0_2 : Int) (a0_3 : Int) (a0_4 : Int) (a0_5 : Int) (a0_6 : Int) (l0_7 : List (S55)) (l0_8 : List (S76)) : Option (Bool) := (impl_isID.f a0_0).bind fun t309 => (if t309 = true then ((impl_isScheme.f a0_1).bind fun t310 => (if t310 = true then ((impl_in.f a0_2 1 3).bind fun t311 => (if t311 = true then ((impl_in.f a0_3 0 999).bind fun t312 => (if t312 = true then ((impl_in.f a0_4 0 999).bind fun t313 => (if t313 = true then ((impl_in.f a0_5 1 1000).bind fun t314 => (impl_IsValidTransaction.j0 k (!t314) a0_0 a0_1 a0_2 a0_3 a0_4 a0_5 a0_6 l0_7 l0_8)) else (impl_IsValidTransaction.j0 k true a0_0 a0_1 a0_2 a0_3 a0_4 a0_5 a0_6 l0_7 l0_8))) else (impl_IsValidTransaction.j0 k true a0_0 a0_1 a0_2 a0_3 a0_4 a0_5 a0_6 l0_7 l0_8))) else (impl_IsValidTransaction.j0 k true a0_0 a0_1 a0_2 a0_3 a0_4 a0_5 a0_6 l0_7 l0_8))) else (impl_IsValidTransaction.j0 k true a0_0 a0_1 a0_2 a0_3 a0_4 a0_5 a0_6 l0_7 l0_8))) else (impl_IsValidTransaction.j0 k true a0_0 a0_1 a0_2 a0_3 a0_4 a0_5 a0_6 l0_7 l0_8))
theorem impl_IsValidTransaction.mono_l : ∀ k, (∀ y0 y1 y2 y3 y4 y5 y6 y7 y8 y9, LeO (impl_IsValidTransaction.j0 k y0 y1 y2 y3 y4 y5 y6 y7 y8 y9) (impl_IsValidTransaction.j0 (k + 1) y0 y1 y2 y3 y4 y5 y6 y7 y8 y9)) ∧ (∀ y0 y1 y2 y3 y4 y5 y6 y7 y8 y9, LeO (impl_IsValidTransaction.j1 k y0 y1 y2 y3 y4 y5 y6 y7 y8 y9) (impl_IsValidTransaction.j1 (k + 1) y0 y1 y2 y3 y4 y5 y6 y7 y8 y9))
  | 0 => ⟨fun _ _ _ _ _ _ _ _ _ _ r h => by simp [impl_IsValidTransaction.j0] at h, fun _ _ _ _ _ _ _ _ _ _ r h => by simp [impl_IsValidTransaction.j1] at h⟩
  | k + 1 => by
    obtain ⟨ih0, ih1⟩ := impl_IsValidTransaction.mono_l k; refine ⟨?_, ?_⟩
    · intro y0 y1 y2 y3 y4 y5 y6 y7 y8 y9; unfold impl_IsValidTransaction.j0
      repeat' first
      | (with_reducible first | apply ih0 | apply ih1 | apply impl_areReads.mono | apply impl_areWrites.mono | exact LeO.refl _ | exact LeO.none _ | refine LeO.ite ?_ ?_ | refine LeO.bind ?_ (fun _ => ?_))
    · intro y0 y1 y2 y3 y4 y5 y6 y7 y8 y9; unfold impl_IsValidTransaction.j1
      repeat' first
      | (with_reducible first | apply ih0 | apply ih1 | apply impl_areReads.mono | apply impl_areWrites.mono | exact LeO.refl _ | exact LeO.none _ | refine LeO.ite ?_ ?_ | refine LeO.bind ?_ (fun _ => ?_))
theorem impl_IsValidTransaction.mono : ∀ a0 a1 a2 a3 a4 a5 a6 a7 a8 k, LeO (impl_IsValidTransaction.f k a0 a1 a2 a3 a4 a5 a6 a7 a8) (impl_IsValidTransaction.f (k + 1) a0 a1 a2 a3 a4 a5 a6 a7 a8) := by
  intro a0 a1 a2 a3 a4 a5 a6 a7 a8 k; obtain ⟨ih0, ih1⟩ := impl_IsValidTransaction.mono_l k; unfold impl_IsValidTransaction.f
  repeat' first
      | (with_reducible first | apply ih0 | apply ih1 | apply impl_areReads.mono | apply impl_areWrites.mono | exact LeO.refl _ | exact LeO.none _ | refine LeO.ite ?_ ?_ | refine LeO.bind ?_ (fun _ => ?_))
set_option maxHeartbeats 8000000 in
set_option maxRecDepth 100000 in
theorem impl_IsValidTransaction.calls (k : Nat) (a0_0 : Int) (a0_1 : Int) (a0_2 : Int) (a0_3 : Int) (a0_4 : Int) (a0_5 : Int) (a0_6 : Int) (A0_7 : Option Addr) (c0_7 : Nat) (l0_7 : List (S55)) (A0_8 : Option Addr) (c0_8 : Nat) (l0_8 : List (S76)) (r : Bool) (w : World) (hr0_7 : Kd.C k55 w A0_7 l0_7.length l0_7) (hc0_7 : l0_7.length ≤ c0_7) (hr0_8 : Kd.C k76 w A0_8 l0_8.length l0_8) (hc0_8 : l0_8.length ≤ c0_8) (h : impl_IsValidTransaction.f k a0_0 a0_1 a0_2 a0_3 a0_4 a0_5 a0_6 l0_7 l0_8 = some r) :
    Calls Try.prog 52 #[.agg #[.int .i64 a0_0, .int .i64 a0_1, .int .i64 a0_2, .int .i64 a0_3, .int .i64 a0_4, .int .i64 a0_5, .int .i64 a0_6, .slice A0_7 l0_7.length c0_7, .slice A0_8 l0_8.length c0_8]] w fun e w' => e = .returned (.bool r) ∧ Below w.heap.size w w' := by
  have hu39 := Try.underlying39; have HR0_7 := Aside0.mk hr0_7; have HC0_7 := Aside0.mk hc0_7; clear hr0_7 hc0_7; have HR0_8 := Aside0.mk hr0_8; have HC0_8 := Aside0.mk hc0_8; clear hr0_8 hc0_8; have HB := Aside0.mk (Below.refl w.heap.size w); have H : ((impl_isID.f a0_0).bind fun t309 => (if t309 = true then ((impl_isScheme.f a0_1).bind fun t310 => (if t310 = true then ((impl_in.f a0_2 1 3).bind fun t311 => (if t311 = true then ((impl_in.f a0_3 0 999).bind fun t312 => (if t312 = true then ((impl_in.f a0_4 0 999).bind fun t313 => (if t313 = true then ((impl_in.f a0_5 1 1000).bind fun t314 => (impl_IsValidTransaction.j0 k (!t314) a0_0 a0_1 a0_2 a0_3 a0_4 a0_5 a0_6 l0_7 l0_8)) else (impl_IsValidTransaction.j0 k true a0_0 a0_1 a0_2 a0_3 a0_4 a0_5 a0_6 l0_7 l0_8))) else (impl_IsValidTransaction.j0 k true a0_0 a0_1 a0_2 a0_3 a0_4 a0_5 a0_6 l0_7 l0_8))) else (impl_IsValidTransaction.j0 k true a0_0 a0_1 a0_2 a0_3 a0_4 a0_5 a0_6 l0_7 l0_8))) else (impl_IsValidTransaction.j0 k true a0_0 a0_1 a0_2 a0_3 a0_4 a0_5 a0_6 l0_7 l0_8))) else (impl_IsValidTransaction.j0 k true a0_0 a0_1 a0_2 a0_3 a0_4 a0_5 a0_6 l0_7 l0_8))) = some r := h; clear h; have HC2 := Aside0.mk H; clear H
  go_enter Try.func52, Try.ntmps52
  go_upto_region 1 with (first | ((with_reducible refine gate_dst (N := 1) rfl ?_); refine be_ 1 #[.int .i64 a0_0, .int .i64 a0_1, .int .i64 a0_2, .int .i64 a0_3, .int .i64 a0_4, .int .i64 a0_5, .int .i64 a0_6, .slice A0_7 l0_7.length c0_7, .slice A0_8 l0_8.length c0_8] 39 ?_; intro gb308 hg w3 hbox hb; have BK308 := Aside0.mk (hbox); have GW308 := wk_ hg HB; replace HB := hs_ HB hb; have GE308 := GW308; clear hb hbox hg))
  (try simp only [Act.put, List.setIfInBounds_toArray, List.set_cons_zero, List.set_cons_succ])
  go_cut [36] (fun v36 wc => ∃ (kq : Nat) (x36_1 : Bool), v36 = .bool x36_1 ∧ Aside0 (impl_IsValidTransaction.j0 kq x36_1 a0_0 a0_1 a0_2 a0_3 a0_4 a0_5 a0_6 l0_7 l0_8 = some r) ∧ Aside0 (kq ≤ k) ∧ Aside0 (wc.heap[gb308]? = some (.cells #[.int .i64 a0_0, .int .i64 a0_1, .int .i64 a0_2, .int .i64 a0_3, .int .i64 a0_4, .int .i64 a0_5, .int .i64 a0_6, (.slice A0_7 l0_7.length c0_7), (.slice A0_8 l0_8.length c0_8)] 39 (0, 0))) ∧ Aside0 (Below w.heap.size w wc))
  case first =>
    have H := HC2.out; clear HC2; replace H := Option.bind_eq_some_iff.mp H; obtain ⟨t309, A40, H⟩ := H; have A4 := Aside0.mk A40; clear A40
    by_cases c5 : t309 = true
    · subst c5; rw [if_pos rfl] at H; replace H := Option.bind_eq_some_iff.mp H; obtain ⟨t310, A60, H⟩ := H; have A6 := Aside0.mk A60; clear A60
      by_cases c7 : t310 = true
      · subst c7; rw [if_pos rfl] at H; replace H := Option.bind_eq_some_iff.mp H; obtain ⟨t311, A80, H⟩ := H; have A8 := Aside0.mk A80; clear A80
        by_cases c9 : t311 = true
        · subst c9; rw [if_pos rfl] at H; replace H := Option.bind_eq_some_iff.mp H; obtain ⟨t312, A100, H⟩ := H; have A10 := Aside0.mk A100; clear A100
          by_cases c11 : t312 = true
          · subst c11; rw [if_pos rfl] at H; replace H := Option.bind_eq_some_iff.mp H; obtain ⟨t313, A120, H⟩ := H; have A12 := Aside0.mk A120; clear A120
            by_cases c13 : t313 = true
            · subst c13; rw [if_pos rfl] at H; replace H := Option.bind_eq_some_iff.mp H; obtain ⟨t314, A140, H⟩ := H; have A14 := Aside0.mk A140; clear A140; have H' := Aside0.mk H; clear H; have hcz15 := bc9_ BK308.out; have hfz15 := bf9_ BK308.out
              go_wp2_with (first | ((with_reducible refine gate_callee (f := 83) rfl ?_); refine goesL_ (some 5) rfl rfl Try.func83 (by kernel_rfl) rfl #[.int .i64 a0_0] rfl mp_ ?_; (with_reducible refine (impl_isID.calls a0_0 true _ A4.out).mono ?_); rintro e w' ⟨rfl, ⟨nd, rfl⟩⟩; refine ⟨_, rfl, ?_⟩) | (go_at_call 84; (with_reducible refine (impl_isScheme.calls a0_1 true _ A6.out).mono ?_); rintro e w' ⟨rfl, ⟨nd, rfl⟩⟩) | (go_at_call 59; (with_reducible refine (impl_in.calls a0_2 1 3 true _ A8.out).mono ?_); rintro e w' ⟨rfl, ⟨nd, rfl⟩⟩) | (go_at_call 59; (with_reducible refine (impl_in.calls a0_3 0 999 true _ A10.out).mono ?_); rintro e w' ⟨rfl, ⟨nd, rfl⟩⟩) | (go_at_call 59; (with_reducible refine (impl_in.calls a0_4 0 999 true _ A12.out).mono ?_); rintro e w' ⟨rfl, ⟨nd, rfl⟩⟩) | (go_at_call 59; (with_reducible refine (impl_in.calls a0_5 1 1000 t314 _ A14.out).mono ?_); rintro e w' ⟨rfl, ⟨nd, rfl⟩⟩))
              go_meet
              case rel => exact ⟨_, (!t314), rs_, H', ⟨by first | omega | exact Nat.le_refl _⟩, ⟨bq_ BK308.out⟩, ⟨hbw_ HB⟩⟩
            · replace c13 := Bool.eq_false_iff.mpr c13; subst c13; rw [if_neg nt_] at H; have H' := Aside0.mk H; clear H; have hcz16 := bc9_ BK308.out; have hfz16 := bf9_ BK308.out
              go_wp2_with (first | ((with_reducible refine gate_callee (f := 83) rfl ?_); refine goesL_ (some 5) rfl rfl Try.func83 (by kernel_rfl) rfl #[.int .i64 a0_0] rfl mp_ ?_; (with_reducible refine (impl_isID.calls a0_0 true _ A4.out).mono ?_); rintro e w' ⟨rfl, ⟨nd, rfl⟩⟩; refine ⟨_, rfl, ?_⟩) | (go_at_call 84; (with_reducible refine (impl_isScheme.calls a0_1 true _ A6.out).mono ?_); rintro e w' ⟨rfl, ⟨nd, rfl⟩⟩) | (go_at_call 59; (with_reducible refine (impl_in.calls a0_2 1 3 true _ A8.out).mono ?_); rintro e w' ⟨rfl, ⟨nd, rfl⟩⟩) | (go_at_call 59; (with_reducible refine (impl_in.calls a0_3 0 999 true _ A10.out).mono ?_); rintro e w' ⟨rfl, ⟨nd, rfl⟩⟩) | (go_at_call 59; (with_reducible refine (impl_in.calls a0_4 0 999 false _ A12.out).mono ?_); rintro e w' ⟨rfl, ⟨nd, rfl⟩⟩))
              go_meet
              case rel => exact ⟨_, (true), rs_, H', ⟨by first | omega | exact Nat.le_refl _⟩, ⟨bq_ BK308.out⟩, ⟨hbw_ HB⟩⟩
          · replace c11 := Bool.eq_false_iff.mpr c11; subst c11; rw [if_neg nt_] at H; have H' := Aside0.mk H; clear H; have hcz17 := bc9_ BK308.out; have hfz17 := bf9_ BK308.out
            go_wp2_with (first | ((with_reducible refine gate_callee (f := 83) rfl ?_); refine goesL_ (some 5) rfl rfl Try.func83 (by kernel_rfl) rfl #[.int .i64 a0_0] rfl mp_ ?_; (with_reducible refine (impl_isID.calls a0_0 true _ A4.out).mono ?_); rintro e w' ⟨rfl, ⟨nd, rfl⟩⟩; refine ⟨_, rfl, ?_⟩) | (go_at_call 84; (with_reducible refine (impl_isScheme.calls a0_1 true _ A6.out).mono ?_); rintro e w' ⟨rfl, ⟨nd, rfl⟩⟩) | (go_at_call 59; (with_reducible refine (impl_in.calls a0_2 1 3 true _ A8.out).mono ?_); rintro e w' ⟨rfl, ⟨nd, rfl⟩⟩) | (go_at_call 59; (with_reducible refine (impl_in.calls a0_3 0 999 false _ A10.out).mono ?_); rintro e w' ⟨rfl, ⟨nd, rfl⟩⟩))
            go_meet
            case rel => exact ⟨_, (true), rs_, H', ⟨by first | omega | exact Nat.le_refl _⟩, ⟨bq_ BK308.out⟩, ⟨hbw_ HB⟩⟩
        · replace c9 := Bool.eq_false_iff.mpr c9; subst c9; rw [if_neg nt_] at H; have H' := Aside0.mk H; clear H; have hcz18 := bc9_ BK308.out; have hfz18 := bf9_ BK308.out
          go_wp2_with (first | ((with_reducible refine gate_callee (f := 83) rfl ?_); refine goesL_ (some 5) rfl rfl Try.func83 (by kernel_rfl) rfl #[.int .i64 a0_0] rfl mp_ ?_; (with_reducible refine (impl_isID.calls a0_0 true _ A4.out).mono ?_); rintro e w' ⟨rfl, ⟨nd, rfl⟩⟩; refine ⟨_, rfl, ?_⟩) | (go_at_call 84; (with_reducible refine (impl_isScheme.calls a0_1 true _ A6.out).mono ?_); rintro e w' ⟨rfl, ⟨nd, rfl⟩⟩) | (go_at_call 59; (with_reducible refine (impl_in.calls a0_2 1 3 false _ A8.out).mono ?_); rintro e w' ⟨rfl, ⟨nd, rfl⟩⟩))
          go_meet
          case rel => exact ⟨_, (true), rs_, H', ⟨by first | omega | exact Nat.le_refl _⟩, ⟨bq_ BK308.out⟩, ⟨hbw_ HB⟩⟩
      · replace c7 := Bool.eq_false_iff.mpr c7; subst c7; rw [if_neg nt_] at H; have H' := Aside0.mk H; clear H; have hcz19 := bc9_ BK308.out; have hfz19 := bf9_ BK308.out
        go_wp2_with (first | ((with_reducible refine gate_callee (f := 83) rfl ?_); refine goesL_ (some 5) rfl rfl Try.func83 (by kernel_rfl) rfl #[.int .i64 a0_0] rfl mp_ ?_; (with_reducible refine (impl_isID.calls a0_0 true _ A4.out).mono ?_); rintro e w' ⟨rfl, ⟨nd, rfl⟩⟩; refine ⟨_, rfl, ?_⟩) | (go_at_call 84; (with_reducible refine (impl_isScheme.calls a0_1 false _ A6.out).mono ?_); rintro e w' ⟨rfl, ⟨nd, rfl⟩⟩))
        go_meet
        case rel => exact ⟨_, (true), rs_, H', ⟨by first | omega | exact Nat.le_refl _⟩, ⟨bq_ BK308.out⟩, ⟨hbw_ HB⟩⟩
    · replace c5 := Bool.eq_false_iff.mpr c5; subst c5; rw [if_neg nt_] at H; have H' := Aside0.mk H; clear H; have hcz20 := bc9_ BK308.out; have hfz20 := bf9_ BK308.out
      go_wp2_with (first | ((with_reducible refine gate_callee (f := 83) rfl ?_); refine goesL_ (some 5) rfl rfl Try.func83 (by kernel_rfl) rfl #[.int .i64 a0_0] rfl mp_ ?_; (with_reducible refine (impl_isID.calls a0_0 false _ A4.out).mono ?_); rintro e w' ⟨rfl, ⟨nd, rfl⟩⟩; refine ⟨_, rfl, ?_⟩))
      go_meet
      case rel => exact ⟨_, (true), rs_, H', ⟨by first | omega | exact Nat.le_refl _⟩, ⟨bq_ BK308.out⟩, ⟨hbw_ HB⟩⟩
  case rest =>
    clear HC2; obtain ⟨kq, x36_1, rfl, HA, HJ1, BK308, HB⟩ := hcut
    cases kq with
    | zero => exact absurd HA.out (by simp [impl_IsValidTransaction.j0])
    | succ kj1 =>
      have H := HA.out; clear HA; simp only [impl_IsValidTransaction.j0] at H
      by_cases c21 : x36_1 = true
      · subst c21; rw [if_pos rfl] at H; obtain rfl := Option.some.inj H
        go_wp2
        go_ret; exact ⟨ew_, hq1_ HB.out GE308.out⟩
      · replace c21 := Bool.eq_false_iff.mpr c21; subst c21; rw [if_neg nt_] at H; have HC22 := Aside0.mk H; clear H
        go_upto_region 3 with (fail)
        go_cut [55] (fun v55 wc => ∃ (kq : Nat) (x55_21 : Bool), v55 = .bool x55_21 ∧ Aside0 (impl_IsValidTransaction.j1 kq x55_21 a0_0 a0_1 a0_2 a0_3 a0_4 a0_5 a0_6 l0_7 l0_8 = some r) ∧ Aside0 (kq ≤ kj1) ∧ Aside0 (wc.heap[gb308]? = some (.cells #[.int .i64 a0_0, .int .i64 a0_1, .int .i64 a0_2, .int .i64 a0_3, .int .i64 a0_4, .int .i64 a0_5, .int .i64 a0_6, (.slice A0_7 l0_7.length c0_7), (.slice A0_8 l0_8.length c0_8)] 39 (0, 0))) ∧ Aside0 (Below w.heap.size w wc))
        case first =>
          have H := HC22.out; clear HC22
          by_cases c23 : a0_2 = 2
          · rw [if_pos c23] at H; have c23b0 : (a0_2 == 2) = true := beq_iff_eq.mpr c23; have c23b1 : (a0_2 != 2) = false := bne_eq_false_iff_eq.mpr c23; clear c23; (first | rw [c23b0] | (simp only [i64_w, i32_w]; rw [c23b0]) | skip); replace H := Option.bind_eq_some_iff.mp H; obtain ⟨t315, A240, H⟩ := H; have A24 := Aside0.mk A240; clear A240
            by_cases c25 : t315 = true
            · subst c25; rw [if_pos rfl] at H; have H' := Aside0.mk H; clear H; have hcz26 := bc9_ BK308.out; have hfz26 := bf9_ BK308.out
              go_wp2_with (first | (go_at_call 85; (with_reducible refine (impl_IsStamp.calls a0_6 true _ A24.out).mono ?_); rintro e w' ⟨rfl, ⟨nd, rfl⟩⟩))
              go_meet
              case rel => exact ⟨_, (false), rs_, H', ⟨by have := HJ1.out; first | omega | exact Nat.le_refl _⟩, ⟨bq_ BK308.out⟩, ⟨hbw_ HB⟩⟩
            · replace c25 := Bool.eq_false_iff.mpr c25; subst c25; rw [if_neg nt_] at H; have H' := Aside0.mk H; clear H; have hcz27 := bc9_ BK308.out; have hfz27 := bf9_ BK308.out
              go_wp2_with (first | (go_at_call 85; (with_reducible refine (impl_IsStamp.calls a0_6 false _ A24.out).mono ?_); rintro e w' ⟨rfl, ⟨nd, rfl⟩⟩))
              go_meet
              case rel => exact ⟨_, (true), rs_, H', ⟨by have := HJ1.out; first | omega | exact Nat.le_refl _⟩, ⟨bq_ BK308.out⟩, ⟨hbw_ HB⟩⟩
          · rw [if_neg c23] at H; have c23b0 : (a0_2 == 2) = false := beq_eq_false_iff_ne.mpr c23; have c23b1 : (a0_2 != 2) = true := bne_iff_ne.mpr c23; (first | rw [c23b0] | (simp only [i64_w, i32_w]; rw [c23b0]) | skip); have H' := Aside0.mk H; clear H; have hcz28 := bc9_ BK308.out; have hfz28 := bf9_ BK308.out
            go_wp2
            go_meet
            case rel => exact ⟨_, ((a0_6 != 0)), rs_, H', ⟨by have := HJ1.out; first | omega | exact Nat.le_refl _⟩, ⟨bq_ BK308.out⟩, ⟨hbw_ HB⟩⟩
        case rest =>
          clear HC22; (try clear c23b0); (try clear c23b1); obtain ⟨kq, x55_21, rfl, HA, HJ21, BK308, HB⟩ := hcut
          cases kq with
          | zero => exact absurd HA.out (by simp [impl_IsValidTransaction.j1])
          | succ kj21 =>
            have H := HA.out; clear HA; simp only [impl_IsValidTransaction.j1] at H
            by_cases c29 : x55_21 = true
            · subst c29; rw [if_pos rfl] at H; obtain rfl := Option.some.inj H
              go_wp2
              go_ret; exact ⟨ew_, hq1_ HB.out GE308.out⟩
            · replace c29 := Bool.eq_false_iff.mpr c29; subst c29; rw [if_neg nt_] at H; replace H := Option.bind_eq_some_iff.mp H; obtain ⟨t316, A300, H⟩ := H; have A30 := Aside0.mk A300; clear A300
              by_cases c31 : t316 = true
              · subst c31; rw [if_pos rfl] at H; replace H := Option.bind_eq_some_iff.mp H; obtain ⟨t317, A320, H⟩ := H; have A32 := Aside0.mk A320; clear A320; obtain rfl := Option.some.inj H; have hcz33 := bc9_ BK308.out; have hfz33 := bf9_ BK308.out
                go_wp2_with (first | ((with_reducible refine gate_callee (f := 86) rfl ?_); refine goesL_ (some 58) rfl rfl Try.func86 (by kernel_rfl) rfl #[.slice A0_7 l0_7.length c0_7] rfl mp_ ?_; (with_reducible refine (impl_areReads.calls kj21 _ _ l0_7 true _ ?side1 ?side2 A30.out).mono ?_); (case side1 => exact cq_ HR0_7.out HB.out); (case side2 => exact HC0_7.out); rintro e w34 ⟨rfl, hb⟩; refine ⟨_, rfl, ?_⟩; replace BK308 := bb_ BK308 hb; replace HB := hs_ HB hb; (try clear hb); (try clear hb2); (try clear hk); (try clear hi); have hcz35 := bc9_ BK308.out; have hfz35 := bf9_ BK308.out) | (go_at_call 87; (with_reducible refine (impl_areWrites.calls kj21 _ _ l0_8 t317 _ ?side1 ?side2 A32.out).mono ?_); (case side1 => exact cq_ HR0_8.out HB.out); (case side2 => exact HC0_8.out); rintro e w36 ⟨rfl, hb⟩; replace BK308 := bb_ BK308 hb; replace HB := hs_ HB hb; (try clear hb); (try clear hb2); (try clear hk); (try clear hi)))
                go_ret; exact ⟨ew_, hq1_ HB.out GE308.out⟩
              · replace c31 := Bool.eq_false_iff.mpr c31; subst c31; rw [if_neg nt_] at H; obtain rfl := Option.some.inj H; have hcz37 := bc9_ BK308.out; have hfz37 := bf9_ BK308.out
                go_wp2_with (first | ((with_reducible refine gate_callee (f := 86) rfl ?_); refine goesL_ (some 58) rfl rfl Try.func86 (by kernel_rfl) rfl #[.slice A0_7 l0_7.length c0_7] rfl mp_ ?_; (with_reducible refine (impl_areReads.calls kj21 _ _ l0_7 false _ ?side1 ?side2 A30.out).mono ?_); (case side1 => exact cq_ HR0_7.out HB.out); (case side2 => exact HC0_7.out); rintro e w38 ⟨rfl, hb⟩; refine ⟨_, rfl, ?_⟩; replace BK308 := bb_ BK308 hb; replace HB := hs_ HB hb; (try clear hb); (try clear hb2); (try clear hk); (try clear hi)))
                go_ret; exact ⟨ew_, hq1_ HB.out GE308.out⟩

-- NOT PRINTED: function 69 (impl_ReadMark_69)

-- NOT PRINTED: function 91 (impl_ReadMark_91)

-- NOT PRINTED: function 100 (impl_Version_100)

-- NOT PRINTED: function 101 (impl_FindVersion_1)

end Go.Proofs.Ytbcllflajakajaa.PFnExactStaleReads
