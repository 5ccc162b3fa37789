-- Printed by my own myprint.py out of the translation of the seat YtacdaekigoldaaaDoor. Not trusted: Lean checks it.
import Derived.Test.YtacdaekigoldaaaDoorPFnStoresx0
import Derived.Test.YtacdaekigoldaaaDoorPFnStoresx4
import Derived.Test.YtacdaekigoldaaaDoorPFnStoresx6
namespace Go.Proofs.YtacdaekigoldaaaDoor.PFnStores
open Go.RowKit Go.Proofs.YtacdaekigoldaaaDoorW.PrintWords Go.Proofs.YtacdaekigoldaaaDoorW.PrintLast Go.Proofs.YtacdaekigoldaaaDoorW.PrintMore
attribute [local go_sem] max2_int min2_int max_two min_two max_three min_three max_four min_four   -- for this text's walks alone
set_option linter.unusedVariables false
set_option linter.unusedSimpArgs false

/-! ### impl_IsValidStore_1: function 76 -/
def impl_IsValidStore_1.f (k : Nat) (l0 : List (S43)) : Option (Bool) := (impl_IsValidChain.f k l0).bind fun t258 => (if t258 = true then (some (decide ((l0.length : Int) > 50))) else (some true))
theorem impl_IsValidStore_1.mono : ∀ a0 k, LeO (impl_IsValidStore_1.f k a0) (impl_IsValidStore_1.f (k + 1) a0) := by
  intro a0 k; unfold impl_IsValidStore_1.f
  repeat' first
      | (with_reducible first | apply impl_IsValidChain.mono | exact LeO.refl _ | exact LeO.none _ | refine LeO.ite ?_ ?_ | refine LeO.bind ?_ (fun _ => ?_))
set_option maxHeartbeats 8000000 in
set_option maxRecDepth 100000 in
theorem impl_IsValidStore_1.calls (k : Nat) (A0 : Option Addr) (c0 : Nat) (l0 : List (S43)) (r : Bool) (w : World) (hr0 : Kd.C k43 w A0 l0.length l0) (hc0 : l0.length ≤ c0) (h : impl_IsValidStore_1.f k l0 = some r) :
    Calls Tryd.prog 76 #[.slice A0 l0.length c0] w fun e w' => e = .returned (.bool r) ∧ Below w.heap.size w w' := by
  have HR0 := Aside0.mk hr0; have HC0 := Aside0.mk hc0; clear hr0 hc0; have HB := Aside0.mk (Below.refl w.heap.size w); have H : ((impl_IsValidChain.f k l0).bind fun t258 => (if t258 = true then (some (decide ((l0.length : Int) > 50))) else (some true))) = some r := h; clear h; replace H := Option.bind_eq_some_iff.mp H; obtain ⟨t258, A20, H⟩ := H; have A2 := Aside0.mk A20; clear A20
  by_cases c3 : t258 = true
  · subst c3; rw [if_pos rfl] at H; obtain rfl := Option.some.inj H
    go_enter Tryd.func76, Tryd.ntmps76
    go_wp2_with (first | ((with_reducible refine gate_callee (f := 23) rfl ?_); refine goesL_ (some 4) rfl rfl Tryd.func23 (by kernel_rfl) rfl #[.slice A0 l0.length c0] rfl mp_ ?_; (with_reducible refine (impl_IsValidChain.calls k _ _ l0 true _ ?side1 ?side2 A2.out).mono ?_); (case side1 => repeat (first | exact HR0.out | (with_reducible refine Kd.C_alloc ?_ _) | (with_reducible refine Kd.C_drewN ?_ _) | (with_reducible refine Kd.C_drew ?_))); (case side2 => exact HC0.out); rintro e w4 ⟨rfl, hb⟩; refine ⟨_, rfl, ?_⟩; have n0_ := Aside0.mk (below_step (hq0_ HB.out) hb); clear HB; have HB := n0_; clear n0_; (try clear hb); (try clear hb2); (try clear hk); (try clear hi)))
    go_ret; exact ⟨ew_, hq0_ HB.out⟩
  · replace c3 := Bool.eq_false_iff.mpr c3; subst c3; rw [if_neg nt_] at H; obtain rfl := Option.some.inj H
    go_enter Tryd.func76, Tryd.ntmps76
    go_wp2_with (first | ((with_reducible refine gate_callee (f := 23) rfl ?_); refine goesL_ (some 4) rfl rfl Tryd.func23 (by kernel_rfl) rfl #[.slice A0 l0.length c0] rfl mp_ ?_; (with_reducible refine (impl_IsValidChain.calls k _ _ l0 false _ ?side1 ?side2 A2.out).mono ?_); (case side1 => repeat (first | exact HR0.out | (with_reducible refine Kd.C_alloc ?_ _) | (with_reducible refine Kd.C_drewN ?_ _) | (with_reducible refine Kd.C_drew ?_))); (case side2 => exact HC0.out); rintro e w5 ⟨rfl, hb⟩; refine ⟨_, rfl, ?_⟩; have n0_ := Aside0.mk (below_step (hq0_ HB.out) hb); clear HB; have HB := n0_; clear n0_; (try clear hb); (try clear hb2); (try clear hk); (try clear hi)))
    go_ret; exact ⟨ew_, hq0_ HB.out⟩

/-! ### impl_IsValidStore: function 43 -/
-- FLAGS ROUNDS
/-- Is there a chain that is not right? -/
def impl_IsValidStore.any (k : Nat) : List (List S43) → Option Bool
  | [] => some false
  | x :: l => (impl_IsValidStore_1.f k x).bind fun b => if b = true then some true else impl_IsValidStore.any k l
def impl_IsValidStore.f (k : Nat) (l0_0 : List (List S43)) : Option Bool := if l0_0.length = 6 then (impl_IsValidStore.any k l0_0).bind (fun t => some (!t)) else some false
theorem impl_IsValidStore.mono_any (k : Nat) : ∀ l, LeO (impl_IsValidStore.any k l) (impl_IsValidStore.any (k + 1) l)
  | [] => LeO.refl _
  | x :: l => by
    unfold impl_IsValidStore.any; exact LeO.bind (impl_IsValidStore_1.mono _ _) (fun _ => LeO.ite (LeO.refl _) (impl_IsValidStore.mono_any k l))
theorem impl_IsValidStore.mono : ∀ a0 k, LeO (impl_IsValidStore.f k a0) (impl_IsValidStore.f (k + 1) a0) := by
  intro a0 k; unfold impl_IsValidStore.f; exact LeO.ite (LeO.bind (impl_IsValidStore.mono_any k a0) (fun _ => LeO.refl _)) (LeO.refl _)
/-- The index that the search gives says whether there is one. -/
def impl_IsValidStore.Post (r : Bool) (w : World) (e : Ending) (w' : World) : Prop := ∃ m : Int, e = .returned (.int .i64 m) ∧ decide (m ≥ 0) = r ∧ Below w.heap.size w w'
set_option maxHeartbeats 2000000 in
set_option maxRecDepth 100000 in
theorem impl_IsValidStore.idx (k : Nat) (A0 : Option Addr) (c0 : Nat) (l0 : List (List S43)) (r : Bool) (w : World) (hr0 : Kd.C (Kd.slice 43 k43) w A0 l0.length l0) (hc0 : l0.length ≤ c0) (h : impl_IsValidStore.any k l0 = some r) :
    Calls Tryd.prog 96 #[.slice A0 l0.length c0, .func (.func 76) #[] #[]] w (impl_IsValidStore.Post r w) := by
  have hlen := hr0.2.1; have HR0 := Aside0.mk hr0; have HF0 := Aside0.mk h; clear hr0 h
  go_enter Tryd.func96, Tryd.ntmps96
  go_wp2
  go_loopg [8] l0.length (fun kq v8 w' => ∃ (i : Nat), v8 = .int .i64 (i : Int) ∧ i ≤ l0.length ∧ Aside0 (impl_IsValidStore.any k (l0.drop i) = some r) ∧ Aside0 (kq + i = l0.length) ∧ Aside0 (Below w.heap.size w w'))
  case atStart => exact ⟨0, rfl, Nat.zero_le _, ⟨by rw [List.drop_zero]; exact HF0.out⟩, ⟨by omega⟩, ⟨Below.refl _ _⟩⟩
  case round =>
    clear HF0; obtain ⟨i, rfl, hi, HF, HK, HB⟩ := hrel
    by_cases hlt : i < l0.length
    · obtain ⟨k1, rfl⟩ : ∃ m, gk = m + 1 := ⟨gk - 1, by have := HK.out; omega⟩; obtain ⟨ad, A1, c1, e_, hx, hl1, hi1⟩ := at_L3 HR0.out (i : Int) (by omega) (by omega)
      cases e_
      replace hx := bl_ HB.out hx; simp only [Int.toNat_natCast] at hx
      have hd : l0.drop i = rd_L3 l0 (i : Int) :: l0.drop (i + 1) := by
        rw [List.drop_eq_getElem_cons hlt]; unfold rd_L3; rw [Int.toNat_natCast, List.getD_eq_getElem?_getD, List.getElem?_eq_getElem hlt]; rfl
      have hf := HF.out; rw [hd] at hf; unfold impl_IsValidStore.any at hf; obtain ⟨b, hb, hf⟩ := Option.bind_eq_some_iff.mp hf; have HBB := Aside0.mk hb; have HI1 := Aside0.mk hi1; have HL1 := Aside0.mk hl1; clear hd hb HF hi1 hl1
      cases b with
      | true =>
        rw [if_pos rfl] at hf; have HF := Aside0.mk (Option.some.inj hf); clear hf
        go_wp2_with (go_at_call 76; (with_reducible refine (impl_IsValidStore_1.calls k _ _ (rd_L3 l0 (i : Int)) true _ ?s1 ?s2 HBB.out).mono ?_); (case s1 => exact Kd.C_below HI1.out HB.out); (case s2 => exact HL1.out); rintro e w1 ⟨rfl, hb1⟩; have HB2 := Aside0.mk (below_step HB.out hb1); clear hb1)
        go_ret; exact ⟨(i : Int), rfl, by rw [← HF.out]; exact decide_eq_true (by omega), HB2.out⟩
      | false =>
        rw [if_neg (by decide)] at hf; have HF := Aside0.mk hf; clear hf
        go_wp2_with (go_at_call 76; (with_reducible refine (impl_IsValidStore_1.calls k _ _ (rd_L3 l0 (i : Int)) false _ ?s1 ?s2 HBB.out).mono ?_); (case s1 => exact Kd.C_below HI1.out HB.out); (case s2 => exact HL1.out); rintro e w1 ⟨rfl, hb1⟩; have HB2 := Aside0.mk (below_step HB.out hb1); clear hb1)
        go_roundg k1
        case measure => have := HK.out; omega
        case rel => exact ⟨i + 1, by go_num, by omega, HF, ⟨by have := HK.out; omega⟩, HB2⟩
    · have hf := HF.out; rw [List.drop_eq_nil_of_le (by omega)] at hf; have HF2 := Aside0.mk (Option.some.inj hf); clear hf
      go_wp2
      go_ret; exact ⟨-1, rfl, by rw [← HF2.out]; decide, HB.out⟩
set_option maxHeartbeats 2000000 in
set_option maxRecDepth 100000 in
theorem impl_IsValidStore.con (k : Nat) (A0 : Option Addr) (c0 : Nat) (l0 : List (List S43)) (r : Bool) (w : World) (hr0 : Kd.C (Kd.slice 43 k43) w A0 l0.length l0) (hc0 : l0.length ≤ c0) (h : impl_IsValidStore.any k l0 = some r) :
    Calls Tryd.prog 75 #[.slice A0 l0.length c0, .func (.func 76) #[] #[]] w fun e w' => e = .returned (.bool r) ∧ Below w.heap.size w w' := by
  have HR0 := Aside0.mk hr0; have HF0 := Aside0.mk h; clear hr0 h
  go_enter Tryd.func75, Tryd.ntmps75
  go_wp2_with (go_at_call 96; (with_reducible refine (impl_IsValidStore.idx k A0 c0 l0 r _ HR0.out hc0 HF0.out).mono ?_); rintro e w1 ⟨m, rfl, hm, hb1⟩; have HM := Aside0.mk hm; have HB2 := Aside0.mk hb1; clear hb1 hm)
  go_ret; exact ⟨by rw [← HM.out]; rfl, HB2.out⟩
set_option maxHeartbeats 2000000 in
set_option maxRecDepth 100000 in
theorem impl_IsValidStore.calls (k : Nat) (A0_0 : Option Addr) (c0_0 : Nat) (l0_0 : List (List S43)) (r : Bool) (w : World) (hr0_0 : Kd.C (Kd.slice 43 k43) w A0_0 l0_0.length l0_0) (hc0_0 : l0_0.length ≤ c0_0) (h : impl_IsValidStore.f k l0_0 = some r) :
    Calls Tryd.prog 43 #[.agg #[.slice A0_0 l0_0.length c0_0]] w fun e w' => e = .returned (.bool r) ∧ Below w.heap.size w w' := by
  have hu := Tryd.underlying52; have HR0 := Aside0.mk hr0_0; clear hr0_0; unfold impl_IsValidStore.f at h
  by_cases h6 : l0_0.length = 6
  · rw [if_pos h6] at h; obtain ⟨t, ht, hq⟩ := Option.bind_eq_some_iff.mp h; obtain rfl := Option.some.inj hq; have HT := Aside0.mk ht; (have hg : ((l0_0.length : Int) == 6) = true := by rw [beq_iff_eq]; omega); clear h h6 ht hq
    go_enter Tryd.func43, Tryd.ntmps43
    go_wp2_with (go_at_call 75; (with_reducible refine (impl_IsValidStore.con k A0_0 c0_0 l0_0 t _ ?s1 hc0_0 HT.out).mono ?_); (case s1 => exact Kd.C_alloc HR0.out _); rintro e w1 ⟨rfl, hb1⟩; have HB2 := Aside0.mk (below_step (below_alloc (Below.refl _ _) _) hb1); clear hb1)
    go_ret; exact ⟨rfl, HB2.out⟩
  · rw [if_neg h6] at h; obtain rfl := Option.some.inj h; (have hg : ((l0_0.length : Int) == 6) = false := by rw [beq_eq_false_iff_ne]; omega); clear h h6
    go_enter Tryd.func43, Tryd.ntmps43
    go_wp2
    go_ret; exact ⟨rfl, below_alloc (Below.refl _ _) _⟩


/-! ### impl_versionAt: function 60 -/
def impl_versionAt.l0 : Nat → List (S43) → Int → Int → Option (Int)
  | 0, _, _, _ => none
  | k + 1, x0, x1, x5 => if x5 ≥ 0 then (if 0 ≤ x5 then (if x5 < (x0.length : Int) then (if ((rd_T43 x0 x5).f2) > x1 then (impl_versionAt.l0 k x0 x1 (wrap64 (x5 - 1))) else (some x5)) else (none)) else (none)) else (some x5)
def impl_versionAt.f (k : Nat) (l0 : List (S43)) (a1 : Int) : Option (Int) := impl_versionAt.l0 k l0 a1 (wrap64 ((l0.length : Int) - 1))
theorem impl_versionAt.mono_l : ∀ k, (∀ y0 y1 y2, LeO (impl_versionAt.l0 k y0 y1 y2) (impl_versionAt.l0 (k + 1) y0 y1 y2))
  | 0 => fun _ _ _ r h => by simp [impl_versionAt.l0] at h
  | k + 1 => by
    have ih0 := impl_versionAt.mono_l k
    · intro y0 y1 y2; unfold impl_versionAt.l0
      repeat' first
      | (with_reducible first | apply ih0 | exact LeO.refl _ | exact LeO.none _ | refine LeO.ite ?_ ?_ | refine LeO.bind ?_ (fun _ => ?_))
theorem impl_versionAt.mono : ∀ a0 a1 k, LeO (impl_versionAt.f k a0 a1) (impl_versionAt.f (k + 1) a0 a1) := by
  intro a0 a1 k; have ih0 := impl_versionAt.mono_l k; unfold impl_versionAt.f
  repeat' first
      | (with_reducible first | apply ih0 | exact LeO.refl _ | exact LeO.none _ | refine LeO.ite ?_ ?_ | refine LeO.bind ?_ (fun _ => ?_))
set_option maxHeartbeats 8000000 in
set_option maxRecDepth 100000 in
theorem impl_versionAt.calls (k : Nat) (A0 : Option Addr) (c0 : Nat) (l0 : List (S43)) (a1 : Int) (r : Int) (w : World) (hr0 : Kd.C k43 w A0 l0.length l0) (hc0 : l0.length ≤ c0) (h : impl_versionAt.f k l0 a1 = some r) :
    Calls Tryd.prog 60 #[.slice A0 l0.length c0, .int .i64 a1] w fun e w' => e = .returned (.int .i64 r) ∧ Drawn0 w w' := by
  have HR0 := Aside0.mk hr0; have HC0 := Aside0.mk hc0; clear hr0 hc0; have H : (impl_versionAt.l0 k l0 a1 (wrap64 ((l0.length : Int) - 1))) = some r := h; clear h; have H' := Aside0.mk H; clear H
  go_enter Tryd.func60, Tryd.ntmps60
  go_wp2
  go_loopg [5] k (fun kq v5 w' => ∃ (x5_1 : Int), v5 = .int .i64 x5_1 ∧ Aside0 (impl_versionAt.l0 kq l0 a1 x5_1 = some r) ∧ Aside0 (kq ≤ k) ∧ Drawn0 w w')
  case atStart => exact ⟨(wrap64 ((l0.length : Int) - 1)), rs_, H', ⟨Nat.le_refl _⟩, by repeat (first | exact Drawn0.refl _ | apply Drawn0.step)⟩
  case round =>
    clear H'; (try clear p2); obtain ⟨x5_1, rfl, HA, HK1, ⟨m1, rfl⟩⟩ := hrel
    cases gk with
    | zero => exact absurd HA.out (by simp [impl_versionAt.l0])
    | succ k1 =>
      have H := HA.out; clear HA; simp only [impl_versionAt.l0] at H
      by_cases c3 : x5_1 ≥ 0
      · rw [if_pos c3] at H; have c3b0 : decide (0 ≤ x5_1) = true := decide_eq_true c3; clear c3
        by_cases c4 : 0 ≤ x5_1
        · rw [if_pos c4] at H; have c4b0 : decide (0 ≤ x5_1) = true := decide_eq_true c4; clear c4
          by_cases c5 : x5_1 < (l0.length : Int)
          · rw [if_pos c5] at H; have c5b0 : decide (x5_1 < (l0.length : Int)) = true := decide_eq_true c5; clear c5
            by_cases c6 : ((rd_T43 l0 x5_1).f2) > a1
            · rw [if_pos c6] at H; have c6b0 : decide (a1 < ((rd_T43 l0 x5_1).f2)) = true := decide_eq_true c6; clear c6; have H' := Aside0.mk H; clear H; have p259 : 0 ≤ (x5_1 : Int) := of_decide_eq_true as_; have q259 : x5_1 < (l0.length : Int) := of_decide_eq_true as_; obtain ⟨ad259, e259, hx259_0, hx259_1, hx259_2, hx259_3, hx259_4⟩ := at_T43 HR0.out x5_1 p259 q259
              cases e259
              replace p259 := eq_true p259; replace q259 := eq_true q259
              go_wp2
              go_roundg k1
              case measure => have := HK1.out; omega
              case rel => exact ⟨(wrap64 (x5_1 - 1)), rs_, H', ⟨by have := HK1.out; omega⟩, by repeat (first | exact Drawn0.refl _ | apply Drawn0.step)⟩
            · rw [if_neg c6] at H; have c6b0 : decide (a1 < ((rd_T43 l0 x5_1).f2)) = false := decide_eq_false c6; clear c6; obtain rfl := Option.some.inj H; have p259 : 0 ≤ (x5_1 : Int) := of_decide_eq_true as_; have q259 : x5_1 < (l0.length : Int) := of_decide_eq_true as_; obtain ⟨ad259, e259, hx259_0, hx259_1, hx259_2, hx259_3, hx259_4⟩ := at_T43 HR0.out x5_1 p259 q259
              cases e259
              replace p259 := eq_true p259; replace q259 := eq_true q259
              go_wp2
              go_ret; exact ⟨rs_, by repeat (first | exact Drawn0.refl _ | apply Drawn0.step)⟩
          · rw [if_neg c5] at H; exact absurd H (by simp)
        · rw [if_neg c4] at H; exact absurd H (by simp)
      · rw [if_neg c3] at H; have c3b0 : decide (0 ≤ x5_1) = false := decide_eq_false c3; clear c3; obtain rfl := Option.some.inj H
        go_wp2
        go_ret; exact ⟨rs_, by repeat (first | exact Drawn0.refl _ | apply Drawn0.step)⟩

/-! ### impl_isKey: function 79 -/
def impl_isKey.f (a0 : Int) : Option (Bool) := (impl_in.f a0 0 5).bind fun t260 => (some t260)
set_option maxHeartbeats 8000000 in
set_option maxRecDepth 100000 in
theorem impl_isKey.calls (a0 : Int) (r : Bool) (w : World) (h : impl_isKey.f a0 = some r) :
    Calls Tryd.prog 79 #[.int .i64 a0] w fun e w' => e = .returned (.bool r) ∧ Drawn0 w w' := by
  have H : ((impl_in.f a0 0 5).bind fun t260 => (some t260)) = some r := h; clear h; replace H := Option.bind_eq_some_iff.mp H; obtain ⟨t260, A20, H⟩ := H; have A2 := Aside0.mk A20; clear A20; obtain rfl := Option.some.inj H
  go_enter Tryd.func79, Tryd.ntmps79
  go_wp2_with (first | ((with_reducible refine gate_callee (f := 53) rfl ?_); refine goesL_ (some 4) rfl rfl Tryd.func53 (by kernel_rfl) rfl #[.int .i64 a0, .int .i64 0, .int .i64 5] rfl mp_ ?_; (with_reducible refine (impl_in.calls a0 0 5 t260 _ A2.out).mono ?_); rintro e w' ⟨rfl, ⟨nd, rfl⟩⟩; refine ⟨_, rfl, ?_⟩))
  go_ret; exact ⟨rs_, by repeat (first | exact Drawn0.refl _ | apply Drawn0.step)⟩

/-! ### impl_ReadAt: function 47 -/
def impl_ReadAt.j0 : Nat → Int → Int → Bool → List (List (S43)) → Option (Int × Int × Int × Int × Int × Bool)
  | 0, _, _, _, _ => none
  | k + 1, x1, x2, x16, x262000 => if x16 = true then (some (0, 0, 0, 0, 0, false)) else (if 0 ≤ x1 then (if x1 < (x262000.length : Int) then ((impl_versionAt.f k (rd_L3 x262000 x1) x2).bind fun t266 => (if t266 < 0 then (some (0, 0, 0, 0, 0, false)) else (if 0 ≤ t266 then (if t266 < ((rd_L3 x262000 x1).length : Int) then (some ((rd_T43 (rd_L3 x262000 x1) t266).f0, (rd_T43 (rd_L3 x262000 x1) t266).f1, (rd_T43 (rd_L3 x262000 x1) t266).f2, (rd_T43 (rd_L3 x262000 x1) t266).f3, (rd_T43 (rd_L3 x262000 x1) t266).f4, true)) else (none)) else (none)))) else (none)) else (none))
def impl_ReadAt.f (k : Nat) (l0_0 : List (List (S43))) (a1 : Int) (a2 : Int) : Option (Int × Int × Int × Int × Int × Bool) := (impl_IsValidStore.f k l0_0).bind fun t263 => (if t263 = true then ((impl_isKey.f a1).bind fun t264 => (impl_ReadAt.j0 k a1 a2 (!t264) l0_0)) else (impl_ReadAt.j0 k a1 a2 true l0_0))
theorem impl_ReadAt.mono_l : ∀ k, (∀ y0 y1 y2 y3, LeO (impl_ReadAt.j0 k y0 y1 y2 y3) (impl_ReadAt.j0 (k + 1) y0 y1 y2 y3))
  | 0 => fun _ _ _ _ r h => by simp [impl_ReadAt.j0] at h
  | k + 1 => by
    have ih0 := impl_ReadAt.mono_l k
    · intro y0 y1 y2 y3; unfold impl_ReadAt.j0
      repeat' first
      | (with_reducible first | apply ih0 | apply impl_IsValidStore.mono | apply impl_versionAt.mono | exact LeO.refl _ | exact LeO.none _ | refine LeO.ite ?_ ?_ | refine LeO.bind ?_ (fun _ => ?_))
theorem impl_ReadAt.mono : ∀ a0 a1 a2 k, LeO (impl_ReadAt.f k a0 a1 a2) (impl_ReadAt.f (k + 1) a0 a1 a2) := by
  intro a0 a1 a2 k; have ih0 := impl_ReadAt.mono_l k; unfold impl_ReadAt.f
  repeat' first
      | (with_reducible first | apply ih0 | apply impl_IsValidStore.mono | apply impl_versionAt.mono | exact LeO.refl _ | exact LeO.none _ | refine LeO.ite ?_ ?_ | refine LeO.bind ?_ (fun _ => ?_))
set_option maxHeartbeats 8000000 in
set_option maxRecDepth 100000 in
theorem impl_ReadAt.calls (k : Nat) (A0_0 : Option Addr) (c0_0 : Nat) (l0_0 : List (List (S43))) (a1 : Int) (a2 : Int) (r1 : Int) (r2 : Int) (r3 : Int) (r4 : Int) (r5 : Int) (r6 : Bool) (w : World) (hr0_0 : Kd.C (Kd.slice 43 k43) w A0_0 l0_0.length l0_0) (hc0_0 : l0_0.length ≤ c0_0) (h : impl_ReadAt.f k l0_0 a1 a2 = some (r1, r2, r3, r4, r5, r6)) :
    Calls Tryd.prog 47 #[.agg #[.slice A0_0 l0_0.length c0_0], .int .i64 a1, .int .i64 a2] w fun e w' => e = .returned (.tuple #[.agg #[.int .i64 r1, .int .i64 r2, .int .i64 r3, .int .i64 r4, .int .i64 r5], .bool r6]) ∧ Below w.heap.size w w' := by
  have hu52 := Tryd.underlying52; have hu43 := Tryd.underlying43; have HR0_0 := Aside0.mk hr0_0; have HC0_0 := Aside0.mk hc0_0; clear hr0_0 hc0_0; have HB := Aside0.mk (Below.refl w.heap.size w); have H : ((impl_IsValidStore.f k l0_0).bind fun t263 => (if t263 = true then ((impl_isKey.f a1).bind fun t264 => (impl_ReadAt.j0 k a1 a2 (!t264) l0_0)) else (impl_ReadAt.j0 k a1 a2 true l0_0))) = some (r1, r2, r3, r4, r5, r6) := h; clear h; have HC4 := Aside0.mk H; clear H
  go_enter Tryd.func47, Tryd.ntmps47
  go_upto_region 1 with (first | ((with_reducible refine gate_dst (N := 3) rfl ?_); refine box_event ?hg (N := 3) ?hd (cs := #[.slice A0_0 l0_0.length c0_0]) (t := 52) ?hr ?_; (case hd => rfl); (case hg => rfl); (case hr => first | (go_simp; done) | (go_simp; rfl)); intro gb261 hg w5 hbox hb; have n0_ := Aside0.mk (below_step (hq0_ HB.out) hb); have n1_ := Aside0.mk (hbox); have n2_ := Aside0.mk ((ws_ hg (hq0_ HB.out) : w.heap.size ≤ gb261)); have n3_ := n2_; clear HB; have HB := n0_; have BK261 := n1_; have GW261 := n2_; have GE261 := n3_; clear n0_ n1_ n2_ n3_; clear hb hbox hg) | ((with_reducible refine gate_dst (N := 6) rfl ?_); refine box_event ?hg (N := 6) ?hd (cs := #[.int .i64 0, .int .i64 0, .int .i64 0, .int .i64 0, .int .i64 0]) (t := 43) ?hr ?_; (case hd => rfl); (case hg => rfl); (case hr => first | (go_simp; done) | (go_simp; rfl)); intro gb262 hg w6 hbox hb; have n0_ := Aside0.mk (blk_below (bq_ BK261.out) hb); have n1_ := Aside0.mk (below_step (hq1_ HB.out GE261.out) hb); have n2_ := Aside0.mk (hbox); have n3_ := Aside0.mk ((ws_ hg (hq1_ HB.out GE261.out) : w.heap.size ≤ gb262)); have n4_ := n3_; have n5_ := Aside0.mk ((by rw [hg]; exact Nat.ne_of_lt (blk_lt (bq_ BK261.out)) : gb261 ≠ gb262)); have n6_ := Aside0.mk (Ne.symm n5_.out); clear BK261; clear HB; have BK261 := n0_; have HB := n1_; have BK262 := n2_; have GW262 := n3_; have GE262 := n4_; have NB261_262 := n5_; have NB262_261 := n6_; clear n0_ n1_ n2_ n3_ n4_ n5_ n6_; clear hb hbox hg))
  (try simp only [Act.put, List.setIfInBounds_toArray, List.set_cons_zero, List.set_cons_succ])
  go_cut [16] (fun v16 wc => ∃ (kq : Nat) (x16_3 : Bool), v16 = .bool x16_3 ∧ Aside0 (impl_ReadAt.j0 kq a1 a2 x16_3 l0_0 = some (r1, r2, r3, r4, r5, r6)) ∧ Aside0 (kq ≤ k) ∧ Aside0 (wc.heap[gb261]? = some (.cells #[(.slice A0_0 l0_0.length c0_0)] 52 (0, 0))) ∧ Aside0 (wc.heap[gb262]? = some (.cells #[.int .i64 0, .int .i64 0, .int .i64 0, .int .i64 0, .int .i64 0] 43 (0, 0))) ∧ Aside0 (Below w.heap.size w wc))
  case first =>
    have H := HC4.out; clear HC4; replace H := Option.bind_eq_some_iff.mp H; obtain ⟨t263, A70, H⟩ := H; have A7 := Aside0.mk A70; clear A70
    by_cases c8 : t263 = true
    · subst c8; rw [if_pos rfl] at H; replace H := Option.bind_eq_some_iff.mp H; obtain ⟨t264, A90, H⟩ := H; have A9 := Aside0.mk A90; clear A90; have H' := Aside0.mk H; clear H; have hnb10 := NB261_262.out; have hnc10 := NB262_261.out; have hcz11_0 := bc1_ BK261.out; have hfz11_0 := blk_frozen BK261.out 0
      go_wp2_with (first | ((with_reducible refine gate_callee (f := 43) rfl ?_); refine goesL_ (some 10) rfl rfl Tryd.func43 (by kernel_rfl) rfl #[.agg #[.slice A0_0 l0_0.length c0_0]] rfl mp_ ?_; (with_reducible refine (impl_IsValidStore.calls k _ _ l0_0 true _ ?side1 ?side2 A7.out).mono ?_); (case side1 => exact cq_ HR0_0.out HB.out); (case side2 => exact HC0_0.out); rintro e w12 ⟨rfl, hb⟩; refine ⟨_, rfl, ?_⟩; have n0_ := Aside0.mk (blk_below (bq_ BK261.out) hb); have n1_ := Aside0.mk (blk_below (bq_ BK262.out) hb); have n2_ := Aside0.mk (below_step (hq2_ HB.out GE261.out GE262.out) hb); clear BK261; clear BK262; clear HB; have BK261 := n0_; have BK262 := n1_; have HB := n2_; clear n0_ n1_ n2_; (try clear hb); (try clear hb2); (try clear hk); (try clear hi)) | (go_at_call 79; (with_reducible refine (impl_isKey.calls a1 t264 _ A9.out).mono ?_); rintro e w' ⟨rfl, ⟨nd, rfl⟩⟩))
      go_meet
      case rel => exact ⟨_, (!t264), rs_, H', ⟨by first | omega | exact Nat.le_refl _⟩, ⟨bq_ BK261.out⟩, ⟨bq_ BK262.out⟩, ⟨hq2_ HB.out GE261.out GE262.out⟩⟩
    · replace c8 := Bool.eq_false_iff.mpr c8; subst c8; rw [if_neg nt_] at H; have H' := Aside0.mk H; clear H; have hnb13 := NB261_262.out; have hnc13 := NB262_261.out; have hcz14_0 := bc1_ BK261.out; have hfz14_0 := blk_frozen BK261.out 0
      go_wp2_with (first | ((with_reducible refine gate_callee (f := 43) rfl ?_); refine goesL_ (some 10) rfl rfl Tryd.func43 (by kernel_rfl) rfl #[.agg #[.slice A0_0 l0_0.length c0_0]] rfl mp_ ?_; (with_reducible refine (impl_IsValidStore.calls k _ _ l0_0 false _ ?side1 ?side2 A7.out).mono ?_); (case side1 => exact cq_ HR0_0.out HB.out); (case side2 => exact HC0_0.out); rintro e w15 ⟨rfl, hb⟩; refine ⟨_, rfl, ?_⟩; have n0_ := Aside0.mk (blk_below (bq_ BK261.out) hb); have n1_ := Aside0.mk (blk_below (bq_ BK262.out) hb); have n2_ := Aside0.mk (below_step (hq2_ HB.out GE261.out GE262.out) hb); clear BK261; clear BK262; clear HB; have BK261 := n0_; have BK262 := n1_; have HB := n2_; clear n0_ n1_ n2_; (try clear hb); (try clear hb2); (try clear hk); (try clear hi)))
      go_meet
      case rel => exact ⟨_, (true), rs_, H', ⟨by first | omega | exact Nat.le_refl _⟩, ⟨bq_ BK261.out⟩, ⟨bq_ BK262.out⟩, ⟨hq2_ HB.out GE261.out GE262.out⟩⟩
  case rest =>
    clear HC4; (try clear c1); (try clear p2); (try clear c4); (try clear c8); (try clear c10); (try clear c13); (try clear hcz11_0); (try clear hcz14_0); (try clear hfz11_0); (try clear hfz14_0); obtain ⟨kq, x16_3, rfl, HA, HJ3, BK261, BK262, HB⟩ := hcut
    cases kq with
    | zero => exact absurd HA.out (by simp [impl_ReadAt.j0])
    | succ kj3 =>
      have H := HA.out; clear HA; simp only [impl_ReadAt.j0] at H
      by_cases c16 : x16_3 = true
      · subst c16; rw [if_pos rfl] at H; simp only [Option.some.injEq, Prod.mk.injEq] at H; obtain ⟨rfl, rfl, rfl, rfl, rfl, rfl⟩ := H; have hnb17 := NB262_261.out; have hnc17 := NB261_262.out; obtain ⟨hcz18_0, hcz18_1, hcz18_2, hcz18_3, hcz18_4⟩ := bc5_ BK262.out; obtain ⟨hfz18_0, hfz18_1, hfz18_2, hfz18_3, hfz18_4⟩ := bf5_ BK262.out
        go_wp2
        refine bodyPost_ret (results_ct rfl _ _ gb262 43 #[.int .i64 0, .int .i64 0, .int .i64 0, .int .i64 0, .int .i64 0] (0, 0) _ rfl (by (with_reducible repeat (first | refine blk_drewN ?_ _ | refine blk_drew ?_ | refine blk_alloc ?_ _)); refine blk_put (cs := #[.int .i64 0, .int .i64 0, .int .i64 0, .int .i64 0, .int .i64 0]) ?_ 4 _ rfl; (with_reducible repeat (first | refine blk_drewN ?_ _ | refine blk_drew ?_ | refine blk_alloc ?_ _)); refine blk_put (cs := #[.int .i64 0, .int .i64 0, .int .i64 0, .int .i64 0, .int .i64 0]) ?_ 3 _ rfl; (with_reducible repeat (first | refine blk_drewN ?_ _ | refine blk_drew ?_ | refine blk_alloc ?_ _)); refine blk_put (cs := #[.int .i64 0, .int .i64 0, .int .i64 0, .int .i64 0, .int .i64 0]) ?_ 2 _ rfl; (with_reducible repeat (first | refine blk_drewN ?_ _ | refine blk_drew ?_ | refine blk_alloc ?_ _)); refine blk_put (cs := #[.int .i64 0, .int .i64 0, .int .i64 0, .int .i64 0, .int .i64 0]) ?_ 1 _ rfl; (with_reducible repeat (first | refine blk_drewN ?_ _ | refine blk_drew ?_ | refine blk_alloc ?_ _)); refine blk_put (cs := #[.int .i64 0, .int .i64 0, .int .i64 0, .int .i64 0, .int .i64 0]) ?_ 0 _ rfl; (with_reducible repeat (first | refine blk_drewN ?_ _ | refine blk_drew ?_ | refine blk_alloc ?_ _)); exact BK262.out) Tryd.underlying43 rfl (by kernel_rfl)) rfl ?_; exact ⟨ew_, hq2_ HB.out GE261.out GE262.out⟩
      · replace c16 := Bool.eq_false_iff.mpr c16; subst c16; rw [if_neg nt_] at H
        by_cases c19 : 0 ≤ a1
        · rw [if_pos c19] at H; have c19b0 : decide (0 ≤ a1) = true := decide_eq_true c19; clear c19
          by_cases c20 : a1 < (l0_0.length : Int)
          · rw [if_pos c20] at H; have c20b0 : decide (a1 < (l0_0.length : Int)) = true := decide_eq_true c20; clear c20; replace H := Option.bind_eq_some_iff.mp H; obtain ⟨t266, A210, H⟩ := H; have A21 := Aside0.mk A210; clear A210
            by_cases c22 : t266 < 0
            · rw [if_pos c22] at H; have c22b0 : decide (t266 < 0) = true := decide_eq_true c22; clear c22; simp only [Option.some.injEq, Prod.mk.injEq] at H; obtain ⟨rfl, rfl, rfl, rfl, rfl, rfl⟩ := H; have hnb23 := NB261_262.out; have hnc23 := NB262_261.out; have hcz24_0 := bc1_ BK261.out; have hfz24_0 := blk_frozen BK261.out 0; have p265 : 0 ≤ (a1 : Int) := of_decide_eq_true as_; have q265 : a1 < (l0_0.length : Int) := of_decide_eq_true as_; obtain ⟨ad265, A265_0, c265_0, e265, hx265_0, hl265_0, hi265_0⟩ := at_L3 HR0_0.out a1 p265 q265
              cases e265
              have hraw265 := Aside0.mk hx265_0; replace hx265_0 := bl_ HB.out hx265_0; have HR265_0 := Aside0.mk hi265_0; have HC265_0 := Aside0.mk hl265_0; clear hi265_0 hl265_0; replace p265 := eq_true p265; replace q265 := eq_true q265
              go_wp2_with (first | ((with_reducible refine gate_callee (f := 60) rfl ?_); refine goesL_ (some 24) rfl rfl Tryd.func60 (by kernel_rfl) rfl #[.slice A265_0 (rd_L3 l0_0 a1).length c265_0, .int .i64 a2] rfl mp_ ?_; (with_reducible refine (impl_versionAt.calls kj3 _ _ (rd_L3 l0_0 a1) a2 t266 _ ?side1 ?side2 A21.out).mono ?_); (case side1 => exact cq_ HR265_0.out HB.out); (case side2 => exact HC265_0.out); rintro e w' ⟨rfl, ⟨nd, rfl⟩⟩; refine ⟨_, rfl, ?_⟩; skip; obtain ⟨hcz25_0, hcz25_1, hcz25_2, hcz25_3, hcz25_4⟩ := bc5_ BK262.out; obtain ⟨hfz25_0, hfz25_1, hfz25_2, hfz25_3, hfz25_4⟩ := bf5_ BK262.out))
              refine bodyPost_ret (results_ct rfl _ _ gb262 43 #[.int .i64 0, .int .i64 0, .int .i64 0, .int .i64 0, .int .i64 0] (0, 0) _ rfl (by (with_reducible repeat (first | refine blk_drewN ?_ _ | refine blk_drew ?_ | refine blk_alloc ?_ _)); refine blk_put (cs := #[.int .i64 0, .int .i64 0, .int .i64 0, .int .i64 0, .int .i64 0]) ?_ 4 _ rfl; (with_reducible repeat (first | refine blk_drewN ?_ _ | refine blk_drew ?_ | refine blk_alloc ?_ _)); refine blk_put (cs := #[.int .i64 0, .int .i64 0, .int .i64 0, .int .i64 0, .int .i64 0]) ?_ 3 _ rfl; (with_reducible repeat (first | refine blk_drewN ?_ _ | refine blk_drew ?_ | refine blk_alloc ?_ _)); refine blk_put (cs := #[.int .i64 0, .int .i64 0, .int .i64 0, .int .i64 0, .int .i64 0]) ?_ 2 _ rfl; (with_reducible repeat (first | refine blk_drewN ?_ _ | refine blk_drew ?_ | refine blk_alloc ?_ _)); refine blk_put (cs := #[.int .i64 0, .int .i64 0, .int .i64 0, .int .i64 0, .int .i64 0]) ?_ 1 _ rfl; (with_reducible repeat (first | refine blk_drewN ?_ _ | refine blk_drew ?_ | refine blk_alloc ?_ _)); refine blk_put (cs := #[.int .i64 0, .int .i64 0, .int .i64 0, .int .i64 0, .int .i64 0]) ?_ 0 _ rfl; (with_reducible repeat (first | refine blk_drewN ?_ _ | refine blk_drew ?_ | refine blk_alloc ?_ _)); exact BK262.out) Tryd.underlying43 rfl (by kernel_rfl)) rfl ?_; exact ⟨ew_, hq2_ HB.out GE261.out GE262.out⟩
            · rw [if_neg c22] at H; have c22b0 : decide (t266 < 0) = false := decide_eq_false c22; clear c22
              by_cases c26 : 0 ≤ t266
              · rw [if_pos c26] at H; have c26b0 : decide (0 ≤ t266) = true := decide_eq_true c26; clear c26
                by_cases c27 : t266 < ((rd_L3 l0_0 a1).length : Int)
                · rw [if_pos c27] at H; have c27b0 : decide (t266 < ((rd_L3 l0_0 a1).length : Int)) = true := decide_eq_true c27; clear c27; simp only [Option.some.injEq, Prod.mk.injEq] at H; obtain ⟨rfl, rfl, rfl, rfl, rfl, rfl⟩ := H; have hnb28 := NB261_262.out; have hnc28 := NB262_261.out; have hcz29_0 := bc1_ BK261.out; have hfz29_0 := blk_frozen BK261.out 0; have p265 : 0 ≤ (a1 : Int) := of_decide_eq_true as_; have q265 : a1 < (l0_0.length : Int) := of_decide_eq_true as_; obtain ⟨ad265, A265_0, c265_0, e265, hx265_0, hl265_0, hi265_0⟩ := at_L3 HR0_0.out a1 p265 q265
                  cases e265
                  have hraw265 := Aside0.mk hx265_0; replace hx265_0 := bl_ HB.out hx265_0; have HR265_0 := Aside0.mk hi265_0; have HC265_0 := Aside0.mk hl265_0; clear hi265_0 hl265_0; replace p265 := eq_true p265; replace q265 := eq_true q265
                  go_wp2_with (first | ((with_reducible refine gate_callee (f := 60) rfl ?_); refine goesL_ (some 24) rfl rfl Tryd.func60 (by kernel_rfl) rfl #[.slice A265_0 (rd_L3 l0_0 a1).length c265_0, .int .i64 a2] rfl mp_ ?_; (with_reducible refine (impl_versionAt.calls kj3 _ _ (rd_L3 l0_0 a1) a2 t266 _ ?side1 ?side2 A21.out).mono ?_); (case side1 => exact cq_ HR265_0.out HB.out); (case side2 => exact HC265_0.out); rintro e w' ⟨rfl, ⟨nd, rfl⟩⟩; refine ⟨_, rfl, ?_⟩; skip; have p267 : 0 ≤ (a1 : Int) := of_decide_eq_true as_; have q267 : a1 < (l0_0.length : Int) := of_decide_eq_true as_; obtain ⟨ad267, A267_0, c267_0, e267, hx267_0, hl267_0, hi267_0⟩ := at_L3 HR0_0.out a1 p267 q267; obtain rfl : ad265 = ad267 := (by injection e267); have hraw267 := Aside0.mk hx267_0; replace hx267_0 := bl_ HB.out hx267_0; have HR267_0 := Aside0.mk hi267_0; have HC267_0 := Aside0.mk hl267_0; clear hi267_0 hl267_0; replace p267 := eq_true p267; replace q267 := eq_true q267; have ea_ := Option.some.inj (hraw265.out.symm.trans hraw267.out); injection ea_ with ea_ en_ ec_; subst ea_; subst ec_; clear en_; have p268 : 0 ≤ (t266 : Int) := of_decide_eq_true as_; have q268 : t266 < ((rd_L3 l0_0 a1).length : Int) := of_decide_eq_true as_; obtain ⟨ad268, e268, hx268_0, hx268_1, hx268_2, hx268_3, hx268_4⟩ := at_T43 HR267_0.out t266 p268 q268; cases e268; replace hx268_0 := bl_ HB.out hx268_0; replace hx268_1 := bl_ HB.out hx268_1; replace hx268_2 := bl_ HB.out hx268_2; replace hx268_3 := bl_ HB.out hx268_3; replace hx268_4 := bl_ HB.out hx268_4; replace p268 := eq_true p268; replace q268 := eq_true q268; obtain ⟨hcz30_0, hcz30_1, hcz30_2, hcz30_3, hcz30_4⟩ := bc5_ BK262.out; obtain ⟨hfz30_0, hfz30_1, hfz30_2, hfz30_3, hfz30_4⟩ := bf5_ BK262.out))
                  refine bodyPost_ret (results_ct rfl _ _ gb262 43 #[.int .i64 ((rd_T43 (rd_L3 l0_0 a1) t266).f0), .int .i64 ((rd_T43 (rd_L3 l0_0 a1) t266).f1), .int .i64 ((rd_T43 (rd_L3 l0_0 a1) t266).f2), .int .i64 ((rd_T43 (rd_L3 l0_0 a1) t266).f3), .int .i64 ((rd_T43 (rd_L3 l0_0 a1) t266).f4)] (0, 0) _ rfl (by (with_reducible repeat (first | refine blk_drewN ?_ _ | refine blk_drew ?_ | refine blk_alloc ?_ _)); refine blk_put (cs := #[.int .i64 ((rd_T43 (rd_L3 l0_0 a1) t266).f0), .int .i64 ((rd_T43 (rd_L3 l0_0 a1) t266).f1), .int .i64 ((rd_T43 (rd_L3 l0_0 a1) t266).f2), .int .i64 ((rd_T43 (rd_L3 l0_0 a1) t266).f3), .int .i64 0]) ?_ 4 _ rfl; (with_reducible repeat (first | refine blk_drewN ?_ _ | refine blk_drew ?_ | refine blk_alloc ?_ _)); refine blk_put (cs := #[.int .i64 ((rd_T43 (rd_L3 l0_0 a1) t266).f0), .int .i64 ((rd_T43 (rd_L3 l0_0 a1) t266).f1), .int .i64 ((rd_T43 (rd_L3 l0_0 a1) t266).f2), .int .i64 0, .int .i64 0]) ?_ 3 _ rfl; (with_reducible repeat (first | refine blk_drewN ?_ _ | refine blk_drew ?_ | refine blk_alloc ?_ _)); refine blk_put (cs := #[.int .i64 ((rd_T43 (rd_L3 l0_0 a1) t266).f0), .int .i64 ((rd_T43 (rd_L3 l0_0 a1) t266).f1), .int .i64 0, .int .i64 0, .int .i64 0]) ?_ 2 _ rfl; (with_reducible repeat (first | refine blk_drewN ?_ _ | refine blk_drew ?_ | refine blk_alloc ?_ _)); refine blk_put (cs := #[.int .i64 ((rd_T43 (rd_L3 l0_0 a1) t266).f0), .int .i64 0, .int .i64 0, .int .i64 0, .int .i64 0]) ?_ 1 _ rfl; (with_reducible repeat (first | refine blk_drewN ?_ _ | refine blk_drew ?_ | refine blk_alloc ?_ _)); refine blk_put (cs := #[.int .i64 0, .int .i64 0, .int .i64 0, .int .i64 0, .int .i64 0]) ?_ 0 _ rfl; (with_reducible repeat (first | refine blk_drewN ?_ _ | refine blk_drew ?_ | refine blk_alloc ?_ _)); exact BK262.out) Tryd.underlying43 rfl (by kernel_rfl)) rfl ?_; exact ⟨ew_, hq2_ HB.out GE261.out GE262.out⟩
                · rw [if_neg c27] at H; exact absurd H (by simp)
              · rw [if_neg c26] at H; exact absurd H (by simp)
          · rw [if_neg c20] at H; exact absurd H (by simp)
        · rw [if_neg c19] at H; exact absurd H (by simp)

/-! ### impl_StateAt: function 36 -/
def impl_StateAt.l0 : Nat → Int → List Int → Int → List (List (S43)) → Option (List Int)
  | 0, _, _, _, _ => none
  | k + 1, x1, x5, x10, x270000 => if x10 < 6 then ((impl_ReadAt.f k x270000 x10 x1).bind fun bt273 => (if bt273.2.2.2.2.2 = true then (if x5.length < 17592186044416 then (impl_StateAt.l0 k x1 (x5 ++ [bt273.2.1]) (wrap64 (x10 + 1)) x270000) else (none)) else (some ([] : List Int)))) else (some x5)
def impl_StateAt.f (k : Nat) (l0_0 : List (List (S43))) (a1 : Int) : Option (List Int) := impl_StateAt.l0 k a1 (([] : List Int)) 0 l0_0
theorem impl_StateAt.mono_l : ∀ k, (∀ y0 y1 y2 y3, LeO (impl_StateAt.l0 k y0 y1 y2 y3) (impl_StateAt.l0 (k + 1) y0 y1 y2 y3))
  | 0 => fun _ _ _ _ r h => by simp [impl_StateAt.l0] at h
  | k + 1 => by
    have ih0 := impl_StateAt.mono_l k
    · intro y0 y1 y2 y3; unfold impl_StateAt.l0
      repeat' first
      | (with_reducible first | apply ih0 | apply impl_ReadAt.mono | exact LeO.refl _ | exact LeO.none _ | refine LeO.ite ?_ ?_ | refine LeO.bind ?_ (fun _ => ?_))
theorem impl_StateAt.mono : ∀ a0 a1 k, LeO (impl_StateAt.f k a0 a1) (impl_StateAt.f (k + 1) a0 a1) := by
  intro a0 a1 k; have ih0 := impl_StateAt.mono_l k; unfold impl_StateAt.f
  repeat' first
      | (with_reducible first | apply ih0 | apply impl_ReadAt.mono | exact LeO.refl _ | exact LeO.none _ | refine LeO.ite ?_ ?_ | refine LeO.bind ?_ (fun _ => ?_))
set_option maxHeartbeats 8000000 in
set_option maxRecDepth 100000 in
theorem impl_StateAt.calls (k : Nat) (A0_0 : Option Addr) (c0_0 : Nat) (l0_0 : List (List (S43))) (a1 : Int) (r : List Int) (w : World) (hr0_0 : Kd.C (Kd.slice 43 k43) w A0_0 l0_0.length l0_0) (hc0_0 : l0_0.length ≤ c0_0) (h : impl_StateAt.f k l0_0 a1 = some r) :
    Calls Tryd.prog 36 #[.agg #[.slice A0_0 l0_0.length c0_0], .int .i64 a1] w fun e w' => ∃ v0_ : Value, e = .returned (v0_) ∧ Kd.R (Kd.int .i64) 3 w' w.heap.size (fun _ => True) v0_ r ∧ Below w.heap.size w w' := by
  have hu52 := Tryd.underlying52; have hu43 := Tryd.underlying43; have HR0_0 := Aside0.mk hr0_0; have HC0_0 := Aside0.mk hc0_0; clear hr0_0 hc0_0; have HB := Aside0.mk (Below.refl w.heap.size w); have H : (impl_StateAt.l0 k a1 (([] : List Int)) 0 l0_0) = some r := h; clear h; obtain ⟨y270, hy270⟩ : ∃ y_ : List Int, y_ = (([] : List Int)) := ⟨_, rfl⟩; (replace H : (impl_StateAt.l0 k a1 y270 0 l0_0) = some r := by first | (rw [hy270]; with_reducible exact H) | (have H2_ := (Option.bind_some _ _).symm.trans H; rw [hy270]; with_reducible exact H2_) | (have H2_ := (Option.bind_some _ _).symm.trans H; with_reducible exact H2_) | with_reducible exact H | (rw [hy270]; exact H) | exact H); have Ny270 := Aside0.mk hy270; clear hy270; have H' := Aside0.mk H; clear H
  go_enter Tryd.func36, Tryd.ntmps36
  go_wp2_with (first | ((with_reducible refine gate_dst (N := 2) rfl ?_); refine box_event ?hg (N := 2) ?hd (cs := #[.slice A0_0 l0_0.length c0_0]) (t := 52) ?hr ?_; (case hd => rfl); (case hg => rfl); (case hr => first | (go_simp; done) | (go_simp; rfl)); intro gb269 hg w3 hbox hb; have n0_ := Aside0.mk (below_step (hq0_ HB.out) hb); have n1_ := Aside0.mk (hbox); have n2_ := Aside0.mk ((ws_ hg (hq0_ HB.out) : w.heap.size ≤ gb269)); have n3_ := n2_; clear HB; have HB := n0_; have BK269 := n1_; have GW269 := n2_; have GE269 := n3_; clear n0_ n1_ n2_ n3_; clear hb hbox hg) | ((with_reducible refine gate_dst (N := 9) rfl ?_); refine Kd.R_lit (Kd.int .i64) _ 3 ?hg (N := 9) ?hd (xs := ([] : List Int)) (inner := []) (ok := fun _ => True) (okp := fun _ => True) ?hr ?hp (fun _ hk => hk) trivial (Below.refl _ _) (Nat.le_refl _) (by simp) ?_; (case hd => rfl); (case hg => rfl); (case hr => first | (go_simp; done) | (go_simp; rfl)); (case hp => exact (Reps.none _ _)); intro v271 w4 ho5 hb hg_ hnew_; clear hg_ hnew_; (first | rw [← Ny270.out] at ho5 | (simp only [Int.reduceToNat] at ho5; rw [← Ny270.out] at ho5)); have n0_ := Aside0.mk (Kd.R_lower ho5 (below_size (hq1_ HB.out GE269.out))); have n1_ := Aside0.mk (blk_below (bq_ BK269.out) hb); have n2_ := Aside0.mk (below_step (hq1_ HB.out GE269.out) hb); clear BK269; clear HB; have HO272 := n0_; have BK269 := n1_; have HB := n2_; clear n0_ n1_ n2_; clear hb ho5))
  go_loopg [5, 10] k (fun kq v5 v10 w' => ∃ (x5_1 : List Int) (x10_1 : Int), v10 = .int .i64 x10_1 ∧ Aside0 (impl_StateAt.l0 kq a1 x5_1 x10_1 l0_0 = some r) ∧ Aside0 (kq ≤ k) ∧ Aside0 (Kd.R (Kd.int .i64) 3 w' w.heap.size (fun _ => True) v5 x5_1) ∧ Aside0 (w'.heap[gb269]? = some (.cells #[(.slice A0_0 l0_0.length c0_0)] 52 (0, 0))) ∧ Aside0 (Below w.heap.size w w'))
  case atStart => exact ⟨(y270), (0), rs_, H', ⟨Nat.le_refl _⟩, ⟨by (with_reducible repeat (first | apply Kd.R_alloc | apply Kd.R_drewN | apply Kd.R_drew)); exact HO272.out⟩, ⟨bq_ BK269.out⟩, ⟨hq1_ HB.out GE269.out⟩⟩
  case round =>
    clear H'; (try clear p2); (try clear c3); obtain ⟨x5_1, x10_1, rfl, HA, HK1, HO_5, BK269, HB⟩ := hrel
    cases gk with
    | zero => exact absurd HA.out (by simp [impl_StateAt.l0])
    | succ k1 =>
      have H := HA.out; clear HA; simp only [impl_StateAt.l0] at H
      by_cases c6 : x10_1 < 6
      · rw [if_pos c6] at H; have c6b0 : decide (x10_1 < 6) = true := decide_eq_true c6; clear c6; replace H := Option.bind_eq_some_iff.mp H; obtain ⟨⟨t273, t274, t275, t276, t277, t278⟩, A70, H⟩ := H; replace H : (if t278 = true then (if x5_1.length < 17592186044416 then (impl_StateAt.l0 k1 a1 (x5_1 ++ [t274]) (wrap64 (x10_1 + 1)) l0_0) else (none)) else (some ([] : List Int))) = some r := H; have A7 := Aside0.mk A70; clear A70
        by_cases c8 : t278 = true
        · subst c8; rw [if_pos rfl] at H
          by_cases c9 : x5_1.length < 17592186044416
          · rw [if_pos c9] at H; have LMc9 := Aside0.mk c9; clear c9; obtain ⟨y280, hy280⟩ : ∃ y_ : List Int, y_ = (x5_1 ++ [t274]) := ⟨_, rfl⟩; (replace H : (impl_StateAt.l0 k1 a1 y280 (wrap64 (x10_1 + 1)) l0_0) = some r := by first | (rw [hy280]; with_reducible exact H) | (have H2_ := (Option.bind_some _ _).symm.trans H; rw [hy280]; with_reducible exact H2_) | (have H2_ := (Option.bind_some _ _).symm.trans H; with_reducible exact H2_) | with_reducible exact H | (rw [hy280]; exact H) | exact H); have Ny280 := Aside0.mk hy280; clear hy280; have H' := Aside0.mk H; clear H; have hcz10_0 := bc1_ BK269.out; have hfz10_0 := blk_frozen BK269.out 0
            go_wp2_with (first | ((with_reducible refine gate_callee (f := 47) rfl ?_); refine goesL_ (some 17) rfl rfl Tryd.func47 (by kernel_rfl) rfl #[.agg #[.slice A0_0 l0_0.length c0_0], .int .i64 x10_1, .int .i64 a1] rfl mp_ ?_; (with_reducible refine (impl_ReadAt.calls k1 _ _ l0_0 x10_1 a1 t273 t274 t275 t276 t277 true _ ?side1 ?side2 A7.out).mono ?_); (case side1 => exact cq_ HR0_0.out HB.out); (case side2 => exact HC0_0.out); rintro e w11 ⟨rfl, hb⟩; refine ⟨_, rfl, ?_⟩; have n0_ := Aside0.mk (Kd.R_below (by (with_reducible repeat (first | apply Kd.R_alloc | apply Kd.R_drewN | apply Kd.R_drew)); exact HO_5.out) hb); have n1_ := Aside0.mk (blk_below (bq_ BK269.out) hb); have n2_ := Aside0.mk (below_step (hq1_ HB.out GE269.out) hb); clear HO_5; clear BK269; clear HB; have HO_5 := n0_; have BK269 := n1_; have HB := n2_; clear n0_ n1_ n2_; (try clear hb); (try clear hb2); (try clear hk); (try clear hi)) | ((with_reducible refine gate_dst (N := 7) rfl ?_); refine box_event ?hg (N := 7) ?hd (cs := #[.int .i64 0, .int .i64 0, .int .i64 0, .int .i64 0, .int .i64 0]) (t := 43) ?hr ?_; (case hd => rfl); (case hg => rfl); (case hr => first | (go_simp; done) | (go_simp; rfl)); intro gb279 hg w12 hbox hb; have n0_ := Aside0.mk (Kd.R_below (by (with_reducible repeat (first | apply Kd.R_alloc | apply Kd.R_drewN | apply Kd.R_drew)); exact HO_5.out) hb); have n1_ := Aside0.mk (blk_below (bq_ BK269.out) hb); have n2_ := Aside0.mk (below_step (hq1_ HB.out GE269.out) hb); have n3_ := Aside0.mk (hbox); have n4_ := Aside0.mk ((ws_ hg (hq1_ HB.out GE269.out) : w.heap.size ≤ gb279)); have n5_ := n4_; have n6_ := Aside0.mk ((by rw [hg]; exact Nat.ne_of_lt (blk_lt (bq_ BK269.out)) : gb269 ≠ gb279)); have n7_ := Aside0.mk (Ne.symm n6_.out); clear HO_5; clear BK269; clear HB; have HO_5 := n0_; have BK269 := n1_; have HB := n2_; have BK279 := n3_; have GW279 := n4_; have GE279 := n5_; have NB269_279 := n6_; have NB279_269 := n7_; clear n0_ n1_ n2_ n3_ n4_ n5_ n6_ n7_; clear hb hbox hg; have hnb13 := NB279_269.out; have hnc13 := NB269_279.out; obtain ⟨hcz14_0, hcz14_1, hcz14_2, hcz14_3, hcz14_4⟩ := bc5_ BK279.out; obtain ⟨hfz14_0, hfz14_1, hfz14_2, hfz14_3, hfz14_4⟩ := bf5_ BK279.out) | ((with_reducible refine gate_builtin (b := .append) (xs := #[.tmp 22, .tmp 25]) rfl ?_); at_builtin; refine Kd.R_append (Kd.int .i64) (w0 := w) w.heap.size rfl (.tmp 22) (.tmp 25) 55 3 (.int .i64 0) 8 rfl Tryd.underlying55 info3 rfl (by decide) (by omega) u5 x5_1 t274 [.int .i64 t274] (fun _ => True) (fun _ => False) rfl (by first | (go_simp; done) | (go_simp; rfl)) ?aP (fun _ hk => hk.elim) ?aF ?aO ?aB ?aS ?aL ?_; (case aP => exact rfl); (case aB => exact (hq2_ HB.out GE269.out GE279.out)); (case aF => exact (fun _ _ => trivial)); (case aO => exact (by (with_reducible repeat (first | apply Kd.R_alloc | apply Kd.R_drewN | apply Kd.R_drew)); exact Kd.R_mono (Kd.R_far (p := ⟨gb279, 4, none⟩) (Kd.R_far (p := ⟨gb279, 3, none⟩) (Kd.R_far (p := ⟨gb279, 2, none⟩) (Kd.R_far (p := ⟨gb279, 1, none⟩) (Kd.R_far (p := ⟨gb279, 0, none⟩) (Kd.R_types HO_5.out BK279.out (by decide)) (fun _ hk => hk.2) (.int .i64 t273)) (fun _ hk => hk.2) (.int .i64 t274)) (fun _ hk => hk.2) (.int .i64 t275)) (fun _ hk => hk.2) (.int .i64 t276)) (fun _ hk => hk.2) (.int .i64 t277)) (fun _ hk => trivial))); (case aS => exact (below_size (hq2_ HB.out GE269.out GE279.out))); (case aL => have := LMc9.out; omega); intro v281 w15 ho hb hg hat; rw [← Ny280.out] at ho; have n0_ := Aside0.mk (blk_grown (g := gb269) (o := .cells #[.slice A0_0 l0_0.length c0_0] 52 (0, 0)) (bk1_ BK269.out NB269_279.out) hg (Kd.R_ne HO_5.out BK269.out (by decide))); have n1_ := Aside0.mk (blk_grown (g := gb279) (o := .cells #[.int .i64 t273, .int .i64 t274, .int .i64 t275, .int .i64 t276, .int .i64 t277] 43 (0, 0)) (by (with_reducible repeat (first | refine blk_drewN ?_ _ | refine blk_drew ?_ | refine blk_alloc ?_ _)); refine blk_put (cs := #[.int .i64 t273, .int .i64 t274, .int .i64 t275, .int .i64 t276, .int .i64 0]) ?_ 4 _ rfl; (with_reducible repeat (first | refine blk_drewN ?_ _ | refine blk_drew ?_ | refine blk_alloc ?_ _)); refine blk_put (cs := #[.int .i64 t273, .int .i64 t274, .int .i64 t275, .int .i64 0, .int .i64 0]) ?_ 3 _ rfl; (with_reducible repeat (first | refine blk_drewN ?_ _ | refine blk_drew ?_ | refine blk_alloc ?_ _)); refine blk_put (cs := #[.int .i64 t273, .int .i64 t274, .int .i64 0, .int .i64 0, .int .i64 0]) ?_ 2 _ rfl; (with_reducible repeat (first | refine blk_drewN ?_ _ | refine blk_drew ?_ | refine blk_alloc ?_ _)); refine blk_put (cs := #[.int .i64 t273, .int .i64 0, .int .i64 0, .int .i64 0, .int .i64 0]) ?_ 1 _ rfl; (with_reducible repeat (first | refine blk_drewN ?_ _ | refine blk_drew ?_ | refine blk_alloc ?_ _)); refine blk_put (cs := #[.int .i64 0, .int .i64 0, .int .i64 0, .int .i64 0, .int .i64 0]) ?_ 0 _ rfl; (with_reducible repeat (first | refine blk_drewN ?_ _ | refine blk_drew ?_ | refine blk_alloc ?_ _)); exact BK279.out) hg (Kd.R_ne HO_5.out BK279.out (by decide))); have n2_ := Aside0.mk (hb); have n3_ := Aside0.mk (ho); clear BK269; clear BK279; clear HB; clear HO_5; have BK269 := n0_; have BK279 := n1_; have HB := n2_; have HO282 := n3_; clear n0_ n1_ n2_ n3_; clear ho hb hg hat))
            go_roundg k1
            case measure => have := HK1.out; omega
            case rel => exact ⟨(y280), (wrap64 (x10_1 + 1)), rs_, H', ⟨by have := HK1.out; omega⟩, ⟨by (with_reducible repeat (first | apply Kd.R_alloc | apply Kd.R_drewN | apply Kd.R_drew)); exact HO282.out⟩, ⟨bq_ BK269.out⟩, ⟨hq2_ HB.out GE269.out GE279.out⟩⟩
          · rw [if_neg c9] at H; exact absurd H (by simp)
        · replace c8 := Bool.eq_false_iff.mpr c8; subst c8; rw [if_neg nt_] at H; obtain rfl := Option.some.inj H; have hcz16_0 := bc1_ BK269.out; have hfz16_0 := blk_frozen BK269.out 0
          go_wp2_with (first | ((with_reducible refine gate_callee (f := 47) rfl ?_); refine goesL_ (some 17) rfl rfl Tryd.func47 (by kernel_rfl) rfl #[.agg #[.slice A0_0 l0_0.length c0_0], .int .i64 x10_1, .int .i64 a1] rfl mp_ ?_; (with_reducible refine (impl_ReadAt.calls k1 _ _ l0_0 x10_1 a1 t273 t274 t275 t276 t277 false _ ?side1 ?side2 A7.out).mono ?_); (case side1 => exact cq_ HR0_0.out HB.out); (case side2 => exact HC0_0.out); rintro e w17 ⟨rfl, hb⟩; refine ⟨_, rfl, ?_⟩; have n0_ := Aside0.mk (Kd.R_below (by (with_reducible repeat (first | apply Kd.R_alloc | apply Kd.R_drewN | apply Kd.R_drew)); exact HO_5.out) hb); have n1_ := Aside0.mk (blk_below (bq_ BK269.out) hb); have n2_ := Aside0.mk (below_step (hq1_ HB.out GE269.out) hb); clear HO_5; clear BK269; clear HB; have HO_5 := n0_; have BK269 := n1_; have HB := n2_; clear n0_ n1_ n2_; (try clear hb); (try clear hb2); (try clear hk); (try clear hi)) | ((with_reducible refine gate_dst (N := 7) rfl ?_); refine box_event ?hg (N := 7) ?hd (cs := #[.int .i64 0, .int .i64 0, .int .i64 0, .int .i64 0, .int .i64 0]) (t := 43) ?hr ?_; (case hd => rfl); (case hg => rfl); (case hr => first | (go_simp; done) | (go_simp; rfl)); intro gb279 hg w18 hbox hb; have n0_ := Aside0.mk (Kd.R_below (by (with_reducible repeat (first | apply Kd.R_alloc | apply Kd.R_drewN | apply Kd.R_drew)); exact HO_5.out) hb); have n1_ := Aside0.mk (blk_below (bq_ BK269.out) hb); have n2_ := Aside0.mk (below_step (hq1_ HB.out GE269.out) hb); have n3_ := Aside0.mk (hbox); have n4_ := Aside0.mk ((ws_ hg (hq1_ HB.out GE269.out) : w.heap.size ≤ gb279)); have n5_ := n4_; have n6_ := Aside0.mk ((by rw [hg]; exact Nat.ne_of_lt (blk_lt (bq_ BK269.out)) : gb269 ≠ gb279)); have n7_ := Aside0.mk (Ne.symm n6_.out); clear HO_5; clear BK269; clear HB; have HO_5 := n0_; have BK269 := n1_; have HB := n2_; have BK279 := n3_; have GW279 := n4_; have GE279 := n5_; have NB269_279 := n6_; have NB279_269 := n7_; clear n0_ n1_ n2_ n3_ n4_ n5_ n6_ n7_; clear hb hbox hg; have hnb19 := NB279_269.out; have hnc19 := NB269_279.out; obtain ⟨hcz20_0, hcz20_1, hcz20_2, hcz20_3, hcz20_4⟩ := bc5_ BK279.out; obtain ⟨hfz20_0, hfz20_1, hfz20_2, hfz20_3, hfz20_4⟩ := bf5_ BK279.out))
          go_ret; exact ⟨_, by first | rfl | (simp [errW_none, errW_some] <;> rfl) | (simp [*, errW_none, errW_some] <;> rfl), by first | exact Kd.R_nil _ _ _ _ _ | exact Kd.N_nil _ _ _ _ _ | exact Kd.V_nil _ _ _ _ _ | exact Kd.Q_nil _ _ _ _ _ | exact Kd.S_nil _ _ _ _ _, hq2_ HB.out GE269.out GE279.out⟩
      · rw [if_neg c6] at H; have c6b0 : decide (x10_1 < 6) = false := decide_eq_false c6; clear c6; obtain rfl := Option.some.inj H
        go_wp2
        go_ret; exact ⟨_, by first | rfl | (simp [errW_none, errW_some] <;> rfl) | (simp [*, errW_none, errW_some] <;> rfl), by (with_reducible repeat (first | apply Kd.R_alloc | apply Kd.R_drewN | apply Kd.R_drew)); exact HO_5.out, hq1_ HB.out GE269.out⟩

/-! ### laws_sameInts: function 37 -/
def laws_sameInts.l0 : Nat → List Int → List Int → Int → Option (Bool)
  | 0, _, _, _ => none
  | k + 1, x0, x1, x5 => if x5 < (x0.length : Int) then (if 0 ≤ x5 then (if x5 < (x1.length : Int) then (if (rd x0 x5) = (rd x1 x5) then (laws_sameInts.l0 k x0 x1 (wrap64 (x5 + 1))) else (some false)) else (none)) else (none)) else (some true)
def laws_sameInts.f (k : Nat) (l0 : List Int) (l1 : List Int) : Option (Bool) := if (l0.length : Int) = (l1.length : Int) then (laws_sameInts.l0 k l0 l1 0) else (some false)
theorem laws_sameInts.mono_l : ∀ k, (∀ y0 y1 y2, LeO (laws_sameInts.l0 k y0 y1 y2) (laws_sameInts.l0 (k + 1) y0 y1 y2))
  | 0 => fun _ _ _ r h => by simp [laws_sameInts.l0] at h
  | k + 1 => by
    have ih0 := laws_sameInts.mono_l k
    · intro y0 y1 y2; unfold laws_sameInts.l0
      repeat' first
      | (with_reducible first | apply ih0 | exact LeO.refl _ | exact LeO.none _ | refine LeO.ite ?_ ?_ | refine LeO.bind ?_ (fun _ => ?_))
theorem laws_sameInts.mono : ∀ a0 a1 k, LeO (laws_sameInts.f k a0 a1) (laws_sameInts.f (k + 1) a0 a1) := by
  intro a0 a1 k; have ih0 := laws_sameInts.mono_l k; unfold laws_sameInts.f
  repeat' first
      | (with_reducible first | apply ih0 | exact LeO.refl _ | exact LeO.none _ | refine LeO.ite ?_ ?_ | refine LeO.bind ?_ (fun _ => ?_))
set_option maxHeartbeats 8000000 in
set_option maxRecDepth 100000 in
theorem laws_sameInts.calls (k : Nat) (A0 : Option Addr) (c0 : Nat) (l0 : List Int) (A1 : Option Addr) (c1 : Nat) (l1 : List Int) (r : Bool) (w : World) (hr0 : Kd.C (Kd.int .i64) w A0 l0.length l0) (hc0 : l0.length ≤ c0) (hr1 : Kd.C (Kd.int .i64) w A1 l1.length l1) (hc1 : l1.length ≤ c1) (h : laws_sameInts.f k l0 l1 = some r) :
    Calls Tryd.prog 37 #[.slice A0 l0.length c0, .slice A1 l1.length c1] w fun e w' => e = .returned (.bool r) ∧ Drawn0 w w' := by
  have HR0 := Aside0.mk hr0; have HC0 := Aside0.mk hc0; clear hr0 hc0; have HR1 := Aside0.mk hr1; have HC1 := Aside0.mk hc1; clear hr1 hc1; have H : (if (l0.length : Int) = (l1.length : Int) then (laws_sameInts.l0 k l0 l1 0) else (some false)) = some r := h; clear h
  by_cases c3 : (l0.length : Int) = (l1.length : Int)
  · rw [if_pos c3] at H; have c3b0 : ((l0.length : Int) == (l1.length : Int)) = true := beq_iff_eq.mpr c3; have c3b1 : ((l0.length : Int) != (l1.length : Int)) = false := bne_eq_false_iff_eq.mpr c3; (have c3b2 : (l0.length == l1.length) = true := by first | simpa using c3 | (simp at c3 ⊢; omega)); clear c3; have H' := Aside0.mk H; clear H
    go_enter Tryd.func37, Tryd.ntmps37
    go_wp2
    repeat (go_quiet (fail); try go_wp2)
    go_loopg [5] k (fun kq v5 w' => ∃ (x5_1 : Int), v5 = .int .i64 x5_1 ∧ Aside0 (laws_sameInts.l0 kq l0 l1 x5_1 = some r) ∧ Aside0 (kq ≤ k) ∧ Drawn0 w w')
    case atStart => exact ⟨(0), rs_, H', ⟨Nat.le_refl _⟩, by repeat (first | exact Drawn0.refl _ | apply Drawn0.step)⟩
    case round =>
      clear H'; (try clear c1); (try clear p2); (try clear c3); (try clear c3b0); (try clear c3b1); (try clear c3b2); obtain ⟨x5_1, rfl, HA, HK1, ⟨m1, rfl⟩⟩ := hrel
      cases gk with
      | zero => exact absurd HA.out (by simp [laws_sameInts.l0])
      | succ k1 =>
        have H := HA.out; clear HA; simp only [laws_sameInts.l0] at H
        by_cases c4 : x5_1 < (l0.length : Int)
        · rw [if_pos c4] at H; have c4b0 : decide (x5_1 < (l0.length : Int)) = true := decide_eq_true c4; clear c4
          by_cases c5 : 0 ≤ x5_1
          · rw [if_pos c5] at H; have c5b0 : decide (0 ≤ x5_1) = true := decide_eq_true c5; clear c5
            by_cases c6 : x5_1 < (l1.length : Int)
            · rw [if_pos c6] at H; have c6b0 : decide (x5_1 < (l1.length : Int)) = true := decide_eq_true c6; clear c6
              by_cases c7 : (rd l0 x5_1) = (rd l1 x5_1)
              · rw [if_pos c7] at H; have c7b0 : ((rd l0 x5_1) == (rd l1 x5_1)) = true := beq_iff_eq.mpr c7; have c7b1 : ((rd l0 x5_1) != (rd l1 x5_1)) = false := bne_eq_false_iff_eq.mpr c7; clear c7; have H' := Aside0.mk H; clear H; have p283 : 0 ≤ (x5_1 : Int) := of_decide_eq_true as_; have q283 : x5_1 < (l0.length : Int) := of_decide_eq_true as_; obtain ⟨ad283, e283, hx283_0⟩ := Kd.at_int HR0.out x5_1 p283 q283
                cases e283
                replace p283 := eq_true p283; replace q283 := eq_true q283; have p284 : 0 ≤ (x5_1 : Int) := of_decide_eq_true as_; have q284 : x5_1 < (l1.length : Int) := of_decide_eq_true as_; obtain ⟨ad284, e284, hx284_0⟩ := Kd.at_int HR1.out x5_1 p284 q284
                cases e284
                replace p284 := eq_true p284; replace q284 := eq_true q284
                go_wp2
                repeat (go_quiet (fail); try go_wp2)
                go_roundg k1
                case measure => have := HK1.out; omega
                case rel => exact ⟨(wrap64 (x5_1 + 1)), rs_, H', ⟨by have := HK1.out; omega⟩, by repeat (first | exact Drawn0.refl _ | apply Drawn0.step)⟩
              · rw [if_neg c7] at H; have c7b0 : ((rd l0 x5_1) == (rd l1 x5_1)) = false := beq_eq_false_iff_ne.mpr c7; have c7b1 : ((rd l0 x5_1) != (rd l1 x5_1)) = true := bne_iff_ne.mpr c7; obtain rfl := Option.some.inj H; have p283 : 0 ≤ (x5_1 : Int) := of_decide_eq_true as_; have q283 : x5_1 < (l0.length : Int) := of_decide_eq_true as_; obtain ⟨ad283, e283, hx283_0⟩ := Kd.at_int HR0.out x5_1 p283 q283
                cases e283
                replace p283 := eq_true p283; replace q283 := eq_true q283; have p284 : 0 ≤ (x5_1 : Int) := of_decide_eq_true as_; have q284 : x5_1 < (l1.length : Int) := of_decide_eq_true as_; obtain ⟨ad284, e284, hx284_0⟩ := Kd.at_int HR1.out x5_1 p284 q284
                cases e284
                replace p284 := eq_true p284; replace q284 := eq_true q284
                go_wp2
                repeat (go_quiet (fail); try go_wp2)
                go_ret; exact ⟨rs_, by repeat (first | exact Drawn0.refl _ | apply Drawn0.step)⟩
            · rw [if_neg c6] at H; exact absurd H (by simp)
          · rw [if_neg c5] at H; exact absurd H (by simp)
        · rw [if_neg c4] at H; have c4b0 : decide (x5_1 < (l0.length : Int)) = false := decide_eq_false c4; clear c4; obtain rfl := Option.some.inj H
          go_wp2
          repeat (go_quiet (fail); try go_wp2)
          go_ret; exact ⟨rs_, by repeat (first | exact Drawn0.refl _ | apply Drawn0.step)⟩
  · rw [if_neg c3] at H; have c3b0 : ((l0.length : Int) == (l1.length : Int)) = false := beq_eq_false_iff_ne.mpr c3; have c3b1 : ((l0.length : Int) != (l1.length : Int)) = true := bne_iff_ne.mpr c3; (have c3b2 : (l0.length == l1.length) = false := by first | simpa using c3 | (simp at c3 ⊢; omega)); obtain rfl := Option.some.inj H
    go_enter Tryd.func37, Tryd.ntmps37
    go_wp2
    repeat (go_quiet (fail); try go_wp2)
    go_ret; exact ⟨rs_, by repeat (first | exact Drawn0.refl _ | apply Drawn0.step)⟩

/-! ### spec_l1In: function 55 -/
def spec_l1In.f (a0 : Int) (a1 : Int) (a2 : Int) : Option (Bool) := if a0 ≥ a1 then (some (decide (a0 ≤ a2))) else (some false)
set_option maxHeartbeats 8000000 in
set_option maxRecDepth 100000 in
theorem spec_l1In.calls (a0 : Int) (a1 : Int) (a2 : Int) (r : Bool) (w : World) (h : spec_l1In.f a0 a1 a2 = some r) :
    Calls Tryd.prog 55 #[.int .i64 a0, .int .i64 a1, .int .i64 a2] w fun e w' => e = .returned (.bool r) ∧ Drawn0 w w' := by
  have H : (if a0 ≥ a1 then (some (decide (a0 ≤ a2))) else (some false)) = some r := h; clear h
  by_cases c4 : a0 ≥ a1
  · rw [if_pos c4] at H; have c4b0 : decide (a1 ≤ a0) = true := decide_eq_true c4; clear c4; obtain rfl := Option.some.inj H
    go_enter Tryd.func55, Tryd.ntmps55
    go_wp2
    go_ret; exact ⟨rs_, by repeat (first | exact Drawn0.refl _ | apply Drawn0.step)⟩
  · rw [if_neg c4] at H; have c4b0 : decide (a1 ≤ a0) = false := decide_eq_false c4; clear c4; obtain rfl := Option.some.inj H
    go_enter Tryd.func55, Tryd.ntmps55
    go_wp2
    go_ret; exact ⟨rs_, by repeat (first | exact Drawn0.refl _ | apply Drawn0.step)⟩

end Go.Proofs.YtacdaekigoldaaaDoor.PFnStores
