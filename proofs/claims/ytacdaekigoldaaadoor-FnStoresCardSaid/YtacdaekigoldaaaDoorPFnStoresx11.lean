-- Printed by my own myprint.py out of the translation of the seat YtacdaekigoldaaaDoor. Not trusted: Lean checks it.
import Derived.Test.YtacdaekigoldaaaDoorPFnStoresx0
import Derived.Test.YtacdaekigoldaaaDoorPFnStoresx7
namespace Go.Proofs.YtacdaekigoldaaaDoor.PFnStores
open Go.RowKit Go.Proofs.YtacdaekigoldaaaDoorW.PrintWords Go.Proofs.YtacdaekigoldaaaDoorW.PrintLast Go.Proofs.YtacdaekigoldaaaDoorW.PrintMore
attribute [local go_sem] max2_int min2_int max_two min_two max_three min_three max_four min_four   -- for this text's walks alone
set_option linter.unusedVariables false
set_option linter.unusedSimpArgs false

/-! ### spec_FormatInt: function 19 -/
def spec_FormatInt.l0 : Nat → Int → ByteArray → Bool → Option (ByteArray)
  | 0, _, _, _ => none
  | k + 1, x0, x3, x4 => if x0 = 0 then (if x4 = true then (if 1 + x3.size ≤ 9223372036854775807 then (some ((⟨#[45]⟩ : ByteArray) ++ x3)) else (none)) else (some x3)) else (if (Int.tmod x0 10) < 0 then ((some (([(wrap64 (48 + (wrap64 (-(Int.tmod x0 10))))) % 256] : List Int) : List Int)).bind fun y363 => (if (strOfNums y363).size + x3.size ≤ 9223372036854775807 then (spec_FormatInt.l0 k (wrap64 (Int.tdiv x0 10)) ((strOfNums y363) ++ x3) x4) else (none))) else ((some (([(wrap64 (48 + (Int.tmod x0 10))) % 256] : List Int) : List Int)).bind fun y366 => (if (strOfNums y366).size + x3.size ≤ 9223372036854775807 then (spec_FormatInt.l0 k (wrap64 (Int.tdiv x0 10)) ((strOfNums y366) ++ x3) x4) else (none))))
def spec_FormatInt.f (k : Nat) (a0 : Int) : Option (ByteArray) := if a0 = 0 then (some (⟨#[48]⟩ : ByteArray)) else (spec_FormatInt.l0 k a0 (⟨#[]⟩ : ByteArray) (decide (a0 < 0)))
theorem spec_FormatInt.mono_l : ∀ k, (∀ y0 y1 y2, LeO (spec_FormatInt.l0 k y0 y1 y2) (spec_FormatInt.l0 (k + 1) y0 y1 y2))
  | 0 => fun _ _ _ r h => by simp [spec_FormatInt.l0] at h
  | k + 1 => by
    have ih0 := spec_FormatInt.mono_l k
    · intro y0 y1 y2; unfold spec_FormatInt.l0
      repeat' first
      | (with_reducible first | apply ih0 | exact LeO.refl _ | exact LeO.none _ | refine LeO.ite ?_ ?_ | refine LeO.bind ?_ (fun _ => ?_))
theorem spec_FormatInt.mono : ∀ a0 k, LeO (spec_FormatInt.f k a0) (spec_FormatInt.f (k + 1) a0) := by
  intro a0 k; have ih0 := spec_FormatInt.mono_l k; unfold spec_FormatInt.f
  repeat' first
      | (with_reducible first | apply ih0 | exact LeO.refl _ | exact LeO.none _ | refine LeO.ite ?_ ?_ | refine LeO.bind ?_ (fun _ => ?_))
set_option maxHeartbeats 8000000 in
set_option maxRecDepth 100000 in
theorem spec_FormatInt.calls (k : Nat) (a0 : Int) (r : ByteArray) (w : World) (h : spec_FormatInt.f k a0 = some r) :
    Calls Tryd.prog 19 #[.int .i64 a0] w fun e w' => e = .returned (.string r) ∧ Below w.heap.size w w' := by
  have HB := Aside0.mk (Below.refl w.heap.size w); have H : (if a0 = 0 then (some (⟨#[48]⟩ : ByteArray)) else (spec_FormatInt.l0 k a0 (⟨#[]⟩ : ByteArray) (decide (a0 < 0)))) = some r := h; clear h
  by_cases c2 : a0 = 0
  · rw [if_pos c2] at H; have c2b0 : (a0 == 0) = true := beq_iff_eq.mpr c2; have c2b1 : (a0 != 0) = false := bne_eq_false_iff_eq.mpr c2; clear c2; obtain rfl := Option.some.inj H
    go_enter Tryd.func19, Tryd.ntmps19
    go_wp2
    go_ret; exact ⟨ew_, hq0_ HB.out⟩
  · rw [if_neg c2] at H; have c2b0 : (a0 == 0) = false := beq_eq_false_iff_ne.mpr c2; have c2b1 : (a0 != 0) = true := bne_iff_ne.mpr c2; have H' := Aside0.mk H; clear H
    go_enter Tryd.func19, Tryd.ntmps19
    go_wp2
    go_loopg [0, 3] k (fun kq v0 v3 w' => ∃ (x0_1 : Int) (x3_1 : ByteArray), v0 = .int .i64 x0_1 ∧ v3 = .string x3_1 ∧ Aside0 (spec_FormatInt.l0 kq x0_1 x3_1 (decide (a0 < 0)) = some r) ∧ Aside0 (kq ≤ k) ∧ Aside0 (Below w.heap.size w w'))
    case atStart => exact ⟨(a0), ((⟨#[]⟩ : ByteArray)), rs_, rs_, H', ⟨Nat.le_refl _⟩, ⟨hq0_ HB.out⟩⟩
    case round =>
      clear H'; (try clear c1); (try clear c2); (try clear c2b0); (try clear c2b1); (try clear p2); obtain ⟨x0_1, x3_1, rfl, rfl, HA, HK1, HB⟩ := hrel
      cases gk with
      | zero => exact absurd HA.out (by simp [spec_FormatInt.l0])
      | succ k1 =>
        have H := HA.out; clear HA; simp only [spec_FormatInt.l0] at H
        by_cases c3 : x0_1 = 0
        · rw [if_pos c3] at H; have c3b0 : (x0_1 == 0) = true := beq_iff_eq.mpr c3; have c3b1 : (x0_1 != 0) = false := bne_eq_false_iff_eq.mpr c3; clear c3
          by_cases c4 : (decide (a0 < 0)) = true
          · rw [if_pos c4] at H; have c4b0 : (decide (a0 < 0)) = true := c4; have c4r := Aside0.mk (of_decide_eq_true c4b0); clear c4
            by_cases c5 : 1 + x3_1.size ≤ 9223372036854775807
            · rw [if_pos c5] at H; have c5b0 := eq_true c5; have c5b1 : decide (1 + x3_1.size ≤ 9223372036854775807) = true := decide_eq_true c5; (try have c5b2 : (9223372036854775807 < 1 + x3_1.size) = False := eq_false (Nat.not_lt.2 c5)); obtain rfl := Option.some.inj H
              go_wp2
              all_goals (try (first | exact absurd (by assumption) c4r.out | exact absurd c4r.out (by assumption) | exact absurd c4r.out (Int.not_lt.mpr (by assumption)) | exact absurd c4r.out (Int.not_le.mpr (by assumption))))
              go_ret; exact ⟨ew_, hq0_ HB.out⟩
            · rw [if_neg c5] at H; exact absurd H (by simp)
          · rw [if_neg c4] at H; (have c4b0 : (decide (a0 < 0)) = false := by simpa using c4); have c4r := Aside0.mk (of_decide_eq_false c4b0); clear c4; obtain rfl := Option.some.inj H
            go_wp2
            all_goals (try (first | exact absurd (by assumption) c4r.out | exact absurd c4r.out (by assumption) | exact absurd c4r.out (Int.not_lt.mpr (by assumption)) | exact absurd c4r.out (Int.not_le.mpr (by assumption))))
            go_ret; exact ⟨ew_, hq0_ HB.out⟩
        · rw [if_neg c3] at H; have c3b0 : (x0_1 == 0) = false := beq_eq_false_iff_ne.mpr c3; have c3b1 : (x0_1 != 0) = true := bne_iff_ne.mpr c3
          by_cases c6 : (Int.tmod x0_1 10) < 0
          · rw [if_pos c6] at H; have c6b0 : decide ((Int.tmod x0_1 10) < 0) = true := decide_eq_true c6; clear c6; obtain ⟨y363, hy363⟩ : ∃ y_ : List Int, y_ = (([(wrap64 (48 + (wrap64 (-(Int.tmod x0_1 10))))) % 256] : List Int)) := ⟨_, rfl⟩; (replace H : (if (strOfNums y363).size + x3_1.size ≤ 9223372036854775807 then (spec_FormatInt.l0 k1 (wrap64 (Int.tdiv x0_1 10)) ((strOfNums y363) ++ x3_1) (decide (a0 < 0))) else (none)) = some r := by first | (rw [hy363]; with_reducible exact H) | (have H2_ := (Option.bind_some _ _).symm.trans H; rw [hy363]; with_reducible exact H2_) | (have H2_ := (Option.bind_some _ _).symm.trans H; with_reducible exact H2_) | with_reducible exact H | (rw [hy363]; exact H) | exact H); have Ny363 := Aside0.mk hy363; clear hy363
            by_cases c7 : (strOfNums y363).size + x3_1.size ≤ 9223372036854775807
            · rw [if_pos c7] at H; have c7b0 := eq_true c7; have c7b1 : decide ((strOfNums y363).size + x3_1.size ≤ 9223372036854775807) = true := decide_eq_true c7; (try have c7b2 : (9223372036854775807 < (strOfNums y363).size + x3_1.size) = False := eq_false (Nat.not_lt.2 c7)); have H' := Aside0.mk H; clear H
              go_wp2_with (first | ((with_reducible refine gate_dst (N := 21) rfl ?_); refine Kd.R_lit (Kd.int .u8) _ 5 ?hg (N := 21) ?hd (xs := ([(wrap64 (48 + (wrap64 (-(Int.tmod x0_1 10))))) % 256] : List Int)) (inner := [.int .u8 ((wrap64 (48 + (wrap64 (-(Int.tmod x0_1 10))))) % 256)]) (ok := fun _ => True) (okp := fun _ => True) ?hr ?hp (fun _ hk => hk) trivial (Below.refl _ _) (Nat.le_refl _) (by simp) ?_; (case hd => rfl); (case hg => rfl); (case hr => first | (go_simp; done) | (go_simp; rfl)); (case hp => exact (Reps.one (show Kd.M (Kd.int .u8) _ _ _ ((wrap64 (48 + (wrap64 (-(Int.tmod x0_1 10))))) % 256) [.int .u8 ((wrap64 (48 + (wrap64 (-(Int.tmod x0_1 10))))) % 256)] from rfl) (Reps.none _ _))); intro v364 w8 ho9 hb hg_ hnew_; clear hg_ hnew_; (first | rw [← Ny363.out] at ho9 | (simp only [Int.reduceToNat] at ho9; rw [← Ny363.out] at ho9)); have n0_ := Aside0.mk (Kd.R_lower ho9 (below_size (hq0_ HB.out))); have n1_ := Aside0.mk (below_step (hq0_ HB.out) hb); clear HB; have HO365 := n0_; have HB := n1_; clear n0_ n1_; clear hb ho9; have hcv10 := own_string (P := Tryd.prog) Tryd.underlying22 Tryd.underlying5 Tryd.underlying9 (Kd.own_of_R HO365.out)))
              go_roundg k1
              case measure => have := HK1.out; omega
              case rel => exact ⟨(wrap64 (Int.tdiv x0_1 10)), ((strOfNums y363) ++ x3_1), rs_, rs_, H', ⟨by have := HK1.out; omega⟩, ⟨hq0_ HB.out⟩⟩
            · rw [if_neg c7] at H; exact absurd H (by simp)
          · rw [if_neg c6] at H; have c6b0 : decide ((Int.tmod x0_1 10) < 0) = false := decide_eq_false c6; clear c6; obtain ⟨y366, hy366⟩ : ∃ y_ : List Int, y_ = (([(wrap64 (48 + (Int.tmod x0_1 10))) % 256] : List Int)) := ⟨_, rfl⟩; (replace H : (if (strOfNums y366).size + x3_1.size ≤ 9223372036854775807 then (spec_FormatInt.l0 k1 (wrap64 (Int.tdiv x0_1 10)) ((strOfNums y366) ++ x3_1) (decide (a0 < 0))) else (none)) = some r := by first | (rw [hy366]; with_reducible exact H) | (have H2_ := (Option.bind_some _ _).symm.trans H; rw [hy366]; with_reducible exact H2_) | (have H2_ := (Option.bind_some _ _).symm.trans H; with_reducible exact H2_) | with_reducible exact H | (rw [hy366]; exact H) | exact H); have Ny366 := Aside0.mk hy366; clear hy366
            by_cases c11 : (strOfNums y366).size + x3_1.size ≤ 9223372036854775807
            · rw [if_pos c11] at H; have c11b0 := eq_true c11; have c11b1 : decide ((strOfNums y366).size + x3_1.size ≤ 9223372036854775807) = true := decide_eq_true c11; (try have c11b2 : (9223372036854775807 < (strOfNums y366).size + x3_1.size) = False := eq_false (Nat.not_lt.2 c11)); have H' := Aside0.mk H; clear H
              go_wp2_with (first | ((with_reducible refine gate_dst (N := 21) rfl ?_); refine Kd.R_lit (Kd.int .u8) _ 5 ?hg (N := 21) ?hd (xs := ([(wrap64 (48 + (Int.tmod x0_1 10))) % 256] : List Int)) (inner := [.int .u8 ((wrap64 (48 + (Int.tmod x0_1 10))) % 256)]) (ok := fun _ => True) (okp := fun _ => True) ?hr ?hp (fun _ hk => hk) trivial (Below.refl _ _) (Nat.le_refl _) (by simp) ?_; (case hd => rfl); (case hg => rfl); (case hr => first | (go_simp; done) | (go_simp; rfl)); (case hp => exact (Reps.one (show Kd.M (Kd.int .u8) _ _ _ ((wrap64 (48 + (Int.tmod x0_1 10))) % 256) [.int .u8 ((wrap64 (48 + (Int.tmod x0_1 10))) % 256)] from rfl) (Reps.none _ _))); intro v367 w12 ho13 hb hg_ hnew_; clear hg_ hnew_; (first | rw [← Ny366.out] at ho13 | (simp only [Int.reduceToNat] at ho13; rw [← Ny366.out] at ho13)); have n0_ := Aside0.mk (Kd.R_lower ho13 (below_size (hq0_ HB.out))); have n1_ := Aside0.mk (below_step (hq0_ HB.out) hb); clear HB; have HO368 := n0_; have HB := n1_; clear n0_ n1_; clear hb ho13; have hcv14 := own_string (P := Tryd.prog) Tryd.underlying22 Tryd.underlying5 Tryd.underlying9 (Kd.own_of_R HO368.out)))
              go_roundg k1
              case measure => have := HK1.out; omega
              case rel => exact ⟨(wrap64 (Int.tdiv x0_1 10)), ((strOfNums y366) ++ x3_1), rs_, rs_, H', ⟨by have := HK1.out; omega⟩, ⟨hq0_ HB.out⟩⟩
            · rw [if_neg c11] at H; exact absurd H (by simp)

/-! ### spec_l3Value: function 78 -/
def spec_l3Value.f (k : Nat) (a0 : Int) : Option (ByteArray) := if a0 = (-1) then (some (⟨#[45]⟩ : ByteArray)) else ((spec_FormatInt.f k a0).bind fun t369 => (some t369))
theorem spec_l3Value.mono : ∀ a0 k, LeO (spec_l3Value.f k a0) (spec_l3Value.f (k + 1) a0) := by
  intro a0 k; unfold spec_l3Value.f
  repeat' first
      | (with_reducible first | apply spec_FormatInt.mono | exact LeO.refl _ | exact LeO.none _ | refine LeO.ite ?_ ?_ | refine LeO.bind ?_ (fun _ => ?_))
set_option maxHeartbeats 8000000 in
set_option maxRecDepth 100000 in
theorem spec_l3Value.calls (k : Nat) (a0 : Int) (r : ByteArray) (w : World) (h : spec_l3Value.f k a0 = some r) :
    Calls Tryd.prog 78 #[.int .i64 a0] w fun e w' => e = .returned (.string r) ∧ Below w.heap.size w w' := by
  have HB := Aside0.mk (Below.refl w.heap.size w); have H : (if a0 = (-1) then (some (⟨#[45]⟩ : ByteArray)) else ((spec_FormatInt.f k a0).bind fun t369 => (some t369))) = some r := h; clear h
  by_cases c2 : a0 = (-1)
  · rw [if_pos c2] at H; have c2b0 : (a0 == (-1)) = true := beq_iff_eq.mpr c2; have c2b1 : (a0 != (-1)) = false := bne_eq_false_iff_eq.mpr c2; clear c2; obtain rfl := Option.some.inj H
    go_enter Tryd.func78, Tryd.ntmps78
    go_wp2
    go_ret; exact ⟨ew_, hq0_ HB.out⟩
  · rw [if_neg c2] at H; have c2b0 : (a0 == (-1)) = false := beq_eq_false_iff_ne.mpr c2; have c2b1 : (a0 != (-1)) = true := bne_iff_ne.mpr c2; replace H := Option.bind_eq_some_iff.mp H; obtain ⟨t369, A30, H⟩ := H; have A3 := Aside0.mk A30; clear A30; obtain rfl := Option.some.inj H
    go_enter Tryd.func78, Tryd.ntmps78
    go_wp2_with (first | ((with_reducible refine gate_callee (f := 19) rfl ?_); refine goesL_ (some 6) rfl rfl Tryd.func19 (by kernel_rfl) rfl #[.int .i64 a0] rfl mp_ ?_; (with_reducible refine (spec_FormatInt.calls k a0 t369 _ A3.out).mono ?_); rintro e w4 ⟨rfl, hb⟩; refine ⟨_, rfl, ?_⟩; have n0_ := Aside0.mk (below_step (hq0_ HB.out) hb); clear HB; have HB := n0_; clear n0_; (try clear hb); (try clear hb2); (try clear hk); (try clear hi)))
    go_ret; exact ⟨ew_, hq0_ HB.out⟩

/-! ### spec_FormatState: function 46 -/
def spec_FormatState.l0 : Nat → List Int → ByteArray → Int → Option (ByteArray)
  | 0, _, _, _ => none
  | k + 1, x0, x3, x4 => if x4 < (x0.length : Int) then (if 0 ≤ x4 then ((spec_l1In.f (rd x0 x4) (-1) 99).bind fun t371 => (if t371 = true then (if x4 > 0 then (if x3.size + 1 ≤ 9223372036854775807 then ((spec_l3Value.f k (rd x0 x4)).bind fun t373 => (if (x3 ++ (⟨#[32]⟩ : ByteArray)).size + t373.size ≤ 9223372036854775807 then (spec_FormatState.l0 k x0 ((x3 ++ (⟨#[32]⟩ : ByteArray)) ++ t373) (wrap64 (x4 + 1))) else (none))) else (none)) else ((spec_l3Value.f k (rd x0 x4)).bind fun t375 => (if x3.size + t375.size ≤ 9223372036854775807 then (spec_FormatState.l0 k x0 (x3 ++ t375) (wrap64 (x4 + 1))) else (none)))) else (some (⟨#[]⟩ : ByteArray)))) else (none)) else (some x3)
def spec_FormatState.f (k : Nat) (l0 : List Int) : Option (ByteArray) := spec_FormatState.l0 k l0 (⟨#[]⟩ : ByteArray) 0
theorem spec_FormatState.mono_l : ∀ k, (∀ y0 y1 y2, LeO (spec_FormatState.l0 k y0 y1 y2) (spec_FormatState.l0 (k + 1) y0 y1 y2))
  | 0 => fun _ _ _ r h => by simp [spec_FormatState.l0] at h
  | k + 1 => by
    have ih0 := spec_FormatState.mono_l k
    · intro y0 y1 y2; unfold spec_FormatState.l0
      repeat' first
      | (with_reducible first | apply ih0 | apply spec_l3Value.mono | exact LeO.refl _ | exact LeO.none _ | refine LeO.ite ?_ ?_ | refine LeO.bind ?_ (fun _ => ?_))
theorem spec_FormatState.mono : ∀ a0 k, LeO (spec_FormatState.f k a0) (spec_FormatState.f (k + 1) a0) := by
  intro a0 k; have ih0 := spec_FormatState.mono_l k; unfold spec_FormatState.f
  repeat' first
      | (with_reducible first | apply ih0 | apply spec_l3Value.mono | exact LeO.refl _ | exact LeO.none _ | refine LeO.ite ?_ ?_ | refine LeO.bind ?_ (fun _ => ?_))
set_option maxHeartbeats 8000000 in
set_option maxRecDepth 100000 in
theorem spec_FormatState.calls (k : Nat) (A0 : Option Addr) (c0 : Nat) (l0 : List Int) (r : ByteArray) (w : World) (hr0 : Kd.C (Kd.int .i64) w A0 l0.length l0) (hc0 : l0.length ≤ c0) (h : spec_FormatState.f k l0 = some r) :
    Calls Tryd.prog 46 #[.slice A0 l0.length c0] w fun e w' => e = .returned (.string r) ∧ Below w.heap.size w w' := by
  have HR0 := Aside0.mk hr0; have HC0 := Aside0.mk hc0; clear hr0 hc0; have HB := Aside0.mk (Below.refl w.heap.size w); have H : (spec_FormatState.l0 k l0 (⟨#[]⟩ : ByteArray) 0) = some r := h; clear h; have H' := Aside0.mk H; clear H
  go_enter Tryd.func46, Tryd.ntmps46
  go_wp2
  go_loopg [3, 4] k (fun kq v3 v4 w' => ∃ (x3_1 : ByteArray) (x4_1 : Int), v3 = .string x3_1 ∧ v4 = .int .i64 x4_1 ∧ Aside0 (spec_FormatState.l0 kq l0 x3_1 x4_1 = some r) ∧ Aside0 (kq ≤ k) ∧ Aside0 (Below w.heap.size w w'))
  case atStart => exact ⟨((⟨#[]⟩ : ByteArray)), (0), rs_, rs_, H', ⟨Nat.le_refl _⟩, ⟨hq0_ HB.out⟩⟩
  case round =>
    clear H'; obtain ⟨x3_1, x4_1, rfl, rfl, HA, HK1, HB⟩ := hrel
    cases gk with
    | zero => exact absurd HA.out (by simp [spec_FormatState.l0])
    | succ k1 =>
      have H := HA.out; clear HA; simp only [spec_FormatState.l0] at H
      by_cases c2 : x4_1 < (l0.length : Int)
      · rw [if_pos c2] at H; have c2b0 : decide (x4_1 < (l0.length : Int)) = true := decide_eq_true c2; clear c2
        by_cases c3 : 0 ≤ x4_1
        · rw [if_pos c3] at H; have c3b0 : decide (0 ≤ x4_1) = true := decide_eq_true c3; clear c3; replace H := Option.bind_eq_some_iff.mp H; obtain ⟨t371, A40, H⟩ := H; have A4 := Aside0.mk A40; clear A40
          by_cases c5 : t371 = true
          · subst c5; rw [if_pos rfl] at H
            by_cases c6 : x4_1 > 0
            · rw [if_pos c6] at H; have c6b0 : decide (0 < x4_1) = true := decide_eq_true c6; clear c6
              by_cases c7 : x3_1.size + 1 ≤ 9223372036854775807
              · rw [if_pos c7] at H; have c7b0 := eq_true c7; have c7b1 : decide (x3_1.size + 1 ≤ 9223372036854775807) = true := decide_eq_true c7; (try have c7b2 : (9223372036854775807 < x3_1.size + 1) = False := eq_false (Nat.not_lt.2 c7)); replace H := Option.bind_eq_some_iff.mp H; obtain ⟨t373, A80, H⟩ := H; have A8 := Aside0.mk A80; clear A80
                by_cases c9 : (x3_1 ++ (⟨#[32]⟩ : ByteArray)).size + t373.size ≤ 9223372036854775807
                · rw [if_pos c9] at H; have c9b0 := eq_true c9; have c9b1 : decide ((x3_1 ++ (⟨#[32]⟩ : ByteArray)).size + t373.size ≤ 9223372036854775807) = true := decide_eq_true c9; (try have c9b2 : (9223372036854775807 < (x3_1 ++ (⟨#[32]⟩ : ByteArray)).size + t373.size) = False := eq_false (Nat.not_lt.2 c9)); have c9b3 : (9223372036854775807 < x3_1.size + 1 + t373.size) = False := eq_false (Nat.not_lt.2 (by have h_ := c9; simp only [ByteArray.size_append] at h_; exact h_)); have H' := Aside0.mk H; clear H; have p370 : 0 ≤ (x4_1 : Int) := of_decide_eq_true as_; have q370 : x4_1 < (l0.length : Int) := of_decide_eq_true as_; obtain ⟨ad370, e370, hx370_0⟩ := Kd.at_int HR0.out x4_1 p370 q370
                  cases e370
                  replace hx370_0 := bl_ HB.out hx370_0; replace p370 := eq_true p370; replace q370 := eq_true q370
                  go_wp2_with (first | ((with_reducible refine gate_callee (f := 55) rfl ?_); refine goesL_ (some 15) rfl rfl Tryd.func55 (by kernel_rfl) rfl #[.int .i64 (rd l0 x4_1), .int .i64 (-1), .int .i64 99] rfl mp_ ?_; (with_reducible refine (spec_l1In.calls (rd l0 x4_1) (-1) 99 true _ A4.out).mono ?_); rintro e w' ⟨rfl, ⟨nd, rfl⟩⟩; refine ⟨_, rfl, ?_⟩; have p372 : 0 ≤ (x4_1 : Int) := of_decide_eq_true as_; have q372 : x4_1 < (l0.length : Int) := of_decide_eq_true as_; obtain ⟨ad372, e372, hx372_0⟩ := Kd.at_int HR0.out x4_1 p372 q372; obtain rfl : ad370 = ad372 := (by injection e372); replace hx372_0 := bl_ HB.out hx372_0; replace p372 := eq_true p372; replace q372 := eq_true q372) | ((with_reducible refine gate_callee (f := 78) rfl ?_); refine goesL_ (some 26) rfl rfl Tryd.func78 (by kernel_rfl) rfl #[.int .i64 (rd l0 x4_1)] rfl mp_ ?_; (with_reducible refine (spec_l3Value.calls k1 (rd l0 x4_1) t373 _ A8.out).mono ?_); rintro e w10 ⟨rfl, hb⟩; refine ⟨_, rfl, ?_⟩; have n0_ := Aside0.mk (below_step (hq0_ HB.out) hb); clear HB; have HB := n0_; clear n0_; (try clear hb); (try clear hb2); (try clear hk); (try clear hi)))
                  go_roundg k1
                  case measure => have := HK1.out; omega
                  case rel => exact ⟨((x3_1 ++ (⟨#[32]⟩ : ByteArray)) ++ t373), (wrap64 (x4_1 + 1)), rs_, rs_, H', ⟨by have := HK1.out; omega⟩, ⟨hq0_ HB.out⟩⟩
                · rw [if_neg c9] at H; exact absurd H (by simp)
              · rw [if_neg c7] at H; exact absurd H (by simp)
            · rw [if_neg c6] at H; have c6b0 : decide (0 < x4_1) = false := decide_eq_false c6; clear c6; replace H := Option.bind_eq_some_iff.mp H; obtain ⟨t375, A110, H⟩ := H; have A11 := Aside0.mk A110; clear A110
              by_cases c12 : x3_1.size + t375.size ≤ 9223372036854775807
              · rw [if_pos c12] at H; have c12b0 := eq_true c12; have c12b1 : decide (x3_1.size + t375.size ≤ 9223372036854775807) = true := decide_eq_true c12; (try have c12b2 : (9223372036854775807 < x3_1.size + t375.size) = False := eq_false (Nat.not_lt.2 c12)); have H' := Aside0.mk H; clear H; have p370 : 0 ≤ (x4_1 : Int) := of_decide_eq_true as_; have q370 : x4_1 < (l0.length : Int) := of_decide_eq_true as_; obtain ⟨ad370, e370, hx370_0⟩ := Kd.at_int HR0.out x4_1 p370 q370
                cases e370
                replace hx370_0 := bl_ HB.out hx370_0; replace p370 := eq_true p370; replace q370 := eq_true q370
                go_wp2_with (first | ((with_reducible refine gate_callee (f := 55) rfl ?_); refine goesL_ (some 15) rfl rfl Tryd.func55 (by kernel_rfl) rfl #[.int .i64 (rd l0 x4_1), .int .i64 (-1), .int .i64 99] rfl mp_ ?_; (with_reducible refine (spec_l1In.calls (rd l0 x4_1) (-1) 99 true _ A4.out).mono ?_); rintro e w' ⟨rfl, ⟨nd, rfl⟩⟩; refine ⟨_, rfl, ?_⟩; have p374 : 0 ≤ (x4_1 : Int) := of_decide_eq_true as_; have q374 : x4_1 < (l0.length : Int) := of_decide_eq_true as_; obtain ⟨ad374, e374, hx374_0⟩ := Kd.at_int HR0.out x4_1 p374 q374; obtain rfl : ad370 = ad374 := (by injection e374); replace hx374_0 := bl_ HB.out hx374_0; replace p374 := eq_true p374; replace q374 := eq_true q374) | ((with_reducible refine gate_callee (f := 78) rfl ?_); refine goesL_ (some 26) rfl rfl Tryd.func78 (by kernel_rfl) rfl #[.int .i64 (rd l0 x4_1)] rfl mp_ ?_; (with_reducible refine (spec_l3Value.calls k1 (rd l0 x4_1) t375 _ A11.out).mono ?_); rintro e w13 ⟨rfl, hb⟩; refine ⟨_, rfl, ?_⟩; have n0_ := Aside0.mk (below_step (hq0_ HB.out) hb); clear HB; have HB := n0_; clear n0_; (try clear hb); (try clear hb2); (try clear hk); (try clear hi)))
                go_roundg k1
                case measure => have := HK1.out; omega
                case rel => exact ⟨(x3_1 ++ t375), (wrap64 (x4_1 + 1)), rs_, rs_, H', ⟨by have := HK1.out; omega⟩, ⟨hq0_ HB.out⟩⟩
              · rw [if_neg c12] at H; exact absurd H (by simp)
          · replace c5 := Bool.eq_false_iff.mpr c5; subst c5; rw [if_neg nt_] at H; obtain rfl := Option.some.inj H; have p370 : 0 ≤ (x4_1 : Int) := of_decide_eq_true as_; have q370 : x4_1 < (l0.length : Int) := of_decide_eq_true as_; obtain ⟨ad370, e370, hx370_0⟩ := Kd.at_int HR0.out x4_1 p370 q370
            cases e370
            replace hx370_0 := bl_ HB.out hx370_0; replace p370 := eq_true p370; replace q370 := eq_true q370
            go_wp2_with (first | ((with_reducible refine gate_callee (f := 55) rfl ?_); refine goesL_ (some 15) rfl rfl Tryd.func55 (by kernel_rfl) rfl #[.int .i64 (rd l0 x4_1), .int .i64 (-1), .int .i64 99] rfl mp_ ?_; (with_reducible refine (spec_l1In.calls (rd l0 x4_1) (-1) 99 false _ A4.out).mono ?_); rintro e w' ⟨rfl, ⟨nd, rfl⟩⟩; refine ⟨_, rfl, ?_⟩))
            go_ret; exact ⟨ew_, hq0_ HB.out⟩
        · rw [if_neg c3] at H; exact absurd H (by simp)
      · rw [if_neg c2] at H; have c2b0 : decide (x4_1 < (l0.length : Int)) = false := decide_eq_false c2; clear c2; obtain rfl := Option.some.inj H
        go_wp2
        go_ret; exact ⟨ew_, hq0_ HB.out⟩

/-! ### impl_Store_latest: function 80 -/
-- FLAGS PTR
/-- The cells of a version. -/
def CellsV (w : World) (p : Addr) (v : S43) : Prop :=
  w.cell? p = some (.int .i64 v.f0) ∧ w.cell? ⟨p.block, p.off + 1, none⟩ = some (.int .i64 v.f1) ∧ w.cell? ⟨p.block, p.off + 2, none⟩ = some (.int .i64 v.f2) ∧ w.cell? ⟨p.block, p.off + 3, none⟩ = some (.int .i64 v.f3) ∧ w.cell? ⟨p.block, p.off + 4, none⟩ = some (.int .i64 v.f4)
set_option maxHeartbeats 2000000 in
set_option maxRecDepth 100000 in
/-- Where the last version of a key stands; its cells are told of an elder world. -/
theorem impl_Store_latest.told0 (A0 : Option Addr) (c0 : Nat) (l0 : List (List S43)) (key i : Int) (w0 w : World) (hb0 : Below w0.heap.size w0 w) (hr0 : Kd.C (Kd.slice 43 k43) w0 A0 l0.length l0) (hk0 : 0 ≤ key) (hk1 : key < (l0.length : Int)) (hi : wrap64 (((rd_L3 l0 key).length : Int) - 1) = i) (hi0 : 0 ≤ i) (hi1 : i < ((rd_L3 l0 key).length : Int)) :
    Calls Tryd.prog 80 #[.agg #[.slice A0 l0.length c0], .int .i64 key] w fun e w' => ∃ p : Addr, e = .returned (.pointer (some p)) ∧ Below w.heap.size w w' ∧ CellsV w0 p (rd_T43 (rd_L3 l0 key) i) := by
  have hu := Tryd.underlying52; have hb := below_alloc (Below.refl w.heap.size w) (.cells #[.slice A0 l0.length c0] 52); obtain ⟨ad1, A2, c2, e1, hx, hl2, hC⟩ := at_L3 hr0 key hk0 hk1
  cases e1
  obtain ⟨ad2, e2, hx0, hx1, hx2, hx3, hx4⟩ := at_T43 hC i hi0 hi1
  cases e2
  replace hx := (hb0.cell (World.block_lt_of_cell? w0 _ hx)).trans hx; replace hx := (hb.cell (World.block_lt_of_cell? w _ hx)).trans hx; have HB := Aside0.mk hb; have HC := Aside0.mk (show CellsV w0 _ (rd_T43 (rd_L3 l0 key) i) from ⟨hx0, hx1, hx2, hx3, hx4⟩); clear hb hx0 hx1 hx2 hx3 hx4 hC hr0 hb0; have d1 := decide_eq_true hk0; have d2 := decide_eq_true hk1; have d3 := decide_eq_true hi0; have d4 := decide_eq_true hi1; replace hk0 := eq_true hk0; replace hk1 := eq_true hk1; replace hi0 := eq_true hi0; replace hi1 := eq_true hi1
  go_enter Tryd.func80, Tryd.ntmps80
  go_wp2
  go_ret; exact ⟨_, rfl, HB.out, HC.out⟩
theorem impl_Store_latest.told (A0 : Option Addr) (c0 : Nat) (l0 : List (List S43)) (key i : Int) (w : World) (hr0 : Kd.C (Kd.slice 43 k43) w A0 l0.length l0) (hk0 : 0 ≤ key) (hk1 : key < (l0.length : Int)) (hi : wrap64 (((rd_L3 l0 key).length : Int) - 1) = i) (hi0 : 0 ≤ i) (hi1 : i < ((rd_L3 l0 key).length : Int)) :
    Calls Tryd.prog 80 #[.agg #[.slice A0 l0.length c0], .int .i64 key] w fun e w' => ∃ p : Addr, e = .returned (.pointer (some p)) ∧ Below w.heap.size w w' ∧ CellsV w p (rd_T43 (rd_L3 l0 key) i) :=
  impl_Store_latest.told0 A0 c0 l0 key i w w (Below.refl _ _) hr0 hk0 hk1 hi hi0 hi1
/-- The last version of a key, where there is one. -/
def impl_Store_latest.f (l0 : List (List S43)) (key : Int) : Option (Int × Int × Int × Int × Int) :=
  if 0 ≤ key ∧ key < (l0.length : Int) ∧ 0 ≤ wrap64 (((rd_L3 l0 key).length : Int) - 1) ∧ wrap64 (((rd_L3 l0 key).length : Int) - 1) < ((rd_L3 l0 key).length : Int) then
    some ((rd_T43 (rd_L3 l0 key) (wrap64 (((rd_L3 l0 key).length : Int) - 1))).f0, (rd_T43 (rd_L3 l0 key) (wrap64 (((rd_L3 l0 key).length : Int) - 1))).f1, (rd_T43 (rd_L3 l0 key) (wrap64 (((rd_L3 l0 key).length : Int) - 1))).f2, (rd_T43 (rd_L3 l0 key) (wrap64 (((rd_L3 l0 key).length : Int) - 1))).f3, (rd_T43 (rd_L3 l0 key) (wrap64 (((rd_L3 l0 key).length : Int) - 1))).f4)
  else none
theorem impl_Store_latest.calls (A0 : Option Addr) (c0 : Nat) (l0 : List (List S43)) (key : Int) (r1 r2 r3 r4 r5 : Int) (w0 w : World) (hb0 : Below w0.heap.size w0 w) (hr0 : Kd.C (Kd.slice 43 k43) w0 A0 l0.length l0) (hc0 : l0.length ≤ c0) (h : impl_Store_latest.f l0 key = some (r1, r2, r3, r4, r5)) :
    Calls Tryd.prog 80 #[.agg #[.slice A0 l0.length c0], .int .i64 key] w fun e w' => ∃ p : Addr, e = .returned (.pointer (some p)) ∧ CellsV w' p ⟨r1, r2, r3, r4, r5⟩ ∧ Below w0.heap.size w0 w' ∧ Below w.heap.size w w' := by
  unfold impl_Store_latest.f at h
  by_cases hk : 0 ≤ key ∧ key < (l0.length : Int) ∧ 0 ≤ wrap64 (((rd_L3 l0 key).length : Int) - 1) ∧ wrap64 (((rd_L3 l0 key).length : Int) - 1) < ((rd_L3 l0 key).length : Int)
  · rw [if_pos hk] at h; have h := Option.some.inj h; simp only [Prod.mk.injEq] at h; obtain ⟨rfl, rfl, rfl, rfl, rfl⟩ := h; refine (impl_Store_latest.told A0 c0 l0 key _ w (Kd.C_below hr0 hb0) hk.1 hk.2.1 rfl hk.2.2.1 hk.2.2.2).mono ?_; rintro e w' ⟨p, rfl, hb, q0, q1, q2, q3, q4⟩; exact ⟨p, rfl, ⟨(hb.cell (World.block_lt_of_cell? w _ q0)).trans q0, (hb.cell (World.block_lt_of_cell? w _ q1)).trans q1, (hb.cell (World.block_lt_of_cell? w _ q2)).trans q2, (hb.cell (World.block_lt_of_cell? w _ q3)).trans q3, (hb.cell (World.block_lt_of_cell? w _ q4)).trans q4⟩, below_step hb0 hb, hb⟩
  · rw [if_neg hk] at h
    cases h
theorem impl_Store_latest.calls0 (A0 : Option Addr) (c0 : Nat) (l0 : List (List S43)) (key : Int) (r1 r2 r3 r4 r5 : Int) (w0 w : World) (hb0 : Below w0.heap.size w0 w) (hr0 : Kd.C (Kd.slice 43 k43) w0 A0 l0.length l0) (h : impl_Store_latest.f l0 key = some (r1, r2, r3, r4, r5)) :
    Calls Tryd.prog 80 #[.agg #[.slice A0 l0.length c0], .int .i64 key] w fun e w' => ∃ p : Addr, e = .returned (.pointer (some p)) ∧ CellsV w0 p ⟨r1, r2, r3, r4, r5⟩ ∧ Below w0.heap.size w0 w' ∧ Below w.heap.size w w' := by
  unfold impl_Store_latest.f at h
  by_cases hk : 0 ≤ key ∧ key < (l0.length : Int) ∧ 0 ≤ wrap64 (((rd_L3 l0 key).length : Int) - 1) ∧ wrap64 (((rd_L3 l0 key).length : Int) - 1) < ((rd_L3 l0 key).length : Int)
  · rw [if_pos hk] at h; have h := Option.some.inj h; simp only [Prod.mk.injEq] at h; obtain ⟨rfl, rfl, rfl, rfl, rfl⟩ := h; refine (impl_Store_latest.told0 A0 c0 l0 key _ w0 w hb0 hr0 hk.1 hk.2.1 rfl hk.2.2.1 hk.2.2.2).mono ?_; rintro e w' ⟨p, rfl, hb, hc⟩; exact ⟨p, rfl, hc, below_step hb0 hb, hb⟩
  · rw [if_neg hk] at h
    cases h


/-! ### impl_ReadLatest: function 48 -/
-- FLAGS ROUNDS
def impl_ReadLatest.f (k : Nat) (l0_0 : List (List S43)) (a1 : Int) : Option (Int × Int × Int × Int × Int × Bool) :=
  (impl_IsValidStore.f k l0_0).bind fun t => if t = true then (impl_isKey.f a1).bind (fun u => if u = true then
    (if 0 ≤ a1 ∧ a1 < (l0_0.length : Int) ∧ 0 ≤ wrap64 (((rd_L3 l0_0 a1).length : Int) - 1) ∧ wrap64 (((rd_L3 l0_0 a1).length : Int) - 1) < ((rd_L3 l0_0 a1).length : Int) then
      some ((rd_T43 (rd_L3 l0_0 a1) (wrap64 (((rd_L3 l0_0 a1).length : Int) - 1))).f0, (rd_T43 (rd_L3 l0_0 a1) (wrap64 (((rd_L3 l0_0 a1).length : Int) - 1))).f1, (rd_T43 (rd_L3 l0_0 a1) (wrap64 (((rd_L3 l0_0 a1).length : Int) - 1))).f2, (rd_T43 (rd_L3 l0_0 a1) (wrap64 (((rd_L3 l0_0 a1).length : Int) - 1))).f3, (rd_T43 (rd_L3 l0_0 a1) (wrap64 (((rd_L3 l0_0 a1).length : Int) - 1))).f4, true) else none)
    else some (0, 0, 0, 0, 0, false)) else some (0, 0, 0, 0, 0, false)
theorem impl_ReadLatest.mono : ∀ l a k, LeO (impl_ReadLatest.f k l a) (impl_ReadLatest.f (k + 1) l a) := fun l a k => LeO.bind (impl_IsValidStore.mono _ _) (fun _ => LeO.refl _)
theorem rl_size (w : World) (o : Obj) : (w.alloc o).heap.size = w.heap.size + 1 := Array.size_push _
theorem rl_box (w : World) (o : Obj) : (w.alloc o).heap[w.heap.size]? = some o := Array.getElem?_push_size
set_option maxHeartbeats 4000000 in
set_option maxRecDepth 100000 in
theorem impl_ReadLatest.calls (k : Nat) (A0_0 : Option Addr) (c0_0 : Nat) (l0_0 : List (List S43)) (a1 : Int) (r1 r2 r3 r4 r5 : Int) (r6 : Bool) (w : World) (hr0_0 : Kd.C (Kd.slice 43 k43) w A0_0 l0_0.length l0_0) (hc0_0 : l0_0.length ≤ c0_0) (h : impl_ReadLatest.f k l0_0 a1 = some (r1, r2, r3, r4, r5, r6)) :
    Calls Tryd.prog 48 #[.agg #[.slice A0_0 l0_0.length c0_0], .int .i64 a1] w fun e w' => e = .returned (.tuple #[.agg #[.int .i64 r1, .int .i64 r2, .int .i64 r3, .int .i64 r4, .int .i64 r5], .bool r6]) ∧ Below w.heap.size w w' := by
  have hu := Tryd.underlying52; have hv := Tryd.underlying43; unfold impl_ReadLatest.f at h; obtain ⟨t, ht, h⟩ := Option.bind_eq_some_iff.mp h; have HT := Aside0.mk ht; have HR := Aside0.mk hr0_0; have HB := Aside0.mk (below_alloc (below_alloc (Below.refl w.heap.size w) (.cells #[.slice A0_0 l0_0.length c0_0] 52)) (.cells #[.int .i64 0, .int .i64 0, .int .i64 0, .int .i64 0, .int .i64 0] 43)); clear ht hr0_0
  go_enter Tryd.func48, Tryd.ntmps48
  go_upto_region 1 with fail
  have BS := Aside0.mk (blk_alloc (rl_box w (.cells #[.slice A0_0 l0_0.length c0_0] 52)) (.cells #[.int .i64 0, .int .i64 0, .int .i64 0, .int .i64 0, .int .i64 0] 43)); have br := rl_box (w.alloc (.cells #[.slice A0_0 l0_0.length c0_0] 52)) (.cells #[.int .i64 0, .int .i64 0, .int .i64 0, .int .i64 0, .int .i64 0] 43); rw [rl_size] at br; have BR := Aside0.mk br; clear br; generalize hW : (w.alloc (.cells #[.slice A0_0 l0_0.length c0_0] 52)).alloc (.cells #[.int .i64 0, .int .i64 0, .int .i64 0, .int .i64 0, .int .i64 0] 43) = W0 at *; clear hW; have GE := Aside0.mk (show w.heap.size ≤ w.heap.size + 1 by omega); have hl := (blk_cell BS.out 0).trans rfl
  cases t with
  | false =>
    rw [if_neg (by simp)] at h; have h := Option.some.inj h; simp only [Prod.mk.injEq] at h; obtain ⟨rfl, rfl, rfl, rfl, rfl, rfl⟩ := h
    go_upto_region 2 with (first | (go_at_call 43; (with_reducible refine (impl_IsValidStore.calls k _ _ l0_0 false _ ?s1 hc0_0 HT.out).mono ?_); (case s1 => exact Kd.C_below HR.out HB.out); rintro e w1 ⟨rfl, hb1⟩; have HB1 := Aside0.mk (below_step HB.out hb1); have BR1 := Aside0.mk (blk_below BR.out hb1); have BS1 := Aside0.mk (blk_below BS.out hb1); clear hb1))
    have BRW := BR1; have hf0 := blk_frozen BRW.out 0; have hf1 := blk_frozen BRW.out 1; have hf2 := blk_frozen BRW.out 2; have hf3 := blk_frozen BRW.out 3; have hf4 := blk_frozen BRW.out 4; have hc0 : w1.cell? ⟨w.heap.size + 1, 0, none⟩ = some (.int .i64 0) := (blk_cell BRW.out 0).trans rfl; have hc1 : w1.cell? ⟨w.heap.size + 1, 1, none⟩ = some (.int .i64 0) := (blk_cell BRW.out 1).trans rfl; have hc2 : w1.cell? ⟨w.heap.size + 1, 2, none⟩ = some (.int .i64 0) := (blk_cell BRW.out 2).trans rfl; have hc3 : w1.cell? ⟨w.heap.size + 1, 3, none⟩ = some (.int .i64 0) := (blk_cell BRW.out 3).trans rfl; have hc4 : w1.cell? ⟨w.heap.size + 1, 4, none⟩ = some (.int .i64 0) := (blk_cell BRW.out 4).trans rfl
    go_wp2
    refine bodyPost_ret (results_ct rfl _ _ (w.heap.size + 1) 43 #[.int .i64 0, .int .i64 0, .int .i64 0, .int .i64 0, .int .i64 0] (0, 0) _ rfl (by refine blk_put (cs := #[.int .i64 0, .int .i64 0, .int .i64 0, .int .i64 0, .int .i64 0]) ?_ 4 _ rfl; refine blk_put (cs := #[.int .i64 0, .int .i64 0, .int .i64 0, .int .i64 0, .int .i64 0]) ?_ 3 _ rfl; refine blk_put (cs := #[.int .i64 0, .int .i64 0, .int .i64 0, .int .i64 0, .int .i64 0]) ?_ 2 _ rfl; refine blk_put (cs := #[.int .i64 0, .int .i64 0, .int .i64 0, .int .i64 0, .int .i64 0]) ?_ 1 _ rfl; refine blk_put (cs := #[.int .i64 0, .int .i64 0, .int .i64 0, .int .i64 0, .int .i64 0]) ?_ 0 _ rfl; exact BRW.out) Tryd.underlying43 rfl (by kernel_rfl)) rfl ?_; exact ⟨by first | rfl | (simp; done), by repeat (first | exact HB1.out | refine below_set ?_ GE.out)⟩
  | true =>
    rw [if_pos rfl] at h; obtain ⟨u, hu1, h⟩ := Option.bind_eq_some_iff.mp h; have HU := Aside0.mk hu1; clear hu1
    cases u with
    | false =>
      rw [if_neg (by simp)] at h; have h := Option.some.inj h; simp only [Prod.mk.injEq] at h; obtain ⟨rfl, rfl, rfl, rfl, rfl, rfl⟩ := h
      go_upto_region 2 with (first | (go_at_call 43; (with_reducible refine (impl_IsValidStore.calls k _ _ l0_0 true _ ?s1 hc0_0 HT.out).mono ?_); (case s1 => exact Kd.C_below HR.out HB.out); rintro e w1 ⟨rfl, hb1⟩; have HB1 := Aside0.mk (below_step HB.out hb1); have BR1 := Aside0.mk (blk_below BR.out hb1); have BS1 := Aside0.mk (blk_below BS.out hb1); clear hb1) | (go_at_call 79; (with_reducible refine (impl_isKey.calls a1 false _ HU.out).mono ?_); rintro e w2 ⟨rfl, hd⟩; have hb2 : Below w1.heap.size w1 w2 := (by first | exact hd | exact hd.below); have HB2 := Aside0.mk (below_step HB1.out hb2); have BRW := Aside0.mk (blk_below BR1.out hb2); have BS2 := Aside0.mk (blk_below BS1.out hb2); clear hb2 hd))
      have hf0 := blk_frozen BRW.out 0; have hf1 := blk_frozen BRW.out 1; have hf2 := blk_frozen BRW.out 2; have hf3 := blk_frozen BRW.out 3; have hf4 := blk_frozen BRW.out 4; have hc0 : w2.cell? ⟨w.heap.size + 1, 0, none⟩ = some (.int .i64 0) := (blk_cell BRW.out 0).trans rfl; have hc1 : w2.cell? ⟨w.heap.size + 1, 1, none⟩ = some (.int .i64 0) := (blk_cell BRW.out 1).trans rfl; have hc2 : w2.cell? ⟨w.heap.size + 1, 2, none⟩ = some (.int .i64 0) := (blk_cell BRW.out 2).trans rfl; have hc3 : w2.cell? ⟨w.heap.size + 1, 3, none⟩ = some (.int .i64 0) := (blk_cell BRW.out 3).trans rfl; have hc4 : w2.cell? ⟨w.heap.size + 1, 4, none⟩ = some (.int .i64 0) := (blk_cell BRW.out 4).trans rfl
      go_wp2
      refine bodyPost_ret (results_ct rfl _ _ (w.heap.size + 1) 43 #[.int .i64 0, .int .i64 0, .int .i64 0, .int .i64 0, .int .i64 0] (0, 0) _ rfl (by refine blk_put (cs := #[.int .i64 0, .int .i64 0, .int .i64 0, .int .i64 0, .int .i64 0]) ?_ 4 _ rfl; refine blk_put (cs := #[.int .i64 0, .int .i64 0, .int .i64 0, .int .i64 0, .int .i64 0]) ?_ 3 _ rfl; refine blk_put (cs := #[.int .i64 0, .int .i64 0, .int .i64 0, .int .i64 0, .int .i64 0]) ?_ 2 _ rfl; refine blk_put (cs := #[.int .i64 0, .int .i64 0, .int .i64 0, .int .i64 0, .int .i64 0]) ?_ 1 _ rfl; refine blk_put (cs := #[.int .i64 0, .int .i64 0, .int .i64 0, .int .i64 0, .int .i64 0]) ?_ 0 _ rfl; exact BRW.out) Tryd.underlying43 rfl (by kernel_rfl)) rfl ?_; exact ⟨by first | rfl | (simp; done), by repeat (first | exact HB2.out | refine below_set ?_ GE.out)⟩
    | true =>
      rw [if_pos rfl] at h
      by_cases hk : 0 ≤ a1 ∧ a1 < (l0_0.length : Int) ∧ 0 ≤ wrap64 (((rd_L3 l0_0 a1).length : Int) - 1) ∧ wrap64 (((rd_L3 l0_0 a1).length : Int) - 1) < ((rd_L3 l0_0 a1).length : Int)
      · rw [if_pos hk] at h; have h := Option.some.inj h; simp only [Prod.mk.injEq] at h; have HK := Aside0.mk hk; clear hk; obtain ⟨v, hv⟩ : ∃ v, (rd_T43 (rd_L3 l0_0 a1) (wrap64 (((rd_L3 l0_0 a1).length : Int) - 1))) = v := ⟨_, rfl⟩; rw [hv] at h; obtain ⟨rfl, rfl, rfl, rfl, rfl, rfl⟩ := h; have HV := Aside0.mk hv; clear hv
        go_upto_region 3 with (first | (go_at_call 43; (with_reducible refine (impl_IsValidStore.calls k _ _ l0_0 true _ ?s1 hc0_0 HT.out).mono ?_); (case s1 => exact Kd.C_below HR.out HB.out); rintro e w1 ⟨rfl, hb1⟩; have HB1 := Aside0.mk (below_step HB.out hb1); have BR1 := Aside0.mk (blk_below BR.out hb1); have BS1 := Aside0.mk (blk_below BS.out hb1); clear hb1) | (go_at_call 79; (with_reducible refine (impl_isKey.calls a1 true _ HU.out).mono ?_); rintro e w2 ⟨rfl, hd⟩; have hb2 : Below w1.heap.size w1 w2 := (by first | exact hd | exact hd.below); have HB2 := Aside0.mk (below_step HB1.out hb2); have BRW := Aside0.mk (blk_below BR1.out hb2); have BS2 := Aside0.mk (blk_below BS1.out hb2); clear hb2 hd))
        have hl2 : w2.cell? ⟨w.heap.size, 0, none⟩ = some (.slice A0_0 l0_0.length c0_0) := (blk_cell BS2.out 0).trans rfl
        go_wp2_with (first | (go_at_call 80; (with_reducible refine (impl_Store_latest.told _ _ l0_0 a1 _ _ (Kd.C_below HR.out HB2.out) HK.out.1 HK.out.2.1 rfl HK.out.2.2.1 HK.out.2.2.2).mono ?_); rintro e w3 ⟨p, rfl, hb3, hcv⟩; rw [HV.out] at hcv; obtain ⟨q0, q1, q2, q3, q4⟩ := hcv; replace q0 := (hb3.cell (World.block_lt_of_cell? w2 _ q0)).trans q0; replace q1 := (hb3.cell (World.block_lt_of_cell? w2 _ q1)).trans q1; replace q2 := (hb3.cell (World.block_lt_of_cell? w2 _ q2)).trans q2; replace q3 := (hb3.cell (World.block_lt_of_cell? w2 _ q3)).trans q3; replace q4 := (hb3.cell (World.block_lt_of_cell? w2 _ q4)).trans q4; have HB3 := Aside0.mk (below_step HB2.out hb3); have BRX := Aside0.mk (blk_below BRW.out hb3); clear hb3; have hf0 := blk_frozen BRX.out 0; have hf1 := blk_frozen BRX.out 1; have hf2 := blk_frozen BRX.out 2; have hf3 := blk_frozen BRX.out 3; have hf4 := blk_frozen BRX.out 4; have hc0 : w3.cell? ⟨w.heap.size + 1, 0, none⟩ = some (.int .i64 0) := (blk_cell BRX.out 0).trans rfl; have hc1 : w3.cell? ⟨w.heap.size + 1, 1, none⟩ = some (.int .i64 0) := (blk_cell BRX.out 1).trans rfl; have hc2 : w3.cell? ⟨w.heap.size + 1, 2, none⟩ = some (.int .i64 0) := (blk_cell BRX.out 2).trans rfl; have hc3 : w3.cell? ⟨w.heap.size + 1, 3, none⟩ = some (.int .i64 0) := (blk_cell BRX.out 3).trans rfl; have hc4 : w3.cell? ⟨w.heap.size + 1, 4, none⟩ = some (.int .i64 0) := (blk_cell BRX.out 4).trans rfl))
        refine bodyPost_ret (results_ct rfl _ _ (w.heap.size + 1) 43 #[.int .i64 v.f0, .int .i64 v.f1, .int .i64 v.f2, .int .i64 v.f3, .int .i64 v.f4] (0, 0) _ rfl (by refine blk_put (cs := #[.int .i64 v.f0, .int .i64 v.f1, .int .i64 v.f2, .int .i64 v.f3, .int .i64 0]) ?_ 4 _ rfl; refine blk_put (cs := #[.int .i64 v.f0, .int .i64 v.f1, .int .i64 v.f2, .int .i64 0, .int .i64 0]) ?_ 3 _ rfl; refine blk_put (cs := #[.int .i64 v.f0, .int .i64 v.f1, .int .i64 0, .int .i64 0, .int .i64 0]) ?_ 2 _ rfl; refine blk_put (cs := #[.int .i64 v.f0, .int .i64 0, .int .i64 0, .int .i64 0, .int .i64 0]) ?_ 1 _ rfl; refine blk_put (cs := #[.int .i64 0, .int .i64 0, .int .i64 0, .int .i64 0, .int .i64 0]) ?_ 0 _ rfl; exact BRX.out) Tryd.underlying43 rfl (by kernel_rfl)) rfl ?_; exact ⟨by first | rfl | (simp; done), by repeat (first | exact HB3.out | refine below_set ?_ GE.out)⟩
      · rw [if_neg hk] at h
        cases h


/-! ### impl_NewStore: function 49 -/
def impl_NewStore.l0 : Nat → Int → List (List (S43)) → Option ((List (List (S43))))
  | 0, _, _ => none
  | k + 1, x3, x378000 => if x3 < 6 then (if x378000.length < 5864062014805 then (impl_NewStore.l0 k (wrap64 (x3 + 1)) (x378000 ++ [(([(⟨0, (-1), 0, 0, 1000⟩ : S43)] : List (S43)))])) else (none)) else (some x378000)
def impl_NewStore.f (k : Nat)  : Option ((List (List (S43)))) := impl_NewStore.l0 k 0 ([] : List (List (S43)))
theorem impl_NewStore.mono_l : ∀ k, (∀ y0 y1, LeO (impl_NewStore.l0 k y0 y1) (impl_NewStore.l0 (k + 1) y0 y1))
  | 0 => fun _ _ r h => by simp [impl_NewStore.l0] at h
  | k + 1 => by
    have ih0 := impl_NewStore.mono_l k
    · intro y0 y1; unfold impl_NewStore.l0
      repeat' first
      | (with_reducible first | apply ih0 | exact LeO.refl _ | exact LeO.none _ | refine LeO.ite ?_ ?_ | refine LeO.bind ?_ (fun _ => ?_))
theorem impl_NewStore.mono : ∀ k, LeO (impl_NewStore.f k ) (impl_NewStore.f (k + 1) ) := by
  intro  k; have ih0 := impl_NewStore.mono_l k; unfold impl_NewStore.f
  repeat' first
      | (with_reducible first | apply ih0 | exact LeO.refl _ | exact LeO.none _ | refine LeO.ite ?_ ?_ | refine LeO.bind ?_ (fun _ => ?_))
set_option maxHeartbeats 8000000 in
set_option maxRecDepth 100000 in
theorem impl_NewStore.calls (k : Nat)  (r : List (List (S43))) (w : World) (h : impl_NewStore.f k  = some r) :
    Calls Tryd.prog 49 #[] w fun e w' => ∃ v0_ : Value, e = .returned (.agg #[v0_]) ∧ Kd.S (Kd.slice 43 k43) 37 w' w.heap.size (fun _ => True) v0_ r ∧ Below w.heap.size w w' := by
  have hu52 := Tryd.underlying52; have hu43 := Tryd.underlying43; have HB := Aside0.mk (Below.refl w.heap.size w); have H : (impl_NewStore.l0 k 0 ([] : List (List (S43)))) = some r := h; clear h; have H' := Aside0.mk H; clear H
  go_enter Tryd.func49, Tryd.ntmps49
  go_wp2_with (first | ((with_reducible refine gate_dst (N := 0) rfl ?_); refine box_event ?hg (N := 0) ?hd (cs := #[.slice none 0 0]) (t := 52) ?hr ?_; (case hd => rfl); (case hg => rfl); (case hr => first | (go_simp; done) | (go_simp; rfl)); intro gb376 hg w1 hbox hb; have n0_ := Aside0.mk (below_step (hq0_ HB.out) hb); have n1_ := Aside0.mk (hbox); have n2_ := Aside0.mk ((ws_ hg (hq0_ HB.out) : w.heap.size ≤ gb376)); have n3_ := n2_; clear HB; have HB := n0_; have BK376 := n1_; have GW376 := n2_; have GE376 := n3_; clear n0_ n1_ n2_ n3_; clear hb hbox hg) | ((with_reducible refine gate_dst (N := 1) rfl ?_); refine box_event ?hg (N := 1) ?hd (cs := #[.slice none 0 0]) (t := 52) ?hr ?_; (case hd => rfl); (case hg => rfl); (case hr => first | (go_simp; done) | (go_simp; rfl)); intro gb377 hg w2 hbox hb; have n0_ := Aside0.mk (blk_below (bq_ BK376.out) hb); have n1_ := Aside0.mk (below_step (hq1_ HB.out GE376.out) hb); have n2_ := Aside0.mk (hbox); have n3_ := Aside0.mk ((ws_ hg (hq1_ HB.out GE376.out) : w.heap.size ≤ gb377)); have n4_ := n3_; have n5_ := Aside0.mk ((by rw [hg]; exact Nat.ne_of_lt (blk_lt (bq_ BK376.out)) : gb376 ≠ gb377)); have n6_ := Aside0.mk (Ne.symm n5_.out); clear BK376; clear HB; have BK376 := n0_; have HB := n1_; have BK377 := n2_; have GW377 := n3_; have GE377 := n4_; have NB376_377 := n5_; have NB377_376 := n6_; clear n0_ n1_ n2_ n3_ n4_ n5_ n6_; clear hb hbox hg; have hnb3 := NB377_376.out; have hnc3 := NB376_377.out; have hcz4_0 := bc1_ BK377.out; have hfz4_0 := blk_frozen BK377.out 0))
  go_loopg [3] k (fun kq v3 w' => ∃ (x3_1 : Int) (x378000_1 : List (List (S43))) (u378000 : Value), v3 = .int .i64 x3_1 ∧ Aside0 (impl_NewStore.l0 kq x3_1 x378000_1 = some r) ∧ Aside0 (kq ≤ k) ∧ Aside0 (Kd.S (Kd.slice 43 k43) 37 w' w.heap.size (fun _ => True) u378000 x378000_1) ∧ Aside0 (w'.heap[gb376]? = some (.cells #[(.slice none 0 0)] 52 (0, 0))) ∧ Aside0 (w'.heap[gb377]? = some (.cells #[u378000] 52 (0, 0))) ∧ Aside0 (Below w.heap.size w w'))
  case atStart => exact ⟨(0), (([] : List (List (S43)))), (.slice none 0 0), rs_, H', ⟨Nat.le_refl _⟩, ⟨by first | exact Kd.S_nil _ _ _ _ _ | exact Kd.N_nil _ _ _ _ _ | exact Kd.V_nil _ _ _ _ _ | exact Kd.Q_nil _ _ _ _ _ | exact Kd.R_nil _ _ _ _ _⟩, ⟨bk1_ BK376.out NB376_377.out⟩, ⟨by (with_reducible repeat (first | refine blk_drewN ?_ _ | refine blk_drew ?_ | refine blk_alloc ?_ _)); refine blk_put (cs := #[.slice none 0 0]) ?_ 0 _ rfl; (with_reducible repeat (first | refine blk_drewN ?_ _ | refine blk_drew ?_ | refine blk_alloc ?_ _)); exact BK377.out⟩, ⟨hq2_ HB.out GE376.out GE377.out⟩⟩
  case round =>
    clear H'; (try clear p2); (try clear c3); (try clear c4); (try clear hcz4_0); (try clear hfz4_0); obtain ⟨x3_1, x378000_1, u378000, rfl, HA, HK1, HO_378000, BK376, BK377, HB⟩ := hrel
    cases gk with
    | zero => exact absurd HA.out (by simp [impl_NewStore.l0])
    | succ k1 =>
      have H := HA.out; clear HA; simp only [impl_NewStore.l0] at H
      by_cases c5 : x3_1 < 6
      · rw [if_pos c5] at H; have c5b0 : decide (x3_1 < 6) = true := decide_eq_true c5; clear c5; obtain ⟨y378, hy378⟩ : ∃ y_ : List (S43), y_ = (([(⟨0, (-1), 0, 0, 1000⟩ : S43)] : List (S43))) := ⟨_, rfl⟩; (replace H : (if x378000_1.length < 5864062014805 then (impl_NewStore.l0 k1 (wrap64 (x3_1 + 1)) (x378000_1 ++ [y378])) else (none)) = some r := by first | (rw [hy378]; with_reducible exact H) | (have H2_ := (Option.bind_some _ _).symm.trans H; rw [hy378]; with_reducible exact H2_) | (have H2_ := (Option.bind_some _ _).symm.trans H; with_reducible exact H2_) | with_reducible exact H | (rw [hy378]; exact H) | exact H); have Ny378 := Aside0.mk hy378; clear hy378
        by_cases c6 : x378000_1.length < 5864062014805
        · rw [if_pos c6] at H; have LMc6 := Aside0.mk c6; clear c6; obtain ⟨y381, hy381⟩ : ∃ y_ : List (List (S43)), y_ = (x378000_1 ++ [y378]) := ⟨_, rfl⟩; (replace H : (impl_NewStore.l0 k1 (wrap64 (x3_1 + 1)) y381) = some r := by first | (rw [hy381]; with_reducible exact H) | (have H2_ := (Option.bind_some _ _).symm.trans H; rw [hy381]; with_reducible exact H2_) | (have H2_ := (Option.bind_some _ _).symm.trans H; with_reducible exact H2_) | with_reducible exact H | (rw [hy381]; exact H) | exact H); have Ny381 := Aside0.mk hy381; clear hy381; have H' := Aside0.mk H; clear H; have hnb7 := NB377_376.out; have hnc7 := NB376_377.out; have hcz8_0 := bc1_ BK377.out; have hfz8_0 := blk_frozen BK377.out 0
          go_wp2_with (first | ((with_reducible refine gate_dst (N := 8) rfl ?_); refine Kd.R_lit k43 _ 43 ?hg (N := 8) ?hd (xs := ([(⟨0, (-1), 0, 0, 1000⟩ : S43)] : List (S43))) (inner := [.int .i64 0, .int .i64 (-1), .int .i64 0, .int .i64 0, .int .i64 1000]) (ok := fun _ => True) (okp := fun _ => True) ?hr ?hp (fun _ hk => hk) trivial (Below.refl _ _) (Nat.le_refl _) (by simp) ?_; (case hd => rfl); (case hg => rfl); (case hr => first | (go_simp; done) | (go_simp; rfl)); (case hp => exact (Reps.c5 (show Kd.M k43 _ _ _ (⟨0, (-1), 0, 0, 1000⟩ : S43) [.int .i64 0, .int .i64 (-1), .int .i64 0, .int .i64 0, .int .i64 1000] from (k43_mkM _ _ _ (⟨0, (-1), 0, 0, 1000⟩ : S43) )) (Reps.none _ _))); intro v379 w9 ho10 hb hg_ hnew_; clear hg_ hnew_; (first | rw [← Ny378.out] at ho10 | (simp only [Int.reduceToNat] at ho10; rw [← Ny378.out] at ho10)); have n0_ := Aside0.mk (Kd.S_elder' (by (with_reducible repeat (first | apply Kd.S_alloc | apply Kd.S_drewN | apply Kd.S_drew)); exact HO_378000.out) (Kd.R_base ho10) hb); have n1_ := Aside0.mk (Kd.R_lower ho10 (below_size (hq2_ HB.out GE376.out GE377.out))); have n2_ := Aside0.mk (blk_below (bq_ BK376.out) hb); have n3_ := Aside0.mk (blk_below (bq_ BK377.out) hb); have n4_ := Aside0.mk (below_step (hq2_ HB.out GE376.out GE377.out) hb); clear HO_378000; clear BK376; clear BK377; clear HB; have HO_378000 := n0_; have HO380 := n1_; have BK376 := n2_; have BK377 := n3_; have HB := n4_; clear n0_ n1_ n2_ n3_ n4_; clear hb ho10; obtain ⟨Ao12, co12, eo12⟩ := Kd.R_slice HO380.out; subst eo12) | ((with_reducible refine gate_builtin (b := .append) (xs := #[.tmp 6, .tmp 9]) rfl ?_); at_builtin; refine Kd.S_append (Kd.slice 43 k43) (w0 := w) w.heap.size rfl (.tmp 6) (.tmp 9) 50 37 (.slice none 0 0) 24 rfl Tryd.underlying50 info37 rfl (by decide) (by omega) u378000 x378000_1 y378 [.slice Ao12 y378.length co12] (fun _ => True) (fun k_ => some k_ = (.slice Ao12 y378.length co12 : Value).ownBlock) rfl rfl ?aP (fun k_ hk_ => ((Kd.R_mono (ok' := fun k_ => ((fun _ => True)) k_ ∧ some k_ ≠ (u378000 : Value).ownBlock) (Kd.R_apart' (HO380.out) (Kd.S_typed HO_378000.out) (by decide)) (fun k_ hk => ⟨trivial, hk.2⟩))).1 k_ hk_.symm) ?aF ?aO ?aB ?aS ?aL ?_; (case aP => exact Kd.M_row (Kd.R_mono (Kd.R_tight rfl (Kd.R_mono (ok' := fun k_ => ((fun _ => True)) k_ ∧ some k_ ≠ (u378000 : Value).ownBlock) (Kd.R_apart' (HO380.out) (Kd.S_typed HO_378000.out) (by decide)) (fun k_ hk => ⟨trivial, hk.2⟩))) (fun _ h_ => h_))); (case aB => exact (hq2_ HB.out GE376.out GE377.out)); (case aF => exact (fun _ _ => trivial)); (case aO => exact (by (with_reducible repeat (first | apply Kd.S_alloc | apply Kd.S_drewN | apply Kd.S_drew)); exact Kd.S_mono HO_378000.out (fun k_ hk => ⟨trivial, fun e_ => hk.2 e_⟩))); (case aS => exact (below_size (hq2_ HB.out GE376.out GE377.out))); (case aL => have := LMc6.out; omega); intro v382 w11 ho hb hg hat; rw [← Ny381.out] at ho; have n0_ := Aside0.mk (blk_grown (g := gb376) (o := .cells #[.slice none 0 0] 52 (0, 0)) (bq_ BK376.out) hg (Kd.S_ne HO_378000.out BK376.out (by decide))); have n1_ := Aside0.mk (blk_grown (g := gb377) (o := .cells #[u378000] 52 (0, 0)) (bq_ BK377.out) hg (Kd.S_ne HO_378000.out BK377.out (by decide))); have n2_ := Aside0.mk (hb); have n3_ := Aside0.mk (ho); clear BK376; clear BK377; clear HB; clear HO_378000; clear HO380; have BK376 := n0_; have BK377 := n1_; have HB := n2_; have HO383 := n3_; clear n0_ n1_ n2_ n3_; clear ho hb hg hat; obtain ⟨Ao13, co13, eo13⟩ := Kd.S_slice HO383.out; subst eo13; have hcz14_0 := bc1_ BK377.out; have hfz14_0 := blk_frozen BK377.out 0))
          go_roundg k1
          case measure => have := HK1.out; omega
          case rel => exact ⟨(wrap64 (x3_1 + 1)), (y381), (.slice Ao13 y381.length co13), rs_, H', ⟨by have := HK1.out; omega⟩, ⟨by (with_reducible repeat (first | apply Kd.S_alloc | apply Kd.S_drewN | apply Kd.S_drew)); exact Kd.S_mono (Kd.S_far (p := ⟨gb377, 0, none⟩) (Kd.S_types HO383.out BK377.out (by decide)) (fun _ hk => hk.2) (.slice Ao13 y381.length co13)) (fun _ hk => trivial)⟩, ⟨bk1_ BK376.out NB376_377.out⟩, ⟨by (with_reducible repeat (first | refine blk_drewN ?_ _ | refine blk_drew ?_ | refine blk_alloc ?_ _)); refine blk_put (cs := #[u378000]) ?_ 0 _ rfl; (with_reducible repeat (first | refine blk_drewN ?_ _ | refine blk_drew ?_ | refine blk_alloc ?_ _)); exact BK377.out⟩, ⟨hq2_ HB.out GE376.out GE377.out⟩⟩
        · rw [if_neg c6] at H; exact absurd H (by simp)
      · rw [if_neg c5] at H; have c5b0 : decide (x3_1 < 6) = false := decide_eq_false c5; clear c5; obtain rfl := Option.some.inj H; have hnb15 := NB377_376.out; have hnc15 := NB376_377.out; have hcz16_0 := bc1_ BK377.out; have hfz16_0 := blk_frozen BK377.out 0; obtain ⟨Ao17, co17, eo17⟩ := Kd.S_slice HO_378000.out; subst eo17; have hcz18_0 := bc1_ BK376.out; have hfz18_0 := blk_frozen BK376.out 0
        go_wp2
        refine bodyPost_ret (results_cell_row rfl _ _ gb376 52 #[.slice Ao17 x378000_1.length co17] (0, 0) _ rfl (by (with_reducible repeat (first | refine blk_drewN ?_ _ | refine blk_drew ?_ | refine blk_alloc ?_ _)); refine blk_put (cs := #[.slice none 0 0]) ?_ 0 _ rfl; (with_reducible repeat (first | refine blk_drewN ?_ _ | refine blk_drew ?_ | refine blk_alloc ?_ _)); exact BK376.out) Tryd.underlying52 rfl (by kernel_rfl)) rfl ?_; exact ⟨_, by first | rfl | (simp [errW_none, errW_some] <;> rfl) | (simp [*, errW_none, errW_some] <;> rfl), by (with_reducible repeat (first | apply Kd.S_alloc | apply Kd.S_drewN | apply Kd.S_drew)); exact Kd.S_mono (Kd.S_far (p := ⟨gb376, 0, none⟩) (Kd.S_types HO_378000.out BK376.out (by decide)) (fun _ hk => hk.2) (.slice Ao17 x378000_1.length co17)) (fun _ hk => trivial), hq2_ HB.out GE376.out GE377.out⟩

end Go.Proofs.YtacdaekigoldaaaDoor.PFnStores
