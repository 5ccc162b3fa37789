-- Printed by my own myprint.py out of the translation of the seat YtfinkjmfhnnleaaDoor. Not trusted: Lean checks it.
import Derived.Test.YtfinkjmfhnnleaaDoorPFnExactParseChainx0
import Derived.Test.YtfinkjmfhnnleaaDoorPFnExactParseChainx1
namespace Go.Proofs.YtfinkjmfhnnleaaDoor.PFnExactParseChain
open Go.RowKit Go.Proofs.YtfinkjmfhnnleaaDoorW.PrintWords Go.Proofs.YtfinkjmfhnnleaaDoorW.PrintLast Go.Proofs.YtfinkjmfhnnleaaDoorW.PrintMore
attribute [local go_sem] max2_int min2_int max_two min_two max_three min_three max_four min_four   -- for this text's walks alone
set_option linter.unusedVariables false
set_option linter.unusedSimpArgs false

/-! ### spec_l2Cut: function 45 -/
def spec_l2Cut.l0 : Nat → ByteArray → Int → List ByteArray → Int → Int → Option (List ByteArray)
  | 0, _, _, _, _, _ => none
  | k + 1, x0, x1, x5, x6, x7 => if x7 < (x0.size : Int) then (if 0 ≤ x7 then (if (bt x0 x7) = x1 then (if 0 ≤ x6 then (if x6 ≤ x7 then (if x7 ≤ (x0.size : Int) then (if x5.length < 8796093022208 then (spec_l2Cut.l0 k x0 x1 (x5 ++ [x0.extract (x6 : Int).toNat (x7 : Int).toNat]) (wrap64 (x7 + 1)) (wrap64 (x7 + 1))) else (none)) else (none)) else (none)) else (none)) else (spec_l2Cut.l0 k x0 x1 x5 x6 (wrap64 (x7 + 1)))) else (none)) else (if 0 ≤ x6 then (if x6 ≤ (x0.size : Int) then (if x5.length < 8796093022208 then (some (x5 ++ [x0.extract (x6 : Int).toNat x0.size])) else (none)) else (none)) else (none))
def spec_l2Cut.f (k : Nat) (a0 : ByteArray) (a1 : Int) : Option (List ByteArray) := spec_l2Cut.l0 k a0 a1 (([] : List ByteArray)) 0 0
theorem spec_l2Cut.mono_l : ∀ k, (∀ y0 y1 y2 y3 y4, LeO (spec_l2Cut.l0 k y0 y1 y2 y3 y4) (spec_l2Cut.l0 (k + 1) y0 y1 y2 y3 y4))
  | 0 => fun _ _ _ _ _ r h => by simp [spec_l2Cut.l0] at h
  | k + 1 => by
    have ih0 := spec_l2Cut.mono_l k
    · intro y0 y1 y2 y3 y4; unfold spec_l2Cut.l0
      repeat' first
      | (with_reducible first | apply ih0 | exact LeO.refl _ | exact LeO.none _ | refine LeO.ite ?_ ?_ | refine LeO.bind ?_ (fun _ => ?_))
theorem spec_l2Cut.mono : ∀ a0 a1 k, LeO (spec_l2Cut.f k a0 a1) (spec_l2Cut.f (k + 1) a0 a1) := by
  intro a0 a1 k; have ih0 := spec_l2Cut.mono_l k; unfold spec_l2Cut.f
  repeat' first
      | (with_reducible first | apply ih0 | exact LeO.refl _ | exact LeO.none _ | refine LeO.ite ?_ ?_ | refine LeO.bind ?_ (fun _ => ?_))
set_option maxHeartbeats 8000000 in
set_option maxRecDepth 100000 in
theorem spec_l2Cut.calls (k : Nat) (a0 : ByteArray) (a1 : Int) (r : List ByteArray) (w : World) (h : spec_l2Cut.f k a0 a1 = some r) :
    Calls Tryd.prog 45 #[.string a0, .int .u8 a1] w fun e w' => ∃ v0_ : Value, e = .returned (v0_) ∧ Kd.R Kd.string 9 w' w.heap.size (fun _ => True) v0_ r ∧ Below w.heap.size w w' := by
  have HB := Aside0.mk (Below.refl w.heap.size w); have H : (spec_l2Cut.l0 k a0 a1 (([] : List ByteArray)) 0 0) = some r := h; clear h; obtain ⟨y140, hy140⟩ : ∃ y_ : List ByteArray, y_ = (([] : List ByteArray)) := ⟨_, rfl⟩; (replace H : (spec_l2Cut.l0 k a0 a1 y140 0 0) = some r := by first | (rw [hy140]; with_reducible exact H) | (have H2_ := (Option.bind_some _ _).symm.trans H; rw [hy140]; with_reducible exact H2_) | (have H2_ := (Option.bind_some _ _).symm.trans H; with_reducible exact H2_) | with_reducible exact H | (rw [hy140]; exact H) | exact H); have Ny140 := Aside0.mk hy140; clear hy140; have H' := Aside0.mk H; clear H
  go_enter Tryd.func45, Tryd.ntmps45
  go_wp2_with (first | ((with_reducible refine gate_dst (N := 8) rfl ?_); refine Kd.R_lit Kd.string _ 9 ?hg (N := 8) ?hd (xs := ([] : List ByteArray)) (inner := []) (ok := fun _ => True) (okp := fun _ => True) ?hr ?hp (fun _ hk => hk) trivial (Below.refl _ _) (Nat.le_refl _) (by simp) ?_; (case hd => rfl); (case hg => rfl); (case hr => first | (go_simp; done) | (go_simp; rfl)); (case hp => exact (Reps.none _ _)); intro v141 w3 ho4 hb hg_ hnew_; clear hg_ hnew_; (first | rw [← Ny140.out] at ho4 | (simp only [Int.reduceToNat] at ho4; rw [← Ny140.out] at ho4)); have n0_ := Aside0.mk (Kd.R_lower ho4 (below_size (hq0_ HB.out))); have n1_ := Aside0.mk (below_step (hq0_ HB.out) hb); clear HB; have HO142 := n0_; have HB := n1_; clear n0_ n1_; clear hb ho4))
  go_loopg [5, 6, 7] k (fun kq v5 v6 v7 w' => ∃ (x5_1 : List ByteArray) (x6_1 : Int) (x7_1 : Int), v6 = .int .i64 x6_1 ∧ v7 = .int .i64 x7_1 ∧ Aside0 (spec_l2Cut.l0 kq a0 a1 x5_1 x6_1 x7_1 = some r) ∧ Aside0 (kq ≤ k) ∧ Aside0 (Kd.R Kd.string 9 w' w.heap.size (fun _ => True) v5 x5_1) ∧ Aside0 (Below w.heap.size w w'))
  case atStart => exact ⟨(y140), (0), (0), rs_, rs_, H', ⟨Nat.le_refl _⟩, ⟨by (with_reducible repeat (first | apply Kd.R_alloc | apply Kd.R_drewN | apply Kd.R_drew)); exact HO142.out⟩, ⟨hq0_ HB.out⟩⟩
  case round =>
    clear H'; (try clear p2); (try clear c4); obtain ⟨x5_1, x6_1, x7_1, rfl, rfl, HA, HK1, HO_5, HB⟩ := hrel
    cases gk with
    | zero => exact absurd HA.out (by simp [spec_l2Cut.l0])
    | succ k1 =>
      have H := HA.out; clear HA; simp only [spec_l2Cut.l0] at H
      by_cases c5 : x7_1 < (a0.size : Int)
      · rw [if_pos c5] at H; have c5b0 : decide (x7_1 < (a0.size : Int)) = true := decide_eq_true c5; clear c5
        by_cases c6 : 0 ≤ x7_1
        · rw [if_pos c6] at H; have c6b0 : decide (0 ≤ x7_1) = true := decide_eq_true c6; clear c6
          by_cases c8 : (bt a0 x7_1) = a1
          · rw [if_pos c8] at H; have c8b0 : ((bt a0 x7_1) == a1) = true := beq_iff_eq.mpr c8; have c8b1 : ((bt a0 x7_1) != a1) = false := bne_eq_false_iff_eq.mpr c8; clear c8
            by_cases c9 : 0 ≤ x6_1
            · rw [if_pos c9] at H; have c9b0 := eq_true c9; have c9b1 : decide (0 ≤ x6_1) = true := decide_eq_true c9; clear c9
              by_cases c10 : x6_1 ≤ x7_1
              · rw [if_pos c10] at H; have c10b0 := eq_true c10; have c10b1 : decide (x6_1 ≤ x7_1) = true := decide_eq_true c10; clear c10
                by_cases c11 : x7_1 ≤ (a0.size : Int)
                · rw [if_pos c11] at H; have c11b0 := eq_true c11; have c11b1 : decide (x7_1 ≤ (a0.size : Int)) = true := decide_eq_true c11; clear c11
                  by_cases c12 : x5_1.length < 8796093022208
                  · rw [if_pos c12] at H; have LMc12 := Aside0.mk c12; clear c12; obtain ⟨y143, hy143⟩ : ∃ y_ : List ByteArray, y_ = (x5_1 ++ [a0.extract (x6_1 : Int).toNat (x7_1 : Int).toNat]) := ⟨_, rfl⟩; (replace H : (spec_l2Cut.l0 k1 a0 a1 y143 (wrap64 (x7_1 + 1)) (wrap64 (x7_1 + 1))) = some r := by first | (rw [hy143]; with_reducible exact H) | (have H2_ := (Option.bind_some _ _).symm.trans H; rw [hy143]; with_reducible exact H2_) | (have H2_ := (Option.bind_some _ _).symm.trans H; with_reducible exact H2_) | with_reducible exact H | (rw [hy143]; exact H) | exact H); have Ny143 := Aside0.mk hy143; clear hy143; have H' := Aside0.mk H; clear H; have p7 : 0 ≤ (x7_1 : Int) := of_decide_eq_true as_; have q7 : x7_1 < (a0.size : Int) := of_decide_eq_true as_; have hx7 := bt_at a0 x7_1; replace p7 := eq_true p7; replace q7 := eq_true q7
                    go_wp2_with (first | ((with_reducible refine gate_builtin (b := .append) (xs := #[.tmp 20, .tmp 25]) rfl ?_); at_builtin; refine Kd.R_append Kd.string (w0 := w) w.heap.size rfl (.tmp 20) (.tmp 25) 44 9 (.string ⟨#[]⟩) 16 rfl Tryd.underlying44 info9 rfl (by decide) (by omega) u5 x5_1 (a0.extract (x6_1 : Int).toNat (x7_1 : Int).toNat) [.string (a0.extract (x6_1 : Int).toNat (x7_1 : Int).toNat)] (fun _ => True) (fun _ => False) rfl rfl ?aP (fun _ hk => hk.elim) ?aF ?aO ?aB ?aS ?aL ?_; (case aP => exact rfl); (case aB => exact (hq0_ HB.out)); (case aF => exact (fun _ _ => trivial)); (case aO => exact (by (with_reducible repeat (first | apply Kd.R_alloc | apply Kd.R_drewN | apply Kd.R_drew)); exact HO_5.out)); (case aS => exact (below_size (hq0_ HB.out))); (case aL => have := LMc12.out; omega); intro v144 w13 ho hb hg hat; rw [← Ny143.out] at ho; have n0_ := Aside0.mk (hb); have n1_ := Aside0.mk (ho); clear HB; clear HO_5; have HB := n0_; have HO145 := n1_; clear n0_ n1_; clear ho hb hg hat))
                    go_roundg k1
                    case measure => have := HK1.out; omega
                    case rel => exact ⟨(y143), (wrap64 (x7_1 + 1)), (wrap64 (x7_1 + 1)), rs_, rs_, H', ⟨by have := HK1.out; omega⟩, ⟨by (with_reducible repeat (first | apply Kd.R_alloc | apply Kd.R_drewN | apply Kd.R_drew)); exact HO145.out⟩, ⟨hq0_ HB.out⟩⟩
                  · rw [if_neg c12] at H; exact absurd H (by simp)
                · rw [if_neg c11] at H; exact absurd H (by simp)
              · rw [if_neg c10] at H; exact absurd H (by simp)
            · rw [if_neg c9] at H; exact absurd H (by simp)
          · rw [if_neg c8] at H; have c8b0 : ((bt a0 x7_1) == a1) = false := beq_eq_false_iff_ne.mpr c8; have c8b1 : ((bt a0 x7_1) != a1) = true := bne_iff_ne.mpr c8; have H' := Aside0.mk H; clear H; have p7 : 0 ≤ (x7_1 : Int) := of_decide_eq_true as_; have q7 : x7_1 < (a0.size : Int) := of_decide_eq_true as_; have hx7 := bt_at a0 x7_1; replace p7 := eq_true p7; replace q7 := eq_true q7
            go_wp2
            go_roundg k1
            case measure => have := HK1.out; omega
            case rel => exact ⟨(x5_1), (x6_1), (wrap64 (x7_1 + 1)), rs_, rs_, H', ⟨by have := HK1.out; omega⟩, ⟨by (with_reducible repeat (first | apply Kd.R_alloc | apply Kd.R_drewN | apply Kd.R_drew)); exact HO_5.out⟩, ⟨hq0_ HB.out⟩⟩
        · rw [if_neg c6] at H; exact absurd H (by simp)
      · rw [if_neg c5] at H; have c5b0 : decide (x7_1 < (a0.size : Int)) = false := decide_eq_false c5; clear c5
        by_cases c14 : 0 ≤ x6_1
        · rw [if_pos c14] at H; have c14b0 := eq_true c14; have c14b1 : decide (0 ≤ x6_1) = true := decide_eq_true c14; clear c14
          by_cases c15 : x6_1 ≤ (a0.size : Int)
          · rw [if_pos c15] at H; have c15b0 := eq_true c15; have c15b1 : decide (x6_1 ≤ (a0.size : Int)) = true := decide_eq_true c15; clear c15
            by_cases c16 : x5_1.length < 8796093022208
            · rw [if_pos c16] at H; have LMc16 := Aside0.mk c16; clear c16; obtain ⟨y146, hy146⟩ : ∃ y_ : List ByteArray, y_ = (x5_1 ++ [a0.extract (x6_1 : Int).toNat a0.size]) := ⟨_, rfl⟩; (replace H : (some y146) = some r := by first | (rw [hy146]; with_reducible exact H) | (have H2_ := (Option.bind_some _ _).symm.trans H; rw [hy146]; with_reducible exact H2_) | (have H2_ := (Option.bind_some _ _).symm.trans H; with_reducible exact H2_) | with_reducible exact H | (rw [hy146]; exact H) | exact H); have Ny146 := Aside0.mk hy146; clear hy146; obtain rfl := Option.some.inj H
              go_wp2_with (first | ((with_reducible refine gate_builtin (b := .append) (xs := #[.tmp 29, .tmp 33]) rfl ?_); at_builtin; refine Kd.R_append Kd.string (w0 := w) w.heap.size rfl (.tmp 29) (.tmp 33) 44 9 (.string ⟨#[]⟩) 16 rfl Tryd.underlying44 info9 rfl (by decide) (by omega) u5 x5_1 (a0.extract (x6_1 : Int).toNat a0.size) [.string (a0.extract (x6_1 : Int).toNat a0.size)] (fun _ => True) (fun _ => False) rfl rfl ?aP (fun _ hk => hk.elim) ?aF ?aO ?aB ?aS ?aL ?_; (case aP => exact rfl); (case aB => exact (hq0_ HB.out)); (case aF => exact (fun _ _ => trivial)); (case aO => exact (by (with_reducible repeat (first | apply Kd.R_alloc | apply Kd.R_drewN | apply Kd.R_drew)); exact HO_5.out)); (case aS => exact (below_size (hq0_ HB.out))); (case aL => have := LMc16.out; omega); intro v147 w17 ho hb hg hat; rw [← Ny146.out] at ho; have n0_ := Aside0.mk (hb); have n1_ := Aside0.mk (ho); clear HB; clear HO_5; have HB := n0_; have HO148 := n1_; clear n0_ n1_; clear ho hb hg hat))
              go_ret; exact ⟨_, by first | rfl | (simp [errW_none, errW_some] <;> rfl) | (simp [*, errW_none, errW_some] <;> rfl), by (with_reducible repeat (first | apply Kd.R_alloc | apply Kd.R_drewN | apply Kd.R_drew)); exact HO148.out, hq0_ HB.out⟩
            · rw [if_neg c16] at H; exact absurd H (by simp)
          · rw [if_neg c15] at H; exact absurd H (by simp)
        · rw [if_neg c14] at H; exact absurd H (by simp)

/-! ### spec_ParseInt: function 23 -/
mutual
def spec_ParseInt.l0 : Nat → ByteArray → Int → Int → Int → Option (Int × Bool)
  | 0, _, _, _, _ => none
  | k + 1, x0, x4, x5, x6 => if x6 < (x0.size : Int) then (spec_ParseInt.j1 k x0 x4 x5 x6 (decide (x6 < 11))) else (spec_ParseInt.j1 k x0 x4 x5 x6 false)
def spec_ParseInt.j1 : Nat → ByteArray → Int → Int → Int → Bool → Option (Int × Bool)
  | 0, _, _, _, _, _ => none
  | k + 1, x0, x4, x5, x6, x14 => if x14 = true then (if 0 ≤ x6 then (if x6 < (x0.size : Int) then (if (bt x0 x6) ≥ 48 then (if (bt x0 x6) ≤ 57 then (spec_ParseInt.l0 k x0 (wrap64 ((wrap64 (x4 * 10)) + (((bt x0 x6) - 48) % 256))) (wrap64 (x5 + 1)) (wrap64 (x6 + 1))) else (spec_ParseInt.l0 k x0 x4 x5 (wrap64 (x6 + 1)))) else (spec_ParseInt.l0 k x0 x4 x5 (wrap64 (x6 + 1)))) else (none)) else (none)) else (if (x0.size : Int) > 0 then (if 0 < (x0.size : Int) then (spec_ParseInt.j2 k x0 x4 x5 ((bt x0 0) == 45)) else (none)) else (spec_ParseInt.j2 k x0 x4 x5 false))
def spec_ParseInt.j2 : Nat → ByteArray → Int → Int → Bool → Option (Int × Bool)
  | 0, _, _, _, _ => none
  | k + 1, x0, x4, x5, x44 => if x44 = true then (if x5 > 9 then (some (0, false)) else (if (x0.size : Int) > 10 then (some (0, false)) else ((spec_FormatInt.f k (wrap64 (-x4))).bind fun t149 => (if t149.toList = x0.toList then (some (wrap64 (-x4), true)) else (some (0, false)))))) else (if x5 > 9 then (some (0, false)) else (if (x0.size : Int) > 10 then (some (0, false)) else ((spec_FormatInt.f k x4).bind fun t150 => (if t150.toList = x0.toList then (some (x4, true)) else (some (0, false))))))
end
def spec_ParseInt.f (k : Nat) (a0 : ByteArray) : Option (Int × Bool) := spec_ParseInt.l0 k a0 0 0 0
theorem spec_ParseInt.mono_l : ∀ k, (∀ y0 y1 y2 y3, LeO (spec_ParseInt.l0 k y0 y1 y2 y3) (spec_ParseInt.l0 (k + 1) y0 y1 y2 y3)) ∧ (∀ y0 y1 y2 y3 y4, LeO (spec_ParseInt.j1 k y0 y1 y2 y3 y4) (spec_ParseInt.j1 (k + 1) y0 y1 y2 y3 y4)) ∧ (∀ y0 y1 y2 y3, LeO (spec_ParseInt.j2 k y0 y1 y2 y3) (spec_ParseInt.j2 (k + 1) y0 y1 y2 y3))
  | 0 => ⟨fun _ _ _ _ r h => by simp [spec_ParseInt.l0] at h, fun _ _ _ _ _ r h => by simp [spec_ParseInt.j1] at h, fun _ _ _ _ r h => by simp [spec_ParseInt.j2] at h⟩
  | k + 1 => by
    obtain ⟨ih0, ih1, ih2⟩ := spec_ParseInt.mono_l k; refine ⟨?_, ?_, ?_⟩
    · intro y0 y1 y2 y3; unfold spec_ParseInt.l0
      repeat' first
      | (with_reducible first | apply ih0 | apply ih1 | apply ih2 | apply spec_FormatInt.mono | exact LeO.refl _ | exact LeO.none _ | refine LeO.ite ?_ ?_ | refine LeO.bind ?_ (fun _ => ?_))
    · intro y0 y1 y2 y3 y4; unfold spec_ParseInt.j1
      repeat' first
      | (with_reducible first | apply ih0 | apply ih1 | apply ih2 | apply spec_FormatInt.mono | exact LeO.refl _ | exact LeO.none _ | refine LeO.ite ?_ ?_ | refine LeO.bind ?_ (fun _ => ?_))
    · intro y0 y1 y2 y3; unfold spec_ParseInt.j2
      repeat' first
      | (with_reducible first | apply ih0 | apply ih1 | apply ih2 | apply spec_FormatInt.mono | exact LeO.refl _ | exact LeO.none _ | refine LeO.ite ?_ ?_ | refine LeO.bind ?_ (fun _ => ?_))
theorem spec_ParseInt.mono : ∀ a0 k, LeO (spec_ParseInt.f k a0) (spec_ParseInt.f (k + 1) a0) := by
  intro a0 k; obtain ⟨ih0, ih1, ih2⟩ := spec_ParseInt.mono_l k; unfold spec_ParseInt.f
  repeat' first
      | (with_reducible first | apply ih0 | apply ih1 | apply ih2 | apply spec_FormatInt.mono | exact LeO.refl _ | exact LeO.none _ | refine LeO.ite ?_ ?_ | refine LeO.bind ?_ (fun _ => ?_))
set_option maxHeartbeats 8000000 in
set_option maxRecDepth 100000 in
theorem spec_ParseInt.calls (k : Nat) (a0 : ByteArray) (r1 : Int) (r2 : Bool) (w : World) (h : spec_ParseInt.f k a0 = some (r1, r2)) :
    Calls Tryd.prog 23 #[.string a0] w fun e w' => e = .returned (.tuple #[.int .i64 r1, .bool r2]) ∧ Below w.heap.size w w' := by
  have HB := Aside0.mk (Below.refl w.heap.size w); have H : (spec_ParseInt.l0 k a0 0 0 0) = some (r1, r2) := h; clear h; have H' := Aside0.mk H; clear H
  go_enter Tryd.func23, Tryd.ntmps23
  go_wp2
  go_loopg [4, 5, 6] k (fun kq v4 v5 v6 w' => ∃ (x4_1 : Int) (x5_1 : Int) (x6_1 : Int), v4 = .int .i64 x4_1 ∧ v5 = .int .i64 x5_1 ∧ v6 = .int .i64 x6_1 ∧ Aside0 (spec_ParseInt.l0 kq a0 x4_1 x5_1 x6_1 = some (r1, r2)) ∧ Aside0 (kq ≤ k) ∧ Aside0 (Below w.heap.size w w'))
  case atStart => exact ⟨(0), (0), (0), rs_, rs_, rs_, H', ⟨Nat.le_refl _⟩, ⟨hq0_ HB.out⟩⟩
  case round =>
    clear H'; obtain ⟨x4_1, x5_1, x6_1, rfl, rfl, rfl, HA, HK1, HB⟩ := hrel
    cases gk with
    | zero => exact absurd HA.out (by simp [spec_ParseInt.l0])
    | succ k1 =>
      have H := HA.out; clear HA; simp only [spec_ParseInt.l0] at H; have HC2 := Aside0.mk H; clear H
      go_upto_region 4 with (fail)
      go_cut [14] (fun v14 wc => ∃ (kq : Nat) (x14_1 : Bool), v14 = .bool x14_1 ∧ Aside0 (spec_ParseInt.j1 kq a0 x4_1 x5_1 x6_1 x14_1 = some (r1, r2)) ∧ Aside0 (kq ≤ k1) ∧ Aside0 (Below w.heap.size w wc))
      case first =>
        have H := HC2.out; clear HC2
        by_cases c3 : x6_1 < (a0.size : Int)
        · rw [if_pos c3] at H; have c3b0 : decide (x6_1 < (a0.size : Int)) = true := decide_eq_true c3; clear c3; (first | rw [c3b0] | (simp only [i64_w, i32_w]; rw [c3b0]) | skip); have H' := Aside0.mk H; clear H
          go_wp2
          go_meet
          case rel => exact ⟨_, (decide (x6_1 < 11)), rs_, H', ⟨by have := HK1.out; first | omega | exact Nat.le_refl _⟩, ⟨hq0_ HB.out⟩⟩
        · rw [if_neg c3] at H; have c3b0 : decide (x6_1 < (a0.size : Int)) = false := decide_eq_false c3; clear c3; (first | rw [c3b0] | (simp only [i64_w, i32_w]; rw [c3b0]) | skip); have H' := Aside0.mk H; clear H
          go_wp2
          go_meet
          case rel => exact ⟨_, (false), rs_, H', ⟨by have := HK1.out; first | omega | exact Nat.le_refl _⟩, ⟨hq0_ HB.out⟩⟩
      case rest =>
        clear HC2; (try clear c2); (try clear p2); (try clear c3); (try clear c3b0); obtain ⟨kq, x14_1, rfl, HA, HJ1, HB⟩ := hcut
        cases kq with
        | zero => exact absurd HA.out (by simp [spec_ParseInt.j1])
        | succ kj1 =>
          have H := HA.out; clear HA; simp only [spec_ParseInt.j1] at H
          by_cases c4 : x14_1 = true
          · subst c4; rw [if_pos rfl] at H
            by_cases c5 : 0 ≤ x6_1
            · rw [if_pos c5] at H; have c5b0 : decide (0 ≤ x6_1) = true := decide_eq_true c5; clear c5
              by_cases c6 : x6_1 < (a0.size : Int)
              · rw [if_pos c6] at H; have c6b0 : decide (x6_1 < (a0.size : Int)) = true := decide_eq_true c6; clear c6
                by_cases c8 : (bt a0 x6_1) ≥ 48
                · rw [if_pos c8] at H; have c8b0 : decide (48 ≤ (bt a0 x6_1)) = true := decide_eq_true c8; clear c8
                  by_cases c10 : (bt a0 x6_1) ≤ 57
                  · rw [if_pos c10] at H; have c10b0 : decide ((bt a0 x6_1) ≤ 57) = true := decide_eq_true c10; clear c10; have H' := Aside0.mk H; clear H; have p7 : 0 ≤ (x6_1 : Int) := of_decide_eq_true as_; have q7 : x6_1 < (a0.size : Int) := of_decide_eq_true as_; have hx7 := bt_at a0 x6_1; replace p7 := eq_true p7; replace q7 := eq_true q7; have p9 : 0 ≤ (x6_1 : Int) := of_decide_eq_true as_; have q9 : x6_1 < (a0.size : Int) := of_decide_eq_true as_; have hx9 := bt_at a0 x6_1; replace p9 := eq_true p9; replace q9 := eq_true q9; have p11 : 0 ≤ (x6_1 : Int) := of_decide_eq_true as_; have q11 : x6_1 < (a0.size : Int) := of_decide_eq_true as_; have hx11 := bt_at a0 x6_1; replace p11 := eq_true p11; replace q11 := eq_true q11
                    go_wp2
                    go_roundg kj1
                    case measure => have := HK1.out; have := HJ1.out; omega
                    case rel => exact ⟨(wrap64 ((wrap64 (x4_1 * 10)) + (((bt a0 x6_1) - 48) % 256))), (wrap64 (x5_1 + 1)), (wrap64 (x6_1 + 1)), rs_, rs_, rs_, H', ⟨by have := HK1.out; have := HJ1.out; omega⟩, ⟨hq0_ HB.out⟩⟩
                  · rw [if_neg c10] at H; have c10b0 : decide ((bt a0 x6_1) ≤ 57) = false := decide_eq_false c10; clear c10; have H' := Aside0.mk H; clear H; have p7 : 0 ≤ (x6_1 : Int) := of_decide_eq_true as_; have q7 : x6_1 < (a0.size : Int) := of_decide_eq_true as_; have hx7 := bt_at a0 x6_1; replace p7 := eq_true p7; replace q7 := eq_true q7; have p9 : 0 ≤ (x6_1 : Int) := of_decide_eq_true as_; have q9 : x6_1 < (a0.size : Int) := of_decide_eq_true as_; have hx9 := bt_at a0 x6_1; replace p9 := eq_true p9; replace q9 := eq_true q9
                    go_wp2
                    go_roundg kj1
                    case measure => have := HK1.out; have := HJ1.out; omega
                    case rel => exact ⟨(x4_1), (x5_1), (wrap64 (x6_1 + 1)), rs_, rs_, rs_, H', ⟨by have := HK1.out; have := HJ1.out; omega⟩, ⟨hq0_ HB.out⟩⟩
                · rw [if_neg c8] at H; have c8b0 : decide (48 ≤ (bt a0 x6_1)) = false := decide_eq_false c8; clear c8; have H' := Aside0.mk H; clear H; have p7 : 0 ≤ (x6_1 : Int) := of_decide_eq_true as_; have q7 : x6_1 < (a0.size : Int) := of_decide_eq_true as_; have hx7 := bt_at a0 x6_1; replace p7 := eq_true p7; replace q7 := eq_true q7
                  go_wp2
                  go_roundg kj1
                  case measure => have := HK1.out; have := HJ1.out; omega
                  case rel => exact ⟨(x4_1), (x5_1), (wrap64 (x6_1 + 1)), rs_, rs_, rs_, H', ⟨by have := HK1.out; have := HJ1.out; omega⟩, ⟨hq0_ HB.out⟩⟩
              · rw [if_neg c6] at H; exact absurd H (by simp)
            · rw [if_neg c5] at H; exact absurd H (by simp)
          · replace c4 := Bool.eq_false_iff.mpr c4; subst c4; rw [if_neg nt_] at H; have HC12 := Aside0.mk H; clear H
            go_upto_region 9 with (fail)
            go_cut [44] (fun v44 wc => ∃ (kq : Nat) (x44_11 : Bool), v44 = .bool x44_11 ∧ Aside0 (spec_ParseInt.j2 kq a0 x4_1 x5_1 x44_11 = some (r1, r2)) ∧ Aside0 (kq ≤ kj1) ∧ Aside0 (Below w.heap.size w wc))
            case first =>
              have H := HC12.out; clear HC12
              by_cases c13 : (a0.size : Int) > 0
              · rw [if_pos c13] at H; have c13b0 : decide (0 < (a0.size : Int)) = true := decide_eq_true c13; have c13b1 : decide (0 < a0.size) = true := decide_eq_true (by omega); clear c13; (first | rw [c13b0] | (simp only [i64_w, i32_w]; rw [c13b0]) | skip)
                by_cases c14 : 0 < (a0.size : Int)
                · rw [if_pos c14] at H; have c14b0 : decide (0 < (a0.size : Int)) = true := decide_eq_true c14; have c14b1 : decide (0 < a0.size) = true := decide_eq_true (by omega); clear c14; have H' := Aside0.mk H; clear H; have p15 : 0 ≤ (0 : Int) := (by omega); have q15 : 0 < a0.size := (by have : (0 : Int) < (a0.size : Int) := of_decide_eq_true as_; omega); have hx15 : ∀ h : 0 < a0.size, ((a0[0]'h).toNat : Int) = bt a0 0 := bt_at a0 0; clear p15; have qi15 : (0 < (a0.size : Int)) = True := eq_true (of_decide_eq_true as_); replace q15 := eq_true q15
                  go_wp2
                  go_meet
                  case rel => exact ⟨_, (((bt a0 0) == 45)), rs_, H', ⟨by have := HK1.out; have := HJ1.out; first | omega | exact Nat.le_refl _⟩, ⟨hq0_ HB.out⟩⟩
                · rw [if_neg c14] at H; exact absurd H (by simp)
              · rw [if_neg c13] at H; have c13b0 : decide (0 < (a0.size : Int)) = false := decide_eq_false c13; have c13b1 : decide (0 < a0.size) = false := decide_eq_false (by omega); clear c13; (first | rw [c13b0] | (simp only [i64_w, i32_w]; rw [c13b0]) | skip); have H' := Aside0.mk H; clear H
                go_wp2
                go_meet
                case rel => exact ⟨_, (false), rs_, H', ⟨by have := HK1.out; have := HJ1.out; first | omega | exact Nat.le_refl _⟩, ⟨hq0_ HB.out⟩⟩
            case rest =>
              clear HC12; (try clear c1); (try clear p1); (try clear q1); (try clear hx1); (try clear qi1); (try clear c2); (try clear p2); (try clear c3); (try clear c3b0); (try clear c4); (try clear c5); (try clear c5b0); (try clear c6); (try clear c6b0); (try clear p6); (try clear p7); (try clear q7); (try clear hx7); (try clear c8); (try clear c8b0); (try clear p9); (try clear q9); (try clear hx9); (try clear c10); (try clear c10b0); (try clear p11); (try clear q11); (try clear hx11); (try clear c13); (try clear c13b0); (try clear c13b1); (try clear c14); (try clear c14b0); (try clear c14b1); (try clear p15); (try clear q15); (try clear hx15); (try clear qi15); (try clear p11); (try clear p15); (try clear p2); (try clear p7); (try clear p9); (try clear q11); (try clear q15); (try clear q7); (try clear q9); obtain ⟨kq, x44_11, rfl, HA, HJ11, HB⟩ := hcut
              cases kq with
              | zero => exact absurd HA.out (by simp [spec_ParseInt.j2])
              | succ kj11 =>
                have H := HA.out; clear HA; simp only [spec_ParseInt.j2] at H
                by_cases c16 : x44_11 = true
                · subst c16; rw [if_pos rfl] at H
                  by_cases c17 : x5_1 > 9
                  · rw [if_pos c17] at H; have c17b0 : decide (9 < x5_1) = true := decide_eq_true c17; clear c17; simp only [Option.some.injEq, Prod.mk.injEq] at H; obtain ⟨rfl, rfl⟩ := H
                    go_wp2
                    go_ret2
                    exact ⟨ew_, hq0_ HB.out⟩
                  · rw [if_neg c17] at H; have c17b0 : decide (9 < x5_1) = false := decide_eq_false c17; clear c17
                    by_cases c18 : (a0.size : Int) > 10
                    · rw [if_pos c18] at H; have c18b0 : decide (10 < (a0.size : Int)) = true := decide_eq_true c18; have c18b1 : decide (10 < a0.size) = true := decide_eq_true (by omega); clear c18; simp only [Option.some.injEq, Prod.mk.injEq] at H; obtain ⟨rfl, rfl⟩ := H
                      go_wp2
                      go_ret2
                      exact ⟨ew_, hq0_ HB.out⟩
                    · rw [if_neg c18] at H; have c18b0 : decide (10 < (a0.size : Int)) = false := decide_eq_false c18; have c18b1 : decide (10 < a0.size) = false := decide_eq_false (by omega); clear c18; replace H := Option.bind_eq_some_iff.mp H; obtain ⟨t149, A190, H⟩ := H; have A19 := Aside0.mk A190; clear A190
                      by_cases c20 : t149.toList = a0.toList
                      · rw [if_pos c20] at H; have c20b0 : (t149.toList == a0.toList) = true := beq_iff_eq.mpr c20; have c20b1 : (t149.toList != a0.toList) = false := bne_eq_false_iff_eq.mpr c20; clear c20; simp only [Option.some.injEq, Prod.mk.injEq] at H; obtain ⟨rfl, rfl⟩ := H
                        go_wp2_with (first | (go_at_call 10; (with_reducible refine (spec_FormatInt.calls kj11 (wrap64 (-x4_1)) t149 _ A19.out).mono ?_); rintro e w21 ⟨rfl, hb⟩; have n0_ := Aside0.mk (below_step (hq0_ HB.out) hb); clear HB; have HB := n0_; clear n0_; (try clear hb); (try clear hb2); (try clear hk); (try clear hi)))
                        go_ret2
                        exact ⟨ew_, hq0_ HB.out⟩
                      · rw [if_neg c20] at H; have c20b0 : (t149.toList == a0.toList) = false := beq_eq_false_iff_ne.mpr c20; have c20b1 : (t149.toList != a0.toList) = true := bne_iff_ne.mpr c20; simp only [Option.some.injEq, Prod.mk.injEq] at H; obtain ⟨rfl, rfl⟩ := H
                        go_wp2_with (first | (go_at_call 10; (with_reducible refine (spec_FormatInt.calls kj11 (wrap64 (-x4_1)) t149 _ A19.out).mono ?_); rintro e w22 ⟨rfl, hb⟩; have n0_ := Aside0.mk (below_step (hq0_ HB.out) hb); clear HB; have HB := n0_; clear n0_; (try clear hb); (try clear hb2); (try clear hk); (try clear hi)))
                        go_ret2
                        exact ⟨ew_, hq0_ HB.out⟩
                · replace c16 := Bool.eq_false_iff.mpr c16; subst c16; rw [if_neg nt_] at H
                  by_cases c23 : x5_1 > 9
                  · rw [if_pos c23] at H; have c23b0 : decide (9 < x5_1) = true := decide_eq_true c23; clear c23; simp only [Option.some.injEq, Prod.mk.injEq] at H; obtain ⟨rfl, rfl⟩ := H
                    go_wp2
                    go_ret2
                    exact ⟨ew_, hq0_ HB.out⟩
                  · rw [if_neg c23] at H; have c23b0 : decide (9 < x5_1) = false := decide_eq_false c23; clear c23
                    by_cases c24 : (a0.size : Int) > 10
                    · rw [if_pos c24] at H; have c24b0 : decide (10 < (a0.size : Int)) = true := decide_eq_true c24; have c24b1 : decide (10 < a0.size) = true := decide_eq_true (by omega); clear c24; simp only [Option.some.injEq, Prod.mk.injEq] at H; obtain ⟨rfl, rfl⟩ := H
                      go_wp2
                      go_ret2
                      exact ⟨ew_, hq0_ HB.out⟩
                    · rw [if_neg c24] at H; have c24b0 : decide (10 < (a0.size : Int)) = false := decide_eq_false c24; have c24b1 : decide (10 < a0.size) = false := decide_eq_false (by omega); clear c24; replace H := Option.bind_eq_some_iff.mp H; obtain ⟨t150, A250, H⟩ := H; have A25 := Aside0.mk A250; clear A250
                      by_cases c26 : t150.toList = a0.toList
                      · rw [if_pos c26] at H; have c26b0 : (t150.toList == a0.toList) = true := beq_iff_eq.mpr c26; have c26b1 : (t150.toList != a0.toList) = false := bne_eq_false_iff_eq.mpr c26; clear c26; simp only [Option.some.injEq, Prod.mk.injEq] at H; obtain ⟨rfl, rfl⟩ := H
                        go_wp2_with (first | (go_at_call 10; (with_reducible refine (spec_FormatInt.calls kj11 x4_1 t150 _ A25.out).mono ?_); rintro e w27 ⟨rfl, hb⟩; have n0_ := Aside0.mk (below_step (hq0_ HB.out) hb); clear HB; have HB := n0_; clear n0_; (try clear hb); (try clear hb2); (try clear hk); (try clear hi)))
                        go_ret2
                        exact ⟨ew_, hq0_ HB.out⟩
                      · rw [if_neg c26] at H; have c26b0 : (t150.toList == a0.toList) = false := beq_eq_false_iff_ne.mpr c26; have c26b1 : (t150.toList != a0.toList) = true := bne_iff_ne.mpr c26; simp only [Option.some.injEq, Prod.mk.injEq] at H; obtain ⟨rfl, rfl⟩ := H
                        go_wp2_with (first | (go_at_call 10; (with_reducible refine (spec_FormatInt.calls kj11 x4_1 t150 _ A25.out).mono ?_); rintro e w28 ⟨rfl, hb⟩; have n0_ := Aside0.mk (below_step (hq0_ HB.out) hb); clear HB; have HB := n0_; clear n0_; (try clear hb); (try clear hb2); (try clear hk); (try clear hi)))
                        go_ret2
                        exact ⟨ew_, hq0_ HB.out⟩

/-! ### spec_ParseMark: function 25 -/
def spec_ParseMark.f (k : Nat) (a0 : ByteArray) : Option (Int × Bool) := if a0.toList = ([105, 110, 102] : List UInt8) then (some (1000, true)) else ((spec_ParseInt.f k a0).bind fun bt151 => (if bt151.2 = true then ((spec_l1In.f bt151.1 0 999).bind fun t153 => (if t153 = true then (some (bt151.1, true)) else (some (0, false)))) else (some (0, false))))
theorem spec_ParseMark.mono : ∀ a0 k, LeO (spec_ParseMark.f k a0) (spec_ParseMark.f (k + 1) a0) := by
  intro a0 k; unfold spec_ParseMark.f
  repeat' first
      | (with_reducible first | apply spec_ParseInt.mono | exact LeO.refl _ | exact LeO.none _ | refine LeO.ite ?_ ?_ | refine LeO.bind ?_ (fun _ => ?_))
set_option maxHeartbeats 8000000 in
set_option maxRecDepth 100000 in
theorem spec_ParseMark.calls (k : Nat) (a0 : ByteArray) (r1 : Int) (r2 : Bool) (w : World) (h : spec_ParseMark.f k a0 = some (r1, r2)) :
    Calls Tryd.prog 25 #[.string a0] w fun e w' => e = .returned (.tuple #[.int .i64 r1, .bool r2]) ∧ Below w.heap.size w w' := by
  have HB := Aside0.mk (Below.refl w.heap.size w); have H : (if a0.toList = ([105, 110, 102] : List UInt8) then (some (1000, true)) else ((spec_ParseInt.f k a0).bind fun bt151 => (if bt151.2 = true then ((spec_l1In.f bt151.1 0 999).bind fun t153 => (if t153 = true then (some (bt151.1, true)) else (some (0, false)))) else (some (0, false))))) = some (r1, r2) := h; clear h
  by_cases c2 : a0.toList = ([105, 110, 102] : List UInt8)
  · rw [if_pos c2] at H; have c2b0 : (a0.toList == ([105, 110, 102] : List UInt8)) = true := beq_iff_eq.mpr c2; have c2b1 : (a0.toList != ([105, 110, 102] : List UInt8)) = false := bne_eq_false_iff_eq.mpr c2; clear c2; simp only [Option.some.injEq, Prod.mk.injEq] at H; obtain ⟨rfl, rfl⟩ := H
    go_enter Tryd.func25, Tryd.ntmps25
    go_wp2
    go_ret2
    exact ⟨ew_, hq0_ HB.out⟩
  · rw [if_neg c2] at H; have c2b0 : (a0.toList == ([105, 110, 102] : List UInt8)) = false := beq_eq_false_iff_ne.mpr c2; have c2b1 : (a0.toList != ([105, 110, 102] : List UInt8)) = true := bne_iff_ne.mpr c2; replace H := Option.bind_eq_some_iff.mp H; obtain ⟨⟨t151, t152⟩, A30, H⟩ := H; replace H : (if t152 = true then ((spec_l1In.f t151 0 999).bind fun t153 => (if t153 = true then (some (t151, true)) else (some (0, false)))) else (some (0, false))) = some (r1, r2) := H; have A3 := Aside0.mk A30; clear A30
    by_cases c4 : t152 = true
    · subst c4; rw [if_pos rfl] at H; replace H := Option.bind_eq_some_iff.mp H; obtain ⟨t153, A50, H⟩ := H; have A5 := Aside0.mk A50; clear A50
      by_cases c6 : t153 = true
      · subst c6; rw [if_pos rfl] at H; simp only [Option.some.injEq, Prod.mk.injEq] at H; obtain ⟨rfl, rfl⟩ := H
        go_enter Tryd.func25, Tryd.ntmps25
        go_wp2_with (first | ((with_reducible refine gate_callee (f := 23) rfl ?_); refine goesL_ (some 10) rfl rfl Tryd.func23 (by kernel_rfl) rfl #[.string a0] rfl mp_ ?_; (with_reducible refine (spec_ParseInt.calls k a0 t151 true _ A3.out).mono ?_); rintro e w7 ⟨rfl, hb⟩; refine ⟨_, rfl, ?_⟩; have n0_ := Aside0.mk (below_step (hq0_ HB.out) hb); clear HB; have HB := n0_; clear n0_; (try clear hb); (try clear hb2); (try clear hk); (try clear hi)) | (go_at_call 34; (with_reducible refine (spec_l1In.calls t151 0 999 true _ A5.out).mono ?_); rintro e w' ⟨rfl, ⟨nd, rfl⟩⟩))
        go_ret2
        exact ⟨ew_, hq0_ HB.out⟩
      · replace c6 := Bool.eq_false_iff.mpr c6; subst c6; rw [if_neg nt_] at H; simp only [Option.some.injEq, Prod.mk.injEq] at H; obtain ⟨rfl, rfl⟩ := H
        go_enter Tryd.func25, Tryd.ntmps25
        go_wp2_with (first | ((with_reducible refine gate_callee (f := 23) rfl ?_); refine goesL_ (some 10) rfl rfl Tryd.func23 (by kernel_rfl) rfl #[.string a0] rfl mp_ ?_; (with_reducible refine (spec_ParseInt.calls k a0 t151 true _ A3.out).mono ?_); rintro e w8 ⟨rfl, hb⟩; refine ⟨_, rfl, ?_⟩; have n0_ := Aside0.mk (below_step (hq0_ HB.out) hb); clear HB; have HB := n0_; clear n0_; (try clear hb); (try clear hb2); (try clear hk); (try clear hi)) | (go_at_call 34; (with_reducible refine (spec_l1In.calls t151 0 999 false _ A5.out).mono ?_); rintro e w' ⟨rfl, ⟨nd, rfl⟩⟩))
        go_ret2
        exact ⟨ew_, hq0_ HB.out⟩
    · replace c4 := Bool.eq_false_iff.mpr c4; subst c4; rw [if_neg nt_] at H; simp only [Option.some.injEq, Prod.mk.injEq] at H; obtain ⟨rfl, rfl⟩ := H
      go_enter Tryd.func25, Tryd.ntmps25
      go_wp2_with (first | ((with_reducible refine gate_callee (f := 23) rfl ?_); refine goesL_ (some 10) rfl rfl Tryd.func23 (by kernel_rfl) rfl #[.string a0] rfl mp_ ?_; (with_reducible refine (spec_ParseInt.calls k a0 t151 false _ A3.out).mono ?_); rintro e w9 ⟨rfl, hb⟩; refine ⟨_, rfl, ?_⟩; have n0_ := Aside0.mk (below_step (hq0_ HB.out) hb); clear HB; have HB := n0_; clear n0_; (try clear hb); (try clear hb2); (try clear hk); (try clear hi)))
      go_ret2
      exact ⟨ew_, hq0_ HB.out⟩

/-! ### spec_l3Number: function 57 -/
def spec_l3Number.f (k : Nat) (a0 : ByteArray) : Option (Int) := if a0.toList = ([45] : List UInt8) then (some (-1)) else ((spec_ParseInt.f k a0).bind fun bt154 => (if bt154.2 = true then (if bt154.1 < 0 then (some (-2)) else (some bt154.1)) else (some (-2))))
theorem spec_l3Number.mono : ∀ a0 k, LeO (spec_l3Number.f k a0) (spec_l3Number.f (k + 1) a0) := by
  intro a0 k; unfold spec_l3Number.f
  repeat' first
      | (with_reducible first | apply spec_ParseInt.mono | exact LeO.refl _ | exact LeO.none _ | refine LeO.ite ?_ ?_ | refine LeO.bind ?_ (fun _ => ?_))
set_option maxHeartbeats 8000000 in
set_option maxRecDepth 100000 in
theorem spec_l3Number.calls (k : Nat) (a0 : ByteArray) (r : Int) (w : World) (h : spec_l3Number.f k a0 = some r) :
    Calls Tryd.prog 57 #[.string a0] w fun e w' => e = .returned (.int .i64 r) ∧ Below w.heap.size w w' := by
  have HB := Aside0.mk (Below.refl w.heap.size w); have H : (if a0.toList = ([45] : List UInt8) then (some (-1)) else ((spec_ParseInt.f k a0).bind fun bt154 => (if bt154.2 = true then (if bt154.1 < 0 then (some (-2)) else (some bt154.1)) else (some (-2))))) = some r := h; clear h
  by_cases c2 : a0.toList = ([45] : List UInt8)
  · rw [if_pos c2] at H; have c2b0 : (a0.toList == ([45] : List UInt8)) = true := beq_iff_eq.mpr c2; have c2b1 : (a0.toList != ([45] : List UInt8)) = false := bne_eq_false_iff_eq.mpr c2; clear c2; obtain rfl := Option.some.inj H
    go_enter Tryd.func57, Tryd.ntmps57
    go_wp2
    go_ret; exact ⟨ew_, hq0_ HB.out⟩
  · rw [if_neg c2] at H; have c2b0 : (a0.toList == ([45] : List UInt8)) = false := beq_eq_false_iff_ne.mpr c2; have c2b1 : (a0.toList != ([45] : List UInt8)) = true := bne_iff_ne.mpr c2; replace H := Option.bind_eq_some_iff.mp H; obtain ⟨⟨t154, t155⟩, A30, H⟩ := H; replace H : (if t155 = true then (if t154 < 0 then (some (-2)) else (some t154)) else (some (-2))) = some r := H; have A3 := Aside0.mk A30; clear A30
    by_cases c4 : t155 = true
    · subst c4; rw [if_pos rfl] at H
      by_cases c5 : t154 < 0
      · rw [if_pos c5] at H; have c5b0 : decide (t154 < 0) = true := decide_eq_true c5; clear c5; obtain rfl := Option.some.inj H
        go_enter Tryd.func57, Tryd.ntmps57
        go_wp2_with (first | ((with_reducible refine gate_callee (f := 23) rfl ?_); refine goesL_ (some 9) rfl rfl Tryd.func23 (by kernel_rfl) rfl #[.string a0] rfl mp_ ?_; (with_reducible refine (spec_ParseInt.calls k a0 t154 true _ A3.out).mono ?_); rintro e w6 ⟨rfl, hb⟩; refine ⟨_, rfl, ?_⟩; have n0_ := Aside0.mk (below_step (hq0_ HB.out) hb); clear HB; have HB := n0_; clear n0_; (try clear hb); (try clear hb2); (try clear hk); (try clear hi)))
        go_ret; exact ⟨ew_, hq0_ HB.out⟩
      · rw [if_neg c5] at H; have c5b0 : decide (t154 < 0) = false := decide_eq_false c5; clear c5; obtain rfl := Option.some.inj H
        go_enter Tryd.func57, Tryd.ntmps57
        go_wp2_with (first | ((with_reducible refine gate_callee (f := 23) rfl ?_); refine goesL_ (some 9) rfl rfl Tryd.func23 (by kernel_rfl) rfl #[.string a0] rfl mp_ ?_; (with_reducible refine (spec_ParseInt.calls k a0 t154 true _ A3.out).mono ?_); rintro e w7 ⟨rfl, hb⟩; refine ⟨_, rfl, ?_⟩; have n0_ := Aside0.mk (below_step (hq0_ HB.out) hb); clear HB; have HB := n0_; clear n0_; (try clear hb); (try clear hb2); (try clear hk); (try clear hi)))
        go_ret; exact ⟨ew_, hq0_ HB.out⟩
    · replace c4 := Bool.eq_false_iff.mpr c4; subst c4; rw [if_neg nt_] at H; obtain rfl := Option.some.inj H
      go_enter Tryd.func57, Tryd.ntmps57
      go_wp2_with (first | ((with_reducible refine gate_callee (f := 23) rfl ?_); refine goesL_ (some 9) rfl rfl Tryd.func23 (by kernel_rfl) rfl #[.string a0] rfl mp_ ?_; (with_reducible refine (spec_ParseInt.calls k a0 t154 false _ A3.out).mono ?_); rintro e w8 ⟨rfl, hb⟩; refine ⟨_, rfl, ?_⟩; have n0_ := Aside0.mk (below_step (hq0_ HB.out) hb); clear HB; have HB := n0_; clear n0_; (try clear hb); (try clear hb2); (try clear hk); (try clear hi)))
      go_ret; exact ⟨ew_, hq0_ HB.out⟩

end Go.Proofs.YtfinkjmfhnnleaaDoor.PFnExactParseChain
