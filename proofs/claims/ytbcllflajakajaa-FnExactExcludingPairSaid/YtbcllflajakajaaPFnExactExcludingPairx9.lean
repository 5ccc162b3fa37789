-- Printed by my own myprint.py out of the translation of the seat Ytbcllflajakajaa. Not trusted: Lean checks it.
import Derived.Test.YtbcllflajakajaaPFnExactExcludingPairx0
import Derived.Test.YtbcllflajakajaaPFnExactExcludingPairx5
import Derived.Test.YtbcllflajakajaaPFnExactExcludingPairx6
import Derived.Test.YtbcllflajakajaaPFnExactExcludingPairx8
namespace Go.Proofs.Ytbcllflajakajaa.PFnExactExcludingPair
open Go.RowKit Go.Proofs.YtbcllflajakajaaW.PrintWords Go.Proofs.YtbcllflajakajaaW.PrintLast Go.Proofs.YtbcllflajakajaaW.PrintMore
attribute [local go_sem] max2_int min2_int max_two min_two max_three min_three max_four min_four   -- for this text's walks alone
set_option linter.unusedVariables false
set_option linter.unusedSimpArgs false

/-! ### spec_RefreshLow: function 58 -/
mutual
def spec_RefreshLow.j0 : Nat → Bool → List (List (S65)) → Int → Int → Int → Int → Int → Int → Int → List (S55) → List (S76) → Option (Int)
  | 0, _, _, _, _, _, _, _, _, _, _, _ => none
  | k + 1, x15, x255000, x256000, x256001, x256002, x256003, x256004, x256005, x256006, x256007, x256008 => if x15 = true then (some 0) else (spec_RefreshLow.l0 k 0 0 x255000 x256000 x256001 x256002 x256003 x256004 x256005 x256006 x256007 x256008)
def spec_RefreshLow.l0 : Nat → Int → Int → List (List (S65)) → Int → Int → Int → Int → Int → Int → Int → List (S55) → List (S76) → Option (Int)
  | 0, _, _, _, _, _, _, _, _, _, _, _, _ => none
  | k + 1, x5, x6, x255000, x256000, x256001, x256002, x256003, x256004, x256005, x256006, x256007, x256008 => if x6 < (x256007.length : Int) then (if 0 ≤ x6 then (spec_RefreshLow.l0 k (mx x5 ((rd_T55 x256007 x6).f1)) (wrap64 (x6 + 1)) x255000 x256000 x256001 x256002 x256003 x256004 x256005 x256006 x256007 x256008) else (none)) else (spec_RefreshLow.l1 k x5 0 x255000 x256000 x256001 x256002 x256003 x256004 x256005 x256006 x256007 x256008)
def spec_RefreshLow.l1 : Nat → Int → Int → List (List (S65)) → Int → Int → Int → Int → Int → Int → Int → List (S55) → List (S76) → Option (Int)
  | 0, _, _, _, _, _, _, _, _, _, _, _, _ => none
  | k + 1, x5, x7, x255000, x256000, x256001, x256002, x256003, x256004, x256005, x256006, x256007, x256008 => if x7 < (x256008.length : Int) then (if 0 ≤ x7 then (if 0 ≤ ((rd_T76 x256008 x7).f0) then (if ((rd_T76 x256008 x7).f0) < (x255000.length : Int) then ((spec_LatestVersion.f k (rd_L6 x255000 ((rd_T76 x256008 x7).f0))).bind fun bt261 => (spec_RefreshLow.l1 k (mx x5 bt261.2.2.2.1) (wrap64 (x7 + 1)) x255000 x256000 x256001 x256002 x256003 x256004 x256005 x256006 x256007 x256008)) else (none)) else (none)) else (none)) else (some x5)
end
def spec_RefreshLow.f (k : Nat) (l0_0 : List (List (S65))) (a1_0 : Int) (a1_1 : Int) (a1_2 : Int) (a1_3 : Int) (a1_4 : Int) (a1_5 : Int) (a1_6 : Int) (l1_7 : List (S55)) (l1_8 : List (S76)) : Option (Int) := (spec_IsValidStore.f k l0_0).bind fun t256 => (if t256 = true then ((spec_IsValidTransaction.f k a1_0 a1_1 a1_2 a1_3 a1_4 a1_5 a1_6 l1_7 l1_8).bind fun t257 => (spec_RefreshLow.j0 k (!t257) l0_0 a1_0 a1_1 a1_2 a1_3 a1_4 a1_5 a1_6 l1_7 l1_8)) else (spec_RefreshLow.j0 k true l0_0 a1_0 a1_1 a1_2 a1_3 a1_4 a1_5 a1_6 l1_7 l1_8))
theorem spec_RefreshLow.mono_l : ∀ k, (∀ y0 y1 y2 y3 y4 y5 y6 y7 y8 y9 y10, LeO (spec_RefreshLow.j0 k y0 y1 y2 y3 y4 y5 y6 y7 y8 y9 y10) (spec_RefreshLow.j0 (k + 1) y0 y1 y2 y3 y4 y5 y6 y7 y8 y9 y10)) ∧ (∀ y0 y1 y2 y3 y4 y5 y6 y7 y8 y9 y10 y11, LeO (spec_RefreshLow.l0 k y0 y1 y2 y3 y4 y5 y6 y7 y8 y9 y10 y11) (spec_RefreshLow.l0 (k + 1) y0 y1 y2 y3 y4 y5 y6 y7 y8 y9 y10 y11)) ∧ (∀ y0 y1 y2 y3 y4 y5 y6 y7 y8 y9 y10 y11, LeO (spec_RefreshLow.l1 k y0 y1 y2 y3 y4 y5 y6 y7 y8 y9 y10 y11) (spec_RefreshLow.l1 (k + 1) y0 y1 y2 y3 y4 y5 y6 y7 y8 y9 y10 y11))
  | 0 => ⟨fun _ _ _ _ _ _ _ _ _ _ _ r h => by simp [spec_RefreshLow.j0] at h, fun _ _ _ _ _ _ _ _ _ _ _ _ r h => by simp [spec_RefreshLow.l0] at h, fun _ _ _ _ _ _ _ _ _ _ _ _ r h => by simp [spec_RefreshLow.l1] at h⟩
  | k + 1 => by
    obtain ⟨ih0, ih1, ih2⟩ := spec_RefreshLow.mono_l k; refine ⟨?_, ?_, ?_⟩
    · intro y0 y1 y2 y3 y4 y5 y6 y7 y8 y9 y10; unfold spec_RefreshLow.j0
      repeat' first
      | (with_reducible first | apply ih0 | apply ih1 | apply ih2 | apply spec_IsValidStore.mono | apply spec_IsValidTransaction.mono | apply spec_LatestVersion.mono | exact LeO.refl _ | exact LeO.none _ | refine LeO.ite ?_ ?_ | refine LeO.bind ?_ (fun _ => ?_))
    · intro y0 y1 y2 y3 y4 y5 y6 y7 y8 y9 y10 y11; unfold spec_RefreshLow.l0
      repeat' first
      | (with_reducible first | apply ih0 | apply ih1 | apply ih2 | apply spec_IsValidStore.mono | apply spec_IsValidTransaction.mono | apply spec_LatestVersion.mono | exact LeO.refl _ | exact LeO.none _ | refine LeO.ite ?_ ?_ | refine LeO.bind ?_ (fun _ => ?_))
    · intro y0 y1 y2 y3 y4 y5 y6 y7 y8 y9 y10 y11; unfold spec_RefreshLow.l1
      repeat' first
      | (with_reducible first | apply ih0 | apply ih1 | apply ih2 | apply spec_IsValidStore.mono | apply spec_IsValidTransaction.mono | apply spec_LatestVersion.mono | exact LeO.refl _ | exact LeO.none _ | refine LeO.ite ?_ ?_ | refine LeO.bind ?_ (fun _ => ?_))
theorem spec_RefreshLow.mono : ∀ a0 a1 a2 a3 a4 a5 a6 a7 a8 a9 k, LeO (spec_RefreshLow.f k a0 a1 a2 a3 a4 a5 a6 a7 a8 a9) (spec_RefreshLow.f (k + 1) a0 a1 a2 a3 a4 a5 a6 a7 a8 a9) := by
  intro a0 a1 a2 a3 a4 a5 a6 a7 a8 a9 k; obtain ⟨ih0, ih1, ih2⟩ := spec_RefreshLow.mono_l k; unfold spec_RefreshLow.f
  repeat' first
      | (with_reducible first | apply ih0 | apply ih1 | apply ih2 | apply spec_IsValidStore.mono | apply spec_IsValidTransaction.mono | apply spec_LatestVersion.mono | exact LeO.refl _ | exact LeO.none _ | refine LeO.ite ?_ ?_ | refine LeO.bind ?_ (fun _ => ?_))
def spec_RefreshLow.T11 : Bool × List (List Nat × List Nat) := (true, [([], []), ([], []), ([1], [1]), ([], []), ([3], [3]), ([], []), ([4, 5], [4, 5]), ([6], [6]), ([7], [7]), ([2, 8], [2, 8]), ([9], [9]), ([10], [10]), ([11], [11]), ([0, 12], [0, 12]), ([13, 11, 0, 1, 2, 3, 4, 5, 6, 7, 8, 9, 10, 11, 12, 13], [0, 13])])
def spec_RefreshLow.B11 : List Nat := [0, 0, 2, 0, 8, 0, 56, 120, 248, 510, 1022, 2046, 4094, 8191, 16383]
theorem spec_RefreshLow.tab11 : rtab .any (opsOf Try.f58 11) = spec_RefreshLow.T11 := by kernel_rfl
theorem spec_RefreshLow.bits11 : waitsOk spec_RefreshLow.T11.2 spec_RefreshLow.B11 = true := by kernel_rfl
set_option maxHeartbeats 8000000 in
set_option maxRecDepth 100000 in
theorem spec_RefreshLow.calls (k : Nat) (A0_0 : Option Addr) (c0_0 : Nat) (l0_0 : List (List (S65))) (a1_0 : Int) (a1_1 : Int) (a1_2 : Int) (a1_3 : Int) (a1_4 : Int) (a1_5 : Int) (a1_6 : Int) (A1_7 : Option Addr) (c1_7 : Nat) (l1_7 : List (S55)) (A1_8 : Option Addr) (c1_8 : Nat) (l1_8 : List (S76)) (r : Int) (w : World) (hr0_0 : Kd.C (Kd.slice 65 k65) w A0_0 l0_0.length l0_0) (hc0_0 : l0_0.length ≤ c0_0) (hr1_7 : Kd.C k55 w A1_7 l1_7.length l1_7) (hc1_7 : l1_7.length ≤ c1_7) (hr1_8 : Kd.C k76 w A1_8 l1_8.length l1_8) (hc1_8 : l1_8.length ≤ c1_8) (h : spec_RefreshLow.f k l0_0 a1_0 a1_1 a1_2 a1_3 a1_4 a1_5 a1_6 l1_7 l1_8 = some r) :
    Calls Try.prog 58 #[.agg #[.slice A0_0 l0_0.length c0_0], .agg #[.int .i64 a1_0, .int .i64 a1_1, .int .i64 a1_2, .int .i64 a1_3, .int .i64 a1_4, .int .i64 a1_5, .int .i64 a1_6, .slice A1_7 l1_7.length c1_7, .slice A1_8 l1_8.length c1_8]] w fun e w' => e = .returned (.int .i64 r) ∧ Below w.heap.size w w' := by
  have hu34 := Try.underlying34; have hu39 := Try.underlying39; have hu65 := Try.underlying65; (have hfd65_3 : ∀ (v0_ v1_ v2_ v3_ v4_ : Value) (W : World), (Instr.field 65 (.agg #[v0_, v1_, v2_, v3_, v4_]) 3).run Try.prog W = .ok v3_ W := fun v0_ v1_ v2_ v3_ v4_ W => by rfl); have HR0_0 := Aside0.mk hr0_0; have HC0_0 := Aside0.mk hc0_0; clear hr0_0 hc0_0; have HR1_7 := Aside0.mk hr1_7; have HC1_7 := Aside0.mk hc1_7; clear hr1_7 hc1_7; have HR1_8 := Aside0.mk hr1_8; have HC1_8 := Aside0.mk hc1_8; clear hr1_8 hc1_8; have HB := Aside0.mk (Below.refl w.heap.size w); have H : ((spec_IsValidStore.f k l0_0).bind fun t256 => (if t256 = true then ((spec_IsValidTransaction.f k a1_0 a1_1 a1_2 a1_3 a1_4 a1_5 a1_6 l1_7 l1_8).bind fun t257 => (spec_RefreshLow.j0 k (!t257) l0_0 a1_0 a1_1 a1_2 a1_3 a1_4 a1_5 a1_6 l1_7 l1_8)) else (spec_RefreshLow.j0 k true l0_0 a1_0 a1_1 a1_2 a1_3 a1_4 a1_5 a1_6 l1_7 l1_8))) = some r := h; clear h; have HC3 := Aside0.mk H; clear H
  go_enter Try.func58, Try.ntmps58
  go_upto_region 1 with (first | ((with_reducible refine gate_dst (N := 2) rfl ?_); refine be_ 2 #[.slice A0_0 l0_0.length c0_0] 34 ?_; intro gb254 hg w4 hbox hb; have BK254 := Aside0.mk (hbox); have GW254 := wk_ hg HB; replace HB := hs_ HB hb; have GE254 := GW254; clear hb hbox hg) | ((with_reducible refine gate_dst (N := 3) rfl ?_); refine be_ 3 #[.int .i64 a1_0, .int .i64 a1_1, .int .i64 a1_2, .int .i64 a1_3, .int .i64 a1_4, .int .i64 a1_5, .int .i64 a1_6, .slice A1_7 l1_7.length c1_7, .slice A1_8 l1_8.length c1_8] 39 ?_; intro gb255 hg w5 hbox hb; have BK255 := Aside0.mk (hbox); have GW255 := wk_ hg HB; replace HB := hs_ HB hb; have GE255 := GW255; have NB254_255 := nk_ hg BK254; replace BK254 := bb_ BK254 hb; have NB255_254 := ny_ NB254_255; clear hb hbox hg))
  (try simp only [Act.put, List.setIfInBounds_toArray, List.set_cons_zero, List.set_cons_succ])
  go_cut [15] (fun v15 wc => ∃ (kq : Nat) (x15_2 : Bool), v15 = .bool x15_2 ∧ Aside0 (spec_RefreshLow.j0 kq x15_2 l0_0 a1_0 a1_1 a1_2 a1_3 a1_4 a1_5 a1_6 l1_7 l1_8 = some r) ∧ Aside0 (kq ≤ k) ∧ Aside0 (wc.heap[gb254]? = some (.cells #[(.slice A0_0 l0_0.length c0_0)] 34 (0, 0))) ∧ Aside0 (wc.heap[gb255]? = some (.cells #[.int .i64 a1_0, .int .i64 a1_1, .int .i64 a1_2, .int .i64 a1_3, .int .i64 a1_4, .int .i64 a1_5, .int .i64 a1_6, (.slice A1_7 l1_7.length c1_7), (.slice A1_8 l1_8.length c1_8)] 39 (0, 0))) ∧ Aside0 (Below w.heap.size w wc))
  case first =>
    have H := HC3.out; clear HC3; replace H := Option.bind_eq_some_iff.mp H; obtain ⟨t256, A60, H⟩ := H; have A6 := Aside0.mk A60; clear A60
    by_cases c7 : t256 = true
    · subst c7; rw [if_pos rfl] at H; replace H := Option.bind_eq_some_iff.mp H; obtain ⟨t257, A80, H⟩ := H; have A8 := Aside0.mk A80; clear A80; have H' := Aside0.mk H; clear H; have hnb9 := NB254_255.out; have hnc9 := NB255_254.out; have hcz10_0 := bc1_ BK254.out; have hfz10_0 := blk_frozen BK254.out 0
      go_wp2_with (first | ((with_reducible refine gate_callee (f := 48) rfl ?_); refine goesL_ (some 9) rfl rfl Try.func48 (by kernel_rfl) rfl #[.agg #[.slice A0_0 l0_0.length c0_0]] rfl mp_ ?_; (with_reducible refine (spec_IsValidStore.calls k _ _ l0_0 true _ ?side1 ?side2 A6.out).mono ?_); (case side1 => exact cq_ HR0_0.out HB.out); (case side2 => exact HC0_0.out); rintro e w11 ⟨rfl, hb⟩; refine ⟨_, rfl, ?_⟩; replace BK254 := bb_ BK254 hb; replace BK255 := bb_ BK255 hb; replace HB := hs_ HB hb; (try clear hb); (try clear hb2); (try clear hk); (try clear hi); have hcz12 := bc9_ BK255.out; have hfz12 := bf9_ BK255.out) | (go_at_call 49; (with_reducible refine (spec_IsValidTransaction.calls k a1_0 a1_1 a1_2 a1_3 a1_4 a1_5 a1_6 _ _ l1_7 _ _ l1_8 t257 _ ?side1 ?side2 ?side3 ?side4 A8.out).mono ?_); (case side1 => exact cq_ HR1_7.out HB.out); (case side2 => exact HC1_7.out); (case side3 => exact cq_ HR1_8.out HB.out); (case side4 => exact HC1_8.out); rintro e w13 ⟨rfl, hb⟩; replace BK254 := bb_ BK254 hb; replace BK255 := bb_ BK255 hb; replace HB := hs_ HB hb; (try clear hb); (try clear hb2); (try clear hk); (try clear hi)))
      go_meet
      case rel => exact ⟨_, (!t257), rs_, H', ⟨by first | omega | exact Nat.le_refl _⟩, ⟨bq_ BK254.out⟩, ⟨bq_ BK255.out⟩, ⟨hbw_ HB⟩⟩
    · replace c7 := Bool.eq_false_iff.mpr c7; subst c7; rw [if_neg nt_] at H; have H' := Aside0.mk H; clear H; have hnb14 := NB254_255.out; have hnc14 := NB255_254.out; have hcz15_0 := bc1_ BK254.out; have hfz15_0 := blk_frozen BK254.out 0
      go_wp2_with (first | ((with_reducible refine gate_callee (f := 48) rfl ?_); refine goesL_ (some 9) rfl rfl Try.func48 (by kernel_rfl) rfl #[.agg #[.slice A0_0 l0_0.length c0_0]] rfl mp_ ?_; (with_reducible refine (spec_IsValidStore.calls k _ _ l0_0 false _ ?side1 ?side2 A6.out).mono ?_); (case side1 => exact cq_ HR0_0.out HB.out); (case side2 => exact HC0_0.out); rintro e w16 ⟨rfl, hb⟩; refine ⟨_, rfl, ?_⟩; replace BK254 := bb_ BK254 hb; replace BK255 := bb_ BK255 hb; replace HB := hs_ HB hb; (try clear hb); (try clear hb2); (try clear hk); (try clear hi)))
      go_meet
      case rel => exact ⟨_, (true), rs_, H', ⟨by first | omega | exact Nat.le_refl _⟩, ⟨bq_ BK254.out⟩, ⟨bq_ BK255.out⟩, ⟨hbw_ HB⟩⟩
  case rest =>
    clear HC3; (try clear hcz10_0); (try clear hcz15_0); (try clear hfz10_0); (try clear hfz15_0); obtain ⟨kq, x15_2, rfl, HA, HJ2, BK254, BK255, HB⟩ := hcut
    cases kq with
    | zero => exact absurd HA.out (by simp [spec_RefreshLow.j0])
    | succ kj2 =>
      have H := HA.out; clear HA; simp only [spec_RefreshLow.j0] at H
      by_cases c17 : x15_2 = true
      · subst c17; rw [if_pos rfl] at H; obtain rfl := Option.some.inj H
        go_wp2
        go_ret; exact ⟨ew_, hq2_ HB.out GE254.out GE255.out⟩
      · replace c17 := Bool.eq_false_iff.mpr c17; subst c17; rw [if_neg nt_] at H; have H' := Aside0.mk H; clear H
        go_wp2
        go_loopg [5, 6] kj2 (fun kq v5 v6 w' => ∃ (x5_2 : Int) (x6_2 : Int), v5 = .int .i64 x5_2 ∧ v6 = .int .i64 x6_2 ∧ Aside0 (spec_RefreshLow.l0 kq x5_2 x6_2 l0_0 a1_0 a1_1 a1_2 a1_3 a1_4 a1_5 a1_6 l1_7 l1_8 = some r) ∧ Aside0 (kq ≤ kj2) ∧ Aside0 (w'.heap[gb254]? = some (.cells #[(.slice A0_0 l0_0.length c0_0)] 34 (0, 0))) ∧ Aside0 (w'.heap[gb255]? = some (.cells #[.int .i64 a1_0, .int .i64 a1_1, .int .i64 a1_2, .int .i64 a1_3, .int .i64 a1_4, .int .i64 a1_5, .int .i64 a1_6, (.slice A1_7 l1_7.length c1_7), (.slice A1_8 l1_8.length c1_8)] 39 (0, 0))) ∧ Aside0 (Below w.heap.size w w'))
        case atStart => exact ⟨(0), (0), rs_, rs_, H', ⟨Nat.le_refl _⟩, ⟨bq_ BK254.out⟩, ⟨bq_ BK255.out⟩, ⟨hbw_ HB⟩⟩
        case round =>
          clear H'; (try clear hcz10_0); (try clear hcz15_0); (try clear hfz10_0); (try clear hfz15_0); obtain ⟨x5_2, x6_2, rfl, rfl, HA, HK2, BK254, BK255, HB⟩ := hrel
          cases gk with
          | zero => exact absurd HA.out (by simp [spec_RefreshLow.l0])
          | succ k2 =>
            have H := HA.out; clear HA; simp only [spec_RefreshLow.l0] at H
            by_cases c18 : x6_2 < (l1_7.length : Int)
            · rw [if_pos c18] at H; have c18b0 : decide (x6_2 < (l1_7.length : Int)) = true := decide_eq_true c18; clear c18
              by_cases c19 : 0 ≤ x6_2
              · rw [if_pos c19] at H; have c19b0 : decide (0 ≤ x6_2) = true := decide_eq_true c19; clear c19; obtain ⟨ji20, hji20⟩ : ∃ j_ : Int, (mx x5_2 ((rd_T55 l1_7 x6_2).f1)) = j_ := ⟨_, rfl⟩; (replace H : (spec_RefreshLow.l0 k2 ji20 (wrap64 (x6_2 + 1)) l0_0 a1_0 a1_1 a1_2 a1_3 a1_4 a1_5 a1_6 l1_7 l1_8) = some r := by first | (rw [hji20] at H; exact H) | (simp only [hji20] at H ⊢; exact H)); have hji20_ : (if x5_2 < ((rd_T55 l1_7 x6_2).f1) then ((rd_T55 l1_7 x6_2).f1) else x5_2) = ji20 := hji20; have H' := Aside0.mk H; clear H; have hnb21 := NB255_254.out; have hnc21 := NB254_255.out; have hcz22 := bc9_ BK255.out; have hfz22 := bf9_ BK255.out; have p258 : 0 ≤ (x6_2 : Int) := of_decide_eq_true as_; have q258 : x6_2 < (l1_7.length : Int) := of_decide_eq_true as_; obtain ⟨ad258, e258, hx258_0, hx258_1⟩ := at_T55 HR1_7.out x6_2 p258 q258
                cases e258
                replace hx258_0 := bl_ HB.out hx258_0; replace hx258_1 := bl_ HB.out hx258_1; replace p258 := eq_true p258; replace q258 := eq_true q258
                go_wp2
                go_roundg k2
                case measure => have := HJ2.out; have := HK2.out; omega
                case rel => exact ⟨(ji20), (wrap64 (x6_2 + 1)), (by first | rfl | (simp; done) | (simp only [← hji20] <;> (first | rfl | simp)) | (simp [*]; done)), rs_, H', ⟨by have := HJ2.out; have := HK2.out; omega⟩, ⟨bq_ BK254.out⟩, ⟨bq_ BK255.out⟩, ⟨hbw_ HB⟩⟩
              · rw [if_neg c19] at H; exact absurd H (by simp)
            · rw [if_neg c18] at H; have c18b0 : decide (x6_2 < (l1_7.length : Int)) = false := decide_eq_false c18; clear c18; have H' := Aside0.mk H; clear H; have hnb23 := NB255_254.out; have hnc23 := NB254_255.out; have hcz24 := bc9_ BK255.out; have hfz24 := bf9_ BK255.out
              go_wp2
              go_loopg [5, 7] k2 (fun kq v5 v7 w' => ∃ (x5_3 : Int) (x7_3 : Int), v5 = .int .i64 x5_3 ∧ v7 = .int .i64 x7_3 ∧ Aside0 (spec_RefreshLow.l1 kq x5_3 x7_3 l0_0 a1_0 a1_1 a1_2 a1_3 a1_4 a1_5 a1_6 l1_7 l1_8 = some r) ∧ Aside0 (kq ≤ k2) ∧ Aside0 (w'.heap[gb254]? = some (.cells #[(.slice A0_0 l0_0.length c0_0)] 34 (0, 0))) ∧ Aside0 (w'.heap[gb255]? = some (.cells #[.int .i64 a1_0, .int .i64 a1_1, .int .i64 a1_2, .int .i64 a1_3, .int .i64 a1_4, .int .i64 a1_5, .int .i64 a1_6, (.slice A1_7 l1_7.length c1_7), (.slice A1_8 l1_8.length c1_8)] 39 (0, 0))) ∧ Aside0 (Below w.heap.size w w'))
              case atStart => exact ⟨(x5_2), (0), rs_, rs_, H', ⟨Nat.le_refl _⟩, ⟨bq_ BK254.out⟩, ⟨bq_ BK255.out⟩, ⟨hbw_ HB⟩⟩
              case round =>
                clear H'; (try clear c18b0); (try clear c19b0); (try clear hcz10_0); (try clear hcz15_0); (try clear hfz10_0); (try clear hfz15_0); (try clear hx258_0); (try clear hx258_1); obtain ⟨x5_3, x7_3, rfl, rfl, HA, HK3, BK254, BK255, HB⟩ := hrel
                cases gk with
                | zero => exact absurd HA.out (by simp [spec_RefreshLow.l1])
                | succ k3 =>
                  have H := HA.out; clear HA; simp only [spec_RefreshLow.l1] at H
                  by_cases c25 : x7_3 < (l1_8.length : Int)
                  · rw [if_pos c25] at H; have c25b0 : decide (x7_3 < (l1_8.length : Int)) = true := decide_eq_true c25; clear c25
                    by_cases c26 : 0 ≤ x7_3
                    · rw [if_pos c26] at H; have c26b0 : decide (0 ≤ x7_3) = true := decide_eq_true c26; clear c26
                      by_cases c27 : 0 ≤ ((rd_T76 l1_8 x7_3).f0)
                      · rw [if_pos c27] at H; have c27b0 : decide (0 ≤ ((rd_T76 l1_8 x7_3).f0)) = true := decide_eq_true c27; clear c27
                        by_cases c28 : ((rd_T76 l1_8 x7_3).f0) < (l0_0.length : Int)
                        · rw [if_pos c28] at H; have c28b0 : decide (((rd_T76 l1_8 x7_3).f0) < (l0_0.length : Int)) = true := decide_eq_true c28; clear c28; replace H := Option.bind_eq_some_iff.mp H; obtain ⟨⟨t261, t262, t263, t264, t265⟩, A290, H⟩ := H; replace H : (spec_RefreshLow.l1 k3 (mx x5_3 t264) (wrap64 (x7_3 + 1)) l0_0 a1_0 a1_1 a1_2 a1_3 a1_4 a1_5 a1_6 l1_7 l1_8) = some r := H; have A29 := Aside0.mk A290; clear A290; obtain ⟨ji30, hji30⟩ : ∃ j_ : Int, (mx x5_3 t264) = j_ := ⟨_, rfl⟩; (replace H : (spec_RefreshLow.l1 k3 ji30 (wrap64 (x7_3 + 1)) l0_0 a1_0 a1_1 a1_2 a1_3 a1_4 a1_5 a1_6 l1_7 l1_8) = some r := by first | (rw [hji30] at H; exact H) | (simp only [hji30] at H ⊢; exact H)); (try rw [hji30] at A29); have hji30_ : (if x5_3 < t264 then t264 else x5_3) = ji30 := hji30; have H' := Aside0.mk H; clear H; have hnb31 := NB255_254.out; have hnc31 := NB254_255.out; have hcz32 := bc9_ BK255.out; have hfz32 := bf9_ BK255.out; (try go_wp2); replace BK254 := Aside0.mk (blk_drew BK254.out); replace BK255 := Aside0.mk (blk_drew BK255.out); replace HB := Aside0.mk (below_drew1 HB.out); have p259 : 0 ≤ (x7_3 : Int) := of_decide_eq_true as_; have q259 : x7_3 < (l1_8.length : Int) := of_decide_eq_true as_; obtain ⟨ad259, e259, hx259_0, hx259_1⟩ := at_T76 HR1_8.out x7_3 p259 q259; have hw259_1 := hx259_1; have hw259_0 := hx259_0
                          cases e259
                          replace hx259_0 := bl_ HB.out hx259_0; replace hx259_1 := bl_ HB.out hx259_1; replace p259 := eq_true p259; replace q259 := eq_true q259; have p260 : 0 ≤ (((rd_T76 l1_8 x7_3).f0) : Int) := of_decide_eq_true as_; have q260 : ((rd_T76 l1_8 x7_3).f0) < (l0_0.length : Int) := of_decide_eq_true as_; obtain ⟨ad260, A260_0, c260_0, e260, hx260_0, hl260_0, hi260_0⟩ := at_L6 HR0_0.out ((rd_T76 l1_8 x7_3).f0) p260 q260; have hw260_0 := hx260_0
                          cases e260
                          replace hx260_0 := bl_ HB.out hx260_0; have HR260_0 := Aside0.mk hi260_0; have HC260_0 := Aside0.mk hl260_0; clear hi260_0 hl260_0; replace p260 := eq_true p260; replace q260 := eq_true q260; refine start_ (n := 15) (S := fun w' => w'.cell? ⟨gb254, 0, none⟩ = some (.slice (some ad260) l0_0.length c0_0) ∧ w'.cell? ⟨gb255, 0, none⟩ = some (.int .i64 a1_0) ∧ w'.cell? ⟨gb255, 1, none⟩ = some (.int .i64 a1_1) ∧ w'.cell? ⟨gb255, 2, none⟩ = some (.int .i64 a1_2) ∧ w'.cell? ⟨gb255, 3, none⟩ = some (.int .i64 a1_3) ∧ w'.cell? ⟨gb255, 4, none⟩ = some (.int .i64 a1_4) ∧ w'.cell? ⟨gb255, 5, none⟩ = some (.int .i64 a1_5) ∧ w'.cell? ⟨gb255, 6, none⟩ = some (.int .i64 a1_6) ∧ w'.cell? ⟨gb255, 7, none⟩ = some (.slice A1_7 l1_7.length c1_7) ∧ w'.cell? ⟨gb255, 8, none⟩ = some (.slice (some ad259) l1_8.length c1_8) ∧ w'.cell? (ad259.add ((x7_3).toNat * 2)) = some (.int .i64 ((rd_T76 l1_8 x7_3).f0)) ∧ w'.cell? ⟨(ad259.add ((x7_3).toNat * 2)).block, (ad259.add ((x7_3).toNat * 2)).off + 1, none⟩ = some (.int .i64 ((rd_T76 l1_8 x7_3).f1)) ∧ w'.cell? (ad260.add (((rd_T76 l1_8 x7_3).f0)).toNat) = some (.slice A260_0 (rd_L6 l0_0 ((rd_T76 l1_8 x7_3).f0)).length c260_0)) (ds := []) #[n_,n_,n_,n_,n_,n_,n_,n_,n_,n_,n_,n_,n_,n_,n_] (by kernel_rfl) rfl rfl ⟨cl_ BK254.out 0, cl_ BK255.out 0, cl_ BK255.out 1, cl_ BK255.out 2, cl_ BK255.out 3, cl_ BK255.out 4, cl_ BK255.out 5, cl_ BK255.out 6, cl_ BK255.out 7, cl_ BK255.out 8, (bd_ HB.out hw259_0), (bd_ HB.out hw259_1), (bd_ HB.out hw260_0)⟩ (fun hHeld => ?_); refine with_tabW spec_RefreshLow.tab11 spec_RefreshLow.bits11 (fun HT_ HW_ => ?_); generalize wr.drew = w33 at BK254 BK255 HB HR260_0 hx259_0 hx259_1 hx260_0 hHeld ⊢; refine pj_ 0 38 15 1 HT_ ?_; refine pj_ 1 39 15 3 HT_ ?_; refine pj_ 3 41 15 11 HT_ ?_; refine pj_ 5 43 15 43 HT_ ?_; refine tj_ 2 40 15 47 HT_ HW_ (v := ?_) (a' := ?_) ?_ hHeld ?_ ?_; rotate_left; (rintro w' ⟨s0, s1, s2, s3, s4, s5, s6, s7, s8, s9, s10, s11, s12⟩; go_simp; (with_reducible rfl)); rotate_left; (exact pe_); refine tj_ 4 42 15 63 HT_ HW_ (v := ?_) (a' := ?_) ?_ hHeld ?_ ?_; rotate_left; (rintro w' ⟨s0, s1, s2, s3, s4, s5, s6, s7, s8, s9, s10, s11, s12⟩; go_simp; (with_reducible rfl)); rotate_left; (exact pe_); refine pj_ 6 44 15 127 HT_ ?_; refine pj_ 7 45 15 255 HT_ ?_; refine tj_ 8 46 15 511 HT_ HW_ (v := ?_) (a' := ?_) ?_ hHeld ?_ ?_; rotate_left; (rintro w' ⟨s0, s1, s2, s3, s4, s5, s6, s7, s8, s9, s10, s11, s12⟩; go_simp; (with_reducible rfl)); rotate_left; (exact pe_); refine pj_ 9 47 15 1023 HT_ ?_; refine tj_ 10 48 15 2047 HT_ HW_ (v := ?_) (a' := ?_) ?_ hHeld ?_ ?_; rotate_left; (rintro w' ⟨s0, s1, s2, s3, s4, s5, s6, s7, s8, s9, s10, s11, s12⟩; go_simp; (with_reducible rfl)); rotate_left; (exact pe_); refine oe_ 11 (bs_ 15 4095) HT_ (fun K hK => ?_); refine goes_ Try.func50 (by kernel_rfl) rfl #[.slice A260_0 (rd_L6 l0_0 ((rd_T76 l1_8 x7_3).f0)).length c260_0] (by rfl) rfl rfl mp_ ?_; (with_reducible refine (spec_LatestVersion.calls k3 _ _ (rd_L6 l0_0 ((rd_T76 l1_8 x7_3).f0)) t261 t262 t263 t264 t265 _ ?side1 ?side2 A29.out).mono ?_); (case side1 => exact cq_ HR260_0.out HB.out); (case side2 => exact HC260_0.out); rintro e w34 ⟨rfl, hb⟩; refine ⟨_, rfl, ?_⟩; replace BK254 := bb_ BK254 hb; replace BK255 := bb_ BK255 hb; replace HB := hs_ HB hb; (try clear hb); (try clear hb2); (try clear hk); (try clear hi); refine hK.out _ _ ⟨cl_ BK254.out 0, cl_ BK255.out 0, cl_ BK255.out 1, cl_ BK255.out 2, cl_ BK255.out 3, cl_ BK255.out 4, cl_ BK255.out 5, cl_ BK255.out 6, cl_ BK255.out 7, cl_ BK255.out 8, (bd_ HB.out hw259_0), (bd_ HB.out hw259_1), (bd_ HB.out hw260_0)⟩ (fun hHeld => ?_); clear hK K; refine nr_ ?_; refine pj_ 12 50 15 8191 HT_ ?_; refine pj_ 13 51 15 16383 HT_ ?_; refine pj_ 14 5 15 32767 HT_ ?_; refine dn_ HT_.out ?_; (try go_wp2)
                          go_roundg k3
                          case measure => have := HJ2.out; have := HK2.out; have := HK3.out; omega
                          case rel => exact ⟨(ji30), (wrap64 (x7_3 + 1)), (by first | rfl | (simp; done) | (simp only [← hji30] <;> (first | rfl | simp)) | (simp [*]; done)), rs_, H', ⟨by have := HJ2.out; have := HK2.out; have := HK3.out; omega⟩, ⟨bq_ BK254.out⟩, ⟨bq_ BK255.out⟩, ⟨hbw_ HB⟩⟩
                        · rw [if_neg c28] at H; exact absurd H (by simp)
                      · rw [if_neg c27] at H; exact absurd H (by simp)
                    · rw [if_neg c26] at H; exact absurd H (by simp)
                  · rw [if_neg c25] at H; have c25b0 : decide (x7_3 < (l1_8.length : Int)) = false := decide_eq_false c25; clear c25; obtain rfl := Option.some.inj H; have hnb35 := NB255_254.out; have hnc35 := NB254_255.out; have hcz36 := bc9_ BK255.out; have hfz36 := bf9_ BK255.out
                    go_wp2
                    go_ret; exact ⟨ew_, hq2_ HB.out GE254.out GE255.out⟩

end Go.Proofs.Ytbcllflajakajaa.PFnExactExcludingPair
