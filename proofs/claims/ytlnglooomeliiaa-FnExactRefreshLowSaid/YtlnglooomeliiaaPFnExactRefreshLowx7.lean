-- Printed by my own myprint.py out of the translation of the seat Ytlnglooomeliiaa. Not trusted: Lean checks it.
import Derived.Test.YtlnglooomeliiaaPFnExactRefreshLowx0
import Derived.Test.YtlnglooomeliiaaPFnExactRefreshLowx5
import Derived.Test.YtlnglooomeliiaaPFnExactRefreshLowx6
namespace Go.Proofs.Ytlnglooomeliiaa.PFnExactRefreshLow
open Go.RowKit Go.Proofs.YtlnglooomeliiaaW.PrintWords Go.Proofs.YtlnglooomeliiaaW.PrintLast Go.Proofs.YtlnglooomeliiaaW.PrintMore
attribute [local go_sem] max2_int min2_int max_two min_two max_three min_three max_four min_four   -- for this text's walks alone
set_option linter.unusedVariables false
set_option linter.unusedSimpArgs false

/-! ### spec_RefreshLow: function 48 -/
mutual
def spec_RefreshLow.j0 : Nat → Bool → List (List (S27)) → Int → Int → Int → Int → Int → Int → Int → List (S84) → List (S87) → Option (Int)
  | 0, _, _, _, _, _, _, _, _, _, _, _ => none
  | k + 1, x15, x231000, x232000, x232001, x232002, x232003, x232004, x232005, x232006, x232007, x232008 => if x15 = true then (some 0) else (spec_RefreshLow.l0 k 0 0 x231000 x232000 x232001 x232002 x232003 x232004 x232005 x232006 x232007 x232008)
def spec_RefreshLow.l0 : Nat → Int → Int → List (List (S27)) → Int → Int → Int → Int → Int → Int → Int → List (S84) → List (S87) → Option (Int)
  | 0, _, _, _, _, _, _, _, _, _, _, _, _ => none
  | k + 1, x5, x6, x231000, x232000, x232001, x232002, x232003, x232004, x232005, x232006, x232007, x232008 => if x6 < (x232007.length : Int) then (if 0 ≤ x6 then (spec_RefreshLow.l0 k (mx x5 ((rd_T84 x232007 x6).f1)) (wrap64 (x6 + 1)) x231000 x232000 x232001 x232002 x232003 x232004 x232005 x232006 x232007 x232008) else (none)) else (spec_RefreshLow.l1 k x5 0 x231000 x232000 x232001 x232002 x232003 x232004 x232005 x232006 x232007 x232008)
def spec_RefreshLow.l1 : Nat → Int → Int → List (List (S27)) → Int → Int → Int → Int → Int → Int → Int → List (S84) → List (S87) → Option (Int)
  | 0, _, _, _, _, _, _, _, _, _, _, _, _ => none
  | k + 1, x5, x7, x231000, x232000, x232001, x232002, x232003, x232004, x232005, x232006, x232007, x232008 => if x7 < (x232008.length : Int) then (if 0 ≤ x7 then (if 0 ≤ ((rd_T87 x232008 x7).f0) then (if ((rd_T87 x232008 x7).f0) < (x231000.length : Int) then ((spec_LatestVersion.f k (rd_L4 x231000 ((rd_T87 x232008 x7).f0))).bind fun bt237 => (spec_RefreshLow.l1 k (mx x5 bt237.2.2.2.1) (wrap64 (x7 + 1)) x231000 x232000 x232001 x232002 x232003 x232004 x232005 x232006 x232007 x232008)) else (none)) else (none)) else (none)) else (some x5)
end
def spec_RefreshLow.f (k : Nat) (l0_0 : List (List (S27))) (a1_0 : Int) (a1_1 : Int) (a1_2 : Int) (a1_3 : Int) (a1_4 : Int) (a1_5 : Int) (a1_6 : Int) (l1_7 : List (S84)) (l1_8 : List (S87)) : Option (Int) := (spec_IsValidStore.f k l0_0).bind fun t232 => (if t232 = true then ((spec_IsValidTransaction.f k a1_0 a1_1 a1_2 a1_3 a1_4 a1_5 a1_6 l1_7 l1_8).bind fun t233 => (spec_RefreshLow.j0 k (!t233) l0_0 a1_0 a1_1 a1_2 a1_3 a1_4 a1_5 a1_6 l1_7 l1_8)) else (spec_RefreshLow.j0 k true l0_0 a1_0 a1_1 a1_2 a1_3 a1_4 a1_5 a1_6 l1_7 l1_8))
theorem spec_RefreshLow.mono_l : ∀ k, (∀ y0 y1 y2 y3 y4 y5 y6 y7 y8 y9 y10, LeO (spec_RefreshLow.j0 k y0 y1 y2 y3 y4 y5 y6 y7 y8 y9 y10) (spec_RefreshLow.j0 (k + 1) y0 y1 y2 y3 y4 y5 y6 y7 y8 y9 y10)) ∧ (∀ y0 y1 y2 y3 y4 y5 y6 y7 y8 y9 y10 y11, LeO (spec_RefreshLow.l0 k y0 y1 y2 y3 y4 y5 y6 y7 y8 y9 y10 y11) (spec_RefreshLow.l0 (k + 1) y0 y1 y2 y3 y4 y5 y6 y7 y8 y9 y10 y11)) ∧ (∀ y0 y1 y2 y3 y4 y5 y6 y7 y8 y9 y10 y11, LeO (spec_RefreshLow.l1 k y0 y1 y2 y3 y4 y5 y6 y7 y8 y9 y10 y11) (spec_RefreshLow.l1 (k + 1) y0 y1 y2 y3 y4 y5 y6 y7 y8 y9 y10 y11))
  | 0 => ⟨fun _ _ _ _ _ _ _ _ _ _ _ r h => by simp [spec_RefreshLow.j0] at h, fun _ _ _ _ _ _ _ _ _ _ _ _ r h => by simp [spec_RefreshLow.l0] at h, fun _ _ _ _ _ _ _ _ _ _ _ _ r h => by simp [spec_RefreshLow.l1] at h⟩
  | k + 1 => by
    obtain ⟨ih0, ih1, ih2⟩ := spec_RefreshLow.mono_l k; refine ⟨?_, ?_, ?_⟩
    · intro y0 y1 y2 y3 y4 y5 y6 y7 y8 y9 y10; unfold spec_RefreshLow.j0
      repeat' first
      | (with_reducible exact ih0 _ _ _ _ _ _ _ _ _ _ _)
      | (with_reducible exact ih1 _ _ _ _ _ _ _ _ _ _ _ _)
      | (with_reducible exact ih2 _ _ _ _ _ _ _ _ _ _ _ _)
      | (with_reducible exact spec_IsValidStore.mono _ _)
      | (with_reducible exact spec_IsValidTransaction.mono _ _ _ _ _ _ _ _ _ _)
      | (with_reducible exact spec_LatestVersion.mono _ _)
      | (with_reducible exact LeO.refl _)
      | (with_reducible exact LeO.none _)
      | (with_reducible refine LeO.ite ?_ ?_)
      | (with_reducible refine LeO.bind ?_ (fun _ => ?_))
      | exact ih0 _ _ _ _ _ _ _ _ _ _ _
      | exact ih1 _ _ _ _ _ _ _ _ _ _ _ _
      | exact ih2 _ _ _ _ _ _ _ _ _ _ _ _
      | exact spec_IsValidStore.mono _ _
      | exact spec_IsValidTransaction.mono _ _ _ _ _ _ _ _ _ _
      | exact spec_LatestVersion.mono _ _
      | exact LeO.none _
      | refine LeO.ite ?_ ?_
      | refine LeO.bind ?_ (fun _ => ?_)
    · intro y0 y1 y2 y3 y4 y5 y6 y7 y8 y9 y10 y11; unfold spec_RefreshLow.l0
      repeat' first
      | (with_reducible exact ih0 _ _ _ _ _ _ _ _ _ _ _)
      | (with_reducible exact ih1 _ _ _ _ _ _ _ _ _ _ _ _)
      | (with_reducible exact ih2 _ _ _ _ _ _ _ _ _ _ _ _)
      | (with_reducible exact spec_IsValidStore.mono _ _)
      | (with_reducible exact spec_IsValidTransaction.mono _ _ _ _ _ _ _ _ _ _)
      | (with_reducible exact spec_LatestVersion.mono _ _)
      | (with_reducible exact LeO.refl _)
      | (with_reducible exact LeO.none _)
      | (with_reducible refine LeO.ite ?_ ?_)
      | (with_reducible refine LeO.bind ?_ (fun _ => ?_))
      | exact ih0 _ _ _ _ _ _ _ _ _ _ _
      | exact ih1 _ _ _ _ _ _ _ _ _ _ _ _
      | exact ih2 _ _ _ _ _ _ _ _ _ _ _ _
      | exact spec_IsValidStore.mono _ _
      | exact spec_IsValidTransaction.mono _ _ _ _ _ _ _ _ _ _
      | exact spec_LatestVersion.mono _ _
      | exact LeO.none _
      | refine LeO.ite ?_ ?_
      | refine LeO.bind ?_ (fun _ => ?_)
    · intro y0 y1 y2 y3 y4 y5 y6 y7 y8 y9 y10 y11; unfold spec_RefreshLow.l1
      repeat' first
      | (with_reducible exact ih0 _ _ _ _ _ _ _ _ _ _ _)
      | (with_reducible exact ih1 _ _ _ _ _ _ _ _ _ _ _ _)
      | (with_reducible exact ih2 _ _ _ _ _ _ _ _ _ _ _ _)
      | (with_reducible exact spec_IsValidStore.mono _ _)
      | (with_reducible exact spec_IsValidTransaction.mono _ _ _ _ _ _ _ _ _ _)
      | (with_reducible exact spec_LatestVersion.mono _ _)
      | (with_reducible exact LeO.refl _)
      | (with_reducible exact LeO.none _)
      | (with_reducible refine LeO.ite ?_ ?_)
      | (with_reducible refine LeO.bind ?_ (fun _ => ?_))
      | exact ih0 _ _ _ _ _ _ _ _ _ _ _
      | exact ih1 _ _ _ _ _ _ _ _ _ _ _ _
      | exact ih2 _ _ _ _ _ _ _ _ _ _ _ _
      | exact spec_IsValidStore.mono _ _
      | exact spec_IsValidTransaction.mono _ _ _ _ _ _ _ _ _ _
      | exact spec_LatestVersion.mono _ _
      | exact LeO.none _
      | refine LeO.ite ?_ ?_
      | refine LeO.bind ?_ (fun _ => ?_)
theorem spec_RefreshLow.mono : ∀ a0 a1 a2 a3 a4 a5 a6 a7 a8 a9 k, LeO (spec_RefreshLow.f k a0 a1 a2 a3 a4 a5 a6 a7 a8 a9) (spec_RefreshLow.f (k + 1) a0 a1 a2 a3 a4 a5 a6 a7 a8 a9) := by
  intro a0 a1 a2 a3 a4 a5 a6 a7 a8 a9 k; obtain ⟨ih0, ih1, ih2⟩ := spec_RefreshLow.mono_l k; unfold spec_RefreshLow.f
  repeat' first
      | (with_reducible exact ih0 _ _ _ _ _ _ _ _ _ _ _)
      | (with_reducible exact ih1 _ _ _ _ _ _ _ _ _ _ _ _)
      | (with_reducible exact ih2 _ _ _ _ _ _ _ _ _ _ _ _)
      | (with_reducible exact spec_IsValidStore.mono _ _)
      | (with_reducible exact spec_IsValidTransaction.mono _ _ _ _ _ _ _ _ _ _)
      | (with_reducible exact spec_LatestVersion.mono _ _)
      | (with_reducible exact LeO.refl _)
      | (with_reducible exact LeO.none _)
      | (with_reducible refine LeO.ite ?_ ?_)
      | (with_reducible refine LeO.bind ?_ (fun _ => ?_))
      | exact ih0 _ _ _ _ _ _ _ _ _ _ _
      | exact ih1 _ _ _ _ _ _ _ _ _ _ _ _
      | exact ih2 _ _ _ _ _ _ _ _ _ _ _ _
      | exact spec_IsValidStore.mono _ _
      | exact spec_IsValidTransaction.mono _ _ _ _ _ _ _ _ _ _
      | exact spec_LatestVersion.mono _ _
      | exact LeO.none _
      | refine LeO.ite ?_ ?_
      | refine LeO.bind ?_ (fun _ => ?_)
def spec_RefreshLow.T11 : Bool × List (List Nat × List Nat) := (true, [([], []), ([], []), ([1], [1]), ([], []), ([3], [3]), ([], []), ([4, 5], [4, 5]), ([6], [6]), ([7], [7]), ([2, 8], [2, 8]), ([9], [9]), ([10], [10]), ([11], [11]), ([0, 12], [0, 12]), ([13, 11, 0, 1, 2, 3, 4, 5, 6, 7, 8, 9, 10, 11, 12, 13], [0, 13])])
def spec_RefreshLow.B11 : List Nat := [0, 0, 2, 0, 8, 0, 56, 120, 248, 510, 1022, 2046, 4094, 8191, 16383]
theorem spec_RefreshLow.tab11 : rtab .any (opsOf Try.f48 11) = spec_RefreshLow.T11 := by kernel_rfl
theorem spec_RefreshLow.bits11 : waitsOk spec_RefreshLow.T11.2 spec_RefreshLow.B11 = true := by kernel_rfl
set_option maxHeartbeats 8000000 in
set_option maxRecDepth 100000 in
theorem spec_RefreshLow.calls (k : Nat) (A0_0 : Option Addr) (c0_0 : Nat) (l0_0 : List (List (S27))) (a1_0 : Int) (a1_1 : Int) (a1_2 : Int) (a1_3 : Int) (a1_4 : Int) (a1_5 : Int) (a1_6 : Int) (A1_7 : Option Addr) (c1_7 : Nat) (l1_7 : List (S84)) (A1_8 : Option Addr) (c1_8 : Nat) (l1_8 : List (S87)) (r : Int) (w : World) (hr0_0 : Kd.C (Kd.slice 27 k27) w A0_0 l0_0.length l0_0) (hc0_0 : l0_0.length ≤ c0_0) (hr1_7 : Kd.C k84 w A1_7 l1_7.length l1_7) (hc1_7 : l1_7.length ≤ c1_7) (hr1_8 : Kd.C k87 w A1_8 l1_8.length l1_8) (hc1_8 : l1_8.length ≤ c1_8) (h : spec_RefreshLow.f k l0_0 a1_0 a1_1 a1_2 a1_3 a1_4 a1_5 a1_6 l1_7 l1_8 = some r) :
    Calls Try.prog 48 #[.agg #[.slice A0_0 l0_0.length c0_0], .agg #[.int .i64 a1_0, .int .i64 a1_1, .int .i64 a1_2, .int .i64 a1_3, .int .i64 a1_4, .int .i64 a1_5, .int .i64 a1_6, .slice A1_7 l1_7.length c1_7, .slice A1_8 l1_8.length c1_8]] w fun e w' => e = .returned (.int .i64 r) ∧ Below w.heap.size w w' := by
  have hu32 := Try.underlying32; have hu50 := Try.underlying50; have hu27 := Try.underlying27; have HR0_0 := Aside0.mk hr0_0; have HC0_0 := Aside0.mk hc0_0; clear hr0_0 hc0_0; have HR1_7 := Aside0.mk hr1_7; have HC1_7 := Aside0.mk hc1_7; clear hr1_7 hc1_7; have HR1_8 := Aside0.mk hr1_8; have HC1_8 := Aside0.mk hc1_8; clear hr1_8 hc1_8; have HB := Aside0.mk (Below.refl w.heap.size w); have H : ((spec_IsValidStore.f k l0_0).bind fun t232 => (if t232 = true then ((spec_IsValidTransaction.f k a1_0 a1_1 a1_2 a1_3 a1_4 a1_5 a1_6 l1_7 l1_8).bind fun t233 => (spec_RefreshLow.j0 k (!t233) l0_0 a1_0 a1_1 a1_2 a1_3 a1_4 a1_5 a1_6 l1_7 l1_8)) else (spec_RefreshLow.j0 k true l0_0 a1_0 a1_1 a1_2 a1_3 a1_4 a1_5 a1_6 l1_7 l1_8))) = some r := h; clear h; have HC3 := Aside0.mk H; clear H
  go_enter Try.func48, Try.ntmps48
  go_upto_region 1 with (first | ((with_reducible refine gate_dst (N := 2) rfl ?_); refine box_event ?hg (N := 2) ?hd (cs := #[.slice A0_0 l0_0.length c0_0]) (t := 32) ?hr ?_; (case hd => rfl); (case hg => rfl); (case hr => first | (go_simp; done) | (go_simp; rfl)); intro gb230 hg w4 hbox hb; have n0_ := Aside0.mk (below_step (hq0_ HB.out) hb); have n1_ := Aside0.mk (hbox); have n2_ := Aside0.mk ((ws_ hg (hq0_ HB.out) : w.heap.size ≤ gb230)); have n3_ := n2_; clear HB; have HB := n0_; have BK230 := n1_; have GW230 := n2_; have GE230 := n3_; clear n0_ n1_ n2_ n3_; clear hb hbox hg) | ((with_reducible refine gate_dst (N := 3) rfl ?_); refine box_event ?hg (N := 3) ?hd (cs := #[.int .i64 a1_0, .int .i64 a1_1, .int .i64 a1_2, .int .i64 a1_3, .int .i64 a1_4, .int .i64 a1_5, .int .i64 a1_6, .slice A1_7 l1_7.length c1_7, .slice A1_8 l1_8.length c1_8]) (t := 50) ?hr ?_; (case hd => rfl); (case hg => rfl); (case hr => first | (go_simp; done) | (go_simp; rfl)); intro gb231 hg w5 hbox hb; have n0_ := Aside0.mk (blk_below (bq_ BK230.out) hb); have n1_ := Aside0.mk (below_step (hq1_ HB.out GE230.out) hb); have n2_ := Aside0.mk (hbox); have n3_ := Aside0.mk ((ws_ hg (hq1_ HB.out GE230.out) : w.heap.size ≤ gb231)); have n4_ := n3_; have n5_ := Aside0.mk ((by rw [hg]; exact Nat.ne_of_lt (blk_lt (bq_ BK230.out)) : gb230 ≠ gb231)); have n6_ := Aside0.mk (Ne.symm n5_.out); clear BK230; clear HB; have BK230 := n0_; have HB := n1_; have BK231 := n2_; have GW231 := n3_; have GE231 := n4_; have NB230_231 := n5_; have NB231_230 := n6_; clear n0_ n1_ n2_ n3_ n4_ n5_ n6_; clear hb hbox hg))
  (try simp only [Act.put, List.setIfInBounds_toArray, List.set_cons_zero, List.set_cons_succ])
  go_cut [15] (fun v15 wc => ∃ (kq : Nat) (x15_2 : Bool), v15 = .bool x15_2 ∧ Aside0 (spec_RefreshLow.j0 kq x15_2 l0_0 a1_0 a1_1 a1_2 a1_3 a1_4 a1_5 a1_6 l1_7 l1_8 = some r) ∧ Aside0 (kq ≤ k) ∧ Aside0 (wc.heap[gb230]? = some (.cells #[(.slice A0_0 l0_0.length c0_0)] 32 (0, 0))) ∧ Aside0 (wc.heap[gb231]? = some (.cells #[.int .i64 a1_0, .int .i64 a1_1, .int .i64 a1_2, .int .i64 a1_3, .int .i64 a1_4, .int .i64 a1_5, .int .i64 a1_6, (.slice A1_7 l1_7.length c1_7), (.slice A1_8 l1_8.length c1_8)] 50 (0, 0))) ∧ Aside0 (Below w.heap.size w wc))
  case first =>
    have H := HC3.out; clear HC3; replace H := Option.bind_eq_some_iff.mp H; obtain ⟨t232, A60, H⟩ := H; replace H : (if t232 = true then ((spec_IsValidTransaction.f k a1_0 a1_1 a1_2 a1_3 a1_4 a1_5 a1_6 l1_7 l1_8).bind fun t233 => (spec_RefreshLow.j0 k (!t233) l0_0 a1_0 a1_1 a1_2 a1_3 a1_4 a1_5 a1_6 l1_7 l1_8)) else (spec_RefreshLow.j0 k true l0_0 a1_0 a1_1 a1_2 a1_3 a1_4 a1_5 a1_6 l1_7 l1_8)) = some r := H; have A6 := Aside0.mk A60; clear A60
    by_cases c7 : t232 = true
    · subst c7; (have H1 : ((spec_IsValidTransaction.f k a1_0 a1_1 a1_2 a1_3 a1_4 a1_5 a1_6 l1_7 l1_8).bind fun t233 => (spec_RefreshLow.j0 k (!t233) l0_0 a1_0 a1_1 a1_2 a1_3 a1_4 a1_5 a1_6 l1_7 l1_8)) = some r := by rw [if_pos rfl] at H; exact H); clear H; have H := H1; clear H1; replace H := Option.bind_eq_some_iff.mp H; obtain ⟨t233, A80, H⟩ := H; replace H : (spec_RefreshLow.j0 k (!t233) l0_0 a1_0 a1_1 a1_2 a1_3 a1_4 a1_5 a1_6 l1_7 l1_8) = some r := H; have A8 := Aside0.mk A80; clear A80; have H' := Aside0.mk H; clear H; have hnb9 := NB230_231.out; have hnc9 := NB231_230.out; have hcz10_0 := bc1_ BK230.out; have hfz10_0 := blk_frozen BK230.out 0
      go_wp2_with (first | ((with_reducible refine gate_callee (f := 53) rfl ?_); refine goesL_ (some 9) rfl rfl Try.func53 (by kernel_rfl) rfl #[.agg #[.slice A0_0 l0_0.length c0_0]] rfl mp_ ?_; (with_reducible refine (spec_IsValidStore.calls k _ _ l0_0 true _ ?side1 ?side2 A6.out).mono ?_); (case side1 => repeat (first | exact (Kd.C_below HR0_0.out HB.out) | (with_reducible refine Kd.C_alloc ?_ _) | (with_reducible refine Kd.C_drewN ?_ _) | (with_reducible refine Kd.C_drew ?_))); (case side2 => exact HC0_0.out); rintro e w11 ⟨rfl, hb⟩; refine ⟨_, rfl, ?_⟩; have n0_ := Aside0.mk (blk_below (bq_ BK230.out) hb); have n1_ := Aside0.mk (blk_below (bq_ BK231.out) hb); have n2_ := Aside0.mk (below_step (hq2_ HB.out GE230.out GE231.out) hb); clear BK230; clear BK231; clear HB; have BK230 := n0_; have BK231 := n1_; have HB := n2_; clear n0_ n1_ n2_; (try clear hb); (try clear hb2); (try clear hk); (try clear hi); obtain ⟨hcz12_0, hcz12_1, hcz12_2, hcz12_3, hcz12_4, hcz12_5, hcz12_6, hcz12_7, hcz12_8⟩ := bc9_ BK231.out; obtain ⟨hfz12_0, hfz12_1, hfz12_2, hfz12_3, hfz12_4, hfz12_5, hfz12_6, hfz12_7, hfz12_8⟩ := bf9_ BK231.out) | (go_at_call 26; (with_reducible refine (spec_IsValidTransaction.calls k a1_0 a1_1 a1_2 a1_3 a1_4 a1_5 a1_6 _ _ l1_7 _ _ l1_8 t233 _ ?side1 ?side2 ?side3 ?side4 A8.out).mono ?_); (case side1 => repeat (first | exact (Kd.C_below HR1_7.out HB.out) | (with_reducible refine Kd.C_alloc ?_ _) | (with_reducible refine Kd.C_drewN ?_ _) | (with_reducible refine Kd.C_drew ?_))); (case side2 => exact HC1_7.out); (case side3 => repeat (first | exact (Kd.C_below HR1_8.out HB.out) | (with_reducible refine Kd.C_alloc ?_ _) | (with_reducible refine Kd.C_drewN ?_ _) | (with_reducible refine Kd.C_drew ?_))); (case side4 => exact HC1_8.out); rintro e w13 ⟨rfl, hb⟩; have n0_ := Aside0.mk (blk_below (bq_ BK230.out) hb); have n1_ := Aside0.mk (blk_below (bq_ BK231.out) hb); have n2_ := Aside0.mk (below_step (hq2_ HB.out GE230.out GE231.out) hb); clear BK230; clear BK231; clear HB; have BK230 := n0_; have BK231 := n1_; have HB := n2_; clear n0_ n1_ n2_; (try clear hb); (try clear hb2); (try clear hk); (try clear hi)))
      go_meet
      case rel => exact ⟨_, (!t233), (by first | rfl | (simp; done) | (simp [*]; done)), H', ⟨by first | omega | exact Nat.le_refl _⟩, ⟨bq_ BK230.out⟩, ⟨bq_ BK231.out⟩, ⟨hq2_ HB.out GE230.out GE231.out⟩⟩
    · replace c7 := Bool.eq_false_iff.mpr c7; subst c7; (have H1 : (spec_RefreshLow.j0 k true l0_0 a1_0 a1_1 a1_2 a1_3 a1_4 a1_5 a1_6 l1_7 l1_8) = some r := by rw [if_neg (show ¬ (false = true) by decide)] at H; exact H); clear H; have H := H1; clear H1; have H' := Aside0.mk H; clear H; have hnb14 := NB230_231.out; have hnc14 := NB231_230.out; have hcz15_0 := bc1_ BK230.out; have hfz15_0 := blk_frozen BK230.out 0
      go_wp2_with (first | ((with_reducible refine gate_callee (f := 53) rfl ?_); refine goesL_ (some 9) rfl rfl Try.func53 (by kernel_rfl) rfl #[.agg #[.slice A0_0 l0_0.length c0_0]] rfl mp_ ?_; (with_reducible refine (spec_IsValidStore.calls k _ _ l0_0 false _ ?side1 ?side2 A6.out).mono ?_); (case side1 => repeat (first | exact (Kd.C_below HR0_0.out HB.out) | (with_reducible refine Kd.C_alloc ?_ _) | (with_reducible refine Kd.C_drewN ?_ _) | (with_reducible refine Kd.C_drew ?_))); (case side2 => exact HC0_0.out); rintro e w16 ⟨rfl, hb⟩; refine ⟨_, rfl, ?_⟩; have n0_ := Aside0.mk (blk_below (bq_ BK230.out) hb); have n1_ := Aside0.mk (blk_below (bq_ BK231.out) hb); have n2_ := Aside0.mk (below_step (hq2_ HB.out GE230.out GE231.out) hb); clear BK230; clear BK231; clear HB; have BK230 := n0_; have BK231 := n1_; have HB := n2_; clear n0_ n1_ n2_; (try clear hb); (try clear hb2); (try clear hk); (try clear hi)))
      go_meet
      case rel => exact ⟨_, (true), (by first | rfl | (simp; done) | (simp [*]; done)), H', ⟨by first | omega | exact Nat.le_refl _⟩, ⟨bq_ BK230.out⟩, ⟨bq_ BK231.out⟩, ⟨hq2_ HB.out GE230.out GE231.out⟩⟩
  case rest =>
    clear HC3; (try clear c1); (try clear p2); (try clear c4); (try clear c5); (try clear c7); (try clear c9); (try clear c14); (try clear hcz10_0); (try clear hcz12_0); (try clear hcz12_1); (try clear hcz12_2); (try clear hcz12_3); (try clear hcz12_4); (try clear hcz12_5); (try clear hcz12_6); (try clear hcz12_7); (try clear hcz12_8); (try clear hcz15_0); (try clear hfz10_0); (try clear hfz12_0); (try clear hfz12_1); (try clear hfz12_2); (try clear hfz12_3); (try clear hfz12_4); (try clear hfz12_5); (try clear hfz12_6); (try clear hfz12_7); (try clear hfz12_8); (try clear hfz15_0); obtain ⟨kq, x15_2, rfl, HA, HJ2, BK230, BK231, HB⟩ := hcut
    cases kq with
    | zero => exact absurd HA.out (by simp [spec_RefreshLow.j0])
    | succ kj2 =>
      have H := HA.out; clear HA; simp only [spec_RefreshLow.j0] at H
      by_cases c17 : x15_2 = true
      · subst c17; (have H1 : (some 0) = some r := by rw [if_pos rfl] at H; exact H); clear H; have H := H1; clear H1; obtain rfl := Option.some.inj H
        go_wp2
        go_ret; exact ⟨by first | rfl | (simp [errW_none, errW_some] <;> rfl) | (simp [*, errW_none, errW_some] <;> rfl), hq2_ HB.out GE230.out GE231.out⟩
      · replace c17 := Bool.eq_false_iff.mpr c17; subst c17; (have H1 : (spec_RefreshLow.l0 kj2 0 0 l0_0 a1_0 a1_1 a1_2 a1_3 a1_4 a1_5 a1_6 l1_7 l1_8) = some r := by rw [if_neg (show ¬ (false = true) by decide)] at H; exact H); clear H; have H := H1; clear H1; have H' := Aside0.mk H; clear H
        go_wp2
        go_loopg [5, 6] kj2 (fun kq v5 v6 w' => ∃ (x5_2 : Int) (x6_2 : Int), v5 = .int .i64 x5_2 ∧ v6 = .int .i64 x6_2 ∧ Aside0 (spec_RefreshLow.l0 kq x5_2 x6_2 l0_0 a1_0 a1_1 a1_2 a1_3 a1_4 a1_5 a1_6 l1_7 l1_8 = some r) ∧ Aside0 (kq ≤ kj2) ∧ Aside0 (w'.heap[gb230]? = some (.cells #[(.slice A0_0 l0_0.length c0_0)] 32 (0, 0))) ∧ Aside0 (w'.heap[gb231]? = some (.cells #[.int .i64 a1_0, .int .i64 a1_1, .int .i64 a1_2, .int .i64 a1_3, .int .i64 a1_4, .int .i64 a1_5, .int .i64 a1_6, (.slice A1_7 l1_7.length c1_7), (.slice A1_8 l1_8.length c1_8)] 50 (0, 0))) ∧ Aside0 (Below w.heap.size w w'))
        case atStart => exact ⟨(0), (0), (by first | rfl | (simp; done) | (simp [*]; done)), (by first | rfl | (simp; done) | (simp [*]; done)), H', ⟨Nat.le_refl _⟩, ⟨bq_ BK230.out⟩, ⟨bq_ BK231.out⟩, ⟨hq2_ HB.out GE230.out GE231.out⟩⟩
        case round =>
          clear H'; (try clear c1); (try clear p2); (try clear c4); (try clear c5); (try clear c7); (try clear c9); (try clear c14); (try clear c17); (try clear hcz10_0); (try clear hcz12_0); (try clear hcz12_1); (try clear hcz12_2); (try clear hcz12_3); (try clear hcz12_4); (try clear hcz12_5); (try clear hcz12_6); (try clear hcz12_7); (try clear hcz12_8); (try clear hcz15_0); (try clear hfz10_0); (try clear hfz12_0); (try clear hfz12_1); (try clear hfz12_2); (try clear hfz12_3); (try clear hfz12_4); (try clear hfz12_5); (try clear hfz12_6); (try clear hfz12_7); (try clear hfz12_8); (try clear hfz15_0); (try clear p2); obtain ⟨x5_2, x6_2, rfl, rfl, HA, HK2, BK230, BK231, HB⟩ := hrel
          cases gk with
          | zero => exact absurd HA.out (by simp [spec_RefreshLow.l0])
          | succ k2 =>
            have H := HA.out; clear HA; simp only [spec_RefreshLow.l0] at H
            by_cases c18 : x6_2 < (l1_7.length : Int)
            · rw [if_pos c18] at H; have c18b0 : decide (x6_2 < (l1_7.length : Int)) = true := decide_eq_true c18; clear c18
              by_cases c19 : 0 ≤ x6_2
              · rw [if_pos c19] at H; have c19b0 : decide (0 ≤ x6_2) = true := decide_eq_true c19; clear c19; obtain ⟨ji20, hji20⟩ : ∃ j_ : Int, (mx x5_2 ((rd_T84 l1_7 x6_2).f1)) = j_ := ⟨_, rfl⟩; (replace H : (spec_RefreshLow.l0 k2 ji20 (wrap64 (x6_2 + 1)) l0_0 a1_0 a1_1 a1_2 a1_3 a1_4 a1_5 a1_6 l1_7 l1_8) = some r := by first | (rw [hji20] at H; exact H) | (simp only [hji20] at H ⊢; exact H)); have hji20_ : (if x5_2 < ((rd_T84 l1_7 x6_2).f1) then ((rd_T84 l1_7 x6_2).f1) else x5_2) = ji20 := hji20; have H' := Aside0.mk H; clear H; have hnb21 := NB231_230.out; have hnc21 := NB230_231.out; obtain ⟨hcz22_0, hcz22_1, hcz22_2, hcz22_3, hcz22_4, hcz22_5, hcz22_6, hcz22_7, hcz22_8⟩ := bc9_ BK231.out; obtain ⟨hfz22_0, hfz22_1, hfz22_2, hfz22_3, hfz22_4, hfz22_5, hfz22_6, hfz22_7, hfz22_8⟩ := bf9_ BK231.out; have p234 : 0 ≤ (x6_2 : Int) := of_decide_eq_true as_; have q234 : x6_2 < (l1_7.length : Int) := of_decide_eq_true as_; obtain ⟨ad234, e234, hx234_0, hx234_1⟩ := at_T84 HR1_7.out x6_2 p234 q234
                cases e234
                replace hx234_0 := bl_ HB.out hx234_0; replace hx234_1 := bl_ HB.out hx234_1; replace p234 := eq_true p234; replace q234 := eq_true q234
                go_wp2
                go_roundg k2
                case measure => have := HJ2.out; have := HK2.out; omega
                case rel => exact ⟨(ji20), (wrap64 (x6_2 + 1)), (by first | rfl | (simp; done) | (simp only [← hji20] <;> (first | rfl | simp)) | (simp [*]; done)), (by first | rfl | (simp; done) | (simp [*]; done)), H', ⟨by have := HJ2.out; have := HK2.out; omega⟩, ⟨bq_ BK230.out⟩, ⟨bq_ BK231.out⟩, ⟨hq2_ HB.out GE230.out GE231.out⟩⟩
              · rw [if_neg c19] at H; exact absurd H (by simp)
            · rw [if_neg c18] at H; have c18b0 : decide (x6_2 < (l1_7.length : Int)) = false := decide_eq_false c18; clear c18; have H' := Aside0.mk H; clear H; have hnb23 := NB231_230.out; have hnc23 := NB230_231.out; obtain ⟨hcz24_0, hcz24_1, hcz24_2, hcz24_3, hcz24_4, hcz24_5, hcz24_6, hcz24_7, hcz24_8⟩ := bc9_ BK231.out; obtain ⟨hfz24_0, hfz24_1, hfz24_2, hfz24_3, hfz24_4, hfz24_5, hfz24_6, hfz24_7, hfz24_8⟩ := bf9_ BK231.out
              go_wp2
              go_loopg [5, 7] k2 (fun kq v5 v7 w' => ∃ (x5_3 : Int) (x7_3 : Int), v5 = .int .i64 x5_3 ∧ v7 = .int .i64 x7_3 ∧ Aside0 (spec_RefreshLow.l1 kq x5_3 x7_3 l0_0 a1_0 a1_1 a1_2 a1_3 a1_4 a1_5 a1_6 l1_7 l1_8 = some r) ∧ Aside0 (kq ≤ k2) ∧ Aside0 (w'.heap[gb230]? = some (.cells #[(.slice A0_0 l0_0.length c0_0)] 32 (0, 0))) ∧ Aside0 (w'.heap[gb231]? = some (.cells #[.int .i64 a1_0, .int .i64 a1_1, .int .i64 a1_2, .int .i64 a1_3, .int .i64 a1_4, .int .i64 a1_5, .int .i64 a1_6, (.slice A1_7 l1_7.length c1_7), (.slice A1_8 l1_8.length c1_8)] 50 (0, 0))) ∧ Aside0 (Below w.heap.size w w'))
              case atStart => exact ⟨(x5_2), (0), (by first | rfl | (simp; done) | (simp [*]; done)), (by first | rfl | (simp; done) | (simp [*]; done)), H', ⟨Nat.le_refl _⟩, ⟨bq_ BK230.out⟩, ⟨bq_ BK231.out⟩, ⟨hq2_ HB.out GE230.out GE231.out⟩⟩
              case round =>
                clear H'; (try clear c1); (try clear c2); (try clear p2); (try clear q2); (try clear hx2); (try clear c4); (try clear c5); (try clear p6); (try clear c7); (try clear c9); (try clear c14); (try clear c17); (try clear c18); (try clear c18b0); (try clear c19); (try clear c19b0); (try clear c21); (try clear c23); (try clear p23); (try clear q23); (try clear hx23); (try clear hcz10_0); (try clear hcz12_0); (try clear hcz12_1); (try clear hcz12_2); (try clear hcz12_3); (try clear hcz12_4); (try clear hcz12_5); (try clear hcz12_6); (try clear hcz12_7); (try clear hcz12_8); (try clear hcz15_0); (try clear hcz22_0); (try clear hcz22_1); (try clear hcz22_2); (try clear hcz22_3); (try clear hcz22_4); (try clear hcz22_5); (try clear hcz22_6); (try clear hcz22_7); (try clear hcz22_8); (try clear hcz24_0); (try clear hcz24_1); (try clear hcz24_2); (try clear hcz24_3); (try clear hcz24_4); (try clear hcz24_5); (try clear hcz24_6); (try clear hcz24_7); (try clear hcz24_8); (try clear hfz10_0); (try clear hfz12_0); (try clear hfz12_1); (try clear hfz12_2); (try clear hfz12_3); (try clear hfz12_4); (try clear hfz12_5); (try clear hfz12_6); (try clear hfz12_7); (try clear hfz12_8); (try clear hfz15_0); (try clear hfz22_0); (try clear hfz22_1); (try clear hfz22_2); (try clear hfz22_3); (try clear hfz22_4); (try clear hfz22_5); (try clear hfz22_6); (try clear hfz22_7); (try clear hfz22_8); (try clear hfz24_0); (try clear hfz24_1); (try clear hfz24_2); (try clear hfz24_3); (try clear hfz24_4); (try clear hfz24_5); (try clear hfz24_6); (try clear hfz24_7); (try clear hfz24_8); (try clear hx234_0); (try clear hx234_1); (try clear p2); (try clear p234); (try clear q234); obtain ⟨x5_3, x7_3, rfl, rfl, HA, HK3, BK230, BK231, HB⟩ := hrel
                cases gk with
                | zero => exact absurd HA.out (by simp [spec_RefreshLow.l1])
                | succ k3 =>
                  have H := HA.out; clear HA; simp only [spec_RefreshLow.l1] at H
                  by_cases c25 : x7_3 < (l1_8.length : Int)
                  · rw [if_pos c25] at H; have c25b0 : decide (x7_3 < (l1_8.length : Int)) = true := decide_eq_true c25; clear c25
                    by_cases c26 : 0 ≤ x7_3
                    · rw [if_pos c26] at H; have c26b0 : decide (0 ≤ x7_3) = true := decide_eq_true c26; clear c26
                      by_cases c27 : 0 ≤ ((rd_T87 l1_8 x7_3).f0)
                      · rw [if_pos c27] at H; have c27b0 : decide (0 ≤ ((rd_T87 l1_8 x7_3).f0)) = true := decide_eq_true c27; clear c27
                        by_cases c28 : ((rd_T87 l1_8 x7_3).f0) < (l0_0.length : Int)
                        · rw [if_pos c28] at H; have c28b0 : decide (((rd_T87 l1_8 x7_3).f0) < (l0_0.length : Int)) = true := decide_eq_true c28; clear c28; replace H := Option.bind_eq_some_iff.mp H; obtain ⟨⟨t237, t238, t239, t240, t241⟩, A290, H⟩ := H; replace H : (spec_RefreshLow.l1 k3 (mx x5_3 t240) (wrap64 (x7_3 + 1)) l0_0 a1_0 a1_1 a1_2 a1_3 a1_4 a1_5 a1_6 l1_7 l1_8) = some r := H; have A29 := Aside0.mk A290; clear A290; obtain ⟨ji30, hji30⟩ : ∃ j_ : Int, (mx x5_3 t240) = j_ := ⟨_, rfl⟩; (replace H : (spec_RefreshLow.l1 k3 ji30 (wrap64 (x7_3 + 1)) l0_0 a1_0 a1_1 a1_2 a1_3 a1_4 a1_5 a1_6 l1_7 l1_8) = some r := by first | (rw [hji30] at H; exact H) | (simp only [hji30] at H ⊢; exact H)); (try rw [hji30] at A29); have hji30_ : (if x5_3 < t240 then t240 else x5_3) = ji30 := hji30; have H' := Aside0.mk H; clear H; have hnb31 := NB231_230.out; have hnc31 := NB230_231.out; obtain ⟨hcz32_0, hcz32_1, hcz32_2, hcz32_3, hcz32_4, hcz32_5, hcz32_6, hcz32_7, hcz32_8⟩ := bc9_ BK231.out; obtain ⟨hfz32_0, hfz32_1, hfz32_2, hfz32_3, hfz32_4, hfz32_5, hfz32_6, hfz32_7, hfz32_8⟩ := bf9_ BK231.out; (try go_wp2); have n0_ := Aside0.mk (blk_drew BK230.out); have n1_ := Aside0.mk (blk_drew BK231.out); have n2_ := Aside0.mk (below_drew1 HB.out); clear BK230; clear BK231; clear HB; have BK230 := n0_; have BK231 := n1_; have HB := n2_; clear n0_ n1_ n2_; have p235 : 0 ≤ (x7_3 : Int) := of_decide_eq_true as_; have q235 : x7_3 < (l1_8.length : Int) := of_decide_eq_true as_; obtain ⟨ad235, e235, hx235_0, hx235_1⟩ := at_T87 HR1_8.out x7_3 p235 q235; have hw235_1 := hx235_1; have hw235_0 := hx235_0
                          cases e235
                          replace hx235_0 := bl_ HB.out hx235_0; replace hx235_1 := bl_ HB.out hx235_1; replace p235 := eq_true p235; replace q235 := eq_true q235; have p236 : 0 ≤ (((rd_T87 l1_8 x7_3).f0) : Int) := of_decide_eq_true as_; have q236 : ((rd_T87 l1_8 x7_3).f0) < (l0_0.length : Int) := of_decide_eq_true as_; obtain ⟨ad236, A236_0, c236_0, e236, hx236_0, hl236_0, hi236_0⟩ := at_L4 HR0_0.out ((rd_T87 l1_8 x7_3).f0) p236 q236; have hw236_0 := hx236_0
                          cases e236
                          replace hx236_0 := bl_ HB.out hx236_0; have HR236_0 := Aside0.mk hi236_0; have HC236_0 := Aside0.mk hl236_0; clear hi236_0 hl236_0; replace p236 := eq_true p236; replace q236 := eq_true q236; refine start_ (n := 15) (S := fun w' => w'.cell? ⟨gb230, 0, none⟩ = some (.slice (some ad236) l0_0.length c0_0) ∧ w'.cell? ⟨gb231, 0, none⟩ = some (.int .i64 a1_0) ∧ w'.cell? ⟨gb231, 1, none⟩ = some (.int .i64 a1_1) ∧ w'.cell? ⟨gb231, 2, none⟩ = some (.int .i64 a1_2) ∧ w'.cell? ⟨gb231, 3, none⟩ = some (.int .i64 a1_3) ∧ w'.cell? ⟨gb231, 4, none⟩ = some (.int .i64 a1_4) ∧ w'.cell? ⟨gb231, 5, none⟩ = some (.int .i64 a1_5) ∧ w'.cell? ⟨gb231, 6, none⟩ = some (.int .i64 a1_6) ∧ w'.cell? ⟨gb231, 7, none⟩ = some (.slice A1_7 l1_7.length c1_7) ∧ w'.cell? ⟨gb231, 8, none⟩ = some (.slice (some ad235) l1_8.length c1_8) ∧ w'.cell? (ad235.add ((x7_3).toNat * 2)) = some (.int .i64 ((rd_T87 l1_8 x7_3).f0)) ∧ w'.cell? ⟨(ad235.add ((x7_3).toNat * 2)).block, (ad235.add ((x7_3).toNat * 2)).off + 1, none⟩ = some (.int .i64 ((rd_T87 l1_8 x7_3).f1)) ∧ w'.cell? (ad236.add (((rd_T87 l1_8 x7_3).f0)).toNat) = some (.slice A236_0 (rd_L4 l0_0 ((rd_T87 l1_8 x7_3).f0)).length c236_0)) (ds := []) #[n_,n_,n_,n_,n_,n_,n_,n_,n_,n_,n_,n_,n_,n_,n_] (by kernel_rfl) rfl rfl ⟨(blk_cell BK230.out 0).trans rfl, (blk_cell BK231.out 0).trans rfl, (blk_cell BK231.out 1).trans rfl, (blk_cell BK231.out 2).trans rfl, (blk_cell BK231.out 3).trans rfl, (blk_cell BK231.out 4).trans rfl, (blk_cell BK231.out 5).trans rfl, (blk_cell BK231.out 6).trans rfl, (blk_cell BK231.out 7).trans rfl, (blk_cell BK231.out 8).trans rfl, ((HB.out.cell (World.block_lt_of_cell? w _ hw235_0)).trans hw235_0), ((HB.out.cell (World.block_lt_of_cell? w _ hw235_1)).trans hw235_1), ((HB.out.cell (World.block_lt_of_cell? w _ hw236_0)).trans hw236_0)⟩ (fun hHeld => ?_); refine with_tabW spec_RefreshLow.tab11 spec_RefreshLow.bits11 (fun HT_ HW_ => ?_); generalize wr.drew = w33 at BK230 BK231 HB HR236_0 hx235_0 hx235_1 hx236_0 hHeld ⊢; refine pure_ (i := 0) (N := some 38) (v := ?_) (a' := ?_) #[y_,n_,n_,n_,n_,n_,n_,n_,n_,n_,n_,n_,n_,n_,n_] rfl rfl (ao_ HT_.out) (fun _ _ _ h => h) (Or.inl ⟨rfl, ?_⟩) ?_ ?_; rotate_left
                          · intro w'; go_simp
                            first | (with_reducible rfl) | rfl
                          rotate_left; (exact pe_); refine pure_ (i := 1) (N := some 39) (v := ?_) (a' := ?_) #[y_,y_,n_,n_,n_,n_,n_,n_,n_,n_,n_,n_,n_,n_,n_] rfl rfl (ao_ HT_.out) (fun _ _ _ h => h) (Or.inl ⟨rfl, ?_⟩) ?_ ?_; rotate_left
                          · intro w'; go_simp
                            first | (with_reducible rfl) | rfl
                          rotate_left; (exact pe_); refine pure_ (i := 3) (N := some 41) (v := ?_) (a' := ?_) #[y_,y_,n_,y_,n_,n_,n_,n_,n_,n_,n_,n_,n_,n_,n_] rfl rfl (ao_ HT_.out) (fun _ _ _ h => h) (Or.inl ⟨rfl, ?_⟩) ?_ ?_; rotate_left
                          · intro w'; go_simp
                            first | (with_reducible rfl) | rfl
                          rotate_left; (exact pe_); refine pure_ (i := 5) (N := some 43) (v := ?_) (a' := ?_) #[y_,y_,n_,y_,n_,y_,n_,n_,n_,n_,n_,n_,n_,n_,n_] rfl rfl (ao_ HT_.out) (fun _ _ _ h => h) (Or.inl ⟨rfl, ?_⟩) ?_ ?_; rotate_left
                          · intro w'; go_simp
                            first | (with_reducible rfl) | rfl
                          rotate_left; (exact pe_); refine take_ (i := 2) (N := some 40) (v := ?_) (a' := ?_) #[y_,y_,y_,y_,n_,y_,n_,n_,n_,n_,n_,n_,n_,n_,n_] rfl rfl (take_ofW HT_.out HW_.out (by kernel_rfl)) (fun _ _ _ h => h) (Or.inl ⟨by rfl, ?_⟩) hHeld ?_ ?_; rotate_left; (rintro w' ⟨s0, s1, s2, s3, s4, s5, s6, s7, s8, s9, s10, s11, s12⟩; go_simp; (with_reducible rfl)); rotate_left; (exact pe_); refine take_ (i := 4) (N := some 42) (v := ?_) (a' := ?_) #[y_,y_,y_,y_,y_,y_,n_,n_,n_,n_,n_,n_,n_,n_,n_] rfl rfl (take_ofW HT_.out HW_.out (by kernel_rfl)) (fun _ _ _ h => h) (Or.inl ⟨by rfl, ?_⟩) hHeld ?_ ?_; rotate_left; (rintro w' ⟨s0, s1, s2, s3, s4, s5, s6, s7, s8, s9, s10, s11, s12⟩; go_simp; (with_reducible rfl)); rotate_left; (exact pe_); refine pure_ (i := 6) (N := some 44) (v := ?_) (a' := ?_) #[y_,y_,y_,y_,y_,y_,y_,n_,n_,n_,n_,n_,n_,n_,n_] rfl rfl (ao_ HT_.out) (fun _ _ _ h => h) (Or.inl ⟨rfl, ?_⟩) ?_ ?_; rotate_left
                          · intro w'; go_simp
                            first | (with_reducible rfl) | rfl
                          rotate_left; (exact pe_); refine pure_ (i := 7) (N := some 45) (v := ?_) (a' := ?_) #[y_,y_,y_,y_,y_,y_,y_,y_,n_,n_,n_,n_,n_,n_,n_] rfl rfl (ao_ HT_.out) (fun _ _ _ h => h) (Or.inl ⟨rfl, ?_⟩) ?_ ?_; rotate_left
                          · intro w'; go_simp
                            first | (with_reducible rfl) | rfl
                          rotate_left; (exact pe_); refine take_ (i := 8) (N := some 46) (v := ?_) (a' := ?_) #[y_,y_,y_,y_,y_,y_,y_,y_,y_,n_,n_,n_,n_,n_,n_] rfl rfl (take_ofW HT_.out HW_.out (by kernel_rfl)) (fun _ _ _ h => h) (Or.inl ⟨by rfl, ?_⟩) hHeld ?_ ?_; rotate_left; (rintro w' ⟨s0, s1, s2, s3, s4, s5, s6, s7, s8, s9, s10, s11, s12⟩; go_simp; (with_reducible rfl)); rotate_left; (exact pe_); refine pure_ (i := 9) (N := some 47) (v := ?_) (a' := ?_) #[y_,y_,y_,y_,y_,y_,y_,y_,y_,y_,n_,n_,n_,n_,n_] rfl rfl (ao_ HT_.out) (fun _ _ _ h => h) (Or.inl ⟨rfl, ?_⟩) ?_ ?_; rotate_left
                          · intro w'; go_simp
                            first | (with_reducible rfl) | rfl
                          rotate_left; (exact pe_); refine take_ (i := 10) (N := some 48) (v := ?_) (a' := ?_) #[y_,y_,y_,y_,y_,y_,y_,y_,y_,y_,y_,n_,n_,n_,n_] rfl rfl (take_ofW HT_.out HW_.out (by kernel_rfl)) (fun _ _ _ h => h) (Or.inl ⟨by rfl, ?_⟩) hHeld ?_ ?_; rotate_left; (rintro w' ⟨s0, s1, s2, s3, s4, s5, s6, s7, s8, s9, s10, s11, s12⟩; go_simp; (with_reducible rfl)); rotate_left; (exact pe_); refine one_ (i := 11) (N := some 49) #[y_,y_,y_,y_,y_,y_,y_,y_,y_,y_,y_,y_,n_,n_,n_] rfl rfl (one_of HT_.out (by kernel_rfl)) (by decide) (fun K hK => ?_); refine goes_ Try.func55 (by kernel_rfl) rfl #[.slice A236_0 (rd_L4 l0_0 ((rd_T87 l1_8 x7_3).f0)).length c236_0] (by rfl) rfl rfl mp_ ?_; (with_reducible refine (spec_LatestVersion.calls k3 _ _ (rd_L4 l0_0 ((rd_T87 l1_8 x7_3).f0)) t237 t238 t239 t240 t241 _ ?side1 ?side2 A29.out).mono ?_); (case side1 => repeat (first | exact (Kd.C_below HR236_0.out HB.out) | (with_reducible refine Kd.C_alloc ?_ _) | (with_reducible refine Kd.C_drewN ?_ _) | (with_reducible refine Kd.C_drew ?_))); (case side2 => exact HC236_0.out); rintro e w34 ⟨rfl, hb⟩; refine ⟨_, rfl, ?_⟩; have n0_ := Aside0.mk (blk_below (bq_ BK230.out) hb); have n1_ := Aside0.mk (blk_below (bq_ BK231.out) hb); have n2_ := Aside0.mk (below_step (hq2_ HB.out GE230.out GE231.out) hb); clear BK230; clear BK231; clear HB; have BK230 := n0_; have BK231 := n1_; have HB := n2_; clear n0_ n1_ n2_; (try clear hb); (try clear hb2); (try clear hk); (try clear hi); refine hK.out _ _ ⟨(blk_cell BK230.out 0).trans rfl, (blk_cell BK231.out 0).trans rfl, (blk_cell BK231.out 1).trans rfl, (blk_cell BK231.out 2).trans rfl, (blk_cell BK231.out 3).trans rfl, (blk_cell BK231.out 4).trans rfl, (blk_cell BK231.out 5).trans rfl, (blk_cell BK231.out 6).trans rfl, (blk_cell BK231.out 7).trans rfl, (blk_cell BK231.out 8).trans rfl, ((HB.out.cell (World.block_lt_of_cell? w _ hw235_0)).trans hw235_0), ((HB.out.cell (World.block_lt_of_cell? w _ hw235_1)).trans hw235_1), ((HB.out.cell (World.block_lt_of_cell? w _ hw236_0)).trans hw236_0)⟩ (fun hHeld => ?_); clear hK K; refine norm_ (a' := ?_) ?_ ?_; rotate_left; (show Act.put _ (some 49) _ = _; exact pe_); refine pure_ (i := 12) (N := some 50) (v := ?_) (a' := ?_) #[y_,y_,y_,y_,y_,y_,y_,y_,y_,y_,y_,y_,y_,n_,n_] rfl rfl (ao_ HT_.out) (fun _ _ _ h => h) (Or.inl ⟨rfl, ?_⟩) ?_ ?_; rotate_left
                          · intro w'; go_simp
                            first | (with_reducible rfl) | rfl
                          rotate_left; (exact pe_); refine pure_ (i := 13) (N := some 51) (v := ?_) (a' := ?_) #[y_,y_,y_,y_,y_,y_,y_,y_,y_,y_,y_,y_,y_,y_,n_] rfl rfl (ao_ HT_.out) (fun _ _ _ h => h) (Or.inl ⟨rfl, ?_⟩) ?_ ?_; rotate_left
                          · intro w'; go_simp
                            first | (with_reducible rfl) | rfl
                          rotate_left; (exact pe_); refine pure_ (i := 14) (N := some 5) (v := ?_) (a' := ?_) #[y_,y_,y_,y_,y_,y_,y_,y_,y_,y_,y_,y_,y_,y_,y_] rfl rfl (ao_ HT_.out) (fun _ _ _ h => h) (Or.inl ⟨rfl, ?_⟩) ?_ ?_; rotate_left
                          · intro w'; go_simp
                            first | (with_reducible rfl) | rfl
                          rotate_left; (exact pe_); refine done_ (done_of HT_.out (by kernel_rfl)) ?_; (try go_wp2)
                          go_roundg k3
                          case measure => have := HJ2.out; have := HK2.out; have := HK3.out; omega
                          case rel => exact ⟨(ji30), (wrap64 (x7_3 + 1)), (by first | rfl | (simp; done) | (simp only [← hji30] <;> (first | rfl | simp)) | (simp [*]; done)), (by first | rfl | (simp; done) | (simp [*]; done)), H', ⟨by have := HJ2.out; have := HK2.out; have := HK3.out; omega⟩, ⟨bq_ BK230.out⟩, ⟨bq_ BK231.out⟩, ⟨hq2_ HB.out GE230.out GE231.out⟩⟩
                        · rw [if_neg c28] at H; exact absurd H (by simp)
                      · rw [if_neg c27] at H; exact absurd H (by simp)
                    · rw [if_neg c26] at H; exact absurd H (by simp)
                  · rw [if_neg c25] at H; have c25b0 : decide (x7_3 < (l1_8.length : Int)) = false := decide_eq_false c25; clear c25; obtain rfl := Option.some.inj H; have hnb35 := NB231_230.out; have hnc35 := NB230_231.out; obtain ⟨hcz36_0, hcz36_1, hcz36_2, hcz36_3, hcz36_4, hcz36_5, hcz36_6, hcz36_7, hcz36_8⟩ := bc9_ BK231.out; obtain ⟨hfz36_0, hfz36_1, hfz36_2, hfz36_3, hfz36_4, hfz36_5, hfz36_6, hfz36_7, hfz36_8⟩ := bf9_ BK231.out
                    go_wp2
                    go_ret; exact ⟨by first | rfl | (simp [errW_none, errW_some] <;> rfl) | (simp [*, errW_none, errW_some] <;> rfl), hq2_ HB.out GE230.out GE231.out⟩

/-! ### impl_in: function 71 -/
def impl_in.f (a0 : Int) (a1 : Int) (a2 : Int) : Option (Bool) := if a1 ≤ a0 then (some (decide (a0 ≤ a2))) else (some false)
set_option maxHeartbeats 8000000 in
set_option maxRecDepth 100000 in
theorem impl_in.calls (a0 : Int) (a1 : Int) (a2 : Int) (r : Bool) (w : World) (h : impl_in.f a0 a1 a2 = some r) :
    Calls Try.prog 71 #[.int .i64 a0, .int .i64 a1, .int .i64 a2] w fun e w' => e = .returned (.bool r) ∧ Drawn0 w w' := by
  have H : (if a1 ≤ a0 then (some (decide (a0 ≤ a2))) else (some false)) = some r := h; clear h
  by_cases c4 : a1 ≤ a0
  · rw [if_pos c4] at H; have c4b0 : decide (a1 ≤ a0) = true := decide_eq_true c4; clear c4; obtain rfl := Option.some.inj H
    go_enter Try.func71, Try.ntmps71
    go_wp2
    go_ret; exact ⟨by first | rfl | (simp; done) | (simp [*]; done), by repeat (first | exact Drawn0.refl _ | apply Drawn0.step)⟩
  · rw [if_neg c4] at H; have c4b0 : decide (a1 ≤ a0) = false := decide_eq_false c4; clear c4; obtain rfl := Option.some.inj H
    go_enter Try.func71, Try.ntmps71
    go_wp2
    go_ret; exact ⟨by first | rfl | (simp; done) | (simp [*]; done), by repeat (first | exact Drawn0.refl _ | apply Drawn0.step)⟩

/-! ### impl_isID: function 69 -/
def impl_isID.f (a0 : Int) : Option (Bool) := (impl_in.f a0 1 9).bind fun t242 => (some t242)
set_option maxHeartbeats 8000000 in
set_option maxRecDepth 100000 in
theorem impl_isID.calls (a0 : Int) (r : Bool) (w : World) (h : impl_isID.f a0 = some r) :
    Calls Try.prog 69 #[.int .i64 a0] w fun e w' => e = .returned (.bool r) ∧ Drawn0 w w' := by
  have H : ((impl_in.f a0 1 9).bind fun t242 => (some t242)) = some r := h; clear h; replace H := Option.bind_eq_some_iff.mp H; obtain ⟨t242, A20, H⟩ := H; replace H : (some t242) = some r := H; have A2 := Aside0.mk A20; clear A20; obtain rfl := Option.some.inj H
  go_enter Try.func69, Try.ntmps69
  go_wp2_with (first | ((with_reducible refine gate_callee (f := 71) rfl ?_); refine goesL_ (some 4) rfl rfl Try.func71 (by kernel_rfl) rfl #[.int .i64 a0, .int .i64 1, .int .i64 9] rfl mp_ ?_; (with_reducible refine (impl_in.calls a0 1 9 t242 _ A2.out).mono ?_); rintro e w' ⟨rfl, ⟨nd, rfl⟩⟩; refine ⟨_, rfl, ?_⟩))
  go_ret; exact ⟨by first | rfl | (simp; done) | (simp [*]; done), by repeat (first | exact Drawn0.refl _ | apply Drawn0.step)⟩

/-! ### impl_isScheme: function 70 -/
def impl_isScheme.f (a0 : Int) : Option (Bool) := (impl_in.f a0 1 4).bind fun t243 => (some t243)
set_option maxHeartbeats 8000000 in
set_option maxRecDepth 100000 in
theorem impl_isScheme.calls (a0 : Int) (r : Bool) (w : World) (h : impl_isScheme.f a0 = some r) :
    Calls Try.prog 70 #[.int .i64 a0] w fun e w' => e = .returned (.bool r) ∧ Drawn0 w w' := by
  have H : ((impl_in.f a0 1 4).bind fun t243 => (some t243)) = some r := h; clear h; replace H := Option.bind_eq_some_iff.mp H; obtain ⟨t243, A20, H⟩ := H; replace H : (some t243) = some r := H; have A2 := Aside0.mk A20; clear A20; obtain rfl := Option.some.inj H
  go_enter Try.func70, Try.ntmps70
  go_wp2_with (first | ((with_reducible refine gate_callee (f := 71) rfl ?_); refine goesL_ (some 4) rfl rfl Try.func71 (by kernel_rfl) rfl #[.int .i64 a0, .int .i64 1, .int .i64 4] rfl mp_ ?_; (with_reducible refine (impl_in.calls a0 1 4 t243 _ A2.out).mono ?_); rintro e w' ⟨rfl, ⟨nd, rfl⟩⟩; refine ⟨_, rfl, ?_⟩))
  go_ret; exact ⟨by first | rfl | (simp; done) | (simp [*]; done), by repeat (first | exact Drawn0.refl _ | apply Drawn0.step)⟩

/-! ### impl_IsStamp: function 72 -/
def impl_IsStamp.f (a0 : Int) : Option (Bool) := (impl_in.f a0 1 999).bind fun t244 => (some t244)
set_option maxHeartbeats 8000000 in
set_option maxRecDepth 100000 in
theorem impl_IsStamp.calls (a0 : Int) (r : Bool) (w : World) (h : impl_IsStamp.f a0 = some r) :
    Calls Try.prog 72 #[.int .i64 a0] w fun e w' => e = .returned (.bool r) ∧ Drawn0 w w' := by
  have H : ((impl_in.f a0 1 999).bind fun t244 => (some t244)) = some r := h; clear h; replace H := Option.bind_eq_some_iff.mp H; obtain ⟨t244, A20, H⟩ := H; replace H : (some t244) = some r := H; have A2 := Aside0.mk A20; clear A20; obtain rfl := Option.some.inj H
  go_enter Try.func72, Try.ntmps72
  go_wp2_with (first | ((with_reducible refine gate_callee (f := 71) rfl ?_); refine goesL_ (some 4) rfl rfl Try.func71 (by kernel_rfl) rfl #[.int .i64 a0, .int .i64 1, .int .i64 999] rfl mp_ ?_; (with_reducible refine (impl_in.calls a0 1 999 t244 _ A2.out).mono ?_); rintro e w' ⟨rfl, ⟨nd, rfl⟩⟩; refine ⟨_, rfl, ?_⟩))
  go_ret; exact ⟨by first | rfl | (simp; done) | (simp [*]; done), by repeat (first | exact Drawn0.refl _ | apply Drawn0.step)⟩

/-! ### impl_isKey: function 58 -/
def impl_isKey.f (a0 : Int) : Option (Bool) := (impl_in.f a0 0 5).bind fun t245 => (some t245)
set_option maxHeartbeats 8000000 in
set_option maxRecDepth 100000 in
theorem impl_isKey.calls (a0 : Int) (r : Bool) (w : World) (h : impl_isKey.f a0 = some r) :
    Calls Try.prog 58 #[.int .i64 a0] w fun e w' => e = .returned (.bool r) ∧ Drawn0 w w' := by
  have H : ((impl_in.f a0 0 5).bind fun t245 => (some t245)) = some r := h; clear h; replace H := Option.bind_eq_some_iff.mp H; obtain ⟨t245, A20, H⟩ := H; replace H : (some t245) = some r := H; have A2 := Aside0.mk A20; clear A20; obtain rfl := Option.some.inj H
  go_enter Try.func58, Try.ntmps58
  go_wp2_with (first | ((with_reducible refine gate_callee (f := 71) rfl ?_); refine goesL_ (some 4) rfl rfl Try.func71 (by kernel_rfl) rfl #[.int .i64 a0, .int .i64 0, .int .i64 5] rfl mp_ ?_; (with_reducible refine (impl_in.calls a0 0 5 t245 _ A2.out).mono ?_); rintro e w' ⟨rfl, ⟨nd, rfl⟩⟩; refine ⟨_, rfl, ?_⟩))
  go_ret; exact ⟨by first | rfl | (simp; done) | (simp [*]; done), by repeat (first | exact Drawn0.refl _ | apply Drawn0.step)⟩

end Go.Proofs.Ytlnglooomeliiaa.PFnExactRefreshLow
