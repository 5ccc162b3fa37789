-- Printed by my own myprint.py out of the translation of the seat YtacdaekigoldaaaDoor. Not trusted: Lean checks it.
import Derived.Test.YtacdaekigoldaaaDoorPFnStoresx0
import Derived.Test.YtacdaekigoldaaaDoorPFnStoresx4
import Derived.Test.YtacdaekigoldaaaDoorPFnStoresx9
namespace Go.Proofs.YtacdaekigoldaaaDoor.PFnStores
open Go.RowKit Go.Proofs.YtacdaekigoldaaaDoorW.PrintWords Go.Proofs.YtacdaekigoldaaaDoorW.PrintLast Go.Proofs.YtacdaekigoldaaaDoorW.PrintMore
attribute [local go_sem] max2_int min2_int max_two min_two max_three min_three max_four min_four   -- for this text's walks alone
set_option linter.unusedVariables false
set_option linter.unusedSimpArgs false

/-! ### spec_LastStamp: function 40 -/
mutual
def spec_LastStamp.l0 : Nat → Int → Int → List (List (S43)) → Option (Int)
  | 0, _, _, _ => none
  | k + 1, x3, x4, x341000 => if x4 < (x341000.length : Int) then ((spec_IsValidStore.f k x341000).bind fun t341 => (spec_LastStamp.j1 k x3 x4 t341 x341000)) else (spec_LastStamp.j1 k x3 x4 false x341000)
def spec_LastStamp.j1 : Nat → Int → Int → Bool → List (List (S43)) → Option (Int)
  | 0, _, _, _, _ => none
  | k + 1, x3, x4, x14, x341000 => if x14 = true then (spec_LastStamp.l1 k x3 x4 0 x341000) else (some x3)
def spec_LastStamp.l1 : Nat → Int → Int → Int → List (List (S43)) → Option (Int)
  | 0, _, _, _, _ => none
  | k + 1, x3, x4, x5, x341000 => if 0 ≤ x4 then (if x4 < (x341000.length : Int) then (if x5 < ((rd_L3 x341000 x4).length : Int) then (if 0 ≤ x5 then (spec_LastStamp.l1 k (mx (mx x3 ((rd_T43 (rd_L3 x341000 x4) x5).f2)) ((rd_T43 (rd_L3 x341000 x4) x5).f3)) x4 (wrap64 (x5 + 1)) x341000) else (none)) else (spec_LastStamp.l0 k x3 (wrap64 (x4 + 1)) x341000)) else (none)) else (none)
end
def spec_LastStamp.f (k : Nat) (l0_0 : List (List (S43))) : Option (Int) := spec_LastStamp.l0 k 0 0 l0_0
theorem spec_LastStamp.mono_l : ∀ k, (∀ y0 y1 y2, LeO (spec_LastStamp.l0 k y0 y1 y2) (spec_LastStamp.l0 (k + 1) y0 y1 y2)) ∧ (∀ y0 y1 y2 y3, LeO (spec_LastStamp.j1 k y0 y1 y2 y3) (spec_LastStamp.j1 (k + 1) y0 y1 y2 y3)) ∧ (∀ y0 y1 y2 y3, LeO (spec_LastStamp.l1 k y0 y1 y2 y3) (spec_LastStamp.l1 (k + 1) y0 y1 y2 y3))
  | 0 => ⟨fun _ _ _ r h => by simp [spec_LastStamp.l0] at h, fun _ _ _ _ r h => by simp [spec_LastStamp.j1] at h, fun _ _ _ _ r h => by simp [spec_LastStamp.l1] at h⟩
  | k + 1 => by
    obtain ⟨ih0, ih1, ih2⟩ := spec_LastStamp.mono_l k; refine ⟨?_, ?_, ?_⟩
    · intro y0 y1 y2; unfold spec_LastStamp.l0
      repeat' first
      | (with_reducible first | apply ih0 | apply ih1 | apply ih2 | apply spec_IsValidStore.mono | exact LeO.refl _ | exact LeO.none _ | refine LeO.ite ?_ ?_ | refine LeO.bind ?_ (fun _ => ?_))
    · intro y0 y1 y2 y3; unfold spec_LastStamp.j1
      repeat' first
      | (with_reducible first | apply ih0 | apply ih1 | apply ih2 | apply spec_IsValidStore.mono | exact LeO.refl _ | exact LeO.none _ | refine LeO.ite ?_ ?_ | refine LeO.bind ?_ (fun _ => ?_))
    · intro y0 y1 y2 y3; unfold spec_LastStamp.l1
      repeat' first
      | (with_reducible first | apply ih0 | apply ih1 | apply ih2 | apply spec_IsValidStore.mono | exact LeO.refl _ | exact LeO.none _ | refine LeO.ite ?_ ?_ | refine LeO.bind ?_ (fun _ => ?_))
theorem spec_LastStamp.mono : ∀ a0 k, LeO (spec_LastStamp.f k a0) (spec_LastStamp.f (k + 1) a0) := by
  intro a0 k; obtain ⟨ih0, ih1, ih2⟩ := spec_LastStamp.mono_l k; unfold spec_LastStamp.f
  repeat' first
      | (with_reducible first | apply ih0 | apply ih1 | apply ih2 | apply spec_IsValidStore.mono | exact LeO.refl _ | exact LeO.none _ | refine LeO.ite ?_ ?_ | refine LeO.bind ?_ (fun _ => ?_))
set_option maxHeartbeats 8000000 in
set_option maxRecDepth 100000 in
theorem spec_LastStamp.calls (k : Nat) (A0_0 : Option Addr) (c0_0 : Nat) (l0_0 : List (List (S43))) (r : Int) (w : World) (hr0_0 : Kd.C (Kd.slice 43 k43) w A0_0 l0_0.length l0_0) (hc0_0 : l0_0.length ≤ c0_0) (h : spec_LastStamp.f k l0_0 = some r) :
    Calls Tryd.prog 40 #[.agg #[.slice A0_0 l0_0.length c0_0]] w fun e w' => e = .returned (.int .i64 r) ∧ Below w.heap.size w w' := by
  have hu52 := Tryd.underlying52; have HR0_0 := Aside0.mk hr0_0; have HC0_0 := Aside0.mk hc0_0; clear hr0_0 hc0_0; have HB := Aside0.mk (Below.refl w.heap.size w); have H : (spec_LastStamp.l0 k 0 0 l0_0) = some r := h; clear h; have H' := Aside0.mk H; clear H
  go_enter Tryd.func40, Tryd.ntmps40
  go_wp2_with (first | ((with_reducible refine gate_dst (N := 1) rfl ?_); refine box_event ?hg (N := 1) ?hd (cs := #[.slice A0_0 l0_0.length c0_0]) (t := 52) ?hr ?_; (case hd => rfl); (case hg => rfl); (case hr => first | (go_simp; done) | (go_simp; rfl)); intro gb340 hg w2 hbox hb; have n0_ := Aside0.mk (below_step (hq0_ HB.out) hb); have n1_ := Aside0.mk (hbox); have n2_ := Aside0.mk ((ws_ hg (hq0_ HB.out) : w.heap.size ≤ gb340)); have n3_ := n2_; clear HB; have HB := n0_; have BK340 := n1_; have GW340 := n2_; have GE340 := n3_; clear n0_ n1_ n2_ n3_; clear hb hbox hg))
  repeat (go_quiet (first | ((with_reducible refine gate_dst (N := 1) rfl ?_); refine box_event ?hg (N := 1) ?hd (cs := #[.slice A0_0 l0_0.length c0_0]) (t := 52) ?hr ?_; (case hd => rfl); (case hg => rfl); (case hr => first | (go_simp; done) | (go_simp; rfl)); intro gb340 hg w2 hbox hb; have n0_ := Aside0.mk (below_step (hq0_ HB.out) hb); have n1_ := Aside0.mk (hbox); have n2_ := Aside0.mk ((ws_ hg (hq0_ HB.out) : w.heap.size ≤ gb340)); have n3_ := n2_; clear HB; have HB := n0_; have BK340 := n1_; have GW340 := n2_; have GE340 := n3_; clear n0_ n1_ n2_ n3_; clear hb hbox hg)); try go_wp2_with (first | ((with_reducible refine gate_dst (N := 1) rfl ?_); refine box_event ?hg (N := 1) ?hd (cs := #[.slice A0_0 l0_0.length c0_0]) (t := 52) ?hr ?_; (case hd => rfl); (case hg => rfl); (case hr => first | (go_simp; done) | (go_simp; rfl)); intro gb340 hg w2 hbox hb; have n0_ := Aside0.mk (below_step (hq0_ HB.out) hb); have n1_ := Aside0.mk (hbox); have n2_ := Aside0.mk ((ws_ hg (hq0_ HB.out) : w.heap.size ≤ gb340)); have n3_ := n2_; clear HB; have HB := n0_; have BK340 := n1_; have GW340 := n2_; have GE340 := n3_; clear n0_ n1_ n2_ n3_; clear hb hbox hg)))
  go_loopg [3, 4] k (fun kq v3 v4 w' => ∃ (x3_1 : Int) (x4_1 : Int), v3 = .int .i64 x3_1 ∧ v4 = .int .i64 x4_1 ∧ Aside0 (spec_LastStamp.l0 kq x3_1 x4_1 l0_0 = some r) ∧ Aside0 (kq ≤ k) ∧ Aside0 (w'.heap[gb340]? = some (.cells #[(.slice A0_0 l0_0.length c0_0)] 52 (0, 0))) ∧ Aside0 (Below w.heap.size w w'))
  case atStart => exact ⟨(0), (0), rs_, rs_, H', ⟨Nat.le_refl _⟩, ⟨bq_ BK340.out⟩, ⟨hq1_ HB.out GE340.out⟩⟩
  case round =>
    clear H'; (try clear p2); obtain ⟨x3_1, x4_1, rfl, rfl, HA, HK1, BK340, HB⟩ := hrel
    cases gk with
    | zero => exact absurd HA.out (by simp [spec_LastStamp.l0])
    | succ k1 =>
      have H := HA.out; clear HA; simp only [spec_LastStamp.l0] at H; have HC3 := Aside0.mk H; clear H
      go_upto_region 3 with (fail)
      repeat (go_quiet (fail); go_upto_region 3 with (fail))
      go_cut [14] (fun v14 wc => ∃ (kq : Nat) (x14_2 : Bool), v14 = .bool x14_2 ∧ Aside0 (spec_LastStamp.j1 kq x3_1 x4_1 x14_2 l0_0 = some r) ∧ Aside0 (kq ≤ k1) ∧ Aside0 (wc.heap[gb340]? = some (.cells #[(.slice A0_0 l0_0.length c0_0)] 52 (0, 0))) ∧ Aside0 (Below w.heap.size w wc))
      case first =>
        have H := HC3.out; clear HC3
        by_cases c4 : x4_1 < (l0_0.length : Int)
        · rw [if_pos c4] at H; have c4b0 : decide (x4_1 < (l0_0.length : Int)) = true := decide_eq_true c4; clear c4; (first | rw [c4b0] | (simp only [i64_w, i32_w]; rw [c4b0]) | skip); replace H := Option.bind_eq_some_iff.mp H; obtain ⟨t341, A50, H⟩ := H; have A5 := Aside0.mk A50; clear A50; have H' := Aside0.mk H; clear H; have hcz6_0 := bc1_ BK340.out; have hfz6_0 := blk_frozen BK340.out 0
          go_wp2_with (first | (go_at_call 44; (with_reducible refine (spec_IsValidStore.calls k1 _ _ l0_0 t341 _ ?side1 ?side2 A5.out).mono ?_); (case side1 => exact cq_ HR0_0.out HB.out); (case side2 => exact HC0_0.out); rintro e w7 ⟨rfl, hb⟩; have n0_ := Aside0.mk (blk_below (bq_ BK340.out) hb); have n1_ := Aside0.mk (below_step (hq1_ HB.out GE340.out) hb); clear BK340; clear HB; have BK340 := n0_; have HB := n1_; clear n0_ n1_; (try clear hb); (try clear hb2); (try clear hk); (try clear hi)))
          repeat (go_quiet (first | (go_at_call 44; (with_reducible refine (spec_IsValidStore.calls k1 _ _ l0_0 t341 _ ?side1 ?side2 A5.out).mono ?_); (case side1 => exact cq_ HR0_0.out HB.out); (case side2 => exact HC0_0.out); rintro e w7 ⟨rfl, hb⟩; have n0_ := Aside0.mk (blk_below (bq_ BK340.out) hb); have n1_ := Aside0.mk (below_step (hq1_ HB.out GE340.out) hb); clear BK340; clear HB; have BK340 := n0_; have HB := n1_; clear n0_ n1_; (try clear hb); (try clear hb2); (try clear hk); (try clear hi))); try go_wp2_with (first | (go_at_call 44; (with_reducible refine (spec_IsValidStore.calls k1 _ _ l0_0 t341 _ ?side1 ?side2 A5.out).mono ?_); (case side1 => exact cq_ HR0_0.out HB.out); (case side2 => exact HC0_0.out); rintro e w7 ⟨rfl, hb⟩; have n0_ := Aside0.mk (blk_below (bq_ BK340.out) hb); have n1_ := Aside0.mk (below_step (hq1_ HB.out GE340.out) hb); clear BK340; clear HB; have BK340 := n0_; have HB := n1_; clear n0_ n1_; (try clear hb); (try clear hb2); (try clear hk); (try clear hi))))
          go_meet
          case rel => exact ⟨_, (t341), rs_, H', ⟨by have := HK1.out; first | omega | exact Nat.le_refl _⟩, ⟨bq_ BK340.out⟩, ⟨hq1_ HB.out GE340.out⟩⟩
        · rw [if_neg c4] at H; have c4b0 : decide (x4_1 < (l0_0.length : Int)) = false := decide_eq_false c4; clear c4; (first | rw [c4b0] | (simp only [i64_w, i32_w]; rw [c4b0]) | skip); have H' := Aside0.mk H; clear H; have hcz8_0 := bc1_ BK340.out; have hfz8_0 := blk_frozen BK340.out 0
          go_wp2
          repeat (go_quiet (fail); try go_wp2)
          go_meet
          case rel => exact ⟨_, (false), rs_, H', ⟨by have := HK1.out; first | omega | exact Nat.le_refl _⟩, ⟨bq_ BK340.out⟩, ⟨hq1_ HB.out GE340.out⟩⟩
      case rest =>
        clear HC3; (try clear p2); (try clear c4); (try clear c4b0); (try clear hcz6_0); (try clear hcz8_0); (try clear hfz6_0); (try clear hfz8_0); (try clear p2); obtain ⟨kq, x14_2, rfl, HA, HJ2, BK340, HB⟩ := hcut
        cases kq with
        | zero => exact absurd HA.out (by simp [spec_LastStamp.j1])
        | succ kj2 =>
          have H := HA.out; clear HA; simp only [spec_LastStamp.j1] at H
          by_cases c9 : x14_2 = true
          · subst c9; rw [if_pos rfl] at H; have H' := Aside0.mk H; clear H
            go_wp2
            repeat (go_quiet (fail); try go_wp2)
            go_loopg [3, 5] kj2 (fun kq v3 v5 w' => ∃ (x3_3 : Int) (x5_3 : Int), v3 = .int .i64 x3_3 ∧ v5 = .int .i64 x5_3 ∧ Aside0 (spec_LastStamp.l1 kq x3_3 x4_1 x5_3 l0_0 = some r) ∧ Aside0 (kq ≤ kj2) ∧ Aside0 (w'.heap[gb340]? = some (.cells #[(.slice A0_0 l0_0.length c0_0)] 52 (0, 0))) ∧ Aside0 (Below w.heap.size w w'))
            case atStart => exact ⟨(x3_1), (0), rs_, rs_, H', ⟨Nat.le_refl _⟩, ⟨bq_ BK340.out⟩, ⟨hq1_ HB.out GE340.out⟩⟩
            case round =>
              clear H'; (try clear p2); (try clear c4); (try clear c4b0); (try clear c9); (try clear hcz6_0); (try clear hcz8_0); (try clear hfz6_0); (try clear hfz8_0); (try clear p2); obtain ⟨x3_3, x5_3, rfl, rfl, HA, HK3, BK340, HB⟩ := hrel
              cases gk with
              | zero => exact absurd HA.out (by simp [spec_LastStamp.l1])
              | succ k3 =>
                have H := HA.out; clear HA; simp only [spec_LastStamp.l1] at H
                by_cases c10 : 0 ≤ x4_1
                · rw [if_pos c10] at H; have c10b0 : decide (0 ≤ x4_1) = true := decide_eq_true c10; clear c10
                  by_cases c11 : x4_1 < (l0_0.length : Int)
                  · rw [if_pos c11] at H; have c11b0 : decide (x4_1 < (l0_0.length : Int)) = true := decide_eq_true c11; clear c11
                    by_cases c12 : x5_3 < ((rd_L3 l0_0 x4_1).length : Int)
                    · rw [if_pos c12] at H; have c12b0 : decide (x5_3 < ((rd_L3 l0_0 x4_1).length : Int)) = true := decide_eq_true c12; clear c12
                      by_cases c13 : 0 ≤ x5_3
                      · rw [if_pos c13] at H; have c13b0 : decide (0 ≤ x5_3) = true := decide_eq_true c13; clear c13; obtain ⟨ji14, hji14⟩ : ∃ j_ : Int, (mx x3_3 ((rd_T43 (rd_L3 l0_0 x4_1) x5_3).f2)) = j_ := ⟨_, rfl⟩; (replace H : (spec_LastStamp.l1 k3 (mx (ji14) ((rd_T43 (rd_L3 l0_0 x4_1) x5_3).f3)) x4_1 (wrap64 (x5_3 + 1)) l0_0) = some r := by first | (rw [hji14] at H; exact H) | (simp only [hji14] at H ⊢; exact H)); have hji14_ : (if x3_3 < ((rd_T43 (rd_L3 l0_0 x4_1) x5_3).f2) then ((rd_T43 (rd_L3 l0_0 x4_1) x5_3).f2) else x3_3) = ji14 := hji14; obtain ⟨ji15, hji15⟩ : ∃ j_ : Int, (mx (ji14) ((rd_T43 (rd_L3 l0_0 x4_1) x5_3).f3)) = j_ := ⟨_, rfl⟩; (replace H : (spec_LastStamp.l1 k3 ji15 x4_1 (wrap64 (x5_3 + 1)) l0_0) = some r := by first | (rw [hji15] at H; exact H) | (simp only [hji15] at H ⊢; exact H)); have hji15_ : (if (ji14) < ((rd_T43 (rd_L3 l0_0 x4_1) x5_3).f3) then ((rd_T43 (rd_L3 l0_0 x4_1) x5_3).f3) else (ji14)) = ji15 := hji15; have H' := Aside0.mk H; clear H; have hcz16_0 := bc1_ BK340.out; have hfz16_0 := blk_frozen BK340.out 0; have p342 : 0 ≤ (x4_1 : Int) := of_decide_eq_true as_; have q342 : x4_1 < (l0_0.length : Int) := of_decide_eq_true as_; obtain ⟨ad342, A342_0, c342_0, e342, hx342_0, hl342_0, hi342_0⟩ := at_L3 HR0_0.out x4_1 p342 q342
                        cases e342
                        have hraw342 := Aside0.mk hx342_0; replace hx342_0 := bl_ HB.out hx342_0; have HR342_0 := Aside0.mk hi342_0; have HC342_0 := Aside0.mk hl342_0; clear hi342_0 hl342_0; replace p342 := eq_true p342; replace q342 := eq_true q342; have p343 : 0 ≤ (x4_1 : Int) := of_decide_eq_true as_; have q343 : x4_1 < (l0_0.length : Int) := of_decide_eq_true as_; obtain ⟨ad343, A343_0, c343_0, e343, hx343_0, hl343_0, hi343_0⟩ := at_L3 HR0_0.out x4_1 p343 q343; obtain rfl : ad342 = ad343 := (by injection e343); have hraw343 := Aside0.mk hx343_0; replace hx343_0 := bl_ HB.out hx343_0; have HR343_0 := Aside0.mk hi343_0; have HC343_0 := Aside0.mk hl343_0; clear hi343_0 hl343_0; replace p343 := eq_true p343; replace q343 := eq_true q343; have ea_ := Option.some.inj (hraw342.out.symm.trans hraw343.out); injection ea_ with ea_ en_ ec_; subst ea_; subst ec_; clear en_; have p344 : 0 ≤ (x5_3 : Int) := of_decide_eq_true as_; have q344 : x5_3 < ((rd_L3 l0_0 x4_1).length : Int) := of_decide_eq_true as_; obtain ⟨ad344, e344, hx344_0, hx344_1, hx344_2, hx344_3, hx344_4⟩ := at_T43 HR343_0.out x5_3 p344 q344
                        cases e344
                        replace hx344_0 := bl_ HB.out hx344_0; replace hx344_1 := bl_ HB.out hx344_1; replace hx344_2 := bl_ HB.out hx344_2; replace hx344_3 := bl_ HB.out hx344_3; replace hx344_4 := bl_ HB.out hx344_4; replace p344 := eq_true p344; replace q344 := eq_true q344; have p345 : 0 ≤ (x4_1 : Int) := of_decide_eq_true as_; have q345 : x4_1 < (l0_0.length : Int) := of_decide_eq_true as_; obtain ⟨ad345, A345_0, c345_0, e345, hx345_0, hl345_0, hi345_0⟩ := at_L3 HR0_0.out x4_1 p345 q345; obtain rfl : ad342 = ad345 := (by injection e345); have hraw345 := Aside0.mk hx345_0; replace hx345_0 := bl_ HB.out hx345_0; have HR345_0 := Aside0.mk hi345_0; have HC345_0 := Aside0.mk hl345_0; clear hi345_0 hl345_0; replace p345 := eq_true p345; replace q345 := eq_true q345; have ea_ := Option.some.inj (hraw342.out.symm.trans hraw345.out); injection ea_ with ea_ en_ ec_; subst ea_; subst ec_; clear en_; have p346 : 0 ≤ (x5_3 : Int) := of_decide_eq_true as_; have q346 : x5_3 < ((rd_L3 l0_0 x4_1).length : Int) := of_decide_eq_true as_; obtain ⟨ad346, e346, hx346_0, hx346_1, hx346_2, hx346_3, hx346_4⟩ := at_T43 HR345_0.out x5_3 p346 q346
                        cases e346
                        replace hx346_0 := bl_ HB.out hx346_0; replace hx346_1 := bl_ HB.out hx346_1; replace hx346_2 := bl_ HB.out hx346_2; replace hx346_3 := bl_ HB.out hx346_3; replace hx346_4 := bl_ HB.out hx346_4; replace p346 := eq_true p346; replace q346 := eq_true q346
                        go_wp2
                        repeat (go_quiet (fail); try go_wp2)
                        go_roundg k3
                        case measure => have := HK1.out; have := HJ2.out; have := HK3.out; omega
                        case rel => exact ⟨(ji15), (wrap64 (x5_3 + 1)), (by first | rfl | (simp; done) | (simp only [← hji15] <;> (first | rfl | simp)) | (simp [*]; done)), rs_, H', ⟨by have := HK1.out; have := HJ2.out; have := HK3.out; omega⟩, ⟨bq_ BK340.out⟩, ⟨hq1_ HB.out GE340.out⟩⟩
                      · rw [if_neg c13] at H; exact absurd H (by simp)
                    · rw [if_neg c12] at H; have c12b0 : decide (x5_3 < ((rd_L3 l0_0 x4_1).length : Int)) = false := decide_eq_false c12; clear c12; have H' := Aside0.mk H; clear H; have hcz17_0 := bc1_ BK340.out; have hfz17_0 := blk_frozen BK340.out 0; have p342 : 0 ≤ (x4_1 : Int) := of_decide_eq_true as_; have q342 : x4_1 < (l0_0.length : Int) := of_decide_eq_true as_; obtain ⟨ad342, A342_0, c342_0, e342, hx342_0, hl342_0, hi342_0⟩ := at_L3 HR0_0.out x4_1 p342 q342
                      cases e342
                      have hraw342 := Aside0.mk hx342_0; replace hx342_0 := bl_ HB.out hx342_0; have HR342_0 := Aside0.mk hi342_0; have HC342_0 := Aside0.mk hl342_0; clear hi342_0 hl342_0; replace p342 := eq_true p342; replace q342 := eq_true q342
                      go_wp2
                      repeat (go_quiet (fail); try go_wp2)
                      go_roundg k3
                      case measure => have := HK1.out; have := HJ2.out; have := HK3.out; omega
                      case rel => exact ⟨(x3_3), (wrap64 (x4_1 + 1)), rs_, rs_, H', ⟨by have := HK1.out; have := HJ2.out; have := HK3.out; omega⟩, ⟨bq_ BK340.out⟩, ⟨hq1_ HB.out GE340.out⟩⟩
                  · rw [if_neg c11] at H; exact absurd H (by simp)
                · rw [if_neg c10] at H; exact absurd H (by simp)
          · replace c9 := Bool.eq_false_iff.mpr c9; subst c9; rw [if_neg nt_] at H; obtain rfl := Option.some.inj H
            go_wp2
            repeat (go_quiet (fail); try go_wp2)
            go_ret; exact ⟨ew_, hq1_ HB.out GE340.out⟩

/-! ### impl_CountVersions: function 41 -/
def impl_CountVersions.l0 : Nat → Int → List (List (S43)) → Int → Int → Option (Int)
  | 0, _, _, _, _ => none
  | k + 1, x3, x7, x8, x9 => if x9 < x8 then (if 0 ≤ x9 then (if x9 < (x7.length : Int) then (impl_CountVersions.l0 k (wrap64 (x3 + ((rd_L3 x7 x9).length : Int))) x7 x8 (wrap64 (x9 + 1))) else (none)) else (none)) else (some x3)
def impl_CountVersions.f (k : Nat) (l0_0 : List (List (S43))) : Option (Int) := impl_CountVersions.l0 k 0 l0_0 (l0_0.length : Int) 0
theorem impl_CountVersions.mono_l : ∀ k, (∀ y0 y1 y2 y3, LeO (impl_CountVersions.l0 k y0 y1 y2 y3) (impl_CountVersions.l0 (k + 1) y0 y1 y2 y3))
  | 0 => fun _ _ _ _ r h => by simp [impl_CountVersions.l0] at h
  | k + 1 => by
    have ih0 := impl_CountVersions.mono_l k
    · intro y0 y1 y2 y3; unfold impl_CountVersions.l0
      repeat' first
      | (with_reducible first | apply ih0 | exact LeO.refl _ | exact LeO.none _ | refine LeO.ite ?_ ?_ | refine LeO.bind ?_ (fun _ => ?_))
theorem impl_CountVersions.mono : ∀ a0 k, LeO (impl_CountVersions.f k a0) (impl_CountVersions.f (k + 1) a0) := by
  intro a0 k; have ih0 := impl_CountVersions.mono_l k; unfold impl_CountVersions.f
  repeat' first
      | (with_reducible first | apply ih0 | exact LeO.refl _ | exact LeO.none _ | refine LeO.ite ?_ ?_ | refine LeO.bind ?_ (fun _ => ?_))
set_option maxHeartbeats 8000000 in
set_option maxRecDepth 100000 in
theorem impl_CountVersions.calls (k : Nat) (A0_0 : Option Addr) (c0_0 : Nat) (l0_0 : List (List (S43))) (r : Int) (w : World) (hr0_0 : Kd.C (Kd.slice 43 k43) w A0_0 l0_0.length l0_0) (hc0_0 : l0_0.length ≤ c0_0) (h : impl_CountVersions.f k l0_0 = some r) :
    Calls Tryd.prog 41 #[.agg #[.slice A0_0 l0_0.length c0_0]] w fun e w' => e = .returned (.int .i64 r) ∧ Below w.heap.size w w' := by
  have hu52 := Tryd.underlying52; have HR0_0 := Aside0.mk hr0_0; have HC0_0 := Aside0.mk hc0_0; clear hr0_0 hc0_0; have HB := Aside0.mk (Below.refl w.heap.size w); have H : (impl_CountVersions.l0 k 0 l0_0 (l0_0.length : Int) 0) = some r := h; clear h; have H' := Aside0.mk H; clear H
  go_enter Tryd.func41, Tryd.ntmps41
  go_wp2_with (first | ((with_reducible refine gate_dst (N := 1) rfl ?_); refine box_event ?hg (N := 1) ?hd (cs := #[.slice A0_0 l0_0.length c0_0]) (t := 52) ?hr ?_; (case hd => rfl); (case hg => rfl); (case hr => first | (go_simp; done) | (go_simp; rfl)); intro gb347 hg w2 hbox hb; have n0_ := Aside0.mk (below_step (hq0_ HB.out) hb); have n1_ := Aside0.mk (hbox); have n2_ := Aside0.mk ((ws_ hg (hq0_ HB.out) : w.heap.size ≤ gb347)); have n3_ := n2_; clear HB; have HB := n0_; have BK347 := n1_; have GW347 := n2_; have GE347 := n3_; clear n0_ n1_ n2_ n3_; clear hb hbox hg; have hcz3_0 := bc1_ BK347.out; have hfz3_0 := blk_frozen BK347.out 0))
  go_loopg [3, 9] k (fun kq v3 v9 w' => ∃ (x3_1 : Int) (x9_1 : Int), v3 = .int .i64 x3_1 ∧ v9 = .int .i64 x9_1 ∧ Aside0 (impl_CountVersions.l0 kq x3_1 l0_0 (l0_0.length : Int) x9_1 = some r) ∧ Aside0 (kq ≤ k) ∧ Aside0 (w'.heap[gb347]? = some (.cells #[(.slice A0_0 l0_0.length c0_0)] 52 (0, 0))) ∧ Aside0 (Below w.heap.size w w'))
  case atStart => exact ⟨(0), (0), rs_, rs_, H', ⟨Nat.le_refl _⟩, ⟨bq_ BK347.out⟩, ⟨hq1_ HB.out GE347.out⟩⟩
  case round =>
    clear H'; (try clear p2); (try clear hcz3_0); (try clear hfz3_0); obtain ⟨x3_1, x9_1, rfl, rfl, HA, HK1, BK347, HB⟩ := hrel
    cases gk with
    | zero => exact absurd HA.out (by simp [impl_CountVersions.l0])
    | succ k1 =>
      have H := HA.out; clear HA; simp only [impl_CountVersions.l0] at H
      by_cases c4 : x9_1 < (l0_0.length : Int)
      · rw [if_pos c4] at H; have c4b0 : decide (x9_1 < (l0_0.length : Int)) = true := decide_eq_true c4; clear c4
        by_cases c5 : 0 ≤ x9_1
        · rw [if_pos c5] at H; have c5b0 : decide (0 ≤ x9_1) = true := decide_eq_true c5; clear c5
          by_cases c6 : x9_1 < (l0_0.length : Int)
          · rw [if_pos c6] at H; have c6b0 : decide (x9_1 < (l0_0.length : Int)) = true := decide_eq_true c6; clear c6; have H' := Aside0.mk H; clear H; have p348 : 0 ≤ (x9_1 : Int) := of_decide_eq_true as_; have q348 : x9_1 < (l0_0.length : Int) := of_decide_eq_true as_; obtain ⟨ad348, A348_0, c348_0, e348, hx348_0, hl348_0, hi348_0⟩ := at_L3 HR0_0.out x9_1 p348 q348
            cases e348
            replace hx348_0 := bl_ HB.out hx348_0; have HR348_0 := Aside0.mk hi348_0; have HC348_0 := Aside0.mk hl348_0; clear hi348_0 hl348_0; replace p348 := eq_true p348; replace q348 := eq_true q348
            go_wp2
            go_roundg k1
            case measure => have := HK1.out; omega
            case rel => exact ⟨(wrap64 (x3_1 + ((rd_L3 l0_0 x9_1).length : Int))), (wrap64 (x9_1 + 1)), rs_, rs_, H', ⟨by have := HK1.out; omega⟩, ⟨bq_ BK347.out⟩, ⟨hq1_ HB.out GE347.out⟩⟩
          · rw [if_neg c6] at H; exact absurd H (by simp)
        · rw [if_neg c5] at H; exact absurd H (by simp)
      · rw [if_neg c4] at H; have c4b0 : decide (x9_1 < (l0_0.length : Int)) = false := decide_eq_false c4; clear c4; obtain rfl := Option.some.inj H
        go_wp2
        go_ret; exact ⟨ew_, hq1_ HB.out GE347.out⟩

/-! ### spec_CountVersions: function 42 -/
def spec_CountVersions.l0 : Nat → Int → Int → List (List (S43)) → Option (Int)
  | 0, _, _, _ => none
  | k + 1, x3, x4, x350000 => if x4 < (x350000.length : Int) then (if 0 ≤ x4 then (spec_CountVersions.l0 k (wrap64 (x3 + ((rd_L3 x350000 x4).length : Int))) (wrap64 (x4 + 1)) x350000) else (none)) else (some x3)
def spec_CountVersions.f (k : Nat) (l0_0 : List (List (S43))) : Option (Int) := spec_CountVersions.l0 k 0 0 l0_0
theorem spec_CountVersions.mono_l : ∀ k, (∀ y0 y1 y2, LeO (spec_CountVersions.l0 k y0 y1 y2) (spec_CountVersions.l0 (k + 1) y0 y1 y2))
  | 0 => fun _ _ _ r h => by simp [spec_CountVersions.l0] at h
  | k + 1 => by
    have ih0 := spec_CountVersions.mono_l k
    · intro y0 y1 y2; unfold spec_CountVersions.l0
      repeat' first
      | (with_reducible first | apply ih0 | exact LeO.refl _ | exact LeO.none _ | refine LeO.ite ?_ ?_ | refine LeO.bind ?_ (fun _ => ?_))
theorem spec_CountVersions.mono : ∀ a0 k, LeO (spec_CountVersions.f k a0) (spec_CountVersions.f (k + 1) a0) := by
  intro a0 k; have ih0 := spec_CountVersions.mono_l k; unfold spec_CountVersions.f
  repeat' first
      | (with_reducible first | apply ih0 | exact LeO.refl _ | exact LeO.none _ | refine LeO.ite ?_ ?_ | refine LeO.bind ?_ (fun _ => ?_))
set_option maxHeartbeats 8000000 in
set_option maxRecDepth 100000 in
theorem spec_CountVersions.calls (k : Nat) (A0_0 : Option Addr) (c0_0 : Nat) (l0_0 : List (List (S43))) (r : Int) (w : World) (hr0_0 : Kd.C (Kd.slice 43 k43) w A0_0 l0_0.length l0_0) (hc0_0 : l0_0.length ≤ c0_0) (h : spec_CountVersions.f k l0_0 = some r) :
    Calls Tryd.prog 42 #[.agg #[.slice A0_0 l0_0.length c0_0]] w fun e w' => e = .returned (.int .i64 r) ∧ Below w.heap.size w w' := by
  have hu52 := Tryd.underlying52; have HR0_0 := Aside0.mk hr0_0; have HC0_0 := Aside0.mk hc0_0; clear hr0_0 hc0_0; have HB := Aside0.mk (Below.refl w.heap.size w); have H : (spec_CountVersions.l0 k 0 0 l0_0) = some r := h; clear h; have H' := Aside0.mk H; clear H
  go_enter Tryd.func42, Tryd.ntmps42
  go_wp2_with (first | ((with_reducible refine gate_dst (N := 1) rfl ?_); refine box_event ?hg (N := 1) ?hd (cs := #[.slice A0_0 l0_0.length c0_0]) (t := 52) ?hr ?_; (case hd => rfl); (case hg => rfl); (case hr => first | (go_simp; done) | (go_simp; rfl)); intro gb349 hg w2 hbox hb; have n0_ := Aside0.mk (below_step (hq0_ HB.out) hb); have n1_ := Aside0.mk (hbox); have n2_ := Aside0.mk ((ws_ hg (hq0_ HB.out) : w.heap.size ≤ gb349)); have n3_ := n2_; clear HB; have HB := n0_; have BK349 := n1_; have GW349 := n2_; have GE349 := n3_; clear n0_ n1_ n2_ n3_; clear hb hbox hg))
  go_loopg [3, 4] k (fun kq v3 v4 w' => ∃ (x3_1 : Int) (x4_1 : Int), v3 = .int .i64 x3_1 ∧ v4 = .int .i64 x4_1 ∧ Aside0 (spec_CountVersions.l0 kq x3_1 x4_1 l0_0 = some r) ∧ Aside0 (kq ≤ k) ∧ Aside0 (w'.heap[gb349]? = some (.cells #[(.slice A0_0 l0_0.length c0_0)] 52 (0, 0))) ∧ Aside0 (Below w.heap.size w w'))
  case atStart => exact ⟨(0), (0), rs_, rs_, H', ⟨Nat.le_refl _⟩, ⟨bq_ BK349.out⟩, ⟨hq1_ HB.out GE349.out⟩⟩
  case round =>
    clear H'; (try clear p2); obtain ⟨x3_1, x4_1, rfl, rfl, HA, HK1, BK349, HB⟩ := hrel
    cases gk with
    | zero => exact absurd HA.out (by simp [spec_CountVersions.l0])
    | succ k1 =>
      have H := HA.out; clear HA; simp only [spec_CountVersions.l0] at H
      by_cases c3 : x4_1 < (l0_0.length : Int)
      · rw [if_pos c3] at H; have c3b0 : decide (x4_1 < (l0_0.length : Int)) = true := decide_eq_true c3; clear c3
        by_cases c4 : 0 ≤ x4_1
        · rw [if_pos c4] at H; have c4b0 : decide (0 ≤ x4_1) = true := decide_eq_true c4; clear c4; have H' := Aside0.mk H; clear H; have hcz5_0 := bc1_ BK349.out; have hfz5_0 := blk_frozen BK349.out 0; have p350 : 0 ≤ (x4_1 : Int) := of_decide_eq_true as_; have q350 : x4_1 < (l0_0.length : Int) := of_decide_eq_true as_; obtain ⟨ad350, A350_0, c350_0, e350, hx350_0, hl350_0, hi350_0⟩ := at_L3 HR0_0.out x4_1 p350 q350
          cases e350
          replace hx350_0 := bl_ HB.out hx350_0; have HR350_0 := Aside0.mk hi350_0; have HC350_0 := Aside0.mk hl350_0; clear hi350_0 hl350_0; replace p350 := eq_true p350; replace q350 := eq_true q350
          go_wp2
          go_roundg k1
          case measure => have := HK1.out; omega
          case rel => exact ⟨(wrap64 (x3_1 + ((rd_L3 l0_0 x4_1).length : Int))), (wrap64 (x4_1 + 1)), rs_, rs_, H', ⟨by have := HK1.out; omega⟩, ⟨bq_ BK349.out⟩, ⟨hq1_ HB.out GE349.out⟩⟩
        · rw [if_neg c4] at H; exact absurd H (by simp)
      · rw [if_neg c3] at H; have c3b0 : decide (x4_1 < (l0_0.length : Int)) = false := decide_eq_false c3; clear c3; obtain rfl := Option.some.inj H; have hcz6_0 := bc1_ BK349.out; have hfz6_0 := blk_frozen BK349.out 0
        go_wp2
        go_ret; exact ⟨ew_, hq1_ HB.out GE349.out⟩

/-! ### strconv_Itoa: function 57 -/
-- FLAGS TAB
def strconv_Itoa.f (a0 : Int) : Option ByteArray := if -9223372036854775808 ≤ a0 ∧ a0 ≤ 9223372036854775807 then some ⟨(Go.Lib.itoa a0).toArray⟩ else none
theorem strconv_Itoa.calls (a0 : Int) (r : ByteArray) (w : World) (htab : Go.Proofs.YtacdaekigoldaaaDoor.Sh.Door w) (h : strconv_Itoa.f a0 = some r) :
    Calls Tryd.prog 57 #[.int .i64 a0] w fun e w' => e = .returned (.string r) ∧ Below w.heap.size w w' := by
  unfold strconv_Itoa.f at h
  by_cases hk : -9223372036854775808 ≤ a0 ∧ a0 ≤ 9223372036854775807
  · rw [if_pos hk] at h; obtain rfl := Option.some.inj h; refine (Go.Proofs.YtacdaekigoldaaaDoor.Sh.strconv_Itoa a0 hk.1 hk.2 w (by first | exact htab | exact htab.1 | exact htab.1.1)).mono ?_; rintro e w' ⟨rfl, k, os, rfl⟩; exact ⟨rfl, Go.Lib.below_grow _ _ (Nat.le_refl _) _ _⟩
  · rw [if_neg hk] at h
    cases h


/-! ### impl_FormatInt: function 17 -/
def impl_FormatInt.f (a0 : Int) : Option (ByteArray) := (strconv_Itoa.f a0).bind fun t351 => (some t351)
set_option maxHeartbeats 8000000 in
set_option maxRecDepth 100000 in
theorem impl_FormatInt.calls (a0 : Int) (r : ByteArray) (w : World) (htab : Go.Proofs.YtacdaekigoldaaaDoor.Sh.Door w) (h : impl_FormatInt.f a0 = some r) :
    Calls Tryd.prog 17 #[.int .i64 a0] w fun e w' => e = .returned (.string r) ∧ Below w.heap.size w w' := by
  have HTAB := Aside0.mk htab; clear htab; have HB := Aside0.mk (Below.refl w.heap.size w); have H : ((strconv_Itoa.f a0).bind fun t351 => (some t351)) = some r := h; clear h; replace H := Option.bind_eq_some_iff.mp H; obtain ⟨t351, A20, H⟩ := H; have A2 := Aside0.mk A20; clear A20; obtain rfl := Option.some.inj H
  go_enter Tryd.func17, Tryd.ntmps17
  go_wp2_with (first | ((with_reducible refine gate_callee (f := 57) rfl ?_); refine goesL_ (some 4) rfl rfl Tryd.func57 (by kernel_rfl) rfl #[.int .i64 a0] rfl mp_ ?_; (with_reducible refine (strconv_Itoa.calls a0 t351 _ ?tab A2.out).mono ?_); (case tab => exact HTAB.out.below (hq0_ HB.out)); rintro e w3 ⟨rfl, hb⟩; refine ⟨_, rfl, ?_⟩; have n0_ := Aside0.mk (below_step (hq0_ HB.out) hb); clear HB; have HB := n0_; clear n0_; (try clear hb); (try clear hb2); (try clear hk); (try clear hi)))
  go_ret; exact ⟨ew_, hq0_ HB.out⟩

/-! ### impl_formatValue: function 65 -/
def impl_formatValue.f (a0 : Int) : Option (ByteArray) := if a0 = (-1) then (some (⟨#[45]⟩ : ByteArray)) else ((impl_FormatInt.f a0).bind fun t352 => (some t352))
set_option maxHeartbeats 8000000 in
set_option maxRecDepth 100000 in
theorem impl_formatValue.calls (a0 : Int) (r : ByteArray) (w : World) (htab : Go.Proofs.YtacdaekigoldaaaDoor.Sh.Door w) (h : impl_formatValue.f a0 = some r) :
    Calls Tryd.prog 65 #[.int .i64 a0] w fun e w' => e = .returned (.string r) ∧ Below w.heap.size w w' := by
  have HTAB := Aside0.mk htab; clear htab; have HB := Aside0.mk (Below.refl w.heap.size w); have H : (if a0 = (-1) then (some (⟨#[45]⟩ : ByteArray)) else ((impl_FormatInt.f a0).bind fun t352 => (some t352))) = some r := h; clear h
  by_cases c2 : a0 = (-1)
  · rw [if_pos c2] at H; have c2b0 : (a0 == (-1)) = true := beq_iff_eq.mpr c2; have c2b1 : (a0 != (-1)) = false := bne_eq_false_iff_eq.mpr c2; clear c2; obtain rfl := Option.some.inj H
    go_enter Tryd.func65, Tryd.ntmps65
    go_wp2
    go_ret; exact ⟨ew_, hq0_ HB.out⟩
  · rw [if_neg c2] at H; have c2b0 : (a0 == (-1)) = false := beq_eq_false_iff_ne.mpr c2; have c2b1 : (a0 != (-1)) = true := bne_iff_ne.mpr c2; replace H := Option.bind_eq_some_iff.mp H; obtain ⟨t352, A30, H⟩ := H; have A3 := Aside0.mk A30; clear A30; obtain rfl := Option.some.inj H
    go_enter Tryd.func65, Tryd.ntmps65
    go_wp2_with (first | ((with_reducible refine gate_callee (f := 17) rfl ?_); refine goesL_ (some 6) rfl rfl Tryd.func17 (by kernel_rfl) rfl #[.int .i64 a0] rfl mp_ ?_; (with_reducible refine (impl_FormatInt.calls a0 t352 _ ?tab A3.out).mono ?_); (case tab => exact HTAB.out.below (hq0_ HB.out)); rintro e w4 ⟨rfl, hb⟩; refine ⟨_, rfl, ?_⟩; have n0_ := Aside0.mk (below_step (hq0_ HB.out) hb); clear HB; have HB := n0_; clear n0_; (try clear hb); (try clear hb2); (try clear hk); (try clear hi)))
    go_ret; exact ⟨ew_, hq0_ HB.out⟩

/-! ### strings_Join: function 66 -/
-- FLAGS
def strings_Join.f (l0 : List ByteArray) (a1 : ByteArray) : Option ByteArray := if l0.length ≤ 140737488355328 ∧ (Go.Lib.join (l0.map (·.data.toList)) a1.data.toList).length ≤ 140737488355328 then some ⟨(Go.Lib.join (l0.map (·.data.toList)) a1.data.toList).toArray⟩ else none
theorem strings_Join.calls (A0 : Option Addr) (c0 : Nat) (l0 : List ByteArray) (a1 : ByteArray) (r : ByteArray) (w : World) (hr0 : Kd.C Kd.string w A0 l0.length l0) (hc0 : l0.length ≤ c0) (h : strings_Join.f l0 a1 = some r) :
    Calls Tryd.prog 66 #[.slice A0 l0.length c0, .string a1] w fun e w' => e = .returned (.string r) ∧ Below w.heap.size w w' := by
  unfold strings_Join.f at h
  by_cases hk : l0.length ≤ 140737488355328 ∧ (Go.Lib.join (l0.map (·.data.toList)) a1.data.toList).length ≤ 140737488355328
  · rw [if_pos hk] at h; obtain rfl := Option.some.inj h
    by_cases h0 : l0.length = 0
    · obtain rfl : l0 = [] := List.eq_nil_of_length_eq_zero h0; refine (Go.Proofs.YtacdaekigoldaaaDoor.Sh.strings_Join_none A0 c0 a1 w).mono ?_; rintro e w' ⟨rfl, rfl⟩; exact ⟨rfl, Below.refl _ _⟩
    · obtain ⟨ad, rfl, hx⟩ := Kd.at_string hr0 0 (by omega) (by omega)
      have hs : ad.spot = none := by
        have h1 : w.cell? ad = some (.string (rdOf ByteArray.empty l0 0)) := hx; unfold World.cell? at h1
        split at h1
        · split at h1
          · cases h1
          · rename_i h2
            simpa using h2
        · cases h1
      obtain ⟨bk, o, sp⟩ := ad; obtain rfl : sp = none := hs; refine (Go.Proofs.YtacdaekigoldaaaDoor.Sh.strings_Join bk o c0 l0 a1 w ?_ ?_ hk.1 hc0 hk.2).mono ?_
      · intro j x hj; obtain ⟨hjl, hjx⟩ := List.getElem?_eq_some_iff.1 hj; obtain ⟨ad, e, hc⟩ := Kd.at_string hr0 (j : Int) (by omega) (by omega); obtain rfl := Option.some.inj e
        have ea : (Addr.add ⟨bk, o, none⟩ j : Addr) = ⟨bk, o + j, none⟩ := by
          unfold Addr.add
          split
          · rename_i h; subst h; rfl
          · rfl
        rw [Int.toNat_natCast, ea] at hc; rw [hc]; unfold rdOf; rw [Int.toNat_natCast, List.getD_eq_getElem?_getD, hj]; rfl
      · exact World.block_lt_of_cell? w _ hx
      · rintro e w' ⟨rfl, hb⟩; exact ⟨rfl, hb⟩
  · rw [if_neg hk] at h
    cases h


/-! ### impl_FormatState: function 45 -/
def impl_FormatState.l0 : Nat → List ByteArray → List Int → Int → Int → Option (ByteArray)
  | 0, _, _, _, _ => none
  | k + 1, x3, x7, x8, x9 => if x9 < x8 then (if 0 ≤ x9 then (if x9 < (x7.length : Int) then ((impl_isValue.f (rd x7 x9)).bind fun t358 => (if t358 = true then ((impl_formatValue.f (rd x7 x9)).bind fun t359 => (if x3.length < 8796093022208 then (impl_FormatState.l0 k (x3 ++ [t359]) x7 x8 (wrap64 (x9 + 1))) else (none))) else (some (⟨#[]⟩ : ByteArray)))) else (none)) else (none)) else ((strings_Join.f x3 (⟨#[32]⟩ : ByteArray)).bind fun t356 => (some t356))
def impl_FormatState.f (k : Nat) (l0 : List Int) : Option (ByteArray) := impl_FormatState.l0 k (([] : List ByteArray)) l0 (l0.length : Int) 0
theorem impl_FormatState.mono_l : ∀ k, (∀ y0 y1 y2 y3, LeO (impl_FormatState.l0 k y0 y1 y2 y3) (impl_FormatState.l0 (k + 1) y0 y1 y2 y3))
  | 0 => fun _ _ _ _ r h => by simp [impl_FormatState.l0] at h
  | k + 1 => by
    have ih0 := impl_FormatState.mono_l k
    · intro y0 y1 y2 y3; unfold impl_FormatState.l0
      repeat' first
      | (with_reducible first | apply ih0 | exact LeO.refl _ | exact LeO.none _ | refine LeO.ite ?_ ?_ | refine LeO.bind ?_ (fun _ => ?_))
theorem impl_FormatState.mono : ∀ a0 k, LeO (impl_FormatState.f k a0) (impl_FormatState.f (k + 1) a0) := by
  intro a0 k; have ih0 := impl_FormatState.mono_l k; unfold impl_FormatState.f
  repeat' first
      | (with_reducible first | apply ih0 | exact LeO.refl _ | exact LeO.none _ | refine LeO.ite ?_ ?_ | refine LeO.bind ?_ (fun _ => ?_))
set_option maxHeartbeats 8000000 in
set_option maxRecDepth 100000 in
theorem impl_FormatState.calls (k : Nat) (A0 : Option Addr) (c0 : Nat) (l0 : List Int) (r : ByteArray) (w : World) (hr0 : Kd.C (Kd.int .i64) w A0 l0.length l0) (hc0 : l0.length ≤ c0) (htab : Go.Proofs.YtacdaekigoldaaaDoor.Sh.Door w) (h : impl_FormatState.f k l0 = some r) :
    Calls Tryd.prog 45 #[.slice A0 l0.length c0] w fun e w' => e = .returned (.string r) ∧ Below w.heap.size w w' := by
  have HTAB := Aside0.mk htab; clear htab; have HR0 := Aside0.mk hr0; have HC0 := Aside0.mk hc0; clear hr0 hc0; have HB := Aside0.mk (Below.refl w.heap.size w); have H : (impl_FormatState.l0 k (([] : List ByteArray)) l0 (l0.length : Int) 0) = some r := h; clear h; obtain ⟨y353, hy353⟩ : ∃ y_ : List ByteArray, y_ = (([] : List ByteArray)) := ⟨_, rfl⟩; (replace H : (impl_FormatState.l0 k y353 l0 (l0.length : Int) 0) = some r := by first | (rw [hy353]; with_reducible exact H) | (have H2_ := (Option.bind_some _ _).symm.trans H; rw [hy353]; with_reducible exact H2_) | (have H2_ := (Option.bind_some _ _).symm.trans H; with_reducible exact H2_) | with_reducible exact H | (rw [hy353]; exact H) | exact H); have Ny353 := Aside0.mk hy353; clear hy353; have H' := Aside0.mk H; clear H
  go_enter Tryd.func45, Tryd.ntmps45
  go_wp2_with (first | ((with_reducible refine gate_dst (N := 6) rfl ?_); refine Kd.R_lit Kd.string _ 9 ?hg (N := 6) ?hd (xs := ([] : List ByteArray)) (inner := []) (ok := fun _ => True) (okp := fun _ => True) ?hr ?hp (fun _ hk => hk) trivial (Below.refl _ _) (Nat.le_refl _) (by simp) ?_; (case hd => rfl); (case hg => rfl); (case hr => first | (go_simp; done) | (go_simp; rfl)); (case hp => exact (Reps.none _ _)); intro v354 w2 ho3 hb hg_ hnew_; clear hg_ hnew_; (first | rw [← Ny353.out] at ho3 | (simp only [Int.reduceToNat] at ho3; rw [← Ny353.out] at ho3)); have n0_ := Aside0.mk (Kd.R_lower ho3 (below_size (hq0_ HB.out))); have n1_ := Aside0.mk (below_step (hq0_ HB.out) hb); clear HB; have HO355 := n0_; have HB := n1_; clear n0_ n1_; clear hb ho3))
  go_loopg [3, 9] k (fun kq v3 v9 w' => ∃ (x3_1 : List ByteArray) (x9_1 : Int), v9 = .int .i64 x9_1 ∧ Aside0 (impl_FormatState.l0 kq x3_1 l0 (l0.length : Int) x9_1 = some r) ∧ Aside0 (kq ≤ k) ∧ Aside0 (Kd.R Kd.string 9 w' w.heap.size (fun _ => True) v3 x3_1) ∧ Aside0 (Below w.heap.size w w'))
  case atStart => exact ⟨(y353), (0), rs_, H', ⟨Nat.le_refl _⟩, ⟨by (with_reducible repeat (first | apply Kd.R_alloc | apply Kd.R_drewN | apply Kd.R_drew)); exact HO355.out⟩, ⟨hq0_ HB.out⟩⟩
  case round =>
    clear H'; (try clear p2); obtain ⟨x3_1, x9_1, rfl, HA, HK1, HO_3, HB⟩ := hrel
    cases gk with
    | zero => exact absurd HA.out (by simp [impl_FormatState.l0])
    | succ k1 =>
      have H := HA.out; clear HA; simp only [impl_FormatState.l0] at H
      by_cases c4 : x9_1 < (l0.length : Int)
      · rw [if_pos c4] at H; have c4b0 : decide (x9_1 < (l0.length : Int)) = true := decide_eq_true c4; clear c4
        by_cases c5 : 0 ≤ x9_1
        · rw [if_pos c5] at H; have c5b0 : decide (0 ≤ x9_1) = true := decide_eq_true c5; clear c5
          by_cases c6 : x9_1 < (l0.length : Int)
          · rw [if_pos c6] at H; have c6b0 : decide (x9_1 < (l0.length : Int)) = true := decide_eq_true c6; clear c6; replace H := Option.bind_eq_some_iff.mp H; obtain ⟨t358, A70, H⟩ := H; have A7 := Aside0.mk A70; clear A70
            by_cases c8 : t358 = true
            · subst c8; rw [if_pos rfl] at H; replace H := Option.bind_eq_some_iff.mp H; obtain ⟨t359, A90, H⟩ := H; have A9 := Aside0.mk A90; clear A90
              by_cases c10 : x3_1.length < 8796093022208
              · rw [if_pos c10] at H; have LMc10 := Aside0.mk c10; clear c10; obtain ⟨y360, hy360⟩ : ∃ y_ : List ByteArray, y_ = (x3_1 ++ [t359]) := ⟨_, rfl⟩; (replace H : (impl_FormatState.l0 k1 y360 l0 (l0.length : Int) (wrap64 (x9_1 + 1))) = some r := by first | (rw [hy360]; with_reducible exact H) | (have H2_ := (Option.bind_some _ _).symm.trans H; rw [hy360]; with_reducible exact H2_) | (have H2_ := (Option.bind_some _ _).symm.trans H; with_reducible exact H2_) | with_reducible exact H | (rw [hy360]; exact H) | exact H); have Ny360 := Aside0.mk hy360; clear hy360; have H' := Aside0.mk H; clear H; have p357 : 0 ≤ (x9_1 : Int) := of_decide_eq_true as_; have q357 : x9_1 < (l0.length : Int) := of_decide_eq_true as_; obtain ⟨ad357, e357, hx357_0⟩ := Kd.at_int HR0.out x9_1 p357 q357
                cases e357
                replace hx357_0 := bl_ HB.out hx357_0; replace p357 := eq_true p357; replace q357 := eq_true q357
                go_wp2_with (first | ((with_reducible refine gate_callee (f := 77) rfl ?_); refine goesL_ (some 14) rfl rfl Tryd.func77 (by kernel_rfl) rfl #[.int .i64 (rd l0 x9_1)] rfl mp_ ?_; (with_reducible refine (impl_isValue.calls (rd l0 x9_1) true _ A7.out).mono ?_); rintro e w' ⟨rfl, ⟨nd, rfl⟩⟩; refine ⟨_, rfl, ?_⟩) | ((with_reducible refine gate_callee (f := 65) rfl ?_); refine goesL_ (some 18) rfl rfl Tryd.func65 (by kernel_rfl) rfl #[.int .i64 (rd l0 x9_1)] rfl mp_ ?_; (with_reducible refine (impl_formatValue.calls (rd l0 x9_1) t359 _ ?tab A9.out).mono ?_); (case tab => exact HTAB.out.below (hq0_ HB.out)); rintro e w11 ⟨rfl, hb⟩; refine ⟨_, rfl, ?_⟩; have n0_ := Aside0.mk (Kd.R_below (by (with_reducible repeat (first | apply Kd.R_alloc | apply Kd.R_drewN | apply Kd.R_drew)); exact HO_3.out) hb); have n1_ := Aside0.mk (below_step (hq0_ HB.out) hb); clear HO_3; clear HB; have HO_3 := n0_; have HB := n1_; clear n0_ n1_; (try clear hb); (try clear hb2); (try clear hk); (try clear hi)) | ((with_reducible refine gate_builtin (b := .append) (xs := #[.tmp 16, .tmp 19]) rfl ?_); at_builtin; refine Kd.R_append Kd.string (w0 := w) w.heap.size rfl (.tmp 16) (.tmp 19) 80 9 (.string ⟨#[]⟩) 16 rfl Tryd.underlying80 info9 rfl (by decide) (by omega) u3 x3_1 t359 [.string t359] (fun _ => True) (fun _ => False) rfl rfl ?aP (fun _ hk => hk.elim) ?aF ?aO ?aB ?aS ?aL ?_; (case aP => exact rfl); (case aB => exact (hq0_ HB.out)); (case aF => exact (fun _ _ => trivial)); (case aO => exact (by (with_reducible repeat (first | apply Kd.R_alloc | apply Kd.R_drewN | apply Kd.R_drew)); exact HO_3.out)); (case aS => exact (below_size (hq0_ HB.out))); (case aL => have := LMc10.out; omega); intro v361 w12 ho hb hg hat; rw [← Ny360.out] at ho; have n0_ := Aside0.mk (hb); have n1_ := Aside0.mk (ho); clear HB; clear HO_3; have HB := n0_; have HO362 := n1_; clear n0_ n1_; clear ho hb hg hat))
                go_roundg k1
                case measure => have := HK1.out; omega
                case rel => exact ⟨(y360), (wrap64 (x9_1 + 1)), rs_, H', ⟨by have := HK1.out; omega⟩, ⟨by (with_reducible repeat (first | apply Kd.R_alloc | apply Kd.R_drewN | apply Kd.R_drew)); exact HO362.out⟩, ⟨hq0_ HB.out⟩⟩
              · rw [if_neg c10] at H; exact absurd H (by simp)
            · replace c8 := Bool.eq_false_iff.mpr c8; subst c8; rw [if_neg nt_] at H; obtain rfl := Option.some.inj H; have p357 : 0 ≤ (x9_1 : Int) := of_decide_eq_true as_; have q357 : x9_1 < (l0.length : Int) := of_decide_eq_true as_; obtain ⟨ad357, e357, hx357_0⟩ := Kd.at_int HR0.out x9_1 p357 q357
              cases e357
              replace hx357_0 := bl_ HB.out hx357_0; replace p357 := eq_true p357; replace q357 := eq_true q357
              go_wp2_with (first | ((with_reducible refine gate_callee (f := 77) rfl ?_); refine goesL_ (some 14) rfl rfl Tryd.func77 (by kernel_rfl) rfl #[.int .i64 (rd l0 x9_1)] rfl mp_ ?_; (with_reducible refine (impl_isValue.calls (rd l0 x9_1) false _ A7.out).mono ?_); rintro e w' ⟨rfl, ⟨nd, rfl⟩⟩; refine ⟨_, rfl, ?_⟩))
              go_ret; exact ⟨ew_, hq0_ HB.out⟩
          · rw [if_neg c6] at H; exact absurd H (by simp)
        · rw [if_neg c5] at H; exact absurd H (by simp)
      · rw [if_neg c4] at H; have c4b0 : decide (x9_1 < (l0.length : Int)) = false := decide_eq_false c4; clear c4; replace H := Option.bind_eq_some_iff.mp H; obtain ⟨t356, A130, H⟩ := H; have A13 := Aside0.mk A130; clear A130; obtain rfl := Option.some.inj H; obtain ⟨Ao14, co14, eo14⟩ := Kd.R_slice HO_3.out; subst eo14
        go_wp2_with (first | ((with_reducible refine gate_callee (f := 66) rfl ?_); refine goesL_ (some 23) rfl rfl Tryd.func66 (by kernel_rfl) rfl #[.slice Ao14 x3_1.length co14, .string (⟨#[32]⟩ : ByteArray)] rfl mp_ ?_; (with_reducible refine (strings_Join.calls _ _ x3_1 (⟨#[32]⟩ : ByteArray) t356 _ ?side1 ?side2 A13.out).mono ?_); (case side1 => repeat (first | exact (Kd.R_reads' HO_3.out).2.2 | (with_reducible refine Kd.C_alloc ?_ _) | (with_reducible refine Kd.C_drewN ?_ _) | (with_reducible refine Kd.C_drew ?_))); (case side2 => exact (Kd.R_reads' HO_3.out).2.1); rintro e w15 ⟨rfl, hb⟩; refine ⟨_, rfl, ?_⟩; have n0_ := Aside0.mk (Kd.R_below (by (with_reducible repeat (first | apply Kd.R_alloc | apply Kd.R_drewN | apply Kd.R_drew)); exact HO_3.out) hb); have n1_ := Aside0.mk (below_step (hq0_ HB.out) hb); clear HO_3; clear HB; have HO_3 := n0_; have HB := n1_; clear n0_ n1_; (try clear hb); (try clear hb2); (try clear hk); (try clear hi)))
        go_ret; exact ⟨ew_, hq0_ HB.out⟩

end Go.Proofs.YtacdaekigoldaaaDoor.PFnStores
