-- Printed by my own myprint.py out of the translation of the seat Ytbcllflajakajaa. Not trusted: Lean checks it.
import Derived.Test.YtbcllflajakajaaPFnExactExcludingPairx0
import Derived.Test.YtbcllflajakajaaPFnExactExcludingPairx5
namespace Go.Proofs.Ytbcllflajakajaa.PFnExactExcludingPair
open Go.RowKit Go.Proofs.YtbcllflajakajaaW.PrintWords Go.Proofs.YtbcllflajakajaaW.PrintLast Go.Proofs.YtbcllflajakajaaW.PrintMore
attribute [local go_sem] max2_int min2_int max_two min_two max_three min_three max_four min_four   -- for this text's walks alone
set_option linter.unusedVariables false
set_option linter.unusedSimpArgs false

/-! ### spec_LastStamp: function 57 -/
mutual
def spec_LastStamp.l0 : Nat → Int → Int → List (List (S65)) → Option (Int)
  | 0, _, _, _ => none
  | k + 1, x3, x4, x245000 => if x4 < (x245000.length : Int) then ((spec_IsValidStore.f k x245000).bind fun t245 => (spec_LastStamp.j1 k x3 x4 t245 x245000)) else (spec_LastStamp.j1 k x3 x4 false x245000)
def spec_LastStamp.j1 : Nat → Int → Int → Bool → List (List (S65)) → Option (Int)
  | 0, _, _, _, _ => none
  | k + 1, x3, x4, x14, x245000 => if x14 = true then (spec_LastStamp.l1 k x3 x4 0 x245000) else (some x3)
def spec_LastStamp.l1 : Nat → Int → Int → Int → List (List (S65)) → Option (Int)
  | 0, _, _, _, _ => none
  | k + 1, x3, x4, x5, x245000 => if 0 ≤ x4 then (if x4 < (x245000.length : Int) then (if x5 < ((rd_L6 x245000 x4).length : Int) then (if 0 ≤ x5 then (spec_LastStamp.l1 k (mx (mx x3 ((rd_T65 (rd_L6 x245000 x4) x5).f2)) ((rd_T65 (rd_L6 x245000 x4) x5).f3)) x4 (wrap64 (x5 + 1)) x245000) else (none)) else (spec_LastStamp.l0 k x3 (wrap64 (x4 + 1)) x245000)) else (none)) else (none)
end
def spec_LastStamp.f (k : Nat) (l0_0 : List (List (S65))) : Option (Int) := spec_LastStamp.l0 k 0 0 l0_0
theorem spec_LastStamp.mono_l : ∀ k, (∀ y0 y1 y2, LeO (spec_LastStamp.l0 k y0 y1 y2) (spec_LastStamp.l0 (k + 1) y0 y1 y2)) ∧ (∀ y0 y1 y2 y3, LeO (spec_LastStamp.j1 k y0 y1 y2 y3) (spec_LastStamp.j1 (k + 1) y0 y1 y2 y3)) ∧ (∀ y0 y1 y2 y3, LeO (spec_LastStamp.l1 k y0 y1 y2 y3) (spec_LastStamp.l1 (k + 1) y0 y1 y2 y3))
  | 0 => ⟨fun _ _ _ r h => by simp [spec_LastStamp.l0] at h, fun _ _ _ _ r h => by simp [spec_LastStamp.j1] at h, fun _ _ _ _ r h => by simp [spec_LastStamp.l1] at h⟩
  | k + 1 => by
    obtain ⟨ih0, ih1, ih2⟩ := spec_LastStamp.mono_l k; refine ⟨?_, ?_, ?_⟩
    · intro y0 y1 y2; unfold spec_LastStamp.l0
      repeat' first
      | (with_reducible first | apply ih0 | apply ih1 | apply ih2 | apply spec_IsValidStore.mono | exact LeO.refl _ | exact LeO.none _ | refine LeO.ite ?_ ?_ | refine LeO.bind ?_ (fun _ => ?_))
    · intro y0 y1 y2 y3; unfold spec_LastStamp.j1
      repeat' first
      | (with_reducible first | apply ih0 | apply ih1 | apply ih2 | apply spec_IsValidStore.mono | exact LeO.refl _ | exact LeO.none _ | refine LeO.ite ?_ ?_ | refine LeO.bind ?_ (fun _ => ?_))
    · intro y0 y1 y2 y3; unfold spec_LastStamp.l1
      repeat' first
      | (with_reducible first | apply ih0 | apply ih1 | apply ih2 | apply spec_IsValidStore.mono | exact LeO.refl _ | exact LeO.none _ | refine LeO.ite ?_ ?_ | refine LeO.bind ?_ (fun _ => ?_))
theorem spec_LastStamp.mono : ∀ a0 k, LeO (spec_LastStamp.f k a0) (spec_LastStamp.f (k + 1) a0) := by
  intro a0 k; obtain ⟨ih0, ih1, ih2⟩ := spec_LastStamp.mono_l k; unfold spec_LastStamp.f
  repeat' first
      | (with_reducible first | apply ih0 | apply ih1 | apply ih2 | apply spec_IsValidStore.mono | exact LeO.refl _ | exact LeO.none _ | refine LeO.ite ?_ ?_ | refine LeO.bind ?_ (fun _ => ?_))
set_option maxHeartbeats 8000000 in
set_option maxRecDepth 100000 in
theorem spec_LastStamp.calls (k : Nat) (A0_0 : Option Addr) (c0_0 : Nat) (l0_0 : List (List (S65))) (r : Int) (w : World) (hr0_0 : Kd.C (Kd.slice 65 k65) w A0_0 l0_0.length l0_0) (hc0_0 : l0_0.length ≤ c0_0) (h : spec_LastStamp.f k l0_0 = some r) :
    Calls Try.prog 57 #[.agg #[.slice A0_0 l0_0.length c0_0]] w fun e w' => e = .returned (.int .i64 r) ∧ Below w.heap.size w w' := by
  have hu34 := Try.underlying34; have HR0_0 := Aside0.mk hr0_0; have HC0_0 := Aside0.mk hc0_0; clear hr0_0 hc0_0; have HB := Aside0.mk (Below.refl w.heap.size w); have H : (spec_LastStamp.l0 k 0 0 l0_0) = some r := h; clear h; have H' := Aside0.mk H; clear H
  go_enter Try.func57, Try.ntmps57
  go_wp2_with (first | ((with_reducible refine gate_dst (N := 1) rfl ?_); refine be_ 1 #[.slice A0_0 l0_0.length c0_0] 34 ?_; intro gb244 hg w2 hbox hb; have BK244 := Aside0.mk (hbox); have GW244 := wk_ hg HB; replace HB := hs_ HB hb; have GE244 := GW244; clear hb hbox hg))
  repeat (go_quiet (first | ((with_reducible refine gate_dst (N := 1) rfl ?_); refine be_ 1 #[.slice A0_0 l0_0.length c0_0] 34 ?_; intro gb244 hg w2 hbox hb; have BK244 := Aside0.mk (hbox); have GW244 := wk_ hg HB; replace HB := hs_ HB hb; have GE244 := GW244; clear hb hbox hg)); try go_wp2_with (first | ((with_reducible refine gate_dst (N := 1) rfl ?_); refine be_ 1 #[.slice A0_0 l0_0.length c0_0] 34 ?_; intro gb244 hg w2 hbox hb; have BK244 := Aside0.mk (hbox); have GW244 := wk_ hg HB; replace HB := hs_ HB hb; have GE244 := GW244; clear hb hbox hg)))
  go_loopg [3, 4] k (fun kq v3 v4 w' => ∃ (x3_1 : Int) (x4_1 : Int), v3 = .int .i64 x3_1 ∧ v4 = .int .i64 x4_1 ∧ Aside0 (spec_LastStamp.l0 kq x3_1 x4_1 l0_0 = some r) ∧ Aside0 (kq ≤ k) ∧ Aside0 (w'.heap[gb244]? = some (.cells #[(.slice A0_0 l0_0.length c0_0)] 34 (0, 0))) ∧ Aside0 (Below w.heap.size w w'))
  case atStart => exact ⟨(0), (0), rs_, rs_, H', ⟨Nat.le_refl _⟩, ⟨bq_ BK244.out⟩, ⟨hbw_ HB⟩⟩
  case round =>
    clear H'; obtain ⟨x3_1, x4_1, rfl, rfl, HA, HK1, BK244, HB⟩ := hrel
    cases gk with
    | zero => exact absurd HA.out (by simp [spec_LastStamp.l0])
    | succ k1 =>
      have H := HA.out; clear HA; simp only [spec_LastStamp.l0] at H; have HC3 := Aside0.mk H; clear H
      go_upto_region 3 with (fail)
      repeat (go_quiet (fail); go_upto_region 3 with (fail))
      go_cut [14] (fun v14 wc => ∃ (kq : Nat) (x14_2 : Bool), v14 = .bool x14_2 ∧ Aside0 (spec_LastStamp.j1 kq x3_1 x4_1 x14_2 l0_0 = some r) ∧ Aside0 (kq ≤ k1) ∧ Aside0 (wc.heap[gb244]? = some (.cells #[(.slice A0_0 l0_0.length c0_0)] 34 (0, 0))) ∧ Aside0 (Below w.heap.size w wc))
      case first =>
        have H := HC3.out; clear HC3
        by_cases c4 : x4_1 < (l0_0.length : Int)
        · rw [if_pos c4] at H; have c4b0 : decide (x4_1 < (l0_0.length : Int)) = true := decide_eq_true c4; clear c4; (first | rw [c4b0] | (simp only [i64_w, i32_w]; rw [c4b0]) | skip); replace H := Option.bind_eq_some_iff.mp H; obtain ⟨t245, A50, H⟩ := H; have A5 := Aside0.mk A50; clear A50; have H' := Aside0.mk H; clear H; have hcz6_0 := bc1_ BK244.out; have hfz6_0 := blk_frozen BK244.out 0
          go_wp2_with (first | (go_at_call 48; (with_reducible refine (spec_IsValidStore.calls k1 _ _ l0_0 t245 _ ?side1 ?side2 A5.out).mono ?_); (case side1 => exact cq_ HR0_0.out HB.out); (case side2 => exact HC0_0.out); rintro e w7 ⟨rfl, hb⟩; replace BK244 := bb_ BK244 hb; replace HB := hs_ HB hb; (try clear hb); (try clear hb2); (try clear hk); (try clear hi)))
          repeat (go_quiet (first | (go_at_call 48; (with_reducible refine (spec_IsValidStore.calls k1 _ _ l0_0 t245 _ ?side1 ?side2 A5.out).mono ?_); (case side1 => exact cq_ HR0_0.out HB.out); (case side2 => exact HC0_0.out); rintro e w7 ⟨rfl, hb⟩; replace BK244 := bb_ BK244 hb; replace HB := hs_ HB hb; (try clear hb); (try clear hb2); (try clear hk); (try clear hi))); try go_wp2_with (first | (go_at_call 48; (with_reducible refine (spec_IsValidStore.calls k1 _ _ l0_0 t245 _ ?side1 ?side2 A5.out).mono ?_); (case side1 => exact cq_ HR0_0.out HB.out); (case side2 => exact HC0_0.out); rintro e w7 ⟨rfl, hb⟩; replace BK244 := bb_ BK244 hb; replace HB := hs_ HB hb; (try clear hb); (try clear hb2); (try clear hk); (try clear hi))))
          go_meet
          case rel => exact ⟨_, (t245), rs_, H', ⟨by have := HK1.out; first | omega | exact Nat.le_refl _⟩, ⟨bq_ BK244.out⟩, ⟨hbw_ HB⟩⟩
        · rw [if_neg c4] at H; have c4b0 : decide (x4_1 < (l0_0.length : Int)) = false := decide_eq_false c4; clear c4; (first | rw [c4b0] | (simp only [i64_w, i32_w]; rw [c4b0]) | skip); have H' := Aside0.mk H; clear H; have hcz8_0 := bc1_ BK244.out; have hfz8_0 := blk_frozen BK244.out 0
          go_wp2
          repeat (go_quiet (fail); try go_wp2)
          go_meet
          case rel => exact ⟨_, (false), rs_, H', ⟨by have := HK1.out; first | omega | exact Nat.le_refl _⟩, ⟨bq_ BK244.out⟩, ⟨hbw_ HB⟩⟩
      case rest =>
        clear HC3; (try clear c4b0); (try clear hcz6_0); (try clear hcz8_0); (try clear hfz6_0); (try clear hfz8_0); obtain ⟨kq, x14_2, rfl, HA, HJ2, BK244, HB⟩ := hcut
        cases kq with
        | zero => exact absurd HA.out (by simp [spec_LastStamp.j1])
        | succ kj2 =>
          have H := HA.out; clear HA; simp only [spec_LastStamp.j1] at H
          by_cases c9 : x14_2 = true
          · subst c9; rw [if_pos rfl] at H; have H' := Aside0.mk H; clear H
            go_wp2
            repeat (go_quiet (fail); try go_wp2)
            go_loopg [3, 5] kj2 (fun kq v3 v5 w' => ∃ (x3_3 : Int) (x5_3 : Int), v3 = .int .i64 x3_3 ∧ v5 = .int .i64 x5_3 ∧ Aside0 (spec_LastStamp.l1 kq x3_3 x4_1 x5_3 l0_0 = some r) ∧ Aside0 (kq ≤ kj2) ∧ Aside0 (w'.heap[gb244]? = some (.cells #[(.slice A0_0 l0_0.length c0_0)] 34 (0, 0))) ∧ Aside0 (Below w.heap.size w w'))
            case atStart => exact ⟨(x3_1), (0), rs_, rs_, H', ⟨Nat.le_refl _⟩, ⟨bq_ BK244.out⟩, ⟨hbw_ HB⟩⟩
            case round =>
              clear H'; (try clear c4b0); (try clear hcz6_0); (try clear hcz8_0); (try clear hfz6_0); (try clear hfz8_0); obtain ⟨x3_3, x5_3, rfl, rfl, HA, HK3, BK244, HB⟩ := hrel
              cases gk with
              | zero => exact absurd HA.out (by simp [spec_LastStamp.l1])
              | succ k3 =>
                have H := HA.out; clear HA; simp only [spec_LastStamp.l1] at H
                by_cases c10 : 0 ≤ x4_1
                · rw [if_pos c10] at H; have c10b0 : decide (0 ≤ x4_1) = true := decide_eq_true c10; clear c10
                  by_cases c11 : x4_1 < (l0_0.length : Int)
                  · rw [if_pos c11] at H; have c11b0 : decide (x4_1 < (l0_0.length : Int)) = true := decide_eq_true c11; clear c11
                    by_cases c12 : x5_3 < ((rd_L6 l0_0 x4_1).length : Int)
                    · rw [if_pos c12] at H; have c12b0 : decide (x5_3 < ((rd_L6 l0_0 x4_1).length : Int)) = true := decide_eq_true c12; clear c12
                      by_cases c13 : 0 ≤ x5_3
                      · rw [if_pos c13] at H; have c13b0 : decide (0 ≤ x5_3) = true := decide_eq_true c13; clear c13; obtain ⟨ji14, hji14⟩ : ∃ j_ : Int, (mx x3_3 ((rd_T65 (rd_L6 l0_0 x4_1) x5_3).f2)) = j_ := ⟨_, rfl⟩; (replace H : (spec_LastStamp.l1 k3 (mx (ji14) ((rd_T65 (rd_L6 l0_0 x4_1) x5_3).f3)) x4_1 (wrap64 (x5_3 + 1)) l0_0) = some r := by first | (rw [hji14] at H; exact H) | (simp only [hji14] at H ⊢; exact H)); have hji14_ : (if x3_3 < ((rd_T65 (rd_L6 l0_0 x4_1) x5_3).f2) then ((rd_T65 (rd_L6 l0_0 x4_1) x5_3).f2) else x3_3) = ji14 := hji14; obtain ⟨ji15, hji15⟩ : ∃ j_ : Int, (mx (ji14) ((rd_T65 (rd_L6 l0_0 x4_1) x5_3).f3)) = j_ := ⟨_, rfl⟩; (replace H : (spec_LastStamp.l1 k3 ji15 x4_1 (wrap64 (x5_3 + 1)) l0_0) = some r := by first | (rw [hji15] at H; exact H) | (simp only [hji15] at H ⊢; exact H)); have hji15_ : (if (ji14) < ((rd_T65 (rd_L6 l0_0 x4_1) x5_3).f3) then ((rd_T65 (rd_L6 l0_0 x4_1) x5_3).f3) else (ji14)) = ji15 := hji15; have H' := Aside0.mk H; clear H; have hcz16_0 := bc1_ BK244.out; have hfz16_0 := blk_frozen BK244.out 0; have p246 : 0 ≤ (x4_1 : Int) := of_decide_eq_true as_; have q246 : x4_1 < (l0_0.length : Int) := of_decide_eq_true as_; obtain ⟨ad246, A246_0, c246_0, e246, hx246_0, hl246_0, hi246_0⟩ := at_L6 HR0_0.out x4_1 p246 q246
                        cases e246
                        have hraw246 := Aside0.mk hx246_0; replace hx246_0 := bl_ HB.out hx246_0; have HR246_0 := Aside0.mk hi246_0; have HC246_0 := Aside0.mk hl246_0; clear hi246_0 hl246_0; replace p246 := eq_true p246; replace q246 := eq_true q246; have p247 : 0 ≤ (x4_1 : Int) := of_decide_eq_true as_; have q247 : x4_1 < (l0_0.length : Int) := of_decide_eq_true as_; obtain ⟨ad247, A247_0, c247_0, e247, hx247_0, hl247_0, hi247_0⟩ := at_L6 HR0_0.out x4_1 p247 q247; obtain rfl : ad246 = ad247 := (by injection e247); have hraw247 := Aside0.mk hx247_0; replace hx247_0 := bl_ HB.out hx247_0; have HR247_0 := Aside0.mk hi247_0; have HC247_0 := Aside0.mk hl247_0; clear hi247_0 hl247_0; replace p247 := eq_true p247; replace q247 := eq_true q247; have ea_ := Option.some.inj (hraw246.out.symm.trans hraw247.out); injection ea_ with ea_ en_ ec_; subst ea_; subst ec_; clear en_; have p248 : 0 ≤ (x5_3 : Int) := of_decide_eq_true as_; have q248 : x5_3 < ((rd_L6 l0_0 x4_1).length : Int) := of_decide_eq_true as_; obtain ⟨ad248, e248, hx248_0, hx248_1, hx248_2, hx248_3, hx248_4⟩ := at_T65 HR247_0.out x5_3 p248 q248
                        cases e248
                        replace hx248_0 := bl_ HB.out hx248_0; replace hx248_1 := bl_ HB.out hx248_1; replace hx248_2 := bl_ HB.out hx248_2; replace hx248_3 := bl_ HB.out hx248_3; replace hx248_4 := bl_ HB.out hx248_4; replace p248 := eq_true p248; replace q248 := eq_true q248; have p249 : 0 ≤ (x4_1 : Int) := of_decide_eq_true as_; have q249 : x4_1 < (l0_0.length : Int) := of_decide_eq_true as_; obtain ⟨ad249, A249_0, c249_0, e249, hx249_0, hl249_0, hi249_0⟩ := at_L6 HR0_0.out x4_1 p249 q249; obtain rfl : ad246 = ad249 := (by injection e249); have hraw249 := Aside0.mk hx249_0; replace hx249_0 := bl_ HB.out hx249_0; have HR249_0 := Aside0.mk hi249_0; have HC249_0 := Aside0.mk hl249_0; clear hi249_0 hl249_0; replace p249 := eq_true p249; replace q249 := eq_true q249; have ea_ := Option.some.inj (hraw246.out.symm.trans hraw249.out); injection ea_ with ea_ en_ ec_; subst ea_; subst ec_; clear en_; have p250 : 0 ≤ (x5_3 : Int) := of_decide_eq_true as_; have q250 : x5_3 < ((rd_L6 l0_0 x4_1).length : Int) := of_decide_eq_true as_; obtain ⟨ad250, e250, hx250_0, hx250_1, hx250_2, hx250_3, hx250_4⟩ := at_T65 HR249_0.out x5_3 p250 q250
                        cases e250
                        replace hx250_0 := bl_ HB.out hx250_0; replace hx250_1 := bl_ HB.out hx250_1; replace hx250_2 := bl_ HB.out hx250_2; replace hx250_3 := bl_ HB.out hx250_3; replace hx250_4 := bl_ HB.out hx250_4; replace p250 := eq_true p250; replace q250 := eq_true q250
                        go_wp2
                        repeat (go_quiet (fail); try go_wp2)
                        go_roundg k3
                        case measure => have := HK1.out; have := HJ2.out; have := HK3.out; omega
                        case rel => exact ⟨(ji15), (wrap64 (x5_3 + 1)), (by first | rfl | (simp; done) | (simp only [← hji15] <;> (first | rfl | simp)) | (simp [*]; done)), rs_, H', ⟨by have := HK1.out; have := HJ2.out; have := HK3.out; omega⟩, ⟨bq_ BK244.out⟩, ⟨hbw_ HB⟩⟩
                      · rw [if_neg c13] at H; exact absurd H (by simp)
                    · rw [if_neg c12] at H; have c12b0 : decide (x5_3 < ((rd_L6 l0_0 x4_1).length : Int)) = false := decide_eq_false c12; clear c12; have H' := Aside0.mk H; clear H; have hcz17_0 := bc1_ BK244.out; have hfz17_0 := blk_frozen BK244.out 0; have p246 : 0 ≤ (x4_1 : Int) := of_decide_eq_true as_; have q246 : x4_1 < (l0_0.length : Int) := of_decide_eq_true as_; obtain ⟨ad246, A246_0, c246_0, e246, hx246_0, hl246_0, hi246_0⟩ := at_L6 HR0_0.out x4_1 p246 q246
                      cases e246
                      have hraw246 := Aside0.mk hx246_0; replace hx246_0 := bl_ HB.out hx246_0; have HR246_0 := Aside0.mk hi246_0; have HC246_0 := Aside0.mk hl246_0; clear hi246_0 hl246_0; replace p246 := eq_true p246; replace q246 := eq_true q246
                      go_wp2
                      repeat (go_quiet (fail); try go_wp2)
                      go_roundg k3
                      case measure => have := HK1.out; have := HJ2.out; have := HK3.out; omega
                      case rel => exact ⟨(x3_3), (wrap64 (x4_1 + 1)), rs_, rs_, H', ⟨by have := HK1.out; have := HJ2.out; have := HK3.out; omega⟩, ⟨bq_ BK244.out⟩, ⟨hbw_ HB⟩⟩
                  · rw [if_neg c11] at H; exact absurd H (by simp)
                · rw [if_neg c10] at H; exact absurd H (by simp)
          · replace c9 := Bool.eq_false_iff.mpr c9; subst c9; rw [if_neg nt_] at H; obtain rfl := Option.some.inj H
            go_wp2
            repeat (go_quiet (fail); try go_wp2)
            go_ret; exact ⟨ew_, hq1_ HB.out GE244.out⟩

/-! ### spec_LatestVersion: function 50 -/
def spec_LatestVersion.f (k : Nat) (l0 : List (S65)) : Option (Int × Int × Int × Int × Int) := (spec_IsValidChain.f k l0).bind fun t252 => (if t252 = true then (if 0 ≤ (wrap64 ((l0.length : Int) - 1)) then (if (wrap64 ((l0.length : Int) - 1)) < (l0.length : Int) then (some ((rd_T65 l0 (wrap64 ((l0.length : Int) - 1))).f0, (rd_T65 l0 (wrap64 ((l0.length : Int) - 1))).f1, (rd_T65 l0 (wrap64 ((l0.length : Int) - 1))).f2, (rd_T65 l0 (wrap64 ((l0.length : Int) - 1))).f3, (rd_T65 l0 (wrap64 ((l0.length : Int) - 1))).f4)) else (none)) else (none)) else (some (0, 0, 0, 0, 0)))
theorem spec_LatestVersion.mono : ∀ a0 k, LeO (spec_LatestVersion.f k a0) (spec_LatestVersion.f (k + 1) a0) := by
  intro a0 k; unfold spec_LatestVersion.f
  repeat' first
      | (with_reducible first | apply spec_IsValidChain.mono | exact LeO.refl _ | exact LeO.none _ | refine LeO.ite ?_ ?_ | refine LeO.bind ?_ (fun _ => ?_))
set_option maxHeartbeats 8000000 in
set_option maxRecDepth 100000 in
theorem spec_LatestVersion.calls (k : Nat) (A0 : Option Addr) (c0 : Nat) (l0 : List (S65)) (r1 : Int) (r2 : Int) (r3 : Int) (r4 : Int) (r5 : Int) (w : World) (hr0 : Kd.C k65 w A0 l0.length l0) (hc0 : l0.length ≤ c0) (h : spec_LatestVersion.f k l0 = some (r1, r2, r3, r4, r5)) :
    Calls Try.prog 50 #[.slice A0 l0.length c0] w fun e w' => e = .returned (.agg #[.int .i64 r1, .int .i64 r2, .int .i64 r3, .int .i64 r4, .int .i64 r5]) ∧ Below w.heap.size w w' := by
  have hu65 := Try.underlying65; have HR0 := Aside0.mk hr0; have HC0 := Aside0.mk hc0; clear hr0 hc0; have HB := Aside0.mk (Below.refl w.heap.size w); have H : ((spec_IsValidChain.f k l0).bind fun t252 => (if t252 = true then (if 0 ≤ (wrap64 ((l0.length : Int) - 1)) then (if (wrap64 ((l0.length : Int) - 1)) < (l0.length : Int) then (some ((rd_T65 l0 (wrap64 ((l0.length : Int) - 1))).f0, (rd_T65 l0 (wrap64 ((l0.length : Int) - 1))).f1, (rd_T65 l0 (wrap64 ((l0.length : Int) - 1))).f2, (rd_T65 l0 (wrap64 ((l0.length : Int) - 1))).f3, (rd_T65 l0 (wrap64 ((l0.length : Int) - 1))).f4)) else (none)) else (none)) else (some (0, 0, 0, 0, 0)))) = some (r1, r2, r3, r4, r5) := h; clear h; replace H := Option.bind_eq_some_iff.mp H; obtain ⟨t252, A20, H⟩ := H; have A2 := Aside0.mk A20; clear A20
  by_cases c3 : t252 = true
  · subst c3; rw [if_pos rfl] at H; obtain ⟨ji4, hji4⟩ : ∃ j_ : Int, (wrap64 ((l0.length : Int) - 1)) = j_ := ⟨_, rfl⟩; (replace H : (if 0 ≤ (ji4) then (if (ji4) < (l0.length : Int) then (some ((rd_T65 l0 (ji4)).f0, (rd_T65 l0 (ji4)).f1, (rd_T65 l0 (ji4)).f2, (rd_T65 l0 (ji4)).f3, (rd_T65 l0 (ji4)).f4)) else (none)) else (none)) = some (r1, r2, r3, r4, r5) := by first | (rw [hji4] at H; exact H) | (simp only [hji4] at H ⊢; exact H)); (try rw [hji4] at A2); have hji4w : (IntKind.i64.wrap ((l0.length : Int) - 1)) = ji4 := (i64_w _).trans hji4
    by_cases c5 : 0 ≤ (ji4)
    · rw [if_pos c5] at H; have c5b0 : decide (0 ≤ (ji4)) = true := decide_eq_true c5; clear c5
      by_cases c6 : (ji4) < (l0.length : Int)
      · rw [if_pos c6] at H; have c6b0 : decide ((ji4) < (l0.length : Int)) = true := decide_eq_true c6; clear c6; simp only [Option.some.injEq, Prod.mk.injEq] at H; obtain ⟨rfl, rfl, rfl, rfl, rfl⟩ := H
        go_enter Try.func50, Try.ntmps50
        go_wp2_with (first | ((with_reducible refine gate_dst (N := 2) rfl ?_); refine be_ 2 #[.int .i64 0, .int .i64 0, .int .i64 0, .int .i64 0, .int .i64 0] 65 ?_; intro gb251 hg w7 hbox hb; have BK251 := Aside0.mk (hbox); have GW251 := wk_ hg HB; replace HB := hs_ HB hb; have GE251 := GW251; clear hb hbox hg) | ((with_reducible refine gate_callee (f := 78) rfl ?_); refine goesL_ (some 4) rfl rfl Try.func78 (by kernel_rfl) rfl #[.slice A0 l0.length c0] rfl mp_ ?_; (with_reducible refine (spec_IsValidChain.calls k _ _ l0 true _ ?side1 ?side2 A2.out).mono ?_); (case side1 => exact cq_ HR0.out HB.out); (case side2 => exact HC0.out); rintro e w8 ⟨rfl, hb⟩; refine ⟨_, rfl, ?_⟩; replace BK251 := bb_ BK251 hb; replace HB := hs_ HB hb; (try clear hb); (try clear hb2); (try clear hk); (try clear hi); have p253 : 0 ≤ ((ji4) : Int) := of_decide_eq_true as_; have q253 : (ji4) < (l0.length : Int) := of_decide_eq_true as_; obtain ⟨ad253, e253, hx253_0, hx253_1, hx253_2, hx253_3, hx253_4⟩ := at_T65 HR0.out (ji4) p253 q253; cases e253; replace hx253_0 := bl_ HB.out hx253_0; replace hx253_1 := bl_ HB.out hx253_1; replace hx253_2 := bl_ HB.out hx253_2; replace hx253_3 := bl_ HB.out hx253_3; replace hx253_4 := bl_ HB.out hx253_4; replace p253 := eq_true p253; replace q253 := eq_true q253; have hcz9 := bc5_ BK251.out; have hfz9 := bf5_ BK251.out))
        refine bodyPost_ret (results_cell_row rfl _ _ gb251 65 #[.int .i64 ((rd_T65 l0 (ji4)).f0), .int .i64 ((rd_T65 l0 (ji4)).f1), .int .i64 ((rd_T65 l0 (ji4)).f2), .int .i64 ((rd_T65 l0 (ji4)).f3), .int .i64 ((rd_T65 l0 (ji4)).f4)] (0, 0) _ rfl (by (with_reducible repeat (first | refine blk_drewN ?_ _ | refine blk_drew ?_ | refine blk_alloc ?_ _)); refine blk_put (cs := #[.int .i64 ((rd_T65 l0 (ji4)).f0), .int .i64 ((rd_T65 l0 (ji4)).f1), .int .i64 ((rd_T65 l0 (ji4)).f2), .int .i64 ((rd_T65 l0 (ji4)).f3), .int .i64 0]) ?_ 4 _ rfl; (with_reducible repeat (first | refine blk_drewN ?_ _ | refine blk_drew ?_ | refine blk_alloc ?_ _)); refine blk_put (cs := #[.int .i64 ((rd_T65 l0 (ji4)).f0), .int .i64 ((rd_T65 l0 (ji4)).f1), .int .i64 ((rd_T65 l0 (ji4)).f2), .int .i64 0, .int .i64 0]) ?_ 3 _ rfl; (with_reducible repeat (first | refine blk_drewN ?_ _ | refine blk_drew ?_ | refine blk_alloc ?_ _)); refine blk_put (cs := #[.int .i64 ((rd_T65 l0 (ji4)).f0), .int .i64 ((rd_T65 l0 (ji4)).f1), .int .i64 0, .int .i64 0, .int .i64 0]) ?_ 2 _ rfl; (with_reducible repeat (first | refine blk_drewN ?_ _ | refine blk_drew ?_ | refine blk_alloc ?_ _)); refine blk_put (cs := #[.int .i64 ((rd_T65 l0 (ji4)).f0), .int .i64 0, .int .i64 0, .int .i64 0, .int .i64 0]) ?_ 1 _ rfl; (with_reducible repeat (first | refine blk_drewN ?_ _ | refine blk_drew ?_ | refine blk_alloc ?_ _)); refine blk_put (cs := #[.int .i64 0, .int .i64 0, .int .i64 0, .int .i64 0, .int .i64 0]) ?_ 0 _ rfl; (with_reducible repeat (first | refine blk_drewN ?_ _ | refine blk_drew ?_ | refine blk_alloc ?_ _)); exact BK251.out) Try.underlying65 rfl (by kernel_rfl)) rfl ?_; exact ⟨by first | rfl | (simp [errW_none, errW_some] <;> rfl) | (simp only [← hji4]; first | rfl | (simp [errW_none, errW_some] <;> rfl)) | (simp [*, errW_none, errW_some] <;> rfl), hq1_ HB.out GE251.out⟩
      · rw [if_neg c6] at H; exact absurd H (by simp)
    · rw [if_neg c5] at H; exact absurd H (by simp)
  · replace c3 := Bool.eq_false_iff.mpr c3; subst c3; rw [if_neg nt_] at H; simp only [Option.some.injEq, Prod.mk.injEq] at H; obtain ⟨rfl, rfl, rfl, rfl, rfl⟩ := H
    go_enter Try.func50, Try.ntmps50
    go_wp2_with (first | ((with_reducible refine gate_dst (N := 2) rfl ?_); refine be_ 2 #[.int .i64 0, .int .i64 0, .int .i64 0, .int .i64 0, .int .i64 0] 65 ?_; intro gb251 hg w10 hbox hb; have BK251 := Aside0.mk (hbox); have GW251 := wk_ hg HB; replace HB := hs_ HB hb; have GE251 := GW251; clear hb hbox hg) | ((with_reducible refine gate_callee (f := 78) rfl ?_); refine goesL_ (some 4) rfl rfl Try.func78 (by kernel_rfl) rfl #[.slice A0 l0.length c0] rfl mp_ ?_; (with_reducible refine (spec_IsValidChain.calls k _ _ l0 false _ ?side1 ?side2 A2.out).mono ?_); (case side1 => exact cq_ HR0.out HB.out); (case side2 => exact HC0.out); rintro e w11 ⟨rfl, hb⟩; refine ⟨_, rfl, ?_⟩; replace BK251 := bb_ BK251 hb; replace HB := hs_ HB hb; (try clear hb); (try clear hb2); (try clear hk); (try clear hi); have hcz12 := bc5_ BK251.out; have hfz12 := bf5_ BK251.out))
    refine bodyPost_ret (results_cell_row rfl _ _ gb251 65 #[.int .i64 0, .int .i64 0, .int .i64 0, .int .i64 0, .int .i64 0] (0, 0) _ rfl (by (with_reducible repeat (first | refine blk_drewN ?_ _ | refine blk_drew ?_ | refine blk_alloc ?_ _)); refine blk_put (cs := #[.int .i64 0, .int .i64 0, .int .i64 0, .int .i64 0, .int .i64 0]) ?_ 4 _ rfl; (with_reducible repeat (first | refine blk_drewN ?_ _ | refine blk_drew ?_ | refine blk_alloc ?_ _)); refine blk_put (cs := #[.int .i64 0, .int .i64 0, .int .i64 0, .int .i64 0, .int .i64 0]) ?_ 3 _ rfl; (with_reducible repeat (first | refine blk_drewN ?_ _ | refine blk_drew ?_ | refine blk_alloc ?_ _)); refine blk_put (cs := #[.int .i64 0, .int .i64 0, .int .i64 0, .int .i64 0, .int .i64 0]) ?_ 2 _ rfl; (with_reducible repeat (first | refine blk_drewN ?_ _ | refine blk_drew ?_ | refine blk_alloc ?_ _)); refine blk_put (cs := #[.int .i64 0, .int .i64 0, .int .i64 0, .int .i64 0, .int .i64 0]) ?_ 1 _ rfl; (with_reducible repeat (first | refine blk_drewN ?_ _ | refine blk_drew ?_ | refine blk_alloc ?_ _)); refine blk_put (cs := #[.int .i64 0, .int .i64 0, .int .i64 0, .int .i64 0, .int .i64 0]) ?_ 0 _ rfl; (with_reducible repeat (first | refine blk_drewN ?_ _ | refine blk_drew ?_ | refine blk_alloc ?_ _)); exact BK251.out) Try.underlying65 rfl (by kernel_rfl)) rfl ?_; exact ⟨ew_, hq1_ HB.out GE251.out⟩

end Go.Proofs.Ytbcllflajakajaa.PFnExactExcludingPair
