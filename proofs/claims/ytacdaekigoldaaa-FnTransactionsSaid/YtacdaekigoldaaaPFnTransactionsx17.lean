-- Printed by my own myprint.py out of the translation of the seat Ytacdaekigoldaaa. Not trusted: Lean checks it.
import Derived.Test.YtacdaekigoldaaaPFnTransactionsx0
import Derived.Test.YtacdaekigoldaaaPFnTransactionsx1
import Derived.Test.YtacdaekigoldaaaPFnTransactionsx2
namespace Go.Proofs.Ytacdaekigoldaaa.PFnTransactions
open Go.RowKit Go.Proofs.YtacdaekigoldaaaW.PrintWords Go.Proofs.YtacdaekigoldaaaW.PrintLast Go.Proofs.YtacdaekigoldaaaW.PrintMore
attribute [local go_sem] max2_int min2_int max_two min_two max_three min_three max_four min_four   -- for this text's walks alone
set_option linter.unusedVariables false
set_option linter.unusedSimpArgs false

attribute [local go_sem high] eqA47 eqA58
/-! ### spec_EqualTransactions: function 16 -/
mutual
def spec_EqualTransactions.j0 : Nat → Bool → Int → Int → Int → Int → Int → Int → Int → List (S47) → List (S58) → Int → Int → Int → Int → Int → Int → Int → List (S47) → List (S58) → Option (Bool)
  | 0, _, _, _, _, _, _, _, _, _, _, _, _, _, _, _, _, _, _, _ => none
  | k + 1, x71, x580000, x580001, x580002, x580003, x580004, x580005, x580006, x580007, x580008, x581000, x581001, x581002, x581003, x581004, x581005, x581006, x581007, x581008 => if x71 = true then (some false) else (spec_EqualTransactions.l0 k 0 x580000 x580001 x580002 x580003 x580004 x580005 x580006 x580007 x580008 x581000 x581001 x581002 x581003 x581004 x581005 x581006 x581007 x581008)
def spec_EqualTransactions.l0 : Nat → Int → Int → Int → Int → Int → Int → Int → Int → List (S47) → List (S58) → Int → Int → Int → Int → Int → Int → Int → List (S47) → List (S58) → Option (Bool)
  | 0, _, _, _, _, _, _, _, _, _, _, _, _, _, _, _, _, _, _, _ => none
  | k + 1, x5, x580000, x580001, x580002, x580003, x580004, x580005, x580006, x580007, x580008, x581000, x581001, x581002, x581003, x581004, x581005, x581006, x581007, x581008 => if x5 < (x580007.length : Int) then (if 0 ≤ x5 then (if x5 < (x581007.length : Int) then (if (!(((rd_T47 x580007 x5).f0) == ((rd_T47 x581007 x5).f0)) || (!(((rd_T47 x580007 x5).f1) == ((rd_T47 x581007 x5).f1)))) = true then (some false) else (spec_EqualTransactions.l0 k (wrap64 (x5 + 1)) x580000 x580001 x580002 x580003 x580004 x580005 x580006 x580007 x580008 x581000 x581001 x581002 x581003 x581004 x581005 x581006 x581007 x581008)) else (none)) else (none)) else (spec_EqualTransactions.l1 k 0 x580000 x580001 x580002 x580003 x580004 x580005 x580006 x580007 x580008 x581000 x581001 x581002 x581003 x581004 x581005 x581006 x581007 x581008)
def spec_EqualTransactions.l1 : Nat → Int → Int → Int → Int → Int → Int → Int → Int → List (S47) → List (S58) → Int → Int → Int → Int → Int → Int → Int → List (S47) → List (S58) → Option (Bool)
  | 0, _, _, _, _, _, _, _, _, _, _, _, _, _, _, _, _, _, _, _ => none
  | k + 1, x6, x580000, x580001, x580002, x580003, x580004, x580005, x580006, x580007, x580008, x581000, x581001, x581002, x581003, x581004, x581005, x581006, x581007, x581008 => if x6 < (x580008.length : Int) then (if 0 ≤ x6 then (if x6 < (x581008.length : Int) then (if (!(((rd_T58 x580008 x6).f0) == ((rd_T58 x581008 x6).f0)) || (!(((rd_T58 x580008 x6).f1) == ((rd_T58 x581008 x6).f1)))) = true then (some false) else (spec_EqualTransactions.l1 k (wrap64 (x6 + 1)) x580000 x580001 x580002 x580003 x580004 x580005 x580006 x580007 x580008 x581000 x581001 x581002 x581003 x581004 x581005 x581006 x581007 x581008)) else (none)) else (none)) else (some true)
end
def spec_EqualTransactions.f (k : Nat) (a0_0 : Int) (a0_1 : Int) (a0_2 : Int) (a0_3 : Int) (a0_4 : Int) (a0_5 : Int) (a0_6 : Int) (l0_7 : List (S47)) (l0_8 : List (S58)) (a1_0 : Int) (a1_1 : Int) (a1_2 : Int) (a1_3 : Int) (a1_4 : Int) (a1_5 : Int) (a1_6 : Int) (l1_7 : List (S47)) (l1_8 : List (S58)) : Option (Bool) := if a0_0 = a1_0 then (if a0_1 = a1_1 then (if a0_2 = a1_2 then (if a0_3 = a1_3 then (if a0_4 = a1_4 then (if a0_5 = a1_5 then (if a0_6 = a1_6 then (if (l0_7.length : Int) = (l1_7.length : Int) then (spec_EqualTransactions.j0 k ((l0_8.length : Int) != (l1_8.length : Int)) a0_0 a0_1 a0_2 a0_3 a0_4 a0_5 a0_6 l0_7 l0_8 a1_0 a1_1 a1_2 a1_3 a1_4 a1_5 a1_6 l1_7 l1_8) else (spec_EqualTransactions.j0 k true a0_0 a0_1 a0_2 a0_3 a0_4 a0_5 a0_6 l0_7 l0_8 a1_0 a1_1 a1_2 a1_3 a1_4 a1_5 a1_6 l1_7 l1_8)) else (spec_EqualTransactions.j0 k true a0_0 a0_1 a0_2 a0_3 a0_4 a0_5 a0_6 l0_7 l0_8 a1_0 a1_1 a1_2 a1_3 a1_4 a1_5 a1_6 l1_7 l1_8)) else (spec_EqualTransactions.j0 k true a0_0 a0_1 a0_2 a0_3 a0_4 a0_5 a0_6 l0_7 l0_8 a1_0 a1_1 a1_2 a1_3 a1_4 a1_5 a1_6 l1_7 l1_8)) else (spec_EqualTransactions.j0 k true a0_0 a0_1 a0_2 a0_3 a0_4 a0_5 a0_6 l0_7 l0_8 a1_0 a1_1 a1_2 a1_3 a1_4 a1_5 a1_6 l1_7 l1_8)) else (spec_EqualTransactions.j0 k true a0_0 a0_1 a0_2 a0_3 a0_4 a0_5 a0_6 l0_7 l0_8 a1_0 a1_1 a1_2 a1_3 a1_4 a1_5 a1_6 l1_7 l1_8)) else (spec_EqualTransactions.j0 k true a0_0 a0_1 a0_2 a0_3 a0_4 a0_5 a0_6 l0_7 l0_8 a1_0 a1_1 a1_2 a1_3 a1_4 a1_5 a1_6 l1_7 l1_8)) else (spec_EqualTransactions.j0 k true a0_0 a0_1 a0_2 a0_3 a0_4 a0_5 a0_6 l0_7 l0_8 a1_0 a1_1 a1_2 a1_3 a1_4 a1_5 a1_6 l1_7 l1_8)) else (spec_EqualTransactions.j0 k true a0_0 a0_1 a0_2 a0_3 a0_4 a0_5 a0_6 l0_7 l0_8 a1_0 a1_1 a1_2 a1_3 a1_4 a1_5 a1_6 l1_7 l1_8)
theorem spec_EqualTransactions.mono_l : ∀ k, (∀ y0 y1 y2 y3 y4 y5 y6 y7 y8 y9 y10 y11 y12 y13 y14 y15 y16 y17 y18, LeO (spec_EqualTransactions.j0 k y0 y1 y2 y3 y4 y5 y6 y7 y8 y9 y10 y11 y12 y13 y14 y15 y16 y17 y18) (spec_EqualTransactions.j0 (k + 1) y0 y1 y2 y3 y4 y5 y6 y7 y8 y9 y10 y11 y12 y13 y14 y15 y16 y17 y18)) ∧ (∀ y0 y1 y2 y3 y4 y5 y6 y7 y8 y9 y10 y11 y12 y13 y14 y15 y16 y17 y18, LeO (spec_EqualTransactions.l0 k y0 y1 y2 y3 y4 y5 y6 y7 y8 y9 y10 y11 y12 y13 y14 y15 y16 y17 y18) (spec_EqualTransactions.l0 (k + 1) y0 y1 y2 y3 y4 y5 y6 y7 y8 y9 y10 y11 y12 y13 y14 y15 y16 y17 y18)) ∧ (∀ y0 y1 y2 y3 y4 y5 y6 y7 y8 y9 y10 y11 y12 y13 y14 y15 y16 y17 y18, LeO (spec_EqualTransactions.l1 k y0 y1 y2 y3 y4 y5 y6 y7 y8 y9 y10 y11 y12 y13 y14 y15 y16 y17 y18) (spec_EqualTransactions.l1 (k + 1) y0 y1 y2 y3 y4 y5 y6 y7 y8 y9 y10 y11 y12 y13 y14 y15 y16 y17 y18))
  | 0 => ⟨fun _ _ _ _ _ _ _ _ _ _ _ _ _ _ _ _ _ _ _ r h => by simp [spec_EqualTransactions.j0] at h, fun _ _ _ _ _ _ _ _ _ _ _ _ _ _ _ _ _ _ _ r h => by simp [spec_EqualTransactions.l0] at h, fun _ _ _ _ _ _ _ _ _ _ _ _ _ _ _ _ _ _ _ r h => by simp [spec_EqualTransactions.l1] at h⟩
  | k + 1 => by
    obtain ⟨ih0, ih1, ih2⟩ := spec_EqualTransactions.mono_l k; refine ⟨?_, ?_, ?_⟩
    · intro y0 y1 y2 y3 y4 y5 y6 y7 y8 y9 y10 y11 y12 y13 y14 y15 y16 y17 y18; unfold spec_EqualTransactions.j0
      repeat' first
      | (with_reducible first | apply ih0 | apply ih1 | apply ih2 | exact LeO.refl _ | exact LeO.none _ | refine LeO.ite ?_ ?_ | refine LeO.bind ?_ (fun _ => ?_))
    · intro y0 y1 y2 y3 y4 y5 y6 y7 y8 y9 y10 y11 y12 y13 y14 y15 y16 y17 y18; unfold spec_EqualTransactions.l0
      repeat' first
      | (with_reducible first | apply ih0 | apply ih1 | apply ih2 | exact LeO.refl _ | exact LeO.none _ | refine LeO.ite ?_ ?_ | refine LeO.bind ?_ (fun _ => ?_))
    · intro y0 y1 y2 y3 y4 y5 y6 y7 y8 y9 y10 y11 y12 y13 y14 y15 y16 y17 y18; unfold spec_EqualTransactions.l1
      repeat' first
      | (with_reducible first | apply ih0 | apply ih1 | apply ih2 | exact LeO.refl _ | exact LeO.none _ | refine LeO.ite ?_ ?_ | refine LeO.bind ?_ (fun _ => ?_))
theorem spec_EqualTransactions.mono : ∀ a0 a1 a2 a3 a4 a5 a6 a7 a8 a9 a10 a11 a12 a13 a14 a15 a16 a17 k, LeO (spec_EqualTransactions.f k a0 a1 a2 a3 a4 a5 a6 a7 a8 a9 a10 a11 a12 a13 a14 a15 a16 a17) (spec_EqualTransactions.f (k + 1) a0 a1 a2 a3 a4 a5 a6 a7 a8 a9 a10 a11 a12 a13 a14 a15 a16 a17) := by
  intro a0 a1 a2 a3 a4 a5 a6 a7 a8 a9 a10 a11 a12 a13 a14 a15 a16 a17 k; obtain ⟨ih0, ih1, ih2⟩ := spec_EqualTransactions.mono_l k; unfold spec_EqualTransactions.f
  repeat' first
      | (with_reducible first | apply ih0 | apply ih1 | apply ih2 | exact LeO.refl _ | exact LeO.none _ | refine LeO.ite ?_ ?_ | refine LeO.bind ?_ (fun _ => ?_))
set_option maxHeartbeats 8000000 in
set_option maxRecDepth 100000 in
theorem spec_EqualTransactions.calls (k : Nat) (a0_0 : Int) (a0_1 : Int) (a0_2 : Int) (a0_3 : Int) (a0_4 : Int) (a0_5 : Int) (a0_6 : Int) (A0_7 : Option Addr) (c0_7 : Nat) (l0_7 : List (S47)) (A0_8 : Option Addr) (c0_8 : Nat) (l0_8 : List (S58)) (a1_0 : Int) (a1_1 : Int) (a1_2 : Int) (a1_3 : Int) (a1_4 : Int) (a1_5 : Int) (a1_6 : Int) (A1_7 : Option Addr) (c1_7 : Nat) (l1_7 : List (S47)) (A1_8 : Option Addr) (c1_8 : Nat) (l1_8 : List (S58)) (r : Bool) (w : World) (hr0_7 : Kd.C k47 w A0_7 l0_7.length l0_7) (hc0_7 : l0_7.length ≤ c0_7) (hr0_8 : Kd.C k58 w A0_8 l0_8.length l0_8) (hc0_8 : l0_8.length ≤ c0_8) (hr1_7 : Kd.C k47 w A1_7 l1_7.length l1_7) (hc1_7 : l1_7.length ≤ c1_7) (hr1_8 : Kd.C k58 w A1_8 l1_8.length l1_8) (hc1_8 : l1_8.length ≤ c1_8) (h : spec_EqualTransactions.f k a0_0 a0_1 a0_2 a0_3 a0_4 a0_5 a0_6 l0_7 l0_8 a1_0 a1_1 a1_2 a1_3 a1_4 a1_5 a1_6 l1_7 l1_8 = some r) :
    Calls Try.prog 16 #[.agg #[.int .i64 a0_0, .int .i64 a0_1, .int .i64 a0_2, .int .i64 a0_3, .int .i64 a0_4, .int .i64 a0_5, .int .i64 a0_6, .slice A0_7 l0_7.length c0_7, .slice A0_8 l0_8.length c0_8], .agg #[.int .i64 a1_0, .int .i64 a1_1, .int .i64 a1_2, .int .i64 a1_3, .int .i64 a1_4, .int .i64 a1_5, .int .i64 a1_6, .slice A1_7 l1_7.length c1_7, .slice A1_8 l1_8.length c1_8]] w fun e w' => e = .returned (.bool r) ∧ Below w.heap.size w w' := by
  have hu29 := Try.underlying29; have hu47 := Try.underlying47; have hu58 := Try.underlying58; have HR0_7 := Aside0.mk hr0_7; have HC0_7 := Aside0.mk hc0_7; clear hr0_7 hc0_7; have HR0_8 := Aside0.mk hr0_8; have HC0_8 := Aside0.mk hc0_8; clear hr0_8 hc0_8; have HR1_7 := Aside0.mk hr1_7; have HC1_7 := Aside0.mk hc1_7; clear hr1_7 hc1_7; have HR1_8 := Aside0.mk hr1_8; have HC1_8 := Aside0.mk hc1_8; clear hr1_8 hc1_8; have HB := Aside0.mk (Below.refl w.heap.size w); have H : (if a0_0 = a1_0 then (if a0_1 = a1_1 then (if a0_2 = a1_2 then (if a0_3 = a1_3 then (if a0_4 = a1_4 then (if a0_5 = a1_5 then (if a0_6 = a1_6 then (if (l0_7.length : Int) = (l1_7.length : Int) then (spec_EqualTransactions.j0 k ((l0_8.length : Int) != (l1_8.length : Int)) a0_0 a0_1 a0_2 a0_3 a0_4 a0_5 a0_6 l0_7 l0_8 a1_0 a1_1 a1_2 a1_3 a1_4 a1_5 a1_6 l1_7 l1_8) else (spec_EqualTransactions.j0 k true a0_0 a0_1 a0_2 a0_3 a0_4 a0_5 a0_6 l0_7 l0_8 a1_0 a1_1 a1_2 a1_3 a1_4 a1_5 a1_6 l1_7 l1_8)) else (spec_EqualTransactions.j0 k true a0_0 a0_1 a0_2 a0_3 a0_4 a0_5 a0_6 l0_7 l0_8 a1_0 a1_1 a1_2 a1_3 a1_4 a1_5 a1_6 l1_7 l1_8)) else (spec_EqualTransactions.j0 k true a0_0 a0_1 a0_2 a0_3 a0_4 a0_5 a0_6 l0_7 l0_8 a1_0 a1_1 a1_2 a1_3 a1_4 a1_5 a1_6 l1_7 l1_8)) else (spec_EqualTransactions.j0 k true a0_0 a0_1 a0_2 a0_3 a0_4 a0_5 a0_6 l0_7 l0_8 a1_0 a1_1 a1_2 a1_3 a1_4 a1_5 a1_6 l1_7 l1_8)) else (spec_EqualTransactions.j0 k true a0_0 a0_1 a0_2 a0_3 a0_4 a0_5 a0_6 l0_7 l0_8 a1_0 a1_1 a1_2 a1_3 a1_4 a1_5 a1_6 l1_7 l1_8)) else (spec_EqualTransactions.j0 k true a0_0 a0_1 a0_2 a0_3 a0_4 a0_5 a0_6 l0_7 l0_8 a1_0 a1_1 a1_2 a1_3 a1_4 a1_5 a1_6 l1_7 l1_8)) else (spec_EqualTransactions.j0 k true a0_0 a0_1 a0_2 a0_3 a0_4 a0_5 a0_6 l0_7 l0_8 a1_0 a1_1 a1_2 a1_3 a1_4 a1_5 a1_6 l1_7 l1_8)) else (spec_EqualTransactions.j0 k true a0_0 a0_1 a0_2 a0_3 a0_4 a0_5 a0_6 l0_7 l0_8 a1_0 a1_1 a1_2 a1_3 a1_4 a1_5 a1_6 l1_7 l1_8)) = some r := h; clear h; have HC3 := Aside0.mk H; clear H
  go_enter Try.func16, Try.ntmps16
  go_upto_region 1 with (first | ((with_reducible refine gate_dst (N := 2) rfl ?_); refine be_ 2 #[.int .i64 a0_0, .int .i64 a0_1, .int .i64 a0_2, .int .i64 a0_3, .int .i64 a0_4, .int .i64 a0_5, .int .i64 a0_6, .slice A0_7 l0_7.length c0_7, .slice A0_8 l0_8.length c0_8] 29 ?_; intro gb579 hg w4 hbox hb; have BK579 := Aside0.mk (hbox); have GW579 := wk_ hg HB; replace HB := hs_ HB hb; have GE579 := GW579; clear hb hbox hg) | ((with_reducible refine gate_dst (N := 3) rfl ?_); refine be_ 3 #[.int .i64 a1_0, .int .i64 a1_1, .int .i64 a1_2, .int .i64 a1_3, .int .i64 a1_4, .int .i64 a1_5, .int .i64 a1_6, .slice A1_7 l1_7.length c1_7, .slice A1_8 l1_8.length c1_8] 29 ?_; intro gb580 hg w5 hbox hb; have BK580 := Aside0.mk (hbox); have GW580 := wk_ hg HB; replace HB := hs_ HB hb; have GE580 := GW580; have NB579_580 := nk_ hg BK579; replace BK579 := bb_ BK579 hb; have NB580_579 := ny_ NB579_580; clear hb hbox hg))
  repeat (go_quiet (first | ((with_reducible refine gate_dst (N := 2) rfl ?_); refine be_ 2 #[.int .i64 a0_0, .int .i64 a0_1, .int .i64 a0_2, .int .i64 a0_3, .int .i64 a0_4, .int .i64 a0_5, .int .i64 a0_6, .slice A0_7 l0_7.length c0_7, .slice A0_8 l0_8.length c0_8] 29 ?_; intro gb579 hg w4 hbox hb; have BK579 := Aside0.mk (hbox); have GW579 := wk_ hg HB; replace HB := hs_ HB hb; have GE579 := GW579; clear hb hbox hg) | ((with_reducible refine gate_dst (N := 3) rfl ?_); refine be_ 3 #[.int .i64 a1_0, .int .i64 a1_1, .int .i64 a1_2, .int .i64 a1_3, .int .i64 a1_4, .int .i64 a1_5, .int .i64 a1_6, .slice A1_7 l1_7.length c1_7, .slice A1_8 l1_8.length c1_8] 29 ?_; intro gb580 hg w5 hbox hb; have BK580 := Aside0.mk (hbox); have GW580 := wk_ hg HB; replace HB := hs_ HB hb; have GE580 := GW580; have NB579_580 := nk_ hg BK579; replace BK579 := bb_ BK579 hb; have NB580_579 := ny_ NB579_580; clear hb hbox hg)); go_upto_region 1 with (first | ((with_reducible refine gate_dst (N := 2) rfl ?_); refine be_ 2 #[.int .i64 a0_0, .int .i64 a0_1, .int .i64 a0_2, .int .i64 a0_3, .int .i64 a0_4, .int .i64 a0_5, .int .i64 a0_6, .slice A0_7 l0_7.length c0_7, .slice A0_8 l0_8.length c0_8] 29 ?_; intro gb579 hg w4 hbox hb; have BK579 := Aside0.mk (hbox); have GW579 := wk_ hg HB; replace HB := hs_ HB hb; have GE579 := GW579; clear hb hbox hg) | ((with_reducible refine gate_dst (N := 3) rfl ?_); refine be_ 3 #[.int .i64 a1_0, .int .i64 a1_1, .int .i64 a1_2, .int .i64 a1_3, .int .i64 a1_4, .int .i64 a1_5, .int .i64 a1_6, .slice A1_7 l1_7.length c1_7, .slice A1_8 l1_8.length c1_8] 29 ?_; intro gb580 hg w5 hbox hb; have BK580 := Aside0.mk (hbox); have GW580 := wk_ hg HB; replace HB := hs_ HB hb; have GE580 := GW580; have NB579_580 := nk_ hg BK579; replace BK579 := bb_ BK579 hb; have NB580_579 := ny_ NB579_580; clear hb hbox hg)))
  (try simp only [Act.put, List.setIfInBounds_toArray, List.set_cons_zero, List.set_cons_succ])
  go_cut [71] (fun v71 wc => ∃ (kq : Nat) (x71_2 : Bool), v71 = .bool x71_2 ∧ Aside0 (spec_EqualTransactions.j0 kq x71_2 a0_0 a0_1 a0_2 a0_3 a0_4 a0_5 a0_6 l0_7 l0_8 a1_0 a1_1 a1_2 a1_3 a1_4 a1_5 a1_6 l1_7 l1_8 = some r) ∧ Aside0 (kq ≤ k) ∧ Aside0 (wc.heap[gb579]? = some (.cells #[.int .i64 a0_0, .int .i64 a0_1, .int .i64 a0_2, .int .i64 a0_3, .int .i64 a0_4, .int .i64 a0_5, .int .i64 a0_6, (.slice A0_7 l0_7.length c0_7), (.slice A0_8 l0_8.length c0_8)] 29 (0, 0))) ∧ Aside0 (wc.heap[gb580]? = some (.cells #[.int .i64 a1_0, .int .i64 a1_1, .int .i64 a1_2, .int .i64 a1_3, .int .i64 a1_4, .int .i64 a1_5, .int .i64 a1_6, (.slice A1_7 l1_7.length c1_7), (.slice A1_8 l1_8.length c1_8)] 29 (0, 0))) ∧ Aside0 (Below w.heap.size w wc))
  case first =>
    have H := HC3.out; clear HC3
    by_cases c6 : a0_0 = a1_0
    · rw [if_pos c6] at H; have c6b0 : (a0_0 == a1_0) = true := beq_iff_eq.mpr c6; have c6b1 : (a0_0 != a1_0) = false := bne_eq_false_iff_eq.mpr c6; clear c6; (first | rw [c6b0] | (simp only [i64_w, i32_w]; rw [c6b0]) | skip)
      by_cases c7 : a0_1 = a1_1
      · rw [if_pos c7] at H; have c7b0 : (a0_1 == a1_1) = true := beq_iff_eq.mpr c7; have c7b1 : (a0_1 != a1_1) = false := bne_eq_false_iff_eq.mpr c7; clear c7
        by_cases c8 : a0_2 = a1_2
        · rw [if_pos c8] at H; have c8b0 : (a0_2 == a1_2) = true := beq_iff_eq.mpr c8; have c8b1 : (a0_2 != a1_2) = false := bne_eq_false_iff_eq.mpr c8; clear c8
          by_cases c9 : a0_3 = a1_3
          · rw [if_pos c9] at H; have c9b0 : (a0_3 == a1_3) = true := beq_iff_eq.mpr c9; have c9b1 : (a0_3 != a1_3) = false := bne_eq_false_iff_eq.mpr c9; clear c9
            by_cases c10 : a0_4 = a1_4
            · rw [if_pos c10] at H; have c10b0 : (a0_4 == a1_4) = true := beq_iff_eq.mpr c10; have c10b1 : (a0_4 != a1_4) = false := bne_eq_false_iff_eq.mpr c10; clear c10
              by_cases c11 : a0_5 = a1_5
              · rw [if_pos c11] at H; have c11b0 : (a0_5 == a1_5) = true := beq_iff_eq.mpr c11; have c11b1 : (a0_5 != a1_5) = false := bne_eq_false_iff_eq.mpr c11; clear c11
                by_cases c12 : a0_6 = a1_6
                · rw [if_pos c12] at H; have c12b0 : (a0_6 == a1_6) = true := beq_iff_eq.mpr c12; have c12b1 : (a0_6 != a1_6) = false := bne_eq_false_iff_eq.mpr c12; clear c12
                  by_cases c13 : (l0_7.length : Int) = (l1_7.length : Int)
                  · rw [if_pos c13] at H; have c13b0 : ((l0_7.length : Int) == (l1_7.length : Int)) = true := beq_iff_eq.mpr c13; have c13b1 : ((l0_7.length : Int) != (l1_7.length : Int)) = false := bne_eq_false_iff_eq.mpr c13; (have c13b2 : (l0_7.length == l1_7.length) = true := by first | simpa using c13 | (simp at c13 ⊢; omega)); clear c13; have H' := Aside0.mk H; clear H; have hnb14 := NB579_580.out; have hnc14 := NB580_579.out; have hcz15 := bc9_ BK579.out; have hfz15 := bf9_ BK579.out; have hcz16 := bc9_ BK580.out; have hfz16 := bf9_ BK580.out
                    go_wp2
                    repeat (go_quiet (fail); try go_wp2)
                    go_meet
                    case rel => exact ⟨_, (((l0_8.length : Int) != (l1_8.length : Int))), rs_, H', ⟨by first | omega | exact Nat.le_refl _⟩, ⟨bq_ BK579.out⟩, ⟨bq_ BK580.out⟩, ⟨hbw_ HB⟩⟩
                  · rw [if_neg c13] at H; have c13b0 : ((l0_7.length : Int) == (l1_7.length : Int)) = false := beq_eq_false_iff_ne.mpr c13; have c13b1 : ((l0_7.length : Int) != (l1_7.length : Int)) = true := bne_iff_ne.mpr c13; (have c13b2 : (l0_7.length == l1_7.length) = false := by first | simpa using c13 | (simp at c13 ⊢; omega)); have H' := Aside0.mk H; clear H; have hnb17 := NB579_580.out; have hnc17 := NB580_579.out; have hcz18 := bc9_ BK579.out; have hfz18 := bf9_ BK579.out; have hcz19 := bc9_ BK580.out; have hfz19 := bf9_ BK580.out
                    go_wp2
                    repeat (go_quiet (fail); try go_wp2)
                    go_meet
                    case rel => exact ⟨_, (true), rs_, H', ⟨by first | omega | exact Nat.le_refl _⟩, ⟨bq_ BK579.out⟩, ⟨bq_ BK580.out⟩, ⟨hbw_ HB⟩⟩
                · rw [if_neg c12] at H; have c12b0 : (a0_6 == a1_6) = false := beq_eq_false_iff_ne.mpr c12; have c12b1 : (a0_6 != a1_6) = true := bne_iff_ne.mpr c12; have H' := Aside0.mk H; clear H; have hnb20 := NB579_580.out; have hnc20 := NB580_579.out; have hcz21 := bc9_ BK579.out; have hfz21 := bf9_ BK579.out; have hcz22 := bc9_ BK580.out; have hfz22 := bf9_ BK580.out
                  go_wp2
                  repeat (go_quiet (fail); try go_wp2)
                  go_meet
                  case rel => exact ⟨_, (true), rs_, H', ⟨by first | omega | exact Nat.le_refl _⟩, ⟨bq_ BK579.out⟩, ⟨bq_ BK580.out⟩, ⟨hbw_ HB⟩⟩
              · rw [if_neg c11] at H; have c11b0 : (a0_5 == a1_5) = false := beq_eq_false_iff_ne.mpr c11; have c11b1 : (a0_5 != a1_5) = true := bne_iff_ne.mpr c11; have H' := Aside0.mk H; clear H; have hnb23 := NB579_580.out; have hnc23 := NB580_579.out; have hcz24 := bc9_ BK579.out; have hfz24 := bf9_ BK579.out; have hcz25 := bc9_ BK580.out; have hfz25 := bf9_ BK580.out
                go_wp2
                repeat (go_quiet (fail); try go_wp2)
                go_meet
                case rel => exact ⟨_, (true), rs_, H', ⟨by first | omega | exact Nat.le_refl _⟩, ⟨bq_ BK579.out⟩, ⟨bq_ BK580.out⟩, ⟨hbw_ HB⟩⟩
            · rw [if_neg c10] at H; have c10b0 : (a0_4 == a1_4) = false := beq_eq_false_iff_ne.mpr c10; have c10b1 : (a0_4 != a1_4) = true := bne_iff_ne.mpr c10; have H' := Aside0.mk H; clear H; have hnb26 := NB579_580.out; have hnc26 := NB580_579.out; have hcz27 := bc9_ BK579.out; have hfz27 := bf9_ BK579.out; have hcz28 := bc9_ BK580.out; have hfz28 := bf9_ BK580.out
              go_wp2
              repeat (go_quiet (fail); try go_wp2)
              go_meet
              case rel => exact ⟨_, (true), rs_, H', ⟨by first | omega | exact Nat.le_refl _⟩, ⟨bq_ BK579.out⟩, ⟨bq_ BK580.out⟩, ⟨hbw_ HB⟩⟩
          · rw [if_neg c9] at H; have c9b0 : (a0_3 == a1_3) = false := beq_eq_false_iff_ne.mpr c9; have c9b1 : (a0_3 != a1_3) = true := bne_iff_ne.mpr c9; have H' := Aside0.mk H; clear H; have hnb29 := NB579_580.out; have hnc29 := NB580_579.out; have hcz30 := bc9_ BK579.out; have hfz30 := bf9_ BK579.out; have hcz31 := bc9_ BK580.out; have hfz31 := bf9_ BK580.out
            go_wp2
            repeat (go_quiet (fail); try go_wp2)
            go_meet
            case rel => exact ⟨_, (true), rs_, H', ⟨by first | omega | exact Nat.le_refl _⟩, ⟨bq_ BK579.out⟩, ⟨bq_ BK580.out⟩, ⟨hbw_ HB⟩⟩
        · rw [if_neg c8] at H; have c8b0 : (a0_2 == a1_2) = false := beq_eq_false_iff_ne.mpr c8; have c8b1 : (a0_2 != a1_2) = true := bne_iff_ne.mpr c8; have H' := Aside0.mk H; clear H; have hnb32 := NB579_580.out; have hnc32 := NB580_579.out; have hcz33 := bc9_ BK579.out; have hfz33 := bf9_ BK579.out; have hcz34 := bc9_ BK580.out; have hfz34 := bf9_ BK580.out
          go_wp2
          repeat (go_quiet (fail); try go_wp2)
          go_meet
          case rel => exact ⟨_, (true), rs_, H', ⟨by first | omega | exact Nat.le_refl _⟩, ⟨bq_ BK579.out⟩, ⟨bq_ BK580.out⟩, ⟨hbw_ HB⟩⟩
      · rw [if_neg c7] at H; have c7b0 : (a0_1 == a1_1) = false := beq_eq_false_iff_ne.mpr c7; have c7b1 : (a0_1 != a1_1) = true := bne_iff_ne.mpr c7; have H' := Aside0.mk H; clear H; have hnb35 := NB579_580.out; have hnc35 := NB580_579.out; have hcz36 := bc9_ BK579.out; have hfz36 := bf9_ BK579.out; have hcz37 := bc9_ BK580.out; have hfz37 := bf9_ BK580.out
        go_wp2
        repeat (go_quiet (fail); try go_wp2)
        go_meet
        case rel => exact ⟨_, (true), rs_, H', ⟨by first | omega | exact Nat.le_refl _⟩, ⟨bq_ BK579.out⟩, ⟨bq_ BK580.out⟩, ⟨hbw_ HB⟩⟩
    · rw [if_neg c6] at H; have c6b0 : (a0_0 == a1_0) = false := beq_eq_false_iff_ne.mpr c6; have c6b1 : (a0_0 != a1_0) = true := bne_iff_ne.mpr c6; (first | rw [c6b0] | (simp only [i64_w, i32_w]; rw [c6b0]) | skip); have H' := Aside0.mk H; clear H; have hnb38 := NB579_580.out; have hnc38 := NB580_579.out; have hcz39 := bc9_ BK579.out; have hfz39 := bf9_ BK579.out; have hcz40 := bc9_ BK580.out; have hfz40 := bf9_ BK580.out
      go_wp2
      repeat (go_quiet (fail); try go_wp2)
      go_meet
      case rel => exact ⟨_, (true), rs_, H', ⟨by first | omega | exact Nat.le_refl _⟩, ⟨bq_ BK579.out⟩, ⟨bq_ BK580.out⟩, ⟨hbw_ HB⟩⟩
  case rest =>
    clear HC3; (try clear c6b0); (try clear c6b1); (try clear c7b0); (try clear c7b1); (try clear c8b0); (try clear c8b1); (try clear c9b0); (try clear c9b1); (try clear c10b0); (try clear c10b1); (try clear c11b0); (try clear c11b1); (try clear c12b0); (try clear c12b1); (try clear c13b0); (try clear c13b1); (try clear c13b2); obtain ⟨kq, x71_2, rfl, HA, HJ2, BK579, BK580, HB⟩ := hcut
    cases kq with
    | zero => exact absurd HA.out (by simp [spec_EqualTransactions.j0])
    | succ kj2 =>
      have H := HA.out; clear HA; simp only [spec_EqualTransactions.j0] at H
      by_cases c41 : x71_2 = true
      · subst c41; rw [if_pos rfl] at H; obtain rfl := Option.some.inj H
        go_wp2
        repeat (go_quiet (fail); try go_wp2)
        go_ret; exact ⟨ew_, hq2_ HB.out GE579.out GE580.out⟩
      · replace c41 := Bool.eq_false_iff.mpr c41; subst c41; rw [if_neg nt_] at H; have H' := Aside0.mk H; clear H
        go_wp2
        repeat (go_quiet (fail); try go_wp2)
        go_loopg [5] kj2 (fun kq v5 w' => ∃ (x5_2 : Int), v5 = .int .i64 x5_2 ∧ Aside0 (spec_EqualTransactions.l0 kq x5_2 a0_0 a0_1 a0_2 a0_3 a0_4 a0_5 a0_6 l0_7 l0_8 a1_0 a1_1 a1_2 a1_3 a1_4 a1_5 a1_6 l1_7 l1_8 = some r) ∧ Aside0 (kq ≤ kj2) ∧ Aside0 (w'.heap[gb579]? = some (.cells #[.int .i64 a0_0, .int .i64 a0_1, .int .i64 a0_2, .int .i64 a0_3, .int .i64 a0_4, .int .i64 a0_5, .int .i64 a0_6, (.slice A0_7 l0_7.length c0_7), (.slice A0_8 l0_8.length c0_8)] 29 (0, 0))) ∧ Aside0 (w'.heap[gb580]? = some (.cells #[.int .i64 a1_0, .int .i64 a1_1, .int .i64 a1_2, .int .i64 a1_3, .int .i64 a1_4, .int .i64 a1_5, .int .i64 a1_6, (.slice A1_7 l1_7.length c1_7), (.slice A1_8 l1_8.length c1_8)] 29 (0, 0))) ∧ Aside0 (Below w.heap.size w w'))
        case atStart => exact ⟨(0), rs_, H', ⟨Nat.le_refl _⟩, ⟨bq_ BK579.out⟩, ⟨bq_ BK580.out⟩, ⟨hbw_ HB⟩⟩
        case round =>
          clear H'; (try clear c6b0); (try clear c6b1); (try clear c7b0); (try clear c7b1); (try clear c8b0); (try clear c8b1); (try clear c9b0); (try clear c9b1); (try clear c10b0); (try clear c10b1); (try clear c11b0); (try clear c11b1); (try clear c12b0); (try clear c12b1); (try clear c13b0); (try clear c13b1); (try clear c13b2); obtain ⟨x5_2, rfl, HA, HK2, BK579, BK580, HB⟩ := hrel
          cases gk with
          | zero => exact absurd HA.out (by simp [spec_EqualTransactions.l0])
          | succ k2 =>
            have H := HA.out; clear HA; simp only [spec_EqualTransactions.l0] at H
            by_cases c42 : x5_2 < (l0_7.length : Int)
            · rw [if_pos c42] at H; have c42b0 : decide (x5_2 < (l0_7.length : Int)) = true := decide_eq_true c42; clear c42
              by_cases c43 : 0 ≤ x5_2
              · rw [if_pos c43] at H; have c43b0 : decide (0 ≤ x5_2) = true := decide_eq_true c43; clear c43
                by_cases c44 : x5_2 < (l1_7.length : Int)
                · rw [if_pos c44] at H; have c44b0 : decide (x5_2 < (l1_7.length : Int)) = true := decide_eq_true c44; clear c44
                  by_cases c45 : (!(((rd_T47 l0_7 x5_2).f0) == ((rd_T47 l1_7 x5_2).f0)) || (!(((rd_T47 l0_7 x5_2).f1) == ((rd_T47 l1_7 x5_2).f1)))) = true
                  · rw [if_pos c45] at H; have c45b0 : (!(((rd_T47 l0_7 x5_2).f0) == ((rd_T47 l1_7 x5_2).f0)) || (!(((rd_T47 l0_7 x5_2).f1) == ((rd_T47 l1_7 x5_2).f1)))) = true := c45; clear c45; obtain rfl := Option.some.inj H; have hnb46 := NB579_580.out; have hnc46 := NB580_579.out; have hcz47 := bc9_ BK579.out; have hfz47 := bf9_ BK579.out; have p581 : 0 ≤ (x5_2 : Int) := of_decide_eq_true as_; have q581 : x5_2 < (l0_7.length : Int) := of_decide_eq_true as_; obtain ⟨ad581, e581, hx581_0, hx581_1⟩ := at_T47 HR0_7.out x5_2 p581 q581
                    cases e581
                    replace hx581_0 := bl_ HB.out hx581_0; replace hx581_1 := bl_ HB.out hx581_1; replace p581 := eq_true p581; replace q581 := eq_true q581; have hcz48 := bc9_ BK580.out; have hfz48 := bf9_ BK580.out; have p582 : 0 ≤ (x5_2 : Int) := of_decide_eq_true as_; have q582 : x5_2 < (l1_7.length : Int) := of_decide_eq_true as_; obtain ⟨ad582, e582, hx582_0, hx582_1⟩ := at_T47 HR1_7.out x5_2 p582 q582
                    cases e582
                    replace hx582_0 := bl_ HB.out hx582_0; replace hx582_1 := bl_ HB.out hx582_1; replace p582 := eq_true p582; replace q582 := eq_true q582
                    go_wp2
                    repeat (go_quiet (fail); try go_wp2)
                    go_ret; exact ⟨ew_, hq2_ HB.out GE579.out GE580.out⟩
                  · rw [if_neg c45] at H; (have c45b0 : (!(((rd_T47 l0_7 x5_2).f0) == ((rd_T47 l1_7 x5_2).f0)) || (!(((rd_T47 l0_7 x5_2).f1) == ((rd_T47 l1_7 x5_2).f1)))) = false := by simpa using c45); clear c45; have H' := Aside0.mk H; clear H; have hnb49 := NB579_580.out; have hnc49 := NB580_579.out; have hcz50 := bc9_ BK579.out; have hfz50 := bf9_ BK579.out; have p581 : 0 ≤ (x5_2 : Int) := of_decide_eq_true as_; have q581 : x5_2 < (l0_7.length : Int) := of_decide_eq_true as_; obtain ⟨ad581, e581, hx581_0, hx581_1⟩ := at_T47 HR0_7.out x5_2 p581 q581
                    cases e581
                    replace hx581_0 := bl_ HB.out hx581_0; replace hx581_1 := bl_ HB.out hx581_1; replace p581 := eq_true p581; replace q581 := eq_true q581; have hcz51 := bc9_ BK580.out; have hfz51 := bf9_ BK580.out; have p582 : 0 ≤ (x5_2 : Int) := of_decide_eq_true as_; have q582 : x5_2 < (l1_7.length : Int) := of_decide_eq_true as_; obtain ⟨ad582, e582, hx582_0, hx582_1⟩ := at_T47 HR1_7.out x5_2 p582 q582
                    cases e582
                    replace hx582_0 := bl_ HB.out hx582_0; replace hx582_1 := bl_ HB.out hx582_1; replace p582 := eq_true p582; replace q582 := eq_true q582
                    go_wp2
                    repeat (go_quiet (fail); try go_wp2)
                    go_roundg k2
                    case measure => have := HJ2.out; have := HK2.out; omega
                    case rel => exact ⟨(wrap64 (x5_2 + 1)), rs_, H', ⟨by have := HJ2.out; have := HK2.out; omega⟩, ⟨bq_ BK579.out⟩, ⟨bq_ BK580.out⟩, ⟨hbw_ HB⟩⟩
                · rw [if_neg c44] at H; exact absurd H (by simp)
              · rw [if_neg c43] at H; exact absurd H (by simp)
            · rw [if_neg c42] at H; have c42b0 : decide (x5_2 < (l0_7.length : Int)) = false := decide_eq_false c42; clear c42; have H' := Aside0.mk H; clear H; have hnb52 := NB579_580.out; have hnc52 := NB580_579.out; have hcz53 := bc9_ BK579.out; have hfz53 := bf9_ BK579.out
              go_wp2
              repeat (go_quiet (fail); try go_wp2)
              go_loopg [6] k2 (fun kq v6 w' => ∃ (x6_3 : Int), v6 = .int .i64 x6_3 ∧ Aside0 (spec_EqualTransactions.l1 kq x6_3 a0_0 a0_1 a0_2 a0_3 a0_4 a0_5 a0_6 l0_7 l0_8 a1_0 a1_1 a1_2 a1_3 a1_4 a1_5 a1_6 l1_7 l1_8 = some r) ∧ Aside0 (kq ≤ k2) ∧ Aside0 (w'.heap[gb579]? = some (.cells #[.int .i64 a0_0, .int .i64 a0_1, .int .i64 a0_2, .int .i64 a0_3, .int .i64 a0_4, .int .i64 a0_5, .int .i64 a0_6, (.slice A0_7 l0_7.length c0_7), (.slice A0_8 l0_8.length c0_8)] 29 (0, 0))) ∧ Aside0 (w'.heap[gb580]? = some (.cells #[.int .i64 a1_0, .int .i64 a1_1, .int .i64 a1_2, .int .i64 a1_3, .int .i64 a1_4, .int .i64 a1_5, .int .i64 a1_6, (.slice A1_7 l1_7.length c1_7), (.slice A1_8 l1_8.length c1_8)] 29 (0, 0))) ∧ Aside0 (Below w.heap.size w w'))
              case atStart => exact ⟨(0), rs_, H', ⟨Nat.le_refl _⟩, ⟨bq_ BK579.out⟩, ⟨bq_ BK580.out⟩, ⟨hbw_ HB⟩⟩
              case round =>
                clear H'; (try clear c6b0); (try clear c6b1); (try clear c7b0); (try clear c7b1); (try clear c8b0); (try clear c8b1); (try clear c9b0); (try clear c9b1); (try clear c10b0); (try clear c10b1); (try clear c11b0); (try clear c11b1); (try clear c12b0); (try clear c12b1); (try clear c13b0); (try clear c13b1); (try clear c13b2); (try clear c42b0); (try clear c43b0); (try clear c44b0); (try clear c45b0); (try clear hx581_0); (try clear hx581_1); (try clear hx582_0); (try clear hx582_1); obtain ⟨x6_3, rfl, HA, HK3, BK579, BK580, HB⟩ := hrel
                cases gk with
                | zero => exact absurd HA.out (by simp [spec_EqualTransactions.l1])
                | succ k3 =>
                  have H := HA.out; clear HA; simp only [spec_EqualTransactions.l1] at H
                  by_cases c54 : x6_3 < (l0_8.length : Int)
                  · rw [if_pos c54] at H; have c54b0 : decide (x6_3 < (l0_8.length : Int)) = true := decide_eq_true c54; clear c54
                    by_cases c55 : 0 ≤ x6_3
                    · rw [if_pos c55] at H; have c55b0 : decide (0 ≤ x6_3) = true := decide_eq_true c55; clear c55
                      by_cases c56 : x6_3 < (l1_8.length : Int)
                      · rw [if_pos c56] at H; have c56b0 : decide (x6_3 < (l1_8.length : Int)) = true := decide_eq_true c56; clear c56
                        by_cases c57 : (!(((rd_T58 l0_8 x6_3).f0) == ((rd_T58 l1_8 x6_3).f0)) || (!(((rd_T58 l0_8 x6_3).f1) == ((rd_T58 l1_8 x6_3).f1)))) = true
                        · rw [if_pos c57] at H; have c57b0 : (!(((rd_T58 l0_8 x6_3).f0) == ((rd_T58 l1_8 x6_3).f0)) || (!(((rd_T58 l0_8 x6_3).f1) == ((rd_T58 l1_8 x6_3).f1)))) = true := c57; clear c57; obtain rfl := Option.some.inj H; have hnb58 := NB579_580.out; have hnc58 := NB580_579.out; have hcz59 := bc9_ BK579.out; have hfz59 := bf9_ BK579.out; have p583 : 0 ≤ (x6_3 : Int) := of_decide_eq_true as_; have q583 : x6_3 < (l0_8.length : Int) := of_decide_eq_true as_; obtain ⟨ad583, e583, hx583_0, hx583_1⟩ := at_T58 HR0_8.out x6_3 p583 q583
                          cases e583
                          replace hx583_0 := bl_ HB.out hx583_0; replace hx583_1 := bl_ HB.out hx583_1; replace p583 := eq_true p583; replace q583 := eq_true q583; have hcz60 := bc9_ BK580.out; have hfz60 := bf9_ BK580.out; have p584 : 0 ≤ (x6_3 : Int) := of_decide_eq_true as_; have q584 : x6_3 < (l1_8.length : Int) := of_decide_eq_true as_; obtain ⟨ad584, e584, hx584_0, hx584_1⟩ := at_T58 HR1_8.out x6_3 p584 q584
                          cases e584
                          replace hx584_0 := bl_ HB.out hx584_0; replace hx584_1 := bl_ HB.out hx584_1; replace p584 := eq_true p584; replace q584 := eq_true q584
                          go_wp2
                          repeat (go_quiet (fail); try go_wp2)
                          go_ret; exact ⟨ew_, hq2_ HB.out GE579.out GE580.out⟩
                        · rw [if_neg c57] at H; (have c57b0 : (!(((rd_T58 l0_8 x6_3).f0) == ((rd_T58 l1_8 x6_3).f0)) || (!(((rd_T58 l0_8 x6_3).f1) == ((rd_T58 l1_8 x6_3).f1)))) = false := by simpa using c57); clear c57; have H' := Aside0.mk H; clear H; have hnb61 := NB579_580.out; have hnc61 := NB580_579.out; have hcz62 := bc9_ BK579.out; have hfz62 := bf9_ BK579.out; have p583 : 0 ≤ (x6_3 : Int) := of_decide_eq_true as_; have q583 : x6_3 < (l0_8.length : Int) := of_decide_eq_true as_; obtain ⟨ad583, e583, hx583_0, hx583_1⟩ := at_T58 HR0_8.out x6_3 p583 q583
                          cases e583
                          replace hx583_0 := bl_ HB.out hx583_0; replace hx583_1 := bl_ HB.out hx583_1; replace p583 := eq_true p583; replace q583 := eq_true q583; have hcz63 := bc9_ BK580.out; have hfz63 := bf9_ BK580.out; have p584 : 0 ≤ (x6_3 : Int) := of_decide_eq_true as_; have q584 : x6_3 < (l1_8.length : Int) := of_decide_eq_true as_; obtain ⟨ad584, e584, hx584_0, hx584_1⟩ := at_T58 HR1_8.out x6_3 p584 q584
                          cases e584
                          replace hx584_0 := bl_ HB.out hx584_0; replace hx584_1 := bl_ HB.out hx584_1; replace p584 := eq_true p584; replace q584 := eq_true q584
                          go_wp2
                          repeat (go_quiet (fail); try go_wp2)
                          go_roundg k3
                          case measure => have := HJ2.out; have := HK2.out; have := HK3.out; omega
                          case rel => exact ⟨(wrap64 (x6_3 + 1)), rs_, H', ⟨by have := HJ2.out; have := HK2.out; have := HK3.out; omega⟩, ⟨bq_ BK579.out⟩, ⟨bq_ BK580.out⟩, ⟨hbw_ HB⟩⟩
                      · rw [if_neg c56] at H; exact absurd H (by simp)
                    · rw [if_neg c55] at H; exact absurd H (by simp)
                  · rw [if_neg c54] at H; have c54b0 : decide (x6_3 < (l0_8.length : Int)) = false := decide_eq_false c54; clear c54; obtain rfl := Option.some.inj H; have hnb64 := NB579_580.out; have hnc64 := NB580_579.out; have hcz65 := bc9_ BK579.out; have hfz65 := bf9_ BK579.out
                    go_wp2
                    repeat (go_quiet (fail); try go_wp2)
                    go_ret; exact ⟨ew_, hq2_ HB.out GE579.out GE580.out⟩

end Go.Proofs.Ytacdaekigoldaaa.PFnTransactions
