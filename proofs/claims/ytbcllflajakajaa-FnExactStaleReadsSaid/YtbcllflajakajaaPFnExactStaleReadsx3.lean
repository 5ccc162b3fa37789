-- Printed by my own myprint.py out of the translation of the seat Ytbcllflajakajaa. Not trusted: Lean checks it.
import Derived.Test.YtbcllflajakajaaPFnExactStaleReadsx0
import Derived.Test.YtbcllflajakajaaPFnExactStaleReadsx2
namespace Go.Proofs.Ytbcllflajakajaa.PFnExactStaleReads
open Go.RowKit Go.Proofs.YtbcllflajakajaaW.PrintWords Go.Proofs.YtbcllflajakajaaW.PrintLast Go.Proofs.YtbcllflajakajaaW.PrintMore
attribute [local go_sem] max2_int min2_int max_two min_two max_three min_three max_four min_four   -- for this text's walks alone
set_option linter.unusedVariables false
set_option linter.unusedSimpArgs false

/-! ### laws_eqVersionSS: function 46 -/
def laws_eqVersionSS.l0 : Nat → List (List (S65)) → List (List (S65)) → Int → Option (Bool)
  | 0, _, _, _ => none
  | k + 1, x0, x1, x5 => if x5 < (x0.length : Int) then (if 0 ≤ x5 then (if x5 < (x1.length : Int) then ((laws_eqVersionS.f k (rd_L6 x0 x5) (rd_L6 x1 x5)).bind fun t171 => (if t171 = true then (laws_eqVersionSS.l0 k x0 x1 (wrap64 (x5 + 1))) else (some false))) else (none)) else (none)) else (some true)
def laws_eqVersionSS.f (k : Nat) (l0 : List (List (S65))) (l1 : List (List (S65))) : Option (Bool) := if (l0.length : Int) = (l1.length : Int) then (laws_eqVersionSS.l0 k l0 l1 0) else (some false)
theorem laws_eqVersionSS.mono_l : ∀ k, (∀ y0 y1 y2, LeO (laws_eqVersionSS.l0 k y0 y1 y2) (laws_eqVersionSS.l0 (k + 1) y0 y1 y2))
  | 0 => fun _ _ _ r h => by simp [laws_eqVersionSS.l0] at h
  | k + 1 => by
    have ih0 := laws_eqVersionSS.mono_l k
    · intro y0 y1 y2; unfold laws_eqVersionSS.l0
      repeat' first
      | (with_reducible first | apply ih0 | apply laws_eqVersionS.mono | exact LeO.refl _ | exact LeO.none _ | refine LeO.ite ?_ ?_ | refine LeO.bind ?_ (fun _ => ?_))
theorem laws_eqVersionSS.mono : ∀ a0 a1 k, LeO (laws_eqVersionSS.f k a0 a1) (laws_eqVersionSS.f (k + 1) a0 a1) := by
  intro a0 a1 k; have ih0 := laws_eqVersionSS.mono_l k; unfold laws_eqVersionSS.f
  repeat' first
      | (with_reducible first | apply ih0 | apply laws_eqVersionS.mono | exact LeO.refl _ | exact LeO.none _ | refine LeO.ite ?_ ?_ | refine LeO.bind ?_ (fun _ => ?_))
def laws_eqVersionSS.T6 : Bool × List (List Nat × List Nat) := (true, [([], []), ([], []), ([0, 1], [0, 1]), ([2], [2]), ([], []), ([], []), ([4, 5], [4, 5]), ([6], [6]), ([3, 7], [3, 7]), ([8], [8])])
def laws_eqVersionSS.B6 : List Nat := [0, 0, 3, 7, 0, 0, 48, 112, 255, 511]
theorem laws_eqVersionSS.tab6 : rtab .any (opsOf Try.f46 6) = laws_eqVersionSS.T6 := by kernel_rfl
theorem laws_eqVersionSS.bits6 : waitsOk laws_eqVersionSS.T6.2 laws_eqVersionSS.B6 = true := by kernel_rfl
set_option maxHeartbeats 8000000 in
set_option maxRecDepth 100000 in
theorem laws_eqVersionSS.calls (k : Nat) (A0 : Option Addr) (c0 : Nat) (l0 : List (List (S65))) (A1 : Option Addr) (c1 : Nat) (l1 : List (List (S65))) (r : Bool) (w : World) (hr0 : Kd.C (Kd.slice 65 k65) w A0 l0.length l0) (hc0 : l0.length ≤ c0) (hr1 : Kd.C (Kd.slice 65 k65) w A1 l1.length l1) (hc1 : l1.length ≤ c1) (h : laws_eqVersionSS.f k l0 l1 = some r) :
    Calls Try.prog 46 #[.slice A0 l0.length c0, .slice A1 l1.length c1] w fun e w' => e = .returned (.bool r) ∧ Below w.heap.size w w' := by
  have HR0 := Aside0.mk hr0; have HC0 := Aside0.mk hc0; clear hr0 hc0; have HR1 := Aside0.mk hr1; have HC1 := Aside0.mk hc1; clear hr1 hc1; have HB := Aside0.mk (Below.refl w.heap.size w); have H : (if (l0.length : Int) = (l1.length : Int) then (laws_eqVersionSS.l0 k l0 l1 0) else (some false)) = some r := h; clear h
  by_cases c3 : (l0.length : Int) = (l1.length : Int)
  · rw [if_pos c3] at H; have c3b0 : ((l0.length : Int) == (l1.length : Int)) = true := beq_iff_eq.mpr c3; have c3b1 : ((l0.length : Int) != (l1.length : Int)) = false := bne_eq_false_iff_eq.mpr c3; (have c3b2 : (l0.length == l1.length) = true := by first | simpa using c3 | (simp at c3 ⊢; omega)); clear c3; have H' := Aside0.mk H; clear H
    go_enter Try.func46, Try.ntmps46
    go_wp2
    go_loopg [5] k (fun kq v5 w' => ∃ (x5_1 : Int), v5 = .int .i64 x5_1 ∧ Aside0 (laws_eqVersionSS.l0 kq l0 l1 x5_1 = some r) ∧ Aside0 (kq ≤ k) ∧ Aside0 (Below w.heap.size w w'))
    case atStart => exact ⟨(0), rs_, H', ⟨Nat.le_refl _⟩, ⟨hbw_ HB⟩⟩
    case round =>
      clear H'; (try clear c3b0); (try clear c3b1); (try clear c3b2); obtain ⟨x5_1, rfl, HA, HK1, HB⟩ := hrel
      cases gk with
      | zero => exact absurd HA.out (by simp [laws_eqVersionSS.l0])
      | succ k1 =>
        have H := HA.out; clear HA; simp only [laws_eqVersionSS.l0] at H
        by_cases c4 : x5_1 < (l0.length : Int)
        · rw [if_pos c4] at H; have c4b0 : decide (x5_1 < (l0.length : Int)) = true := decide_eq_true c4; clear c4
          by_cases c5 : 0 ≤ x5_1
          · rw [if_pos c5] at H; have c5b0 : decide (0 ≤ x5_1) = true := decide_eq_true c5; clear c5
            by_cases c6 : x5_1 < (l1.length : Int)
            · rw [if_pos c6] at H; have c6b0 : decide (x5_1 < (l1.length : Int)) = true := decide_eq_true c6; clear c6; replace H := Option.bind_eq_some_iff.mp H; obtain ⟨t171, A70, H⟩ := H; have A7 := Aside0.mk A70; clear A70
              by_cases c8 : t171 = true
              · subst c8; rw [if_pos rfl] at H; have H' := Aside0.mk H; clear H; (try go_wp2); replace HB := Aside0.mk (below_drew1 HB.out); have p169 : 0 ≤ (x5_1 : Int) := of_decide_eq_true as_; have q169 : x5_1 < (l0.length : Int) := of_decide_eq_true as_; obtain ⟨ad169, A169_0, c169_0, e169, hx169_0, hl169_0, hi169_0⟩ := at_L6 HR0.out x5_1 p169 q169; have hw169_0 := hx169_0
                cases e169
                replace hx169_0 := bl_ HB.out hx169_0; have HR169_0 := Aside0.mk hi169_0; have HC169_0 := Aside0.mk hl169_0; clear hi169_0 hl169_0; replace p169 := eq_true p169; replace q169 := eq_true q169; have p170 : 0 ≤ (x5_1 : Int) := of_decide_eq_true as_; have q170 : x5_1 < (l1.length : Int) := of_decide_eq_true as_; obtain ⟨ad170, A170_0, c170_0, e170, hx170_0, hl170_0, hi170_0⟩ := at_L6 HR1.out x5_1 p170 q170; have hw170_0 := hx170_0
                cases e170
                replace hx170_0 := bl_ HB.out hx170_0; have HR170_0 := Aside0.mk hi170_0; have HC170_0 := Aside0.mk hl170_0; clear hi170_0 hl170_0; replace p170 := eq_true p170; replace q170 := eq_true q170; refine start_ (n := 10) (S := fun w' => w'.cell? (ad169.add (x5_1).toNat) = some (.slice A169_0 (rd_L6 l0 x5_1).length c169_0) ∧ w'.cell? (ad170.add (x5_1).toNat) = some (.slice A170_0 (rd_L6 l1 x5_1).length c170_0)) (ds := []) #[n_,n_,n_,n_,n_,n_,n_,n_,n_,n_] (by kernel_rfl) rfl rfl ⟨(bd_ HB.out hw169_0), (bd_ HB.out hw170_0)⟩ (fun hHeld => ?_); refine with_tabW laws_eqVersionSS.tab6 laws_eqVersionSS.bits6 (fun HT_ HW_ => ?_); generalize wr.drew = w9 at HB HR169_0 HR170_0 hx169_0 hx170_0 hHeld ⊢; refine pj_ 0 17 10 1 HT_ ?_; refine pj_ 1 18 10 3 HT_ ?_; refine pj_ 2 19 10 7 HT_ ?_; refine pj_ 4 21 10 23 HT_ ?_; refine pj_ 5 22 10 55 HT_ ?_; refine pj_ 6 23 10 119 HT_ ?_; refine tj_ 3 20 10 127 HT_ HW_ (v := ?_) (a' := ?_) ?_ hHeld ?_ ?_; rotate_left; (rintro w' ⟨s0, s1⟩; go_simp; (with_reducible rfl)); rotate_left; (exact pe_); refine tj_ 7 24 10 255 HT_ HW_ (v := ?_) (a' := ?_) ?_ hHeld ?_ ?_; rotate_left; (rintro w' ⟨s0, s1⟩; go_simp; (with_reducible rfl)); rotate_left; (exact pe_); refine oe_ 8 (bs_ 10 511) HT_ (fun K hK => ?_); refine goes_ Try.func76 (by kernel_rfl) rfl #[.slice A169_0 (rd_L6 l0 x5_1).length c169_0, .slice A170_0 (rd_L6 l1 x5_1).length c170_0] (by rfl) rfl rfl mp_ ?_; (with_reducible refine (laws_eqVersionS.calls k1 _ _ (rd_L6 l0 x5_1) _ _ (rd_L6 l1 x5_1) true _ ?side1 ?side2 ?side3 ?side4 A7.out).mono ?_); (case side1 => exact cq_ HR169_0.out HB.out); (case side2 => exact HC169_0.out); (case side3 => exact cq_ HR170_0.out HB.out); (case side4 => exact HC170_0.out); rintro e w10 ⟨rfl, hb⟩; refine ⟨_, rfl, ?_⟩; replace HB := hs_ HB hb; (try clear hb); (try clear hb2); (try clear hk); (try clear hi); refine hK.out _ _ ⟨(bd_ HB.out hw169_0), (bd_ HB.out hw170_0)⟩ (fun hHeld => ?_); clear hK K; refine nr_ ?_; refine pj_ 9 26 10 1023 HT_ ?_; refine dn_ HT_.out ?_; (try go_wp2)
                go_roundg k1
                case measure => have := HK1.out; omega
                case rel => exact ⟨(wrap64 (x5_1 + 1)), rs_, H', ⟨by have := HK1.out; omega⟩, ⟨hbw_ HB⟩⟩
              · replace c8 := Bool.eq_false_iff.mpr c8; subst c8; rw [if_neg nt_] at H; obtain rfl := Option.some.inj H; (try go_wp2); replace HB := Aside0.mk (below_drew1 HB.out); have p169 : 0 ≤ (x5_1 : Int) := of_decide_eq_true as_; have q169 : x5_1 < (l0.length : Int) := of_decide_eq_true as_; obtain ⟨ad169, A169_0, c169_0, e169, hx169_0, hl169_0, hi169_0⟩ := at_L6 HR0.out x5_1 p169 q169; have hw169_0 := hx169_0
                cases e169
                replace hx169_0 := bl_ HB.out hx169_0; have HR169_0 := Aside0.mk hi169_0; have HC169_0 := Aside0.mk hl169_0; clear hi169_0 hl169_0; replace p169 := eq_true p169; replace q169 := eq_true q169; have p170 : 0 ≤ (x5_1 : Int) := of_decide_eq_true as_; have q170 : x5_1 < (l1.length : Int) := of_decide_eq_true as_; obtain ⟨ad170, A170_0, c170_0, e170, hx170_0, hl170_0, hi170_0⟩ := at_L6 HR1.out x5_1 p170 q170; have hw170_0 := hx170_0
                cases e170
                replace hx170_0 := bl_ HB.out hx170_0; have HR170_0 := Aside0.mk hi170_0; have HC170_0 := Aside0.mk hl170_0; clear hi170_0 hl170_0; replace p170 := eq_true p170; replace q170 := eq_true q170; refine start_ (n := 10) (S := fun w' => w'.cell? (ad169.add (x5_1).toNat) = some (.slice A169_0 (rd_L6 l0 x5_1).length c169_0) ∧ w'.cell? (ad170.add (x5_1).toNat) = some (.slice A170_0 (rd_L6 l1 x5_1).length c170_0)) (ds := []) #[n_,n_,n_,n_,n_,n_,n_,n_,n_,n_] (by kernel_rfl) rfl rfl ⟨(bd_ HB.out hw169_0), (bd_ HB.out hw170_0)⟩ (fun hHeld => ?_); refine with_tabW laws_eqVersionSS.tab6 laws_eqVersionSS.bits6 (fun HT_ HW_ => ?_); generalize wr.drew = w11 at HB HR169_0 HR170_0 hx169_0 hx170_0 hHeld ⊢; refine pj_ 0 17 10 1 HT_ ?_; refine pj_ 1 18 10 3 HT_ ?_; refine pj_ 2 19 10 7 HT_ ?_; refine pj_ 4 21 10 23 HT_ ?_; refine pj_ 5 22 10 55 HT_ ?_; refine pj_ 6 23 10 119 HT_ ?_; refine tj_ 3 20 10 127 HT_ HW_ (v := ?_) (a' := ?_) ?_ hHeld ?_ ?_; rotate_left; (rintro w' ⟨s0, s1⟩; go_simp; (with_reducible rfl)); rotate_left; (exact pe_); refine tj_ 7 24 10 255 HT_ HW_ (v := ?_) (a' := ?_) ?_ hHeld ?_ ?_; rotate_left; (rintro w' ⟨s0, s1⟩; go_simp; (with_reducible rfl)); rotate_left; (exact pe_); refine oe_ 8 (bs_ 10 511) HT_ (fun K hK => ?_); refine goes_ Try.func76 (by kernel_rfl) rfl #[.slice A169_0 (rd_L6 l0 x5_1).length c169_0, .slice A170_0 (rd_L6 l1 x5_1).length c170_0] (by rfl) rfl rfl mp_ ?_; (with_reducible refine (laws_eqVersionS.calls k1 _ _ (rd_L6 l0 x5_1) _ _ (rd_L6 l1 x5_1) false _ ?side1 ?side2 ?side3 ?side4 A7.out).mono ?_); (case side1 => exact cq_ HR169_0.out HB.out); (case side2 => exact HC169_0.out); (case side3 => exact cq_ HR170_0.out HB.out); (case side4 => exact HC170_0.out); rintro e w12 ⟨rfl, hb⟩; refine ⟨_, rfl, ?_⟩; replace HB := hs_ HB hb; (try clear hb); (try clear hb2); (try clear hk); (try clear hi); refine hK.out _ _ ⟨(bd_ HB.out hw169_0), (bd_ HB.out hw170_0)⟩ (fun hHeld => ?_); clear hK K; refine nr_ ?_; refine pj_ 9 26 10 1023 HT_ ?_; refine dn_ HT_.out ?_; (try go_wp2); go_ret; exact ⟨ew_, hq0_ HB.out⟩
            · rw [if_neg c6] at H; exact absurd H (by simp)
          · rw [if_neg c5] at H; exact absurd H (by simp)
        · rw [if_neg c4] at H; have c4b0 : decide (x5_1 < (l0.length : Int)) = false := decide_eq_false c4; clear c4; obtain rfl := Option.some.inj H
          go_wp2
          go_ret; exact ⟨ew_, hq0_ HB.out⟩
  · rw [if_neg c3] at H; have c3b0 : ((l0.length : Int) == (l1.length : Int)) = false := beq_eq_false_iff_ne.mpr c3; have c3b1 : ((l0.length : Int) != (l1.length : Int)) = true := bne_iff_ne.mpr c3; (have c3b2 : (l0.length == l1.length) = false := by first | simpa using c3 | (simp at c3 ⊢; omega)); obtain rfl := Option.some.inj H
    go_enter Try.func46, Try.ntmps46
    go_wp2
    go_ret; exact ⟨ew_, hq0_ HB.out⟩

/-! ### laws_eqStore: function 16 -/
def laws_eqStore.f (k : Nat) (l0_0 : List (List (S65))) (l1_0 : List (List (S65))) : Option (Bool) := (laws_eqVersionSS.f k l0_0 l1_0).bind fun t174 => (if t174 = true then (some true) else (some false))
theorem laws_eqStore.mono : ∀ a0 a1 k, LeO (laws_eqStore.f k a0 a1) (laws_eqStore.f (k + 1) a0 a1) := by
  intro a0 a1 k; unfold laws_eqStore.f
  repeat' first
      | (with_reducible first | apply laws_eqVersionSS.mono | exact LeO.refl _ | exact LeO.none _ | refine LeO.ite ?_ ?_ | refine LeO.bind ?_ (fun _ => ?_))
set_option maxHeartbeats 8000000 in
set_option maxRecDepth 100000 in
theorem laws_eqStore.calls (k : Nat) (A0_0 : Option Addr) (c0_0 : Nat) (l0_0 : List (List (S65))) (A1_0 : Option Addr) (c1_0 : Nat) (l1_0 : List (List (S65))) (r : Bool) (w : World) (hr0_0 : Kd.C (Kd.slice 65 k65) w A0_0 l0_0.length l0_0) (hc0_0 : l0_0.length ≤ c0_0) (hr1_0 : Kd.C (Kd.slice 65 k65) w A1_0 l1_0.length l1_0) (hc1_0 : l1_0.length ≤ c1_0) (h : laws_eqStore.f k l0_0 l1_0 = some r) :
    Calls Try.prog 16 #[.agg #[.slice A0_0 l0_0.length c0_0], .agg #[.slice A1_0 l1_0.length c1_0]] w fun e w' => e = .returned (.bool r) ∧ Below w.heap.size w w' := by
  have hu34 := Try.underlying34; have HR0_0 := Aside0.mk hr0_0; have HC0_0 := Aside0.mk hc0_0; clear hr0_0 hc0_0; have HR1_0 := Aside0.mk hr1_0; have HC1_0 := Aside0.mk hc1_0; clear hr1_0 hc1_0; have HB := Aside0.mk (Below.refl w.heap.size w); have H : ((laws_eqVersionSS.f k l0_0 l1_0).bind fun t174 => (if t174 = true then (some true) else (some false))) = some r := h; clear h; replace H := Option.bind_eq_some_iff.mp H; obtain ⟨t174, A30, H⟩ := H; have A3 := Aside0.mk A30; clear A30
  by_cases c4 : t174 = true
  · subst c4; rw [if_pos rfl] at H; obtain rfl := Option.some.inj H
    go_enter Try.func16, Try.ntmps16
    go_wp2_with (first | ((with_reducible refine gate_dst (N := 2) rfl ?_); refine be_ 2 #[.slice A0_0 l0_0.length c0_0] 34 ?_; intro gb172 hg w5 hbox hb; have BK172 := Aside0.mk (hbox); have GW172 := wk_ hg HB; replace HB := hs_ HB hb; have GE172 := GW172; clear hb hbox hg) | ((with_reducible refine gate_dst (N := 3) rfl ?_); refine be_ 3 #[.slice A1_0 l1_0.length c1_0] 34 ?_; intro gb173 hg w6 hbox hb; have BK173 := Aside0.mk (hbox); have GW173 := wk_ hg HB; replace HB := hs_ HB hb; have GE173 := GW173; have NB172_173 := nk_ hg BK172; replace BK172 := bb_ BK172 hb; have NB173_172 := ny_ NB172_173; clear hb hbox hg; have hnb7 := NB172_173.out; have hnc7 := NB173_172.out; have hcz8_0 := bc1_ BK172.out; have hfz8_0 := blk_frozen BK172.out 0; have hcz9_0 := bc1_ BK173.out; have hfz9_0 := blk_frozen BK173.out 0) | ((with_reducible refine gate_callee (f := 46) rfl ?_); refine goesL_ (some 9) rfl rfl Try.func46 (by kernel_rfl) rfl #[.slice A0_0 l0_0.length c0_0, .slice A1_0 l1_0.length c1_0] rfl mp_ ?_; (with_reducible refine (laws_eqVersionSS.calls k _ _ l0_0 _ _ l1_0 true _ ?side1 ?side2 ?side3 ?side4 A3.out).mono ?_); (case side1 => exact cq_ HR0_0.out HB.out); (case side2 => exact HC0_0.out); (case side3 => exact cq_ HR1_0.out HB.out); (case side4 => exact HC1_0.out); rintro e w10 ⟨rfl, hb⟩; refine ⟨_, rfl, ?_⟩; replace BK172 := bb_ BK172 hb; replace BK173 := bb_ BK173 hb; replace HB := hs_ HB hb; (try clear hb); (try clear hb2); (try clear hk); (try clear hi)))
    go_ret; exact ⟨ew_, hq2_ HB.out GE172.out GE173.out⟩
  · replace c4 := Bool.eq_false_iff.mpr c4; subst c4; rw [if_neg nt_] at H; obtain rfl := Option.some.inj H
    go_enter Try.func16, Try.ntmps16
    go_wp2_with (first | ((with_reducible refine gate_dst (N := 2) rfl ?_); refine be_ 2 #[.slice A0_0 l0_0.length c0_0] 34 ?_; intro gb172 hg w11 hbox hb; have BK172 := Aside0.mk (hbox); have GW172 := wk_ hg HB; replace HB := hs_ HB hb; have GE172 := GW172; clear hb hbox hg) | ((with_reducible refine gate_dst (N := 3) rfl ?_); refine be_ 3 #[.slice A1_0 l1_0.length c1_0] 34 ?_; intro gb173 hg w12 hbox hb; have BK173 := Aside0.mk (hbox); have GW173 := wk_ hg HB; replace HB := hs_ HB hb; have GE173 := GW173; have NB172_173 := nk_ hg BK172; replace BK172 := bb_ BK172 hb; have NB173_172 := ny_ NB172_173; clear hb hbox hg; have hnb13 := NB172_173.out; have hnc13 := NB173_172.out; have hcz14_0 := bc1_ BK172.out; have hfz14_0 := blk_frozen BK172.out 0; have hcz15_0 := bc1_ BK173.out; have hfz15_0 := blk_frozen BK173.out 0) | ((with_reducible refine gate_callee (f := 46) rfl ?_); refine goesL_ (some 9) rfl rfl Try.func46 (by kernel_rfl) rfl #[.slice A0_0 l0_0.length c0_0, .slice A1_0 l1_0.length c1_0] rfl mp_ ?_; (with_reducible refine (laws_eqVersionSS.calls k _ _ l0_0 _ _ l1_0 false _ ?side1 ?side2 ?side3 ?side4 A3.out).mono ?_); (case side1 => exact cq_ HR0_0.out HB.out); (case side2 => exact HC0_0.out); (case side3 => exact cq_ HR1_0.out HB.out); (case side4 => exact HC1_0.out); rintro e w16 ⟨rfl, hb⟩; refine ⟨_, rfl, ?_⟩; replace BK172 := bb_ BK172 hb; replace BK173 := bb_ BK173 hb; replace HB := hs_ HB hb; (try clear hb); (try clear hb2); (try clear hk); (try clear hi)))
    go_ret; exact ⟨ew_, hq2_ HB.out GE172.out GE173.out⟩

/-! ### laws_eqReadMark: function 35 -/
def laws_eqReadMark.f (a0_0 : Int) (a0_1 : Int) (a1_0 : Int) (a1_1 : Int) : Option (Bool) := if a0_0 = a1_0 then (if a0_1 = a1_1 then (some true) else (some false)) else (some false)
set_option maxHeartbeats 8000000 in
set_option maxRecDepth 100000 in
theorem laws_eqReadMark.calls (a0_0 : Int) (a0_1 : Int) (a1_0 : Int) (a1_1 : Int) (r : Bool) (w : World) (h : laws_eqReadMark.f a0_0 a0_1 a1_0 a1_1 = some r) :
    Calls Try.prog 35 #[.agg #[.int .i64 a0_0, .int .i64 a0_1], .agg #[.int .i64 a1_0, .int .i64 a1_1]] w fun e w' => e = .returned (.bool r) ∧ Below w.heap.size w w' := by
  have hu55 := Try.underlying55; have HB := Aside0.mk (Below.refl w.heap.size w); have H : (if a0_0 = a1_0 then (if a0_1 = a1_1 then (some true) else (some false)) else (some false)) = some r := h; clear h
  by_cases c3 : a0_0 = a1_0
  · rw [if_pos c3] at H; have c3b0 : (a0_0 == a1_0) = true := beq_iff_eq.mpr c3; have c3b1 : (a0_0 != a1_0) = false := bne_eq_false_iff_eq.mpr c3; clear c3
    by_cases c4 : a0_1 = a1_1
    · rw [if_pos c4] at H; have c4b0 : (a0_1 == a1_1) = true := beq_iff_eq.mpr c4; have c4b1 : (a0_1 != a1_1) = false := bne_eq_false_iff_eq.mpr c4; clear c4; obtain rfl := Option.some.inj H
      go_enter Try.func35, Try.ntmps35
      go_wp2_with (first | ((with_reducible refine gate_dst (N := 2) rfl ?_); refine be_ 2 #[.int .i64 a0_0, .int .i64 a0_1] 55 ?_; intro gb175 hg w5 hbox hb; have BK175 := Aside0.mk (hbox); have GW175 := wk_ hg HB; replace HB := hs_ HB hb; have GE175 := GW175; clear hb hbox hg) | ((with_reducible refine gate_dst (N := 3) rfl ?_); refine be_ 3 #[.int .i64 a1_0, .int .i64 a1_1] 55 ?_; intro gb176 hg w6 hbox hb; have BK176 := Aside0.mk (hbox); have GW176 := wk_ hg HB; replace HB := hs_ HB hb; have GE176 := GW176; have NB175_176 := nk_ hg BK175; replace BK175 := bb_ BK175 hb; have NB176_175 := ny_ NB175_176; clear hb hbox hg; have hnb7 := NB175_176.out; have hnc7 := NB176_175.out; have hcz8 := bc2_ BK175.out; have hfz8 := bf2_ BK175.out; have hcz9 := bc2_ BK176.out; have hfz9 := bf2_ BK176.out))
      go_ret; exact ⟨ew_, hq2_ HB.out GE175.out GE176.out⟩
    · rw [if_neg c4] at H; have c4b0 : (a0_1 == a1_1) = false := beq_eq_false_iff_ne.mpr c4; have c4b1 : (a0_1 != a1_1) = true := bne_iff_ne.mpr c4; obtain rfl := Option.some.inj H
      go_enter Try.func35, Try.ntmps35
      go_wp2_with (first | ((with_reducible refine gate_dst (N := 2) rfl ?_); refine be_ 2 #[.int .i64 a0_0, .int .i64 a0_1] 55 ?_; intro gb175 hg w10 hbox hb; have BK175 := Aside0.mk (hbox); have GW175 := wk_ hg HB; replace HB := hs_ HB hb; have GE175 := GW175; clear hb hbox hg) | ((with_reducible refine gate_dst (N := 3) rfl ?_); refine be_ 3 #[.int .i64 a1_0, .int .i64 a1_1] 55 ?_; intro gb176 hg w11 hbox hb; have BK176 := Aside0.mk (hbox); have GW176 := wk_ hg HB; replace HB := hs_ HB hb; have GE176 := GW176; have NB175_176 := nk_ hg BK175; replace BK175 := bb_ BK175 hb; have NB176_175 := ny_ NB175_176; clear hb hbox hg; have hnb12 := NB175_176.out; have hnc12 := NB176_175.out; have hcz13 := bc2_ BK175.out; have hfz13 := bf2_ BK175.out; have hcz14 := bc2_ BK176.out; have hfz14 := bf2_ BK176.out))
      go_ret; exact ⟨ew_, hq2_ HB.out GE175.out GE176.out⟩
  · rw [if_neg c3] at H; have c3b0 : (a0_0 == a1_0) = false := beq_eq_false_iff_ne.mpr c3; have c3b1 : (a0_0 != a1_0) = true := bne_iff_ne.mpr c3; obtain rfl := Option.some.inj H
    go_enter Try.func35, Try.ntmps35
    go_wp2_with (first | ((with_reducible refine gate_dst (N := 2) rfl ?_); refine be_ 2 #[.int .i64 a0_0, .int .i64 a0_1] 55 ?_; intro gb175 hg w15 hbox hb; have BK175 := Aside0.mk (hbox); have GW175 := wk_ hg HB; replace HB := hs_ HB hb; have GE175 := GW175; clear hb hbox hg) | ((with_reducible refine gate_dst (N := 3) rfl ?_); refine be_ 3 #[.int .i64 a1_0, .int .i64 a1_1] 55 ?_; intro gb176 hg w16 hbox hb; have BK176 := Aside0.mk (hbox); have GW176 := wk_ hg HB; replace HB := hs_ HB hb; have GE176 := GW176; have NB175_176 := nk_ hg BK175; replace BK175 := bb_ BK175 hb; have NB176_175 := ny_ NB175_176; clear hb hbox hg; have hnb17 := NB175_176.out; have hnc17 := NB176_175.out; have hcz18 := bc2_ BK175.out; have hfz18 := bf2_ BK175.out; have hcz19 := bc2_ BK176.out; have hfz19 := bf2_ BK176.out))
    go_ret; exact ⟨ew_, hq2_ HB.out GE175.out GE176.out⟩

/-! ### laws_eqReadMarkS: function 20 -/
def laws_eqReadMarkS.l0 : Nat → List (S55) → List (S55) → Int → Option (Bool)
  | 0, _, _, _ => none
  | k + 1, x0, x1, x5 => if x5 < (x0.length : Int) then (if 0 ≤ x5 then (if x5 < (x1.length : Int) then ((laws_eqReadMark.f ((rd_T55 x0 x5).f0) ((rd_T55 x0 x5).f1) ((rd_T55 x1 x5).f0) ((rd_T55 x1 x5).f1)).bind fun t179 => (if t179 = true then (laws_eqReadMarkS.l0 k x0 x1 (wrap64 (x5 + 1))) else (some false))) else (none)) else (none)) else (some true)
def laws_eqReadMarkS.f (k : Nat) (l0 : List (S55)) (l1 : List (S55)) : Option (Bool) := if (l0.length : Int) = (l1.length : Int) then (laws_eqReadMarkS.l0 k l0 l1 0) else (some false)
theorem laws_eqReadMarkS.mono_l : ∀ k, (∀ y0 y1 y2, LeO (laws_eqReadMarkS.l0 k y0 y1 y2) (laws_eqReadMarkS.l0 (k + 1) y0 y1 y2))
  | 0 => fun _ _ _ r h => by simp [laws_eqReadMarkS.l0] at h
  | k + 1 => by
    have ih0 := laws_eqReadMarkS.mono_l k
    · intro y0 y1 y2; unfold laws_eqReadMarkS.l0
      repeat' first
      | (with_reducible first | apply ih0 | exact LeO.refl _ | exact LeO.none _ | refine LeO.ite ?_ ?_ | refine LeO.bind ?_ (fun _ => ?_))
theorem laws_eqReadMarkS.mono : ∀ a0 a1 k, LeO (laws_eqReadMarkS.f k a0 a1) (laws_eqReadMarkS.f (k + 1) a0 a1) := by
  intro a0 a1 k; have ih0 := laws_eqReadMarkS.mono_l k; unfold laws_eqReadMarkS.f
  repeat' first
      | (with_reducible first | apply ih0 | exact LeO.refl _ | exact LeO.none _ | refine LeO.ite ?_ ?_ | refine LeO.bind ?_ (fun _ => ?_))
def laws_eqReadMarkS.T6 : Bool × List (List Nat × List Nat) := (true, [([], []), ([], []), ([0, 1], [0, 1]), ([2], [2]), ([], []), ([], []), ([4, 5], [4, 5]), ([6], [6]), ([3, 7], [3, 7]), ([8], [8])])
def laws_eqReadMarkS.B6 : List Nat := [0, 0, 3, 7, 0, 0, 48, 112, 255, 511]
theorem laws_eqReadMarkS.tab6 : rtab .any (opsOf Try.f20 6) = laws_eqReadMarkS.T6 := by kernel_rfl
theorem laws_eqReadMarkS.bits6 : waitsOk laws_eqReadMarkS.T6.2 laws_eqReadMarkS.B6 = true := by kernel_rfl
set_option maxHeartbeats 8000000 in
set_option maxRecDepth 100000 in
theorem laws_eqReadMarkS.calls (k : Nat) (A0 : Option Addr) (c0 : Nat) (l0 : List (S55)) (A1 : Option Addr) (c1 : Nat) (l1 : List (S55)) (r : Bool) (w : World) (hr0 : Kd.C k55 w A0 l0.length l0) (hc0 : l0.length ≤ c0) (hr1 : Kd.C k55 w A1 l1.length l1) (hc1 : l1.length ≤ c1) (h : laws_eqReadMarkS.f k l0 l1 = some r) :
    Calls Try.prog 20 #[.slice A0 l0.length c0, .slice A1 l1.length c1] w fun e w' => e = .returned (.bool r) ∧ Below w.heap.size w w' := by
  have hu55 := Try.underlying55; have HR0 := Aside0.mk hr0; have HC0 := Aside0.mk hc0; clear hr0 hc0; have HR1 := Aside0.mk hr1; have HC1 := Aside0.mk hc1; clear hr1 hc1; have HB := Aside0.mk (Below.refl w.heap.size w); have H : (if (l0.length : Int) = (l1.length : Int) then (laws_eqReadMarkS.l0 k l0 l1 0) else (some false)) = some r := h; clear h
  by_cases c3 : (l0.length : Int) = (l1.length : Int)
  · rw [if_pos c3] at H; have c3b0 : ((l0.length : Int) == (l1.length : Int)) = true := beq_iff_eq.mpr c3; have c3b1 : ((l0.length : Int) != (l1.length : Int)) = false := bne_eq_false_iff_eq.mpr c3; (have c3b2 : (l0.length == l1.length) = true := by first | simpa using c3 | (simp at c3 ⊢; omega)); clear c3; have H' := Aside0.mk H; clear H
    go_enter Try.func20, Try.ntmps20
    go_wp2
    go_loopg [5] k (fun kq v5 w' => ∃ (x5_1 : Int), v5 = .int .i64 x5_1 ∧ Aside0 (laws_eqReadMarkS.l0 kq l0 l1 x5_1 = some r) ∧ Aside0 (kq ≤ k) ∧ Aside0 (Below w.heap.size w w'))
    case atStart => exact ⟨(0), rs_, H', ⟨Nat.le_refl _⟩, ⟨hbw_ HB⟩⟩
    case round =>
      clear H'; (try clear c3b0); (try clear c3b1); (try clear c3b2); obtain ⟨x5_1, rfl, HA, HK1, HB⟩ := hrel
      cases gk with
      | zero => exact absurd HA.out (by simp [laws_eqReadMarkS.l0])
      | succ k1 =>
        have H := HA.out; clear HA; simp only [laws_eqReadMarkS.l0] at H
        by_cases c4 : x5_1 < (l0.length : Int)
        · rw [if_pos c4] at H; have c4b0 : decide (x5_1 < (l0.length : Int)) = true := decide_eq_true c4; clear c4
          by_cases c5 : 0 ≤ x5_1
          · rw [if_pos c5] at H; have c5b0 : decide (0 ≤ x5_1) = true := decide_eq_true c5; clear c5
            by_cases c6 : x5_1 < (l1.length : Int)
            · rw [if_pos c6] at H; have c6b0 : decide (x5_1 < (l1.length : Int)) = true := decide_eq_true c6; clear c6; replace H := Option.bind_eq_some_iff.mp H; obtain ⟨t179, A70, H⟩ := H; have A7 := Aside0.mk A70; clear A70
              by_cases c8 : t179 = true
              · subst c8; rw [if_pos rfl] at H; have H' := Aside0.mk H; clear H; (try go_wp2); replace HB := Aside0.mk (below_drew1 HB.out); have p177 : 0 ≤ (x5_1 : Int) := of_decide_eq_true as_; have q177 : x5_1 < (l0.length : Int) := of_decide_eq_true as_; obtain ⟨ad177, e177, hx177_0, hx177_1⟩ := at_T55 HR0.out x5_1 p177 q177; have hw177_1 := hx177_1; have hw177_0 := hx177_0
                cases e177
                replace hx177_0 := bl_ HB.out hx177_0; replace hx177_1 := bl_ HB.out hx177_1; replace p177 := eq_true p177; replace q177 := eq_true q177; have p178 : 0 ≤ (x5_1 : Int) := of_decide_eq_true as_; have q178 : x5_1 < (l1.length : Int) := of_decide_eq_true as_; obtain ⟨ad178, e178, hx178_0, hx178_1⟩ := at_T55 HR1.out x5_1 p178 q178; have hw178_1 := hx178_1; have hw178_0 := hx178_0
                cases e178
                replace hx178_0 := bl_ HB.out hx178_0; replace hx178_1 := bl_ HB.out hx178_1; replace p178 := eq_true p178; replace q178 := eq_true q178; refine start_ (n := 10) (S := fun w' => w'.cell? (ad177.add ((x5_1).toNat * 2)) = some (.int .i64 ((rd_T55 l0 x5_1).f0)) ∧ w'.cell? ⟨(ad177.add ((x5_1).toNat * 2)).block, (ad177.add ((x5_1).toNat * 2)).off + 1, none⟩ = some (.int .i64 ((rd_T55 l0 x5_1).f1)) ∧ w'.cell? (ad178.add ((x5_1).toNat * 2)) = some (.int .i64 ((rd_T55 l1 x5_1).f0)) ∧ w'.cell? ⟨(ad178.add ((x5_1).toNat * 2)).block, (ad178.add ((x5_1).toNat * 2)).off + 1, none⟩ = some (.int .i64 ((rd_T55 l1 x5_1).f1))) (ds := []) #[n_,n_,n_,n_,n_,n_,n_,n_,n_,n_] (by kernel_rfl) rfl rfl ⟨(bd_ HB.out hw177_0), (bd_ HB.out hw177_1), (bd_ HB.out hw178_0), (bd_ HB.out hw178_1)⟩ (fun hHeld => ?_); refine with_tabW laws_eqReadMarkS.tab6 laws_eqReadMarkS.bits6 (fun HT_ HW_ => ?_); generalize wr.drew = w9 at HB hx177_0 hx177_1 hx178_0 hx178_1 hHeld ⊢; refine pj_ 0 17 10 1 HT_ ?_; refine pj_ 1 18 10 3 HT_ ?_; refine pj_ 2 19 10 7 HT_ ?_; refine pj_ 4 21 10 23 HT_ ?_; refine pj_ 5 22 10 55 HT_ ?_; refine pj_ 6 23 10 119 HT_ ?_; refine tj_ 3 20 10 127 HT_ HW_ (v := ?_) (a' := ?_) ?_ hHeld ?_ ?_; rotate_left; (rintro w' ⟨s0, s1, s2, s3⟩; go_simp; (with_reducible rfl)); rotate_left; (exact pe_); refine tj_ 7 24 10 255 HT_ HW_ (v := ?_) (a' := ?_) ?_ hHeld ?_ ?_; rotate_left; (rintro w' ⟨s0, s1, s2, s3⟩; go_simp; (with_reducible rfl)); rotate_left; (exact pe_); refine oe_ 8 (bs_ 10 511) HT_ (fun K hK => ?_); refine goes_ Try.func35 (by kernel_rfl) rfl #[.agg #[.int .i64 ((rd_T55 l0 x5_1).f0), .int .i64 ((rd_T55 l0 x5_1).f1)], .agg #[.int .i64 ((rd_T55 l1 x5_1).f0), .int .i64 ((rd_T55 l1 x5_1).f1)]] (by rfl) rfl rfl mp_ ?_; (with_reducible refine (laws_eqReadMark.calls ((rd_T55 l0 x5_1).f0) ((rd_T55 l0 x5_1).f1) ((rd_T55 l1 x5_1).f0) ((rd_T55 l1 x5_1).f1) true _ A7.out).mono ?_); rintro e w10 ⟨rfl, hb⟩; refine ⟨_, rfl, ?_⟩; replace HB := hs_ HB hb; (try clear hb); (try clear hb2); (try clear hk); (try clear hi); refine hK.out _ _ ⟨(bd_ HB.out hw177_0), (bd_ HB.out hw177_1), (bd_ HB.out hw178_0), (bd_ HB.out hw178_1)⟩ (fun hHeld => ?_); clear hK K; refine nr_ ?_; refine pj_ 9 26 10 1023 HT_ ?_; refine dn_ HT_.out ?_; (try go_wp2)
                go_roundg k1
                case measure => have := HK1.out; omega
                case rel => exact ⟨(wrap64 (x5_1 + 1)), rs_, H', ⟨by have := HK1.out; omega⟩, ⟨hbw_ HB⟩⟩
              · replace c8 := Bool.eq_false_iff.mpr c8; subst c8; rw [if_neg nt_] at H; obtain rfl := Option.some.inj H; (try go_wp2); replace HB := Aside0.mk (below_drew1 HB.out); have p177 : 0 ≤ (x5_1 : Int) := of_decide_eq_true as_; have q177 : x5_1 < (l0.length : Int) := of_decide_eq_true as_; obtain ⟨ad177, e177, hx177_0, hx177_1⟩ := at_T55 HR0.out x5_1 p177 q177; have hw177_1 := hx177_1; have hw177_0 := hx177_0
                cases e177
                replace hx177_0 := bl_ HB.out hx177_0; replace hx177_1 := bl_ HB.out hx177_1; replace p177 := eq_true p177; replace q177 := eq_true q177; have p178 : 0 ≤ (x5_1 : Int) := of_decide_eq_true as_; have q178 : x5_1 < (l1.length : Int) := of_decide_eq_true as_; obtain ⟨ad178, e178, hx178_0, hx178_1⟩ := at_T55 HR1.out x5_1 p178 q178; have hw178_1 := hx178_1; have hw178_0 := hx178_0
                cases e178
                replace hx178_0 := bl_ HB.out hx178_0; replace hx178_1 := bl_ HB.out hx178_1; replace p178 := eq_true p178; replace q178 := eq_true q178; refine start_ (n := 10) (S := fun w' => w'.cell? (ad177.add ((x5_1).toNat * 2)) = some (.int .i64 ((rd_T55 l0 x5_1).f0)) ∧ w'.cell? ⟨(ad177.add ((x5_1).toNat * 2)).block, (ad177.add ((x5_1).toNat * 2)).off + 1, none⟩ = some (.int .i64 ((rd_T55 l0 x5_1).f1)) ∧ w'.cell? (ad178.add ((x5_1).toNat * 2)) = some (.int .i64 ((rd_T55 l1 x5_1).f0)) ∧ w'.cell? ⟨(ad178.add ((x5_1).toNat * 2)).block, (ad178.add ((x5_1).toNat * 2)).off + 1, none⟩ = some (.int .i64 ((rd_T55 l1 x5_1).f1))) (ds := []) #[n_,n_,n_,n_,n_,n_,n_,n_,n_,n_] (by kernel_rfl) rfl rfl ⟨(bd_ HB.out hw177_0), (bd_ HB.out hw177_1), (bd_ HB.out hw178_0), (bd_ HB.out hw178_1)⟩ (fun hHeld => ?_); refine with_tabW laws_eqReadMarkS.tab6 laws_eqReadMarkS.bits6 (fun HT_ HW_ => ?_); generalize wr.drew = w11 at HB hx177_0 hx177_1 hx178_0 hx178_1 hHeld ⊢; refine pj_ 0 17 10 1 HT_ ?_; refine pj_ 1 18 10 3 HT_ ?_; refine pj_ 2 19 10 7 HT_ ?_; refine pj_ 4 21 10 23 HT_ ?_; refine pj_ 5 22 10 55 HT_ ?_; refine pj_ 6 23 10 119 HT_ ?_; refine tj_ 3 20 10 127 HT_ HW_ (v := ?_) (a' := ?_) ?_ hHeld ?_ ?_; rotate_left; (rintro w' ⟨s0, s1, s2, s3⟩; go_simp; (with_reducible rfl)); rotate_left; (exact pe_); refine tj_ 7 24 10 255 HT_ HW_ (v := ?_) (a' := ?_) ?_ hHeld ?_ ?_; rotate_left; (rintro w' ⟨s0, s1, s2, s3⟩; go_simp; (with_reducible rfl)); rotate_left; (exact pe_); refine oe_ 8 (bs_ 10 511) HT_ (fun K hK => ?_); refine goes_ Try.func35 (by kernel_rfl) rfl #[.agg #[.int .i64 ((rd_T55 l0 x5_1).f0), .int .i64 ((rd_T55 l0 x5_1).f1)], .agg #[.int .i64 ((rd_T55 l1 x5_1).f0), .int .i64 ((rd_T55 l1 x5_1).f1)]] (by rfl) rfl rfl mp_ ?_; (with_reducible refine (laws_eqReadMark.calls ((rd_T55 l0 x5_1).f0) ((rd_T55 l0 x5_1).f1) ((rd_T55 l1 x5_1).f0) ((rd_T55 l1 x5_1).f1) false _ A7.out).mono ?_); rintro e w12 ⟨rfl, hb⟩; refine ⟨_, rfl, ?_⟩; replace HB := hs_ HB hb; (try clear hb); (try clear hb2); (try clear hk); (try clear hi); refine hK.out _ _ ⟨(bd_ HB.out hw177_0), (bd_ HB.out hw177_1), (bd_ HB.out hw178_0), (bd_ HB.out hw178_1)⟩ (fun hHeld => ?_); clear hK K; refine nr_ ?_; refine pj_ 9 26 10 1023 HT_ ?_; refine dn_ HT_.out ?_; (try go_wp2); go_ret; exact ⟨ew_, hq0_ HB.out⟩
            · rw [if_neg c6] at H; exact absurd H (by simp)
          · rw [if_neg c5] at H; exact absurd H (by simp)
        · rw [if_neg c4] at H; have c4b0 : decide (x5_1 < (l0.length : Int)) = false := decide_eq_false c4; clear c4; obtain rfl := Option.some.inj H
          go_wp2
          go_ret; exact ⟨ew_, hq0_ HB.out⟩
  · rw [if_neg c3] at H; have c3b0 : ((l0.length : Int) == (l1.length : Int)) = false := beq_eq_false_iff_ne.mpr c3; have c3b1 : ((l0.length : Int) != (l1.length : Int)) = true := bne_iff_ne.mpr c3; (have c3b2 : (l0.length == l1.length) = false := by first | simpa using c3 | (simp at c3 ⊢; omega)); obtain rfl := Option.some.inj H
    go_enter Try.func20, Try.ntmps20
    go_wp2
    go_ret; exact ⟨ew_, hq0_ HB.out⟩

end Go.Proofs.Ytbcllflajakajaa.PFnExactStaleReads
