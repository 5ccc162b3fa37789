-- Printed by my own myprint.py out of the translation of the seat Ytbcllflajakajaa. Not trusted: Lean checks it.
import Derived.Test.YtbcllflajakajaaPFnExactExcludingPairx0
import Derived.Test.YtbcllflajakajaaPFnExactExcludingPairx3
namespace Go.Proofs.Ytbcllflajakajaa.PFnExactExcludingPair
open Go.RowKit Go.Proofs.YtbcllflajakajaaW.PrintWords Go.Proofs.YtbcllflajakajaaW.PrintLast Go.Proofs.YtbcllflajakajaaW.PrintMore
attribute [local go_sem] max2_int min2_int max_two min_two max_three min_three max_four min_four   -- for this text's walks alone
set_option linter.unusedVariables false
set_option linter.unusedSimpArgs false

/-! ### laws_eqWrite: function 77 -/
def laws_eqWrite.f (a0_0 : Int) (a0_1 : Int) (a1_0 : Int) (a1_1 : Int) : Option (Bool) := if a0_0 = a1_0 then (if a0_1 = a1_1 then (some true) else (some false)) else (some false)
set_option maxHeartbeats 8000000 in
set_option maxRecDepth 100000 in
theorem laws_eqWrite.calls (a0_0 : Int) (a0_1 : Int) (a1_0 : Int) (a1_1 : Int) (r : Bool) (w : World) (h : laws_eqWrite.f a0_0 a0_1 a1_0 a1_1 = some r) :
    Calls Try.prog 77 #[.agg #[.int .i64 a0_0, .int .i64 a0_1], .agg #[.int .i64 a1_0, .int .i64 a1_1]] w fun e w' => e = .returned (.bool r) ∧ Below w.heap.size w w' := by
  have hu76 := Try.underlying76; have HB := Aside0.mk (Below.refl w.heap.size w); have H : (if a0_0 = a1_0 then (if a0_1 = a1_1 then (some true) else (some false)) else (some false)) = some r := h; clear h
  by_cases c3 : a0_0 = a1_0
  · rw [if_pos c3] at H; have c3b0 : (a0_0 == a1_0) = true := beq_iff_eq.mpr c3; have c3b1 : (a0_0 != a1_0) = false := bne_eq_false_iff_eq.mpr c3; clear c3
    by_cases c4 : a0_1 = a1_1
    · rw [if_pos c4] at H; have c4b0 : (a0_1 == a1_1) = true := beq_iff_eq.mpr c4; have c4b1 : (a0_1 != a1_1) = false := bne_eq_false_iff_eq.mpr c4; clear c4; obtain rfl := Option.some.inj H
      go_enter Try.func77, Try.ntmps77
      go_wp2_with (first | ((with_reducible refine gate_dst (N := 2) rfl ?_); refine be_ 2 #[.int .i64 a0_0, .int .i64 a0_1] 76 ?_; intro gb180 hg w5 hbox hb; have BK180 := Aside0.mk (hbox); have GW180 := wk_ hg HB; replace HB := hs_ HB hb; have GE180 := GW180; clear hb hbox hg) | ((with_reducible refine gate_dst (N := 3) rfl ?_); refine be_ 3 #[.int .i64 a1_0, .int .i64 a1_1] 76 ?_; intro gb181 hg w6 hbox hb; have BK181 := Aside0.mk (hbox); have GW181 := wk_ hg HB; replace HB := hs_ HB hb; have GE181 := GW181; have NB180_181 := nk_ hg BK180; replace BK180 := bb_ BK180 hb; have NB181_180 := ny_ NB180_181; clear hb hbox hg; have hnb7 := NB180_181.out; have hnc7 := NB181_180.out; have hcz8 := bc2_ BK180.out; have hfz8 := bf2_ BK180.out; have hcz9 := bc2_ BK181.out; have hfz9 := bf2_ BK181.out))
      go_ret; exact ⟨ew_, hq2_ HB.out GE180.out GE181.out⟩
    · rw [if_neg c4] at H; have c4b0 : (a0_1 == a1_1) = false := beq_eq_false_iff_ne.mpr c4; have c4b1 : (a0_1 != a1_1) = true := bne_iff_ne.mpr c4; obtain rfl := Option.some.inj H
      go_enter Try.func77, Try.ntmps77
      go_wp2_with (first | ((with_reducible refine gate_dst (N := 2) rfl ?_); refine be_ 2 #[.int .i64 a0_0, .int .i64 a0_1] 76 ?_; intro gb180 hg w10 hbox hb; have BK180 := Aside0.mk (hbox); have GW180 := wk_ hg HB; replace HB := hs_ HB hb; have GE180 := GW180; clear hb hbox hg) | ((with_reducible refine gate_dst (N := 3) rfl ?_); refine be_ 3 #[.int .i64 a1_0, .int .i64 a1_1] 76 ?_; intro gb181 hg w11 hbox hb; have BK181 := Aside0.mk (hbox); have GW181 := wk_ hg HB; replace HB := hs_ HB hb; have GE181 := GW181; have NB180_181 := nk_ hg BK180; replace BK180 := bb_ BK180 hb; have NB181_180 := ny_ NB180_181; clear hb hbox hg; have hnb12 := NB180_181.out; have hnc12 := NB181_180.out; have hcz13 := bc2_ BK180.out; have hfz13 := bf2_ BK180.out; have hcz14 := bc2_ BK181.out; have hfz14 := bf2_ BK181.out))
      go_ret; exact ⟨ew_, hq2_ HB.out GE180.out GE181.out⟩
  · rw [if_neg c3] at H; have c3b0 : (a0_0 == a1_0) = false := beq_eq_false_iff_ne.mpr c3; have c3b1 : (a0_0 != a1_0) = true := bne_iff_ne.mpr c3; obtain rfl := Option.some.inj H
    go_enter Try.func77, Try.ntmps77
    go_wp2_with (first | ((with_reducible refine gate_dst (N := 2) rfl ?_); refine be_ 2 #[.int .i64 a0_0, .int .i64 a0_1] 76 ?_; intro gb180 hg w15 hbox hb; have BK180 := Aside0.mk (hbox); have GW180 := wk_ hg HB; replace HB := hs_ HB hb; have GE180 := GW180; clear hb hbox hg) | ((with_reducible refine gate_dst (N := 3) rfl ?_); refine be_ 3 #[.int .i64 a1_0, .int .i64 a1_1] 76 ?_; intro gb181 hg w16 hbox hb; have BK181 := Aside0.mk (hbox); have GW181 := wk_ hg HB; replace HB := hs_ HB hb; have GE181 := GW181; have NB180_181 := nk_ hg BK180; replace BK180 := bb_ BK180 hb; have NB181_180 := ny_ NB180_181; clear hb hbox hg; have hnb17 := NB180_181.out; have hnc17 := NB181_180.out; have hcz18 := bc2_ BK180.out; have hfz18 := bf2_ BK180.out; have hcz19 := bc2_ BK181.out; have hfz19 := bf2_ BK181.out))
    go_ret; exact ⟨ew_, hq2_ HB.out GE180.out GE181.out⟩

/-! ### laws_eqWriteS: function 47 -/
def laws_eqWriteS.l0 : Nat → List (S76) → List (S76) → Int → Option (Bool)
  | 0, _, _, _ => none
  | k + 1, x0, x1, x5 => if x5 < (x0.length : Int) then (if 0 ≤ x5 then (if x5 < (x1.length : Int) then ((laws_eqWrite.f ((rd_T76 x0 x5).f0) ((rd_T76 x0 x5).f1) ((rd_T76 x1 x5).f0) ((rd_T76 x1 x5).f1)).bind fun t184 => (if t184 = true then (laws_eqWriteS.l0 k x0 x1 (wrap64 (x5 + 1))) else (some false))) else (none)) else (none)) else (some true)
def laws_eqWriteS.f (k : Nat) (l0 : List (S76)) (l1 : List (S76)) : Option (Bool) := if (l0.length : Int) = (l1.length : Int) then (laws_eqWriteS.l0 k l0 l1 0) else (some false)
theorem laws_eqWriteS.mono_l : ∀ k, (∀ y0 y1 y2, LeO (laws_eqWriteS.l0 k y0 y1 y2) (laws_eqWriteS.l0 (k + 1) y0 y1 y2))
  | 0 => fun _ _ _ r h => by simp [laws_eqWriteS.l0] at h
  | k + 1 => by
    have ih0 := laws_eqWriteS.mono_l k
    · intro y0 y1 y2; unfold laws_eqWriteS.l0
      repeat' first
      | (with_reducible first | apply ih0 | exact LeO.refl _ | exact LeO.none _ | refine LeO.ite ?_ ?_ | refine LeO.bind ?_ (fun _ => ?_))
theorem laws_eqWriteS.mono : ∀ a0 a1 k, LeO (laws_eqWriteS.f k a0 a1) (laws_eqWriteS.f (k + 1) a0 a1) := by
  intro a0 a1 k; have ih0 := laws_eqWriteS.mono_l k; unfold laws_eqWriteS.f
  repeat' first
      | (with_reducible first | apply ih0 | exact LeO.refl _ | exact LeO.none _ | refine LeO.ite ?_ ?_ | refine LeO.bind ?_ (fun _ => ?_))
def laws_eqWriteS.T6 : Bool × List (List Nat × List Nat) := (true, [([], []), ([], []), ([0, 1], [0, 1]), ([2], [2]), ([], []), ([], []), ([4, 5], [4, 5]), ([6], [6]), ([3, 7], [3, 7]), ([8], [8])])
def laws_eqWriteS.B6 : List Nat := [0, 0, 3, 7, 0, 0, 48, 112, 255, 511]
theorem laws_eqWriteS.tab6 : rtab .any (opsOf Try.f47 6) = laws_eqWriteS.T6 := by kernel_rfl
theorem laws_eqWriteS.bits6 : waitsOk laws_eqWriteS.T6.2 laws_eqWriteS.B6 = true := by kernel_rfl
set_option maxHeartbeats 8000000 in
set_option maxRecDepth 100000 in
theorem laws_eqWriteS.calls (k : Nat) (A0 : Option Addr) (c0 : Nat) (l0 : List (S76)) (A1 : Option Addr) (c1 : Nat) (l1 : List (S76)) (r : Bool) (w : World) (hr0 : Kd.C k76 w A0 l0.length l0) (hc0 : l0.length ≤ c0) (hr1 : Kd.C k76 w A1 l1.length l1) (hc1 : l1.length ≤ c1) (h : laws_eqWriteS.f k l0 l1 = some r) :
    Calls Try.prog 47 #[.slice A0 l0.length c0, .slice A1 l1.length c1] w fun e w' => e = .returned (.bool r) ∧ Below w.heap.size w w' := by
  have hu76 := Try.underlying76; have HR0 := Aside0.mk hr0; have HC0 := Aside0.mk hc0; clear hr0 hc0; have HR1 := Aside0.mk hr1; have HC1 := Aside0.mk hc1; clear hr1 hc1; have HB := Aside0.mk (Below.refl w.heap.size w); have H : (if (l0.length : Int) = (l1.length : Int) then (laws_eqWriteS.l0 k l0 l1 0) else (some false)) = some r := h; clear h
  by_cases c3 : (l0.length : Int) = (l1.length : Int)
  · rw [if_pos c3] at H; have c3b0 : ((l0.length : Int) == (l1.length : Int)) = true := beq_iff_eq.mpr c3; have c3b1 : ((l0.length : Int) != (l1.length : Int)) = false := bne_eq_false_iff_eq.mpr c3; (have c3b2 : (l0.length == l1.length) = true := by first | simpa using c3 | (simp at c3 ⊢; omega)); clear c3; have H' := Aside0.mk H; clear H
    go_enter Try.func47, Try.ntmps47
    go_wp2
    go_loopg [5] k (fun kq v5 w' => ∃ (x5_1 : Int), v5 = .int .i64 x5_1 ∧ Aside0 (laws_eqWriteS.l0 kq l0 l1 x5_1 = some r) ∧ Aside0 (kq ≤ k) ∧ Aside0 (Below w.heap.size w w'))
    case atStart => exact ⟨(0), rs_, H', ⟨Nat.le_refl _⟩, ⟨hbw_ HB⟩⟩
    case round =>
      clear H'; (try clear c3b0); (try clear c3b1); (try clear c3b2); obtain ⟨x5_1, rfl, HA, HK1, HB⟩ := hrel
      cases gk with
      | zero => exact absurd HA.out (by simp [laws_eqWriteS.l0])
      | succ k1 =>
        have H := HA.out; clear HA; simp only [laws_eqWriteS.l0] at H
        by_cases c4 : x5_1 < (l0.length : Int)
        · rw [if_pos c4] at H; have c4b0 : decide (x5_1 < (l0.length : Int)) = true := decide_eq_true c4; clear c4
          by_cases c5 : 0 ≤ x5_1
          · rw [if_pos c5] at H; have c5b0 : decide (0 ≤ x5_1) = true := decide_eq_true c5; clear c5
            by_cases c6 : x5_1 < (l1.length : Int)
            · rw [if_pos c6] at H; have c6b0 : decide (x5_1 < (l1.length : Int)) = true := decide_eq_true c6; clear c6; replace H := Option.bind_eq_some_iff.mp H; obtain ⟨t184, A70, H⟩ := H; have A7 := Aside0.mk A70; clear A70
              by_cases c8 : t184 = true
              · subst c8; rw [if_pos rfl] at H; have H' := Aside0.mk H; clear H; (try go_wp2); replace HB := Aside0.mk (below_drew1 HB.out); have p182 : 0 ≤ (x5_1 : Int) := of_decide_eq_true as_; have q182 : x5_1 < (l0.length : Int) := of_decide_eq_true as_; obtain ⟨ad182, e182, hx182_0, hx182_1⟩ := at_T76 HR0.out x5_1 p182 q182; have hw182_1 := hx182_1; have hw182_0 := hx182_0
                cases e182
                replace hx182_0 := bl_ HB.out hx182_0; replace hx182_1 := bl_ HB.out hx182_1; replace p182 := eq_true p182; replace q182 := eq_true q182; have p183 : 0 ≤ (x5_1 : Int) := of_decide_eq_true as_; have q183 : x5_1 < (l1.length : Int) := of_decide_eq_true as_; obtain ⟨ad183, e183, hx183_0, hx183_1⟩ := at_T76 HR1.out x5_1 p183 q183; have hw183_1 := hx183_1; have hw183_0 := hx183_0
                cases e183
                replace hx183_0 := bl_ HB.out hx183_0; replace hx183_1 := bl_ HB.out hx183_1; replace p183 := eq_true p183; replace q183 := eq_true q183; refine start_ (n := 10) (S := fun w' => w'.cell? (ad182.add ((x5_1).toNat * 2)) = some (.int .i64 ((rd_T76 l0 x5_1).f0)) ∧ w'.cell? ⟨(ad182.add ((x5_1).toNat * 2)).block, (ad182.add ((x5_1).toNat * 2)).off + 1, none⟩ = some (.int .i64 ((rd_T76 l0 x5_1).f1)) ∧ w'.cell? (ad183.add ((x5_1).toNat * 2)) = some (.int .i64 ((rd_T76 l1 x5_1).f0)) ∧ w'.cell? ⟨(ad183.add ((x5_1).toNat * 2)).block, (ad183.add ((x5_1).toNat * 2)).off + 1, none⟩ = some (.int .i64 ((rd_T76 l1 x5_1).f1))) (ds := []) #[n_,n_,n_,n_,n_,n_,n_,n_,n_,n_] (by kernel_rfl) rfl rfl ⟨(bd_ HB.out hw182_0), (bd_ HB.out hw182_1), (bd_ HB.out hw183_0), (bd_ HB.out hw183_1)⟩ (fun hHeld => ?_); refine with_tabW laws_eqWriteS.tab6 laws_eqWriteS.bits6 (fun HT_ HW_ => ?_); generalize wr.drew = w9 at HB hx182_0 hx182_1 hx183_0 hx183_1 hHeld ⊢; refine pj_ 0 17 10 1 HT_ ?_; refine pj_ 1 18 10 3 HT_ ?_; refine pj_ 2 19 10 7 HT_ ?_; refine pj_ 4 21 10 23 HT_ ?_; refine pj_ 5 22 10 55 HT_ ?_; refine pj_ 6 23 10 119 HT_ ?_; refine tj_ 3 20 10 127 HT_ HW_ (v := ?_) (a' := ?_) ?_ hHeld ?_ ?_; rotate_left; (rintro w' ⟨s0, s1, s2, s3⟩; go_simp; (with_reducible rfl)); rotate_left; (exact pe_); refine tj_ 7 24 10 255 HT_ HW_ (v := ?_) (a' := ?_) ?_ hHeld ?_ ?_; rotate_left; (rintro w' ⟨s0, s1, s2, s3⟩; go_simp; (with_reducible rfl)); rotate_left; (exact pe_); refine oe_ 8 (bs_ 10 511) HT_ (fun K hK => ?_); refine goes_ Try.func77 (by kernel_rfl) rfl #[.agg #[.int .i64 ((rd_T76 l0 x5_1).f0), .int .i64 ((rd_T76 l0 x5_1).f1)], .agg #[.int .i64 ((rd_T76 l1 x5_1).f0), .int .i64 ((rd_T76 l1 x5_1).f1)]] (by rfl) rfl rfl mp_ ?_; (with_reducible refine (laws_eqWrite.calls ((rd_T76 l0 x5_1).f0) ((rd_T76 l0 x5_1).f1) ((rd_T76 l1 x5_1).f0) ((rd_T76 l1 x5_1).f1) true _ A7.out).mono ?_); rintro e w10 ⟨rfl, hb⟩; refine ⟨_, rfl, ?_⟩; replace HB := hs_ HB hb; (try clear hb); (try clear hb2); (try clear hk); (try clear hi); refine hK.out _ _ ⟨(bd_ HB.out hw182_0), (bd_ HB.out hw182_1), (bd_ HB.out hw183_0), (bd_ HB.out hw183_1)⟩ (fun hHeld => ?_); clear hK K; refine nr_ ?_; refine pj_ 9 26 10 1023 HT_ ?_; refine dn_ HT_.out ?_; (try go_wp2)
                go_roundg k1
                case measure => have := HK1.out; omega
                case rel => exact ⟨(wrap64 (x5_1 + 1)), rs_, H', ⟨by have := HK1.out; omega⟩, ⟨hbw_ HB⟩⟩
              · replace c8 := Bool.eq_false_iff.mpr c8; subst c8; rw [if_neg nt_] at H; obtain rfl := Option.some.inj H; (try go_wp2); replace HB := Aside0.mk (below_drew1 HB.out); have p182 : 0 ≤ (x5_1 : Int) := of_decide_eq_true as_; have q182 : x5_1 < (l0.length : Int) := of_decide_eq_true as_; obtain ⟨ad182, e182, hx182_0, hx182_1⟩ := at_T76 HR0.out x5_1 p182 q182; have hw182_1 := hx182_1; have hw182_0 := hx182_0
                cases e182
                replace hx182_0 := bl_ HB.out hx182_0; replace hx182_1 := bl_ HB.out hx182_1; replace p182 := eq_true p182; replace q182 := eq_true q182; have p183 : 0 ≤ (x5_1 : Int) := of_decide_eq_true as_; have q183 : x5_1 < (l1.length : Int) := of_decide_eq_true as_; obtain ⟨ad183, e183, hx183_0, hx183_1⟩ := at_T76 HR1.out x5_1 p183 q183; have hw183_1 := hx183_1; have hw183_0 := hx183_0
                cases e183
                replace hx183_0 := bl_ HB.out hx183_0; replace hx183_1 := bl_ HB.out hx183_1; replace p183 := eq_true p183; replace q183 := eq_true q183; refine start_ (n := 10) (S := fun w' => w'.cell? (ad182.add ((x5_1).toNat * 2)) = some (.int .i64 ((rd_T76 l0 x5_1).f0)) ∧ w'.cell? ⟨(ad182.add ((x5_1).toNat * 2)).block, (ad182.add ((x5_1).toNat * 2)).off + 1, none⟩ = some (.int .i64 ((rd_T76 l0 x5_1).f1)) ∧ w'.cell? (ad183.add ((x5_1).toNat * 2)) = some (.int .i64 ((rd_T76 l1 x5_1).f0)) ∧ w'.cell? ⟨(ad183.add ((x5_1).toNat * 2)).block, (ad183.add ((x5_1).toNat * 2)).off + 1, none⟩ = some (.int .i64 ((rd_T76 l1 x5_1).f1))) (ds := []) #[n_,n_,n_,n_,n_,n_,n_,n_,n_,n_] (by kernel_rfl) rfl rfl ⟨(bd_ HB.out hw182_0), (bd_ HB.out hw182_1), (bd_ HB.out hw183_0), (bd_ HB.out hw183_1)⟩ (fun hHeld => ?_); refine with_tabW laws_eqWriteS.tab6 laws_eqWriteS.bits6 (fun HT_ HW_ => ?_); generalize wr.drew = w11 at HB hx182_0 hx182_1 hx183_0 hx183_1 hHeld ⊢; refine pj_ 0 17 10 1 HT_ ?_; refine pj_ 1 18 10 3 HT_ ?_; refine pj_ 2 19 10 7 HT_ ?_; refine pj_ 4 21 10 23 HT_ ?_; refine pj_ 5 22 10 55 HT_ ?_; refine pj_ 6 23 10 119 HT_ ?_; refine tj_ 3 20 10 127 HT_ HW_ (v := ?_) (a' := ?_) ?_ hHeld ?_ ?_; rotate_left; (rintro w' ⟨s0, s1, s2, s3⟩; go_simp; (with_reducible rfl)); rotate_left; (exact pe_); refine tj_ 7 24 10 255 HT_ HW_ (v := ?_) (a' := ?_) ?_ hHeld ?_ ?_; rotate_left; (rintro w' ⟨s0, s1, s2, s3⟩; go_simp; (with_reducible rfl)); rotate_left; (exact pe_); refine oe_ 8 (bs_ 10 511) HT_ (fun K hK => ?_); refine goes_ Try.func77 (by kernel_rfl) rfl #[.agg #[.int .i64 ((rd_T76 l0 x5_1).f0), .int .i64 ((rd_T76 l0 x5_1).f1)], .agg #[.int .i64 ((rd_T76 l1 x5_1).f0), .int .i64 ((rd_T76 l1 x5_1).f1)]] (by rfl) rfl rfl mp_ ?_; (with_reducible refine (laws_eqWrite.calls ((rd_T76 l0 x5_1).f0) ((rd_T76 l0 x5_1).f1) ((rd_T76 l1 x5_1).f0) ((rd_T76 l1 x5_1).f1) false _ A7.out).mono ?_); rintro e w12 ⟨rfl, hb⟩; refine ⟨_, rfl, ?_⟩; replace HB := hs_ HB hb; (try clear hb); (try clear hb2); (try clear hk); (try clear hi); refine hK.out _ _ ⟨(bd_ HB.out hw182_0), (bd_ HB.out hw182_1), (bd_ HB.out hw183_0), (bd_ HB.out hw183_1)⟩ (fun hHeld => ?_); clear hK K; refine nr_ ?_; refine pj_ 9 26 10 1023 HT_ ?_; refine dn_ HT_.out ?_; (try go_wp2); go_ret; exact ⟨ew_, hq0_ HB.out⟩
            · rw [if_neg c6] at H; exact absurd H (by simp)
          · rw [if_neg c5] at H; exact absurd H (by simp)
        · rw [if_neg c4] at H; have c4b0 : decide (x5_1 < (l0.length : Int)) = false := decide_eq_false c4; clear c4; obtain rfl := Option.some.inj H
          go_wp2
          go_ret; exact ⟨ew_, hq0_ HB.out⟩
  · rw [if_neg c3] at H; have c3b0 : ((l0.length : Int) == (l1.length : Int)) = false := beq_eq_false_iff_ne.mpr c3; have c3b1 : ((l0.length : Int) != (l1.length : Int)) = true := bne_iff_ne.mpr c3; (have c3b2 : (l0.length == l1.length) = false := by first | simpa using c3 | (simp at c3 ⊢; omega)); obtain rfl := Option.some.inj H
    go_enter Try.func47, Try.ntmps47
    go_wp2
    go_ret; exact ⟨ew_, hq0_ HB.out⟩

/-! ### laws_eqTransaction: function 17 -/
-- FLAGS ROUNDS
/-- Two transactions, where they are alike. -/
def laws_eqTransaction.f (k : Nat) (a0_0 : Int) (a0_1 : Int) (a0_2 : Int) (a0_3 : Int) (a0_4 : Int) (a0_5 : Int) (a0_6 : Int) (l0_7 : List S55) (l0_8 : List S76) (a1_0 : Int) (a1_1 : Int) (a1_2 : Int) (a1_3 : Int) (a1_4 : Int) (a1_5 : Int) (a1_6 : Int) (l1_7 : List S55) (l1_8 : List S76) : Option Bool :=
  if a0_0 = a1_0 ∧ a0_1 = a1_1 ∧ a0_2 = a1_2 ∧ a0_3 = a1_3 ∧ a0_4 = a1_4 ∧ a0_5 = a1_5 ∧ a0_6 = a1_6 then (laws_eqReadMarkS.f k l0_7 l1_7).bind fun t => if t = true then (laws_eqWriteS.f k l0_8 l1_8).bind (fun u => if u = true then some true else none) else none else none
theorem laws_eqTransaction.mono : ∀ x0 x1 x2 x3 x4 x5 x6 p q y0 y1 y2 y3 y4 y5 y6 r s k, LeO (laws_eqTransaction.f k x0 x1 x2 x3 x4 x5 x6 p q y0 y1 y2 y3 y4 y5 y6 r s) (laws_eqTransaction.f (k + 1) x0 x1 x2 x3 x4 x5 x6 p q y0 y1 y2 y3 y4 y5 y6 r s) := by
  intros
  unfold laws_eqTransaction.f; exact LeO.ite (LeO.bind (laws_eqReadMarkS.mono _ _ _) (fun _ => LeO.ite (LeO.bind (laws_eqWriteS.mono _ _ _) (fun _ => LeO.refl _)) (LeO.refl _))) (LeO.refl _)
set_option maxHeartbeats 4000000 in
set_option maxRecDepth 100000 in
theorem laws_eqTransaction.calls (k : Nat) (a0_0 : Int) (a0_1 : Int) (a0_2 : Int) (a0_3 : Int) (a0_4 : Int) (a0_5 : Int) (a0_6 : Int) (A0_7 : Option Addr) (c0_7 : Nat) (l0_7 : List S55) (A0_8 : Option Addr) (c0_8 : Nat) (l0_8 : List S76) (a1_0 : Int) (a1_1 : Int) (a1_2 : Int) (a1_3 : Int) (a1_4 : Int) (a1_5 : Int) (a1_6 : Int) (A1_7 : Option Addr) (c1_7 : Nat) (l1_7 : List S55) (A1_8 : Option Addr) (c1_8 : Nat) (l1_8 : List S76) (r : Bool) (w : World) (hr0_7 : Kd.C k55 w A0_7 l0_7.length l0_7) (hc0_7 : l0_7.length ≤ c0_7) (hr0_8 : Kd.C k76 w A0_8 l0_8.length l0_8) (hc0_8 : l0_8.length ≤ c0_8) (hr1_7 : Kd.C k55 w A1_7 l1_7.length l1_7) (hc1_7 : l1_7.length ≤ c1_7) (hr1_8 : Kd.C k76 w A1_8 l1_8.length l1_8) (hc1_8 : l1_8.length ≤ c1_8) (h : laws_eqTransaction.f k a0_0 a0_1 a0_2 a0_3 a0_4 a0_5 a0_6 l0_7 l0_8 a1_0 a1_1 a1_2 a1_3 a1_4 a1_5 a1_6 l1_7 l1_8 = some r) :
    Calls Try.prog 17 #[.agg #[.int .i64 a0_0, .int .i64 a0_1, .int .i64 a0_2, .int .i64 a0_3, .int .i64 a0_4, .int .i64 a0_5, .int .i64 a0_6, .slice A0_7 l0_7.length c0_7, .slice A0_8 l0_8.length c0_8], .agg #[.int .i64 a1_0, .int .i64 a1_1, .int .i64 a1_2, .int .i64 a1_3, .int .i64 a1_4, .int .i64 a1_5, .int .i64 a1_6, .slice A1_7 l1_7.length c1_7, .slice A1_8 l1_8.length c1_8]] w fun e w' => e = .returned (.bool r) ∧ Below w.heap.size w w' := by
  have hu := Try.underlying39; unfold laws_eqTransaction.f at h
  by_cases he : a0_0 = a1_0 ∧ a0_1 = a1_1 ∧ a0_2 = a1_2 ∧ a0_3 = a1_3 ∧ a0_4 = a1_4 ∧ a0_5 = a1_5 ∧ a0_6 = a1_6
  · rw [if_pos he] at h; obtain ⟨rfl, rfl, rfl, rfl, rfl, rfl, rfl⟩ := he; obtain ⟨t, ht, h⟩ := Option.bind_eq_some_iff.mp h
    cases t with
    | false => exact absurd h (by simp)
    | true =>
      rw [if_pos rfl] at h; obtain ⟨u, hu1, h⟩ := Option.bind_eq_some_iff.mp h
      cases u with
      | false => exact absurd h (by simp)
      | true =>
        rw [if_pos rfl] at h; obtain rfl := Option.some.inj h; have HT := Aside0.mk ht; have HU := Aside0.mk hu1; have H07 := Aside0.mk hr0_7; have H08 := Aside0.mk hr0_8; have H17 := Aside0.mk hr1_7; have H18 := Aside0.mk hr1_8; clear h ht hu1 hr0_7 hr0_8 hr1_7 hr1_8; have HB0 := Aside0.mk (below_alloc (below_alloc (Below.refl w.heap.size w) (.cells #[.int .i64 a0_0, .int .i64 a0_1, .int .i64 a0_2, .int .i64 a0_3, .int .i64 a0_4, .int .i64 a0_5, .int .i64 a0_6, .slice A0_7 l0_7.length c0_7, .slice A0_8 l0_8.length c0_8] 39)) (.cells #[.int .i64 a0_0, .int .i64 a0_1, .int .i64 a0_2, .int .i64 a0_3, .int .i64 a0_4, .int .i64 a0_5, .int .i64 a0_6, .slice A1_7 l1_7.length c1_7, .slice A1_8 l1_8.length c1_8] 39))
        go_enter Try.func17, Try.ntmps17
        go_wp2_with (first | (go_at_call 20; (with_reducible refine (laws_eqReadMarkS.calls k _ _ l0_7 _ _ l1_7 true _ ?s1 hc0_7 ?s2 hc1_7 HT.out).mono ?_); (case s1 => exact Kd.C_below H07.out HB0.out); (case s2 => exact Kd.C_below H17.out HB0.out); rintro e w1 ⟨rfl, hb1⟩; have HB1 := Aside0.mk (below_step HB0.out (by first | exact hb1 | exact hb1.below)); have HX := Aside0.mk (show Below _ _ w1 from (by first | exact hb1 | exact hb1.below)); clear hb1; have hcc : ∀ b o, b < w.heap.size + 2 → w1.cell? ⟨b, o, none⟩ = _ := fun b o hlt => HX.out.cell (p := ⟨b, o, none⟩) (by simpa using hlt)) | (go_at_call 47; (with_reducible refine (laws_eqWriteS.calls k _ _ l0_8 _ _ l1_8 true _ ?s1 hc0_8 ?s2 hc1_8 HU.out).mono ?_); (case s1 => exact Kd.C_below H08.out HB1.out); (case s2 => exact Kd.C_below H18.out HB1.out); rintro e w2 ⟨rfl, hb2⟩; have HB2 := Aside0.mk (below_step HB1.out (by first | exact hb2 | exact hb2.below)); clear hb2))
        go_ret; exact ⟨rfl, HB2.out⟩
  · rw [if_neg he] at h
    cases h


/-! ### spec_FindVersion: function 40 -/
def spec_FindVersion.l0 : Nat → List (S65) → Int → Int → Option (Int)
  | 0, _, _, _ => none
  | k + 1, x0, x1, x5 => if x5 < (x0.length : Int) then (if 0 ≤ x5 then (if ((rd_T65 x0 x5).f2) = x1 then (some x5) else (spec_FindVersion.l0 k x0 x1 (wrap64 (x5 + 1)))) else (none)) else (some (-1))
def spec_FindVersion.f (k : Nat) (l0 : List (S65)) (a1 : Int) : Option (Int) := spec_FindVersion.l0 k l0 a1 0
theorem spec_FindVersion.mono_l : ∀ k, (∀ y0 y1 y2, LeO (spec_FindVersion.l0 k y0 y1 y2) (spec_FindVersion.l0 (k + 1) y0 y1 y2))
  | 0 => fun _ _ _ r h => by simp [spec_FindVersion.l0] at h
  | k + 1 => by
    have ih0 := spec_FindVersion.mono_l k
    · intro y0 y1 y2; unfold spec_FindVersion.l0
      repeat' first
      | (with_reducible first | apply ih0 | exact LeO.refl _ | exact LeO.none _ | refine LeO.ite ?_ ?_ | refine LeO.bind ?_ (fun _ => ?_))
theorem spec_FindVersion.mono : ∀ a0 a1 k, LeO (spec_FindVersion.f k a0 a1) (spec_FindVersion.f (k + 1) a0 a1) := by
  intro a0 a1 k; have ih0 := spec_FindVersion.mono_l k; unfold spec_FindVersion.f
  repeat' first
      | (with_reducible first | apply ih0 | exact LeO.refl _ | exact LeO.none _ | refine LeO.ite ?_ ?_ | refine LeO.bind ?_ (fun _ => ?_))
set_option maxHeartbeats 8000000 in
set_option maxRecDepth 100000 in
theorem spec_FindVersion.calls (k : Nat) (A0 : Option Addr) (c0 : Nat) (l0 : List (S65)) (a1 : Int) (r : Int) (w : World) (hr0 : Kd.C k65 w A0 l0.length l0) (hc0 : l0.length ≤ c0) (h : spec_FindVersion.f k l0 a1 = some r) :
    Calls Try.prog 40 #[.slice A0 l0.length c0, .int .i64 a1] w fun e w' => e = .returned (.int .i64 r) ∧ Drawn0 w w' := by
  have HR0 := Aside0.mk hr0; have HC0 := Aside0.mk hc0; clear hr0 hc0; have H : (spec_FindVersion.l0 k l0 a1 0) = some r := h; clear h; have H' := Aside0.mk H; clear H
  go_enter Try.func40, Try.ntmps40
  go_wp2
  go_loopg [5] k (fun kq v5 w' => ∃ (x5_1 : Int), v5 = .int .i64 x5_1 ∧ Aside0 (spec_FindVersion.l0 kq l0 a1 x5_1 = some r) ∧ Aside0 (kq ≤ k) ∧ Drawn0 w w')
  case atStart => exact ⟨(0), rs_, H', ⟨Nat.le_refl _⟩, by repeat (first | exact Drawn0.refl _ | apply Drawn0.step)⟩
  case round =>
    clear H'; obtain ⟨x5_1, rfl, HA, HK1, ⟨m1, rfl⟩⟩ := hrel
    cases gk with
    | zero => exact absurd HA.out (by simp [spec_FindVersion.l0])
    | succ k1 =>
      have H := HA.out; clear HA; simp only [spec_FindVersion.l0] at H
      by_cases c3 : x5_1 < (l0.length : Int)
      · rw [if_pos c3] at H; have c3b0 : decide (x5_1 < (l0.length : Int)) = true := decide_eq_true c3; clear c3
        by_cases c4 : 0 ≤ x5_1
        · rw [if_pos c4] at H; have c4b0 : decide (0 ≤ x5_1) = true := decide_eq_true c4; clear c4
          by_cases c5 : ((rd_T65 l0 x5_1).f2) = a1
          · rw [if_pos c5] at H; have c5b0 : (((rd_T65 l0 x5_1).f2) == a1) = true := beq_iff_eq.mpr c5; have c5b1 : (((rd_T65 l0 x5_1).f2) != a1) = false := bne_eq_false_iff_eq.mpr c5; clear c5; obtain rfl := Option.some.inj H; have p185 : 0 ≤ (x5_1 : Int) := of_decide_eq_true as_; have q185 : x5_1 < (l0.length : Int) := of_decide_eq_true as_; obtain ⟨ad185, e185, hx185_0, hx185_1, hx185_2, hx185_3, hx185_4⟩ := at_T65 HR0.out x5_1 p185 q185
            cases e185
            replace p185 := eq_true p185; replace q185 := eq_true q185
            go_wp2
            go_ret; exact ⟨rs_, by repeat (first | exact Drawn0.refl _ | apply Drawn0.step)⟩
          · rw [if_neg c5] at H; have c5b0 : (((rd_T65 l0 x5_1).f2) == a1) = false := beq_eq_false_iff_ne.mpr c5; have c5b1 : (((rd_T65 l0 x5_1).f2) != a1) = true := bne_iff_ne.mpr c5; have H' := Aside0.mk H; clear H; have p185 : 0 ≤ (x5_1 : Int) := of_decide_eq_true as_; have q185 : x5_1 < (l0.length : Int) := of_decide_eq_true as_; obtain ⟨ad185, e185, hx185_0, hx185_1, hx185_2, hx185_3, hx185_4⟩ := at_T65 HR0.out x5_1 p185 q185
            cases e185
            replace p185 := eq_true p185; replace q185 := eq_true q185
            go_wp2
            go_roundg k1
            case measure => have := HK1.out; omega
            case rel => exact ⟨(wrap64 (x5_1 + 1)), rs_, H', ⟨by have := HK1.out; omega⟩, by repeat (first | exact Drawn0.refl _ | apply Drawn0.step)⟩
        · rw [if_neg c4] at H; exact absurd H (by simp)
      · rw [if_neg c3] at H; have c3b0 : decide (x5_1 < (l0.length : Int)) = false := decide_eq_false c3; clear c3; obtain rfl := Option.some.inj H
        go_wp2
        go_ret; exact ⟨rs_, by repeat (first | exact Drawn0.refl _ | apply Drawn0.step)⟩

/-! ### spec_l1In: function 56 -/
def spec_l1In.f (a0 : Int) (a1 : Int) (a2 : Int) : Option (Bool) := if a0 ≥ a1 then (some (decide (a0 ≤ a2))) else (some false)
set_option maxHeartbeats 8000000 in
set_option maxRecDepth 100000 in
theorem spec_l1In.calls (a0 : Int) (a1 : Int) (a2 : Int) (r : Bool) (w : World) (h : spec_l1In.f a0 a1 a2 = some r) :
    Calls Try.prog 56 #[.int .i64 a0, .int .i64 a1, .int .i64 a2] w fun e w' => e = .returned (.bool r) ∧ Drawn0 w w' := by
  have H : (if a0 ≥ a1 then (some (decide (a0 ≤ a2))) else (some false)) = some r := h; clear h
  by_cases c4 : a0 ≥ a1
  · rw [if_pos c4] at H; have c4b0 : decide (a1 ≤ a0) = true := decide_eq_true c4; clear c4; obtain rfl := Option.some.inj H
    go_enter Try.func56, Try.ntmps56
    go_wp2
    go_ret; exact ⟨rs_, by repeat (first | exact Drawn0.refl _ | apply Drawn0.step)⟩
  · rw [if_neg c4] at H; have c4b0 : decide (a1 ≤ a0) = false := decide_eq_false c4; clear c4; obtain rfl := Option.some.inj H
    go_enter Try.func56, Try.ntmps56
    go_wp2
    go_ret; exact ⟨rs_, by repeat (first | exact Drawn0.refl _ | apply Drawn0.step)⟩

/-! ### spec_IsValidVersion: function 94 -/
def spec_IsValidVersion.j0 : Nat → Bool → Int → Int → Int → Int → Int → Option (Bool)
  | 0, _, _, _, _, _, _ => none
  | k + 1, x26, x187000, x187001, x187002, x187003, x187004 => if x26 = true then (some false) else (if x187002 = 0 then (if x187000 = 0 then (some (x187001 == (-1))) else (some false)) else ((spec_l1In.f x187000 1 9).bind fun t191 => (some t191)))
def spec_IsValidVersion.f (k : Nat) (a0_0 : Int) (a0_1 : Int) (a0_2 : Int) (a0_3 : Int) (a0_4 : Int) : Option (Bool) := (spec_l1In.f a0_1 (-1) 99).bind fun t187 => (if t187 = true then ((spec_l1In.f a0_2 0 999).bind fun t188 => (if t188 = true then ((spec_l1In.f a0_3 a0_2 999).bind fun t189 => (if t189 = true then ((spec_l1In.f a0_4 1 1000).bind fun t190 => (spec_IsValidVersion.j0 k (!t190) a0_0 a0_1 a0_2 a0_3 a0_4)) else (spec_IsValidVersion.j0 k true a0_0 a0_1 a0_2 a0_3 a0_4))) else (spec_IsValidVersion.j0 k true a0_0 a0_1 a0_2 a0_3 a0_4))) else (spec_IsValidVersion.j0 k true a0_0 a0_1 a0_2 a0_3 a0_4))
theorem spec_IsValidVersion.mono_l : ∀ k, (∀ y0 y1 y2 y3 y4 y5, LeO (spec_IsValidVersion.j0 k y0 y1 y2 y3 y4 y5) (spec_IsValidVersion.j0 (k + 1) y0 y1 y2 y3 y4 y5))
  | 0 => fun _ _ _ _ _ _ r h => by simp [spec_IsValidVersion.j0] at h
  | k + 1 => by
    have ih0 := spec_IsValidVersion.mono_l k
    · intro y0 y1 y2 y3 y4 y5; unfold spec_IsValidVersion.j0
      repeat' first
      | (with_reducible first | apply ih0 | exact LeO.refl _ | exact LeO.none _ | refine LeO.ite ?_ ?_ | refine LeO.bind ?_ (fun _ => ?_))
theorem spec_IsValidVersion.mono : ∀ a0 a1 a2 a3 a4 k, LeO (spec_IsValidVersion.f k a0 a1 a2 a3 a4) (spec_IsValidVersion.f (k + 1) a0 a1 a2 a3 a4) := by
  intro a0 a1 a2 a3 a4 k; have ih0 := spec_IsValidVersion.mono_l k; unfold spec_IsValidVersion.f
  repeat' first
      | (with_reducible first | apply ih0 | exact LeO.refl _ | exact LeO.none _ | refine LeO.ite ?_ ?_ | refine LeO.bind ?_ (fun _ => ?_))
set_option maxHeartbeats 8000000 in
set_option maxRecDepth 100000 in
theorem spec_IsValidVersion.calls (k : Nat) (a0_0 : Int) (a0_1 : Int) (a0_2 : Int) (a0_3 : Int) (a0_4 : Int) (r : Bool) (w : World) (h : spec_IsValidVersion.f k a0_0 a0_1 a0_2 a0_3 a0_4 = some r) :
    Calls Try.prog 94 #[.agg #[.int .i64 a0_0, .int .i64 a0_1, .int .i64 a0_2, .int .i64 a0_3, .int .i64 a0_4]] w fun e w' => e = .returned (.bool r) ∧ Below w.heap.size w w' := by
  have hu65 := Try.underlying65; have HB := Aside0.mk (Below.refl w.heap.size w); have H : ((spec_l1In.f a0_1 (-1) 99).bind fun t187 => (if t187 = true then ((spec_l1In.f a0_2 0 999).bind fun t188 => (if t188 = true then ((spec_l1In.f a0_3 a0_2 999).bind fun t189 => (if t189 = true then ((spec_l1In.f a0_4 1 1000).bind fun t190 => (spec_IsValidVersion.j0 k (!t190) a0_0 a0_1 a0_2 a0_3 a0_4)) else (spec_IsValidVersion.j0 k true a0_0 a0_1 a0_2 a0_3 a0_4))) else (spec_IsValidVersion.j0 k true a0_0 a0_1 a0_2 a0_3 a0_4))) else (spec_IsValidVersion.j0 k true a0_0 a0_1 a0_2 a0_3 a0_4))) = some r := h; clear h; have HC2 := Aside0.mk H; clear H
  go_enter Try.func94, Try.ntmps94
  go_upto_region 1 with (first | ((with_reducible refine gate_dst (N := 1) rfl ?_); refine be_ 1 #[.int .i64 a0_0, .int .i64 a0_1, .int .i64 a0_2, .int .i64 a0_3, .int .i64 a0_4] 65 ?_; intro gb186 hg w3 hbox hb; have BK186 := Aside0.mk (hbox); have GW186 := wk_ hg HB; replace HB := hs_ HB hb; have GE186 := GW186; clear hb hbox hg))
  (try simp only [Act.put, List.setIfInBounds_toArray, List.set_cons_zero, List.set_cons_succ])
  go_cut [26] (fun v26 wc => ∃ (kq : Nat) (x26_1 : Bool), v26 = .bool x26_1 ∧ Aside0 (spec_IsValidVersion.j0 kq x26_1 a0_0 a0_1 a0_2 a0_3 a0_4 = some r) ∧ Aside0 (kq ≤ k) ∧ Aside0 (wc.heap[gb186]? = some (.cells #[.int .i64 a0_0, .int .i64 a0_1, .int .i64 a0_2, .int .i64 a0_3, .int .i64 a0_4] 65 (0, 0))) ∧ Aside0 (Below w.heap.size w wc))
  case first =>
    have H := HC2.out; clear HC2; replace H := Option.bind_eq_some_iff.mp H; obtain ⟨t187, A40, H⟩ := H; have A4 := Aside0.mk A40; clear A40
    by_cases c5 : t187 = true
    · subst c5; rw [if_pos rfl] at H; replace H := Option.bind_eq_some_iff.mp H; obtain ⟨t188, A60, H⟩ := H; have A6 := Aside0.mk A60; clear A60
      by_cases c7 : t188 = true
      · subst c7; rw [if_pos rfl] at H; replace H := Option.bind_eq_some_iff.mp H; obtain ⟨t189, A80, H⟩ := H; have A8 := Aside0.mk A80; clear A80
        by_cases c9 : t189 = true
        · subst c9; rw [if_pos rfl] at H; replace H := Option.bind_eq_some_iff.mp H; obtain ⟨t190, A100, H⟩ := H; have A10 := Aside0.mk A100; clear A100; have H' := Aside0.mk H; clear H; have hcz11 := bc5_ BK186.out; have hfz11 := bf5_ BK186.out
          go_wp2_with (first | ((with_reducible refine gate_callee (f := 56) rfl ?_); refine goesL_ (some 5) rfl rfl Try.func56 (by kernel_rfl) rfl #[.int .i64 a0_1, .int .i64 (-1), .int .i64 99] rfl mp_ ?_; (with_reducible refine (spec_l1In.calls a0_1 (-1) 99 true _ A4.out).mono ?_); rintro e w' ⟨rfl, ⟨nd, rfl⟩⟩; refine ⟨_, rfl, ?_⟩) | (go_at_call 56; (with_reducible refine (spec_l1In.calls a0_2 0 999 true _ A6.out).mono ?_); rintro e w' ⟨rfl, ⟨nd, rfl⟩⟩) | (go_at_call 56; (with_reducible refine (spec_l1In.calls a0_3 a0_2 999 true _ A8.out).mono ?_); rintro e w' ⟨rfl, ⟨nd, rfl⟩⟩) | (go_at_call 56; (with_reducible refine (spec_l1In.calls a0_4 1 1000 t190 _ A10.out).mono ?_); rintro e w' ⟨rfl, ⟨nd, rfl⟩⟩))
          go_meet
          case rel => exact ⟨_, (!t190), rs_, H', ⟨by first | omega | exact Nat.le_refl _⟩, ⟨bq_ BK186.out⟩, ⟨hbw_ HB⟩⟩
        · replace c9 := Bool.eq_false_iff.mpr c9; subst c9; rw [if_neg nt_] at H; have H' := Aside0.mk H; clear H; have hcz12 := bc5_ BK186.out; have hfz12 := bf5_ BK186.out
          go_wp2_with (first | ((with_reducible refine gate_callee (f := 56) rfl ?_); refine goesL_ (some 5) rfl rfl Try.func56 (by kernel_rfl) rfl #[.int .i64 a0_1, .int .i64 (-1), .int .i64 99] rfl mp_ ?_; (with_reducible refine (spec_l1In.calls a0_1 (-1) 99 true _ A4.out).mono ?_); rintro e w' ⟨rfl, ⟨nd, rfl⟩⟩; refine ⟨_, rfl, ?_⟩) | (go_at_call 56; (with_reducible refine (spec_l1In.calls a0_2 0 999 true _ A6.out).mono ?_); rintro e w' ⟨rfl, ⟨nd, rfl⟩⟩) | (go_at_call 56; (with_reducible refine (spec_l1In.calls a0_3 a0_2 999 false _ A8.out).mono ?_); rintro e w' ⟨rfl, ⟨nd, rfl⟩⟩))
          go_meet
          case rel => exact ⟨_, (true), rs_, H', ⟨by first | omega | exact Nat.le_refl _⟩, ⟨bq_ BK186.out⟩, ⟨hbw_ HB⟩⟩
      · replace c7 := Bool.eq_false_iff.mpr c7; subst c7; rw [if_neg nt_] at H; have H' := Aside0.mk H; clear H; have hcz13 := bc5_ BK186.out; have hfz13 := bf5_ BK186.out
        go_wp2_with (first | ((with_reducible refine gate_callee (f := 56) rfl ?_); refine goesL_ (some 5) rfl rfl Try.func56 (by kernel_rfl) rfl #[.int .i64 a0_1, .int .i64 (-1), .int .i64 99] rfl mp_ ?_; (with_reducible refine (spec_l1In.calls a0_1 (-1) 99 true _ A4.out).mono ?_); rintro e w' ⟨rfl, ⟨nd, rfl⟩⟩; refine ⟨_, rfl, ?_⟩) | (go_at_call 56; (with_reducible refine (spec_l1In.calls a0_2 0 999 false _ A6.out).mono ?_); rintro e w' ⟨rfl, ⟨nd, rfl⟩⟩))
        go_meet
        case rel => exact ⟨_, (true), rs_, H', ⟨by first | omega | exact Nat.le_refl _⟩, ⟨bq_ BK186.out⟩, ⟨hbw_ HB⟩⟩
    · replace c5 := Bool.eq_false_iff.mpr c5; subst c5; rw [if_neg nt_] at H; have H' := Aside0.mk H; clear H; have hcz14 := bc5_ BK186.out; have hfz14 := bf5_ BK186.out
      go_wp2_with (first | ((with_reducible refine gate_callee (f := 56) rfl ?_); refine goesL_ (some 5) rfl rfl Try.func56 (by kernel_rfl) rfl #[.int .i64 a0_1, .int .i64 (-1), .int .i64 99] rfl mp_ ?_; (with_reducible refine (spec_l1In.calls a0_1 (-1) 99 false _ A4.out).mono ?_); rintro e w' ⟨rfl, ⟨nd, rfl⟩⟩; refine ⟨_, rfl, ?_⟩))
      go_meet
      case rel => exact ⟨_, (true), rs_, H', ⟨by first | omega | exact Nat.le_refl _⟩, ⟨bq_ BK186.out⟩, ⟨hbw_ HB⟩⟩
  case rest =>
    clear HC2; obtain ⟨kq, x26_1, rfl, HA, HJ1, BK186, HB⟩ := hcut
    cases kq with
    | zero => exact absurd HA.out (by simp [spec_IsValidVersion.j0])
    | succ kj1 =>
      have H := HA.out; clear HA; simp only [spec_IsValidVersion.j0] at H
      by_cases c15 : x26_1 = true
      · subst c15; rw [if_pos rfl] at H; obtain rfl := Option.some.inj H
        go_wp2
        go_ret; exact ⟨ew_, hq1_ HB.out GE186.out⟩
      · replace c15 := Bool.eq_false_iff.mpr c15; subst c15; rw [if_neg nt_] at H
        by_cases c16 : a0_2 = 0
        · rw [if_pos c16] at H; have c16b0 : (a0_2 == 0) = true := beq_iff_eq.mpr c16; have c16b1 : (a0_2 != 0) = false := bne_eq_false_iff_eq.mpr c16; clear c16
          by_cases c17 : a0_0 = 0
          · rw [if_pos c17] at H; have c17b0 : (a0_0 == 0) = true := beq_iff_eq.mpr c17; have c17b1 : (a0_0 != 0) = false := bne_eq_false_iff_eq.mpr c17; clear c17; obtain rfl := Option.some.inj H; have hcz18 := bc5_ BK186.out; have hfz18 := bf5_ BK186.out
            go_wp2
            go_ret; exact ⟨ew_, hq1_ HB.out GE186.out⟩
          · rw [if_neg c17] at H; have c17b0 : (a0_0 == 0) = false := beq_eq_false_iff_ne.mpr c17; have c17b1 : (a0_0 != 0) = true := bne_iff_ne.mpr c17; obtain rfl := Option.some.inj H; have hcz19 := bc5_ BK186.out; have hfz19 := bf5_ BK186.out
            go_wp2
            go_ret; exact ⟨ew_, hq1_ HB.out GE186.out⟩
        · rw [if_neg c16] at H; have c16b0 : (a0_2 == 0) = false := beq_eq_false_iff_ne.mpr c16; have c16b1 : (a0_2 != 0) = true := bne_iff_ne.mpr c16; replace H := Option.bind_eq_some_iff.mp H; obtain ⟨t191, A200, H⟩ := H; have A20 := Aside0.mk A200; clear A200; obtain rfl := Option.some.inj H; have hcz21 := bc5_ BK186.out; have hfz21 := bf5_ BK186.out
          go_wp2_with (first | ((with_reducible refine gate_callee (f := 56) rfl ?_); refine goesL_ (some 40) rfl rfl Try.func56 (by kernel_rfl) rfl #[.int .i64 a0_0, .int .i64 1, .int .i64 9] rfl mp_ ?_; (with_reducible refine (spec_l1In.calls a0_0 1 9 t191 _ A20.out).mono ?_); rintro e w' ⟨rfl, ⟨nd, rfl⟩⟩; refine ⟨_, rfl, ?_⟩))
          go_ret; exact ⟨ew_, hq1_ HB.out GE186.out⟩

end Go.Proofs.Ytbcllflajakajaa.PFnExactExcludingPair
