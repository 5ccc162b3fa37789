-- Printed by my own myprint.py out of the translation of the seat Ytcfibffdjgdoaaa. Not trusted: Lean checks it.
import Derived.Test.YtcfibffdjgdoaaaPFnExactNewStorex0
import Derived.Test.YtcfibffdjgdoaaaPFnExactNewStorex2
namespace Go.Proofs.Ytcfibffdjgdoaaa.PFnExactNewStore
open Go.RowKit Go.Proofs.YtcfibffdjgdoaaaW.PrintWords Go.Proofs.YtcfibffdjgdoaaaW.PrintLast Go.Proofs.YtcfibffdjgdoaaaW.PrintMore
attribute [local go_sem] max2_int min2_int max_two min_two max_three min_three max_four min_four   -- for this text's walks alone
set_option linter.unusedVariables false
set_option linter.unusedSimpArgs false

/-! ### laws_heldVersionSS: function 63 -/
def laws_heldVersionSS.l0 : Nat → List (List (S33)) → Int → Int → Option (Int)
  | 0, _, _, _ => none
  | k + 1, x0, x1, x5 => if x5 < (x0.length : Int) then (if 0 ≤ x5 then ((laws_heldVersionS.f k (rd_L2 x0 x5) x1).bind fun t140 => (if t140 < 0 then (some (-1)) else (laws_heldVersionSS.l0 k x0 t140 (wrap64 (x5 + 1))))) else (none)) else (some x1)
def laws_heldVersionSS.f (k : Nat) (l0 : List (List (S33))) (a1 : Int) : Option (Int) := laws_heldVersionSS.l0 k l0 a1 0
theorem laws_heldVersionSS.mono_l : ∀ k, (∀ y0 y1 y2, LeO (laws_heldVersionSS.l0 k y0 y1 y2) (laws_heldVersionSS.l0 (k + 1) y0 y1 y2))
  | 0 => fun _ _ _ r h => by simp [laws_heldVersionSS.l0] at h
  | k + 1 => by
    have ih0 := laws_heldVersionSS.mono_l k
    · intro y0 y1 y2
      unfold laws_heldVersionSS.l0
      repeat' first
      | (with_reducible exact ih0 _ _ _)
      | (with_reducible exact laws_heldVersionS.mono _ _ _)
      | (with_reducible exact LeO.refl _)
      | (with_reducible exact LeO.none _)
      | (with_reducible refine LeO.ite ?_ ?_)
      | (with_reducible refine LeO.bind ?_ (fun _ => ?_))
      | exact ih0 _ _ _
      | exact laws_heldVersionS.mono _ _ _
      | exact LeO.none _
      | refine LeO.ite ?_ ?_
      | refine LeO.bind ?_ (fun _ => ?_)
theorem laws_heldVersionSS.mono : ∀ a0 a1 k, LeO (laws_heldVersionSS.f k a0 a1) (laws_heldVersionSS.f (k + 1) a0 a1) := by
  intro a0 a1 k
  have ih0 := laws_heldVersionSS.mono_l k
  unfold laws_heldVersionSS.f
  repeat' first
      | (with_reducible exact ih0 _ _ _)
      | (with_reducible exact laws_heldVersionS.mono _ _ _)
      | (with_reducible exact LeO.refl _)
      | (with_reducible exact LeO.none _)
      | (with_reducible refine LeO.ite ?_ ?_)
      | (with_reducible refine LeO.bind ?_ (fun _ => ?_))
      | exact ih0 _ _ _
      | exact laws_heldVersionS.mono _ _ _
      | exact LeO.none _
      | refine LeO.ite ?_ ?_
      | refine LeO.bind ?_ (fun _ => ?_)
set_option maxHeartbeats 8000000 in
set_option maxRecDepth 100000 in
theorem laws_heldVersionSS.calls (k : Nat) (A0 : Option Addr) (c0 : Nat) (l0 : List (List (S33))) (a1 : Int) (r : Int) (w : World) (hr0 : Kd.C (Kd.slice 33 k33) w A0 l0.length l0) (hc0 : l0.length ≤ c0) (h : laws_heldVersionSS.f k l0 a1 = some r) :
    Calls Try.prog 63 #[.slice A0 l0.length c0, .int .i64 a1] w fun e w' => e = .returned (.int .i64 r) ∧ Drawn0 w w' := by
  have HR0 := Aside0.mk hr0
  have HC0 := Aside0.mk hc0
  clear hr0 hc0
  have H : (laws_heldVersionSS.l0 k l0 a1 0) = some r := h
  clear h
  have H' := Aside0.mk H
  clear H
  go_enter Try.func63, Try.ntmps63
  go_wp2
  go_loopg [1, 5] k (fun kq v1 v5 w' => ∃ (x1_1 : Int) (x5_1 : Int), v1 = .int .i64 x1_1 ∧ v5 = .int .i64 x5_1 ∧ Aside0 (laws_heldVersionSS.l0 kq l0 x1_1 x5_1 = some r) ∧ Aside0 (kq ≤ k) ∧ Drawn0 w w')
  case atStart => exact ⟨(a1), (0), (by first | rfl | (simp; done) | (simp [*]; done)), (by first | rfl | (simp; done) | (simp [*]; done)), H', ⟨Nat.le_refl _⟩, by repeat (first | exact Drawn0.refl _ | apply Drawn0.step)⟩
  case round =>
    clear H'
    try clear p2
    obtain ⟨x1_1, x5_1, rfl, rfl, HA, HK1, ⟨m1, rfl⟩⟩ := hrel
    cases gk with
    | zero => exact absurd HA.out (by simp [laws_heldVersionSS.l0])
    | succ k1 =>
      have H := HA.out
      clear HA
      simp only [laws_heldVersionSS.l0] at H
      by_cases c3 : x5_1 < (l0.length : Int)
      · rw [if_pos c3] at H
        have c3b0 : decide (x5_1 < (l0.length : Int)) = true := decide_eq_true c3
        clear c3
        by_cases c4 : 0 ≤ x5_1
        · rw [if_pos c4] at H
          have c4b0 : decide (0 ≤ x5_1) = true := decide_eq_true c4
          clear c4
          replace H := Option.bind_eq_some_iff.mp H
          obtain ⟨t140, A50, H⟩ := H
          replace H : (if t140 < 0 then (some (-1)) else (laws_heldVersionSS.l0 k1 l0 t140 (wrap64 (x5_1 + 1)))) = some r := H
          have A5 := Aside0.mk A50
          clear A50
          by_cases c6 : t140 < 0
          · rw [if_pos c6] at H
            have c6b0 : decide (t140 < 0) = true := decide_eq_true c6
            clear c6
            obtain rfl := Option.some.inj H
            have p139 : 0 ≤ (x5_1 : Int) := of_decide_eq_true (by first | (with_reducible assumption) | assumption)
            have q139 : x5_1 < (l0.length : Int) := of_decide_eq_true (by first | (with_reducible assumption) | assumption)
            obtain ⟨ad139, A139_0, c139_0, e139, hx139_0, hl139_0, hi139_0⟩ := at_L2 HR0.out x5_1 p139 q139
            cases e139
            have HR139_0 := Aside0.mk hi139_0
            have HC139_0 := Aside0.mk hl139_0
            clear hi139_0 hl139_0
            replace p139 := eq_true p139
            replace q139 := eq_true q139
            go_wp2_with (first | ((with_reducible refine gate_callee (f := 83) rfl ?_); refine goesL_ (some 17) rfl rfl Try.func83 (by kernel_rfl) rfl #[.slice A139_0 (rd_L2 l0 x5_1).length c139_0, .int .i64 x1_1] rfl (by (try simp only [List.map_toArray, List.map_cons, List.map_nil]); first | done | rfl | (simp only [List.length_drop, List.length_take]; rfl)) ?_; (with_reducible refine (laws_heldVersionS.calls k1 _ _ (rd_L2 l0 x5_1) x1_1 t140 _ ?side1 ?side2 A5.out).mono ?_); (case side1 => repeat (first | exact HR139_0.out | (with_reducible refine Kd.C_alloc ?_ _) | (with_reducible refine Kd.C_drewN ?_ _) | (with_reducible refine Kd.C_drew ?_))); (case side2 => exact HC139_0.out); rintro e w' ⟨rfl, ⟨nd, rfl⟩⟩; refine ⟨_, rfl, ?_⟩))
            go_ret
            exact ⟨by first | rfl | (simp; done) | (simp [*]; done), by repeat (first | exact Drawn0.refl _ | apply Drawn0.step)⟩
          · rw [if_neg c6] at H
            have c6b0 : decide (t140 < 0) = false := decide_eq_false c6
            clear c6
            have H' := Aside0.mk H
            clear H
            have p139 : 0 ≤ (x5_1 : Int) := of_decide_eq_true (by first | (with_reducible assumption) | assumption)
            have q139 : x5_1 < (l0.length : Int) := of_decide_eq_true (by first | (with_reducible assumption) | assumption)
            obtain ⟨ad139, A139_0, c139_0, e139, hx139_0, hl139_0, hi139_0⟩ := at_L2 HR0.out x5_1 p139 q139
            cases e139
            have HR139_0 := Aside0.mk hi139_0
            have HC139_0 := Aside0.mk hl139_0
            clear hi139_0 hl139_0
            replace p139 := eq_true p139
            replace q139 := eq_true q139
            go_wp2_with (first | ((with_reducible refine gate_callee (f := 83) rfl ?_); refine goesL_ (some 17) rfl rfl Try.func83 (by kernel_rfl) rfl #[.slice A139_0 (rd_L2 l0 x5_1).length c139_0, .int .i64 x1_1] rfl (by (try simp only [List.map_toArray, List.map_cons, List.map_nil]); first | done | rfl | (simp only [List.length_drop, List.length_take]; rfl)) ?_; (with_reducible refine (laws_heldVersionS.calls k1 _ _ (rd_L2 l0 x5_1) x1_1 t140 _ ?side1 ?side2 A5.out).mono ?_); (case side1 => repeat (first | exact HR139_0.out | (with_reducible refine Kd.C_alloc ?_ _) | (with_reducible refine Kd.C_drewN ?_ _) | (with_reducible refine Kd.C_drew ?_))); (case side2 => exact HC139_0.out); rintro e w' ⟨rfl, ⟨nd, rfl⟩⟩; refine ⟨_, rfl, ?_⟩))
            go_roundg k1
            case measure => have := HK1.out; omega
            case rel => exact ⟨(t140), (wrap64 (x5_1 + 1)), (by first | rfl | (simp; done) | (simp [*]; done)), (by first | rfl | (simp; done) | (simp [*]; done)), H', ⟨by have := HK1.out; omega⟩, by repeat (first | exact Drawn0.refl _ | apply Drawn0.step)⟩
        · rw [if_neg c4] at H
          exact absurd H (by simp)
      · rw [if_neg c3] at H
        have c3b0 : decide (x5_1 < (l0.length : Int)) = false := decide_eq_false c3
        clear c3
        obtain rfl := Option.some.inj H
        go_wp2
        go_ret
        exact ⟨by first | rfl | (simp; done) | (simp [*]; done), by repeat (first | exact Drawn0.refl _ | apply Drawn0.step)⟩

/-! ### laws_heldStore: function 37 -/
def laws_heldStore.f (k : Nat) (l0_0 : List (List (S33))) (a1 : Int) : Option (Int) := (laws_heldVersionSS.f k l0_0 a1).bind fun t142 => (if t142 < 0 then (some (-1)) else (some t142))
theorem laws_heldStore.mono : ∀ a0 a1 k, LeO (laws_heldStore.f k a0 a1) (laws_heldStore.f (k + 1) a0 a1) := by
  intro a0 a1 k
  unfold laws_heldStore.f
  repeat' first
      | (with_reducible exact laws_heldVersionSS.mono _ _ _)
      | (with_reducible exact LeO.refl _)
      | (with_reducible exact LeO.none _)
      | (with_reducible refine LeO.ite ?_ ?_)
      | (with_reducible refine LeO.bind ?_ (fun _ => ?_))
      | exact laws_heldVersionSS.mono _ _ _
      | exact LeO.none _
      | refine LeO.ite ?_ ?_
      | refine LeO.bind ?_ (fun _ => ?_)
set_option maxHeartbeats 8000000 in
set_option maxRecDepth 100000 in
theorem laws_heldStore.calls (k : Nat) (A0_0 : Option Addr) (c0_0 : Nat) (l0_0 : List (List (S33))) (a1 : Int) (r : Int) (w : World) (hr0_0 : Kd.C (Kd.slice 33 k33) w A0_0 l0_0.length l0_0) (hc0_0 : l0_0.length ≤ c0_0) (h : laws_heldStore.f k l0_0 a1 = some r) :
    Calls Try.prog 37 #[.agg #[.slice A0_0 l0_0.length c0_0], .int .i64 a1] w fun e w' => e = .returned (.int .i64 r) ∧ Below w.heap.size w w' := by
  have hu43 := Try.underlying43
  have HR0_0 := Aside0.mk hr0_0
  have HC0_0 := Aside0.mk hc0_0
  clear hr0_0 hc0_0
  have HB := Aside0.mk (Below.refl w.heap.size w)
  have H : ((laws_heldVersionSS.f k l0_0 a1).bind fun t142 => (if t142 < 0 then (some (-1)) else (some t142))) = some r := h
  clear h
  replace H := Option.bind_eq_some_iff.mp H
  obtain ⟨t142, A30, H⟩ := H
  replace H : (if t142 < 0 then (some (-1)) else (some t142)) = some r := H
  have A3 := Aside0.mk A30
  clear A30
  by_cases c4 : t142 < 0
  · rw [if_pos c4] at H
    have c4b0 : decide (t142 < 0) = true := decide_eq_true c4
    clear c4
    obtain rfl := Option.some.inj H
    go_enter Try.func37, Try.ntmps37
    go_wp2_with (first | ((with_reducible refine gate_dst (N := 2) rfl ?_); refine box_event ?hg (N := 2) ?hd (cs := #[.slice A0_0 l0_0.length c0_0]) (t := 43) ?hr ?_; (case hd => rfl); (case hg => rfl); (case hr => first | (go_simp; done) | (go_simp; rfl)); intro gb141 hg w5 hbox hb; have n0_ := Aside0.mk (below_step (by repeat (first | (with_reducible first | exact HB.out | apply below_alloc | apply pw_below_drewN | apply below_drew1) | exact HB.out)) hb); have n1_ := Aside0.mk (hbox); have n2_ := Aside0.mk ((by rw [hg]; exact (below_size (by repeat (first | (with_reducible first | exact HB.out | apply below_alloc | apply pw_below_drewN | apply below_drew1) | exact HB.out))) : w.heap.size ≤ gb141)); have n3_ := Aside0.mk ((by rw [hg]; exact (below_size (by repeat (first | (with_reducible first | exact HB.out | apply below_alloc | apply pw_below_drewN | apply below_drew1) | exact HB.out))) : w.heap.size ≤ gb141)); clear HB; have HB := n0_; have BK141 := n1_; have GW141 := n2_; have GE141 := n3_; clear n0_ n1_ n2_ n3_; clear hb hbox hg; have hcz6_0 : w5.cell? ⟨gb141, 0, none⟩ = some (.slice A0_0 l0_0.length c0_0) := (blk_cell BK141.out 0).trans rfl; have hfz6_0 := blk_frozen BK141.out 0) | ((with_reducible refine gate_callee (f := 63) rfl ?_); refine goesL_ (some 8) rfl rfl Try.func63 (by kernel_rfl) rfl #[.slice A0_0 l0_0.length c0_0, .int .i64 a1] rfl (by (try simp only [List.map_toArray, List.map_cons, List.map_nil]); first | done | rfl | (simp only [List.length_drop, List.length_take]; rfl)) ?_; (with_reducible refine (laws_heldVersionSS.calls k _ _ l0_0 a1 t142 _ ?side1 ?side2 A3.out).mono ?_); (case side1 => repeat (first | exact (Kd.C_below HR0_0.out HB.out) | (with_reducible refine Kd.C_alloc ?_ _) | (with_reducible refine Kd.C_drewN ?_ _) | (with_reducible refine Kd.C_drew ?_))); (case side2 => exact HC0_0.out); rintro e w' ⟨rfl, ⟨nd, rfl⟩⟩; refine ⟨_, rfl, ?_⟩))
    go_ret
    exact ⟨by first | rfl | (simp [errW_none, errW_some] <;> rfl) | (simp [*, errW_none, errW_some] <;> rfl), by repeat (first | (with_reducible first | exact HB.out | apply below_alloc | apply pw_below_drewN | apply below_drew1 | refine below_set ?_ GE141.out) | exact HB.out)⟩
  · rw [if_neg c4] at H
    have c4b0 : decide (t142 < 0) = false := decide_eq_false c4
    clear c4
    obtain rfl := Option.some.inj H
    go_enter Try.func37, Try.ntmps37
    go_wp2_with (first | ((with_reducible refine gate_dst (N := 2) rfl ?_); refine box_event ?hg (N := 2) ?hd (cs := #[.slice A0_0 l0_0.length c0_0]) (t := 43) ?hr ?_; (case hd => rfl); (case hg => rfl); (case hr => first | (go_simp; done) | (go_simp; rfl)); intro gb141 hg w7 hbox hb; have n0_ := Aside0.mk (below_step (by repeat (first | (with_reducible first | exact HB.out | apply below_alloc | apply pw_below_drewN | apply below_drew1) | exact HB.out)) hb); have n1_ := Aside0.mk (hbox); have n2_ := Aside0.mk ((by rw [hg]; exact (below_size (by repeat (first | (with_reducible first | exact HB.out | apply below_alloc | apply pw_below_drewN | apply below_drew1) | exact HB.out))) : w.heap.size ≤ gb141)); have n3_ := Aside0.mk ((by rw [hg]; exact (below_size (by repeat (first | (with_reducible first | exact HB.out | apply below_alloc | apply pw_below_drewN | apply below_drew1) | exact HB.out))) : w.heap.size ≤ gb141)); clear HB; have HB := n0_; have BK141 := n1_; have GW141 := n2_; have GE141 := n3_; clear n0_ n1_ n2_ n3_; clear hb hbox hg; have hcz8_0 : w7.cell? ⟨gb141, 0, none⟩ = some (.slice A0_0 l0_0.length c0_0) := (blk_cell BK141.out 0).trans rfl; have hfz8_0 := blk_frozen BK141.out 0) | ((with_reducible refine gate_callee (f := 63) rfl ?_); refine goesL_ (some 8) rfl rfl Try.func63 (by kernel_rfl) rfl #[.slice A0_0 l0_0.length c0_0, .int .i64 a1] rfl (by (try simp only [List.map_toArray, List.map_cons, List.map_nil]); first | done | rfl | (simp only [List.length_drop, List.length_take]; rfl)) ?_; (with_reducible refine (laws_heldVersionSS.calls k _ _ l0_0 a1 t142 _ ?side1 ?side2 A3.out).mono ?_); (case side1 => repeat (first | exact (Kd.C_below HR0_0.out HB.out) | (with_reducible refine Kd.C_alloc ?_ _) | (with_reducible refine Kd.C_drewN ?_ _) | (with_reducible refine Kd.C_drew ?_))); (case side2 => exact HC0_0.out); rintro e w' ⟨rfl, ⟨nd, rfl⟩⟩; refine ⟨_, rfl, ?_⟩))
    go_ret
    exact ⟨by first | rfl | (simp [errW_none, errW_some] <;> rfl) | (simp [*, errW_none, errW_some] <;> rfl), by repeat (first | (with_reducible first | exact HB.out | apply below_alloc | apply pw_below_drewN | apply below_drew1 | refine below_set ?_ GE141.out) | exact HB.out)⟩

/-! ### laws_FnExactNewStore: function 9 -/
-- FLAGS LAW
def laws_markVersionSS.m0 : Nat → List (List S33) → Int → Nat → Option (Int × List (List S33))
  | 0, _, _, _ => none
  | k + 1, x0, x1, i => if i < x0.length then (laws_markVersionS.f k (x0.getD i []) x1).bind fun bt => laws_markVersionSS.m0 k (x0.set i bt.2) bt.1 (i + 1) else some (x1, x0)
set_option maxHeartbeats 4000000 in
set_option maxRecDepth 100000 in
theorem laws_markVersionSS.back (k : Nat) (ok : Nat → Prop) (v : Value) (l : List (List S33)) (a1 : Int) (r : Int × List (List S33)) (w0 w : World) (hB : Below w0.heap.size w0 w) (hS : Kd.S (Kd.slice 33 k33) 25 w w0.heap.size ok v l) (h : laws_markVersionSS.m0 k l a1 0 = some r) :
    Calls Try.prog 62 #[v, .int .i64 a1] w fun e w' => e = .returned (.int .i64 r.1) ∧ Below w0.heap.size w0 w' ∧ Kept w w' (TypedIn [25, 33] w) ∧ Kd.S (Kd.slice 33 k33) 25 w' w0.heap.size ok v r.2 := by
  have hu := Try.underlying41
  obtain ⟨A, c, rfl⟩ := Kd.S_slice hS
  have HS := Aside0.mk hS
  have HB := Aside0.mk hB
  have H' := Aside0.mk h
  clear hS hB h
  go_enter Try.func62, Try.ntmps62
  go_wp2
  go_loopg [1, 5] k (fun kq v1 v5 w' => ∃ (x0 : List (List S33)) (n : Int) (i : Nat), v1 = .int .i64 n ∧ v5 = .int .i64 (i : Int) ∧ Aside0 (laws_markVersionSS.m0 kq x0 n i = some r) ∧ Aside0 (kq ≤ k) ∧ Aside0 (x0.length = l.length) ∧ Aside0 (Kd.S (Kd.slice 33 k33) 25 w' w0.heap.size ok (.slice A l.length c) x0) ∧ Aside0 (Kept w w' (TypedIn [25, 33] w)) ∧ Aside0 (Below w0.heap.size w0 w'))
  case atStart => exact ⟨l, a1, 0, rfl, rfl, H', ⟨Nat.le_refl _⟩, ⟨rfl⟩, HS, ⟨Kept.refl _ _⟩, HB⟩
  case round =>
    clear H' HS HB
    obtain ⟨x0, n, i, rfl, rfl, HA, HK, HL, HS, HKP, HB⟩ := hrel
    cases gk with
    | zero => exact absurd HA.out (by simp [laws_markVersionSS.m0])
    | succ k1 =>
      have H := HA.out
      clear HA
      simp only [laws_markVersionSS.m0] at H
      by_cases hlt : i < x0.length
      · rw [if_pos hlt] at H
        obtain ⟨bt, hA, H⟩ := Option.bind_eq_some_iff.mp H
        have hll := HL.out
        have hlen : x0.length ≤ 9223372036854775807 := by
          obtain ⟨_, _, _, _, hC⟩ := Kd.R_reads (Kd.S_R HS.out)
          exact hC.2.1
        have hil : (i : Int) < (l.length : Int) := by omega
        obtain ⟨g, cap, hv, hbase, hgl, _⟩ := Kd.S_form HS.out (by omega)
        injection hv with e1 e2 e3
        have HS' : Kd.S (Kd.slice 33 k33) 25 wr w0.heap.size ok (.slice (some ⟨g, 0, none⟩) l.length c) x0 := by rw [← e1]; exact HS.out
        obtain ⟨ad, ead⟩ : ∃ ad, A = some ad := ⟨_, e1⟩
        subst ead
        have HE := Aside0.mk (Option.some.inj e1)
        clear e1 e2 e3
        obtain ⟨oki, cs, hcl, hM, hcc, hoki, hH⟩ := Kd.S_lend (n := l.length) HS' [] (i : Int) (by omega) hil
        obtain ⟨u, rfl, hU⟩ := hM
        obtain ⟨row, hrow⟩ : ∃ row, x0.getD i [] = row := ⟨_, rfl⟩
        rw [Int.toNat_natCast, hrow] at hU
        rw [hrow] at hA
        obtain ⟨A2, c2, rfl⟩ := Kd.R_slice hU
        have hx := hcc 0 _ rfl
        rw [Int.toNat_natCast, show i * (Kd.slice 33 k33).sz + 0 = i from Nat.mul_one i] at hx
        have HX := Aside0.mk (show wr.cell? (ad.add i) = some (.slice A2 row.length c2) by rw [HE.out, add_plain]; exact hx)
        have HU := Aside0.mk hU
        have HH := Aside0.mk hH
        have HR := Aside0.mk H
        have HA := Aside0.mk hA
        clear hU hH H hA hcc hoki hcl hx HS' hrow
        have hx := HX.out
        go_wp2_with (go_at_call 82; (with_reducible refine (laws_markVersionS.calls k1 (fun k_ => some k_ = (.slice A2 row.length c2 : Value).ownBlock) (.slice A2 row.length c2) row n bt.1 bt.2 w0 _ ?s1 ?s2 HA.out).mono ?_); (case s1 => exact HB.out); (case s2 => exact Kd.R_tight rfl HU.out); rintro e w2 ⟨rfl, hy, hb, hkp⟩; have HY := Aside0.mk hy; have HB2 := Aside0.mk hb; have HK2 := Aside0.mk hkp; clear hy hb hkp)
        go_roundg k1
        case measure => omega
        case rel =>
          refine ⟨x0.set i bt.2, bt.1, i + 1, rfl, by go_num, HR, ⟨by have := HK.out; omega⟩, ⟨by rw [List.length_set]; exact HL.out⟩, ⟨?_⟩, ⟨?_⟩, HB2⟩
          · have hH2 : Kd.H (Kd.slice 33 k33) 25 w2 w0.heap.size ok (.slice (some ⟨g, 0, none⟩) l.length c) x0 (i : Int) oki [.slice A2 row.length c2] := by
              obtain ⟨h1, f, h2⟩ := HH.out
              exact ⟨h1, f, Kd.R_mono (Kd.R_move (Kd.R_bound h2) (fun k hk => HK2.out.2 k hk.2.2.1 (fun e_ => hk.1.2 (HU.out.1 k e_.symm)))) (fun _ hk => hk.1)⟩
            have hS2 := Kd.H_back hH2 (x' := bt.2) (okp := oki) ⟨_, rfl, Kd.R_reok rfl HY.out (fun k_ e_ => HU.out.1 k_ e_)⟩ (fun _ h_ => h_)
            rw [Int.toNat_natCast] at hS2
            rw [HE.out]
            exact hS2
          · refine takes_then HKP.out HK2.out (fun j hj => ?_)
            obtain ⟨cells, hc⟩ := Kd.R_typed HU.out j hj.symm
            exact ⟨_, by simp, cells, hc⟩
      · rw [if_neg hlt] at H
        have hll := HL.out
        have hil : ¬ (i : Int) < (l.length : Int) := by omega
        obtain rfl := Option.some.inj H
        go_wp2
        go_ret
        exact ⟨rfl, HB.out, HKP.out, HS.out⟩
set_option maxHeartbeats 4000000 in
set_option maxRecDepth 100000 in
theorem laws_markStore.back (k : Nat) (ok : Nat → Prop) (v : Value) (l : List (List S33)) (a1 : Int) (r : Int × List (List S33)) (w0 w : World) (hB : Below w0.heap.size w0 w) (hS : Kd.S (Kd.slice 33 k33) 25 w w0.heap.size ok v l) (h : laws_markVersionSS.m0 k l a1 0 = some r) :
    Calls Try.prog 36 #[.agg #[v], .int .i64 a1] w fun e w' => e = .returned (.int .i64 r.1) ∧ Below w0.heap.size w0 w' ∧ Kept w w' (TypedIn [25, 33] w) ∧ Kd.S (Kd.slice 33 k33) 25 w' w0.heap.size ok v r.2 := by
  have hu := Try.underlying43
  have HB := Aside0.mk (below_alloc hB (.cells #[v] 43))
  have HS := Aside0.mk (Kd.S_alloc hS (.cells #[v] 43))
  have H' := Aside0.mk (show laws_markVersionSS.m0 k l a1 0 = some r from h)
  clear hB hS h
  go_enter Try.func36, Try.ntmps36
  go_wp2_with (go_at_call 62; (with_reducible refine (laws_markVersionSS.back k ok v l a1 r w0 _ ?s1 ?s2 H'.out).mono ?_); (case s1 => exact HB.out); (case s2 => exact HS.out); rintro e w2 ⟨rfl, hb, hkp, hs2⟩; have HS2 := Aside0.mk hs2; clear hs2; have HB2 := Aside0.mk hb; have HK2 := Aside0.mk hkp; clear hb hkp)
  go_ret
  exact ⟨rfl, HB2.out, takes_then (Kept.alloc (Kept.refl _ _) _) HK2.out (fun j hj => hj), HS2.out⟩
/-- THE ONE PURE STATEMENT of laws_FnExactNewStore: yours. -/
def laws_FnExactNewStore.Pure : Prop := ∃ (k : Nat) (l l' : List (List S33)) (r : Int × List (List S33)), spec_NewStore.f k = some l ∧ impl_NewStore.f k = some l' ∧ laws_eqStore.f k l' l = some true ∧ laws_markVersionSS.m0 k l' 1 0 = some r ∧ laws_heldStore.f k r.2 1 = some r.1 ∧ 0 ≤ r.1
theorem ns_box (w : World) (o : Obj) : (w.alloc o).heap[w.heap.size]? = some o := Array.getElem?_push_size
set_option maxHeartbeats 4000000 in
set_option maxRecDepth 100000 in
theorem laws_FnExactNewStore.walk (P : laws_FnExactNewStore.Pure) (w : World) :
    Calls Try.prog 9 #[] w fun e w' => e = .returned (.bool true) ∧ Below w.heap.size w w' := by
  obtain ⟨k, l, l', r, h1, h2, h3, h4, h5, h6⟩ := P
  have hu := Try.underlying43
  have G1 := Aside0.mk h1
  have G2 := Aside0.mk h2
  have G3 := Aside0.mk h3
  have G4 := Aside0.mk h4
  have G5 := Aside0.mk h5
  obtain ⟨q, hq⟩ : ∃ q, r.1 = q := ⟨_, rfl⟩
  have hneg : decide (q < 0) = false := decide_eq_false (by omega)
  have HQ := Aside0.mk hq
  clear h1 h2 h3 h4 h5 h6 hq
  go_enter Try.func9, Try.ntmps9
  go_upto_region 2 with (first | (go_at_call 34; (with_reducible refine (spec_NewStore.calls k l _ G1.out).mono ?_); rintro e w1 ⟨v1, rfl, hs, hb⟩; obtain ⟨A1, c1, rfl⟩ := Kd.S_slice hs; have HS1 := Aside0.mk hs; have HB1 := Aside0.mk hb; clear hs hb))
  have HX := Aside0.mk (below_alloc HB1.out (.cells #[.slice A1 l.length c1] 43))
  have HS := Aside0.mk (Kd.S_alloc HS1.out (.cells #[.slice A1 l.length c1] 43))
  have BK1 := Aside0.mk (ns_box w1 (.cells #[.slice A1 l.length c1] 43))
  clear HS1 HB1
  generalize w1.alloc (.cells #[.slice A1 l.length c1] 43) = W1 at *
  generalize w1.heap.size = g1 at *
  have hgl : g1 < W1.heap.size := by
    rcases Nat.lt_or_ge g1 W1.heap.size with h | h
    · exact h
    · have := BK1.out
      rw [Array.getElem?_eq_none h] at this
      cases this
  have HGL := Aside0.mk hgl
  clear hgl
  go_upto_region 3 with (first | (go_at_call 35; (with_reducible refine (impl_NewStore.calls k l' _ G2.out).mono ?_); rintro e w2 ⟨v2, rfl, hs, hb⟩; obtain ⟨A2, c2, rfl⟩ := Kd.S_slice hs; have HS1 := Aside0.mk hs; have HB1 := Aside0.mk hb; clear hs hb))
  have HB := Aside0.mk (below_alloc HB1.out (.cells #[.slice A2 l'.length c2] 43))
  have HS2 := Aside0.mk (Kd.S_alloc HS1.out (.cells #[.slice A2 l'.length c2] 43))
  have BK2 := Aside0.mk (ns_box w2 (.cells #[.slice A2 l'.length c2] 43))
  clear HS1 HB1
  generalize w2.alloc (.cells #[.slice A2 l'.length c2] 43) = W2 at *
  generalize w2.heap.size = g2 at *
  have hl1 : W2.cell? ⟨g1, 0, none⟩ = some (.slice A1 l.length c1) := (HB.out.cell (p := ⟨g1, 0, none⟩) HGL.out).trans ((blk_cell BK1.out 0).trans rfl)
  have hl2 : W2.cell? ⟨g2, 0, none⟩ = some (.slice A2 l'.length c2) := (blk_cell BK2.out 0).trans rfl
  go_upto_region 5 with (first | (go_at_call 31; (with_reducible refine (laws_eqStore.calls k _ _ l' _ _ l true _ ?s1 ?s2 ?s3 ?s4 G3.out).mono ?_); (case s1 => exact (Kd.S_reads' HS2.out).2.2); (case s2 => exact (Kd.S_reads' HS2.out).2.1); (case s3 => exact (Kd.S_reads' (Kd.S_below HS.out HB.out)).2.2); (case s4 => exact (Kd.S_reads' HS.out).2.1); rintro e w3 ⟨rfl, hb⟩; have HB3 := Aside0.mk (below_step HB.out hb); have HS3 := Aside0.mk (Kd.S_below HS2.out hb); have BK3 := Aside0.mk (blk_below BK2.out hb); clear hb))
  clear hl1 hl2 HB HS2 BK2
  have hl2 : w3.cell? ⟨g2, 0, none⟩ = some (.slice A2 l'.length c2) := (blk_cell BK3.out 0).trans rfl
  go_upto_region 7 with (first | (go_at_call 36; (with_reducible refine (laws_markStore.back k (fun _ => True) _ l' 1 r W1 _ ?s1 ?s2 G4.out).mono ?_); (case s1 => exact HB3.out); (case s2 => exact HS3.out); rintro e w4 ⟨rfl, hb, hk, hs⟩; have HB4 := Aside0.mk hb; have HS4 := Aside0.mk hs; have BK4 := Aside0.mk (takes_blk BK3.out hk (by decide)); clear hb hk hs))
  rw [HQ.out]
  clear hl2 HB3 HS3 BK3
  have hlen := (Kd.S_reads' HS4.out).1
  have hl2 : w4.cell? ⟨g2, 0, none⟩ = some (.slice A2 r.2.length c2) := (blk_cell BK4.out 0).trans (by rw [← hlen]; rfl)
  have HL := Aside0.mk hlen
  clear hlen
  have G5q := Aside0.mk (show laws_heldStore.f k r.2 1 = some q from HQ.out ▸ G5.out)
  go_upto_region 13 with (first | (go_at_call 37; (with_reducible refine (laws_heldStore.calls k _ _ r.2 1 q _ ?s1 ?s2 G5q.out).mono ?_); (case s1 => exact (Kd.S_reads' HS4.out).2.2); (case s2 => exact HL.out ▸ (Kd.S_reads' HS4.out).2.1); rintro e w5 ⟨rfl, hb⟩; have HB5 := Aside0.mk (below_step HB4.out hb); have HS5 := Aside0.mk (Kd.S_below HS4.out hb); have BK5 := Aside0.mk (blk_below BK4.out hb); clear hb))
  clear hl2 HB4 HS4 BK4
  go_upto_region 14 with (first | (go_at_call 35; (with_reducible refine (impl_NewStore.calls k l' _ G2.out).mono ?_); rintro e w6 ⟨v3, rfl, hs, hb⟩; obtain ⟨A3, c3, rfl⟩ := Kd.S_slice hs; have HS6 := Aside0.mk hs; have HB6 := Aside0.mk hb; clear hs hb))
  have hb := below_alloc HB6.out (.cells #[.slice A3 l'.length c3] 43)
  have HB7 := Aside0.mk (below_step HB5.out hb)
  have HS7 := Aside0.mk (Kd.S_below HS5.out hb)
  have BK7 := Aside0.mk (blk_below BK5.out hb)
  have HT7 := Aside0.mk (Kd.S_alloc HS6.out (.cells #[.slice A3 l'.length c3] 43))
  have BK3 := Aside0.mk (ns_box w6 (.cells #[.slice A3 l'.length c3] 43))
  clear HS6 HB6 HB5 HS5 BK5 hb
  generalize w6.alloc (.cells #[.slice A3 l'.length c3] 43) = W3 at *
  generalize w6.heap.size = g3 at *
  have hl1 : W3.cell? ⟨g1, 0, none⟩ = some (.slice A1 l.length c1) := (HB7.out.cell (p := ⟨g1, 0, none⟩) HGL.out).trans ((blk_cell BK1.out 0).trans rfl)
  have hl3 : W3.cell? ⟨g3, 0, none⟩ = some (.slice A3 l'.length c3) := (blk_cell BK3.out 0).trans rfl
  go_upto_region 16 with (first | (go_at_call 31; (with_reducible refine (laws_eqStore.calls k _ _ l' _ _ l true _ ?s1 ?s2 ?s3 ?s4 G3.out).mono ?_); (case s1 => exact (Kd.S_reads' HT7.out).2.2); (case s2 => exact (Kd.S_reads' HT7.out).2.1); (case s3 => exact (Kd.S_reads' (Kd.S_below HS.out HB7.out)).2.2); (case s4 => exact (Kd.S_reads' HS.out).2.1); rintro e w8 ⟨rfl, hb⟩; have HB8 := Aside0.mk (below_step HB7.out hb); have HS8 := Aside0.mk (Kd.S_below HS7.out hb); have BK8 := Aside0.mk (blk_below BK7.out hb); clear hb))
  clear hl1 hl3 HB7 HS7 BK7 HT7 BK3
  have hl2 : w8.cell? ⟨g2, 0, none⟩ = some (.slice A2 r.2.length c2) := (blk_cell BK8.out 0).trans (by rw [← HL.out]; rfl)
  go_wp2_with (first | (go_at_call 37; (with_reducible refine (laws_heldStore.calls k _ _ r.2 1 q _ ?s1 ?s2 G5q.out).mono ?_); (case s1 => exact (Kd.S_reads' HS8.out).2.2); (case s2 => exact HL.out ▸ (Kd.S_reads' HS8.out).2.1); rintro e w9 ⟨rfl, hb⟩; have HB9 := Aside0.mk (below_step HB8.out hb); clear hb))
  go_ret
  exact ⟨rfl, below_step HX.out HB9.out⟩


end Go.Proofs.Ytcfibffdjgdoaaa.PFnExactNewStore
