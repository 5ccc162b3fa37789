-- Printed by my own myprint.py out of the translation of the seat Ytlnglooomeliiaa. Not trusted: Lean checks it.
import Derived.Test.YtlnglooomeliiaaPFnExactRefreshLowx0
import Derived.Test.YtlnglooomeliiaaPFnExactRefreshLowx11
import Derived.Test.YtlnglooomeliiaaPFnExactRefreshLowx13
namespace Go.Proofs.Ytlnglooomeliiaa.PFnExactRefreshLow
open Go.RowKit Go.Proofs.YtlnglooomeliiaaW.PrintWords Go.Proofs.YtlnglooomeliiaaW.PrintLast Go.Proofs.YtlnglooomeliiaaW.PrintMore
attribute [local go_sem] max2_int min2_int max_two min_two max_three min_three max_four min_four   -- for this text's walks alone
set_option linter.unusedVariables false
set_option linter.unusedSimpArgs false

/-! ### impl_IsValidStore_1: function 92 -/
def impl_IsValidStore_1.f (k : Nat) (l0 : List (S27)) : Option (Bool) := (impl_IsValidChain.f k l0).bind fun t291 => (if t291 = true then (some (decide ((l0.length : Int) > 50))) else (some true))
theorem impl_IsValidStore_1.mono : ∀ a0 k, LeO (impl_IsValidStore_1.f k a0) (impl_IsValidStore_1.f (k + 1) a0) := by
  intro a0 k; unfold impl_IsValidStore_1.f
  repeat' first
      | (with_reducible exact impl_IsValidChain.mono _ _)
      | (with_reducible exact LeO.refl _)
      | (with_reducible exact LeO.none _)
      | (with_reducible refine LeO.ite ?_ ?_)
      | (with_reducible refine LeO.bind ?_ (fun _ => ?_))
      | exact impl_IsValidChain.mono _ _
      | exact LeO.none _
      | refine LeO.ite ?_ ?_
      | refine LeO.bind ?_ (fun _ => ?_)
set_option maxHeartbeats 8000000 in
set_option maxRecDepth 100000 in
theorem impl_IsValidStore_1.calls (k : Nat) (A0 : Option Addr) (c0 : Nat) (l0 : List (S27)) (r : Bool) (w : World) (hr0 : Kd.C k27 w A0 l0.length l0) (hc0 : l0.length ≤ c0) (h : impl_IsValidStore_1.f k l0 = some r) :
    Calls Try.prog 92 #[.slice A0 l0.length c0] w fun e w' => e = .returned (.bool r) ∧ Below w.heap.size w w' := by
  have HR0 := Aside0.mk hr0; have HC0 := Aside0.mk hc0; clear hr0 hc0; have HB := Aside0.mk (Below.refl w.heap.size w); have H : ((impl_IsValidChain.f k l0).bind fun t291 => (if t291 = true then (some (decide ((l0.length : Int) > 50))) else (some true))) = some r := h; clear h; replace H := Option.bind_eq_some_iff.mp H; obtain ⟨t291, A20, H⟩ := H; replace H : (if t291 = true then (some (decide ((l0.length : Int) > 50))) else (some true)) = some r := H; have A2 := Aside0.mk A20; clear A20
  by_cases c3 : t291 = true
  · subst c3; (have H1 : (some (decide ((l0.length : Int) > 50))) = some r := by rw [if_pos rfl] at H; exact H); clear H; have H := H1; clear H1; obtain rfl := Option.some.inj H
    go_enter Try.func92, Try.ntmps92
    go_wp2_with (first | ((with_reducible refine gate_callee (f := 93) rfl ?_); refine goesL_ (some 4) rfl rfl Try.func93 (by kernel_rfl) rfl #[.slice A0 l0.length c0] rfl mp_ ?_; (with_reducible refine (impl_IsValidChain.calls k _ _ l0 true _ ?side1 ?side2 A2.out).mono ?_); (case side1 => repeat (first | exact HR0.out | (with_reducible refine Kd.C_alloc ?_ _) | (with_reducible refine Kd.C_drewN ?_ _) | (with_reducible refine Kd.C_drew ?_))); (case side2 => exact HC0.out); rintro e w4 ⟨rfl, hb⟩; refine ⟨_, rfl, ?_⟩; have n0_ := Aside0.mk (below_step (hq0_ HB.out) hb); clear HB; have HB := n0_; clear n0_; (try clear hb); (try clear hb2); (try clear hk); (try clear hi)))
    go_ret; exact ⟨by first | rfl | (simp [errW_none, errW_some] <;> rfl) | (simp [*, errW_none, errW_some] <;> rfl), hq0_ HB.out⟩
  · replace c3 := Bool.eq_false_iff.mpr c3; subst c3; (have H1 : (some true) = some r := by rw [if_neg (show ¬ (false = true) by decide)] at H; exact H); clear H; have H := H1; clear H1; obtain rfl := Option.some.inj H
    go_enter Try.func92, Try.ntmps92
    go_wp2_with (first | ((with_reducible refine gate_callee (f := 93) rfl ?_); refine goesL_ (some 4) rfl rfl Try.func93 (by kernel_rfl) rfl #[.slice A0 l0.length c0] rfl mp_ ?_; (with_reducible refine (impl_IsValidChain.calls k _ _ l0 false _ ?side1 ?side2 A2.out).mono ?_); (case side1 => repeat (first | exact HR0.out | (with_reducible refine Kd.C_alloc ?_ _) | (with_reducible refine Kd.C_drewN ?_ _) | (with_reducible refine Kd.C_drew ?_))); (case side2 => exact HC0.out); rintro e w5 ⟨rfl, hb⟩; refine ⟨_, rfl, ?_⟩; have n0_ := Aside0.mk (below_step (hq0_ HB.out) hb); clear HB; have HB := n0_; clear n0_; (try clear hb); (try clear hb2); (try clear hk); (try clear hi)))
    go_ret; exact ⟨by first | rfl | (simp [errW_none, errW_some] <;> rfl) | (simp [*, errW_none, errW_some] <;> rfl), hq0_ HB.out⟩

/-! ### impl_IsValidStore: function 57 -/
-- FLAGS ROUNDS
/-- Is there a chain that is not right? -/
def impl_IsValidStore.any (k : Nat) : List (List S27) → Option Bool
  | [] => some false
  | x :: l => (impl_IsValidStore_1.f k x).bind fun b => if b = true then some true else impl_IsValidStore.any k l
def impl_IsValidStore.f (k : Nat) (l0_0 : List (List S27)) : Option Bool := if l0_0.length = 6 then (impl_IsValidStore.any k l0_0).bind (fun t => some (!t)) else some false
theorem impl_IsValidStore.mono_any (k : Nat) : ∀ l, LeO (impl_IsValidStore.any k l) (impl_IsValidStore.any (k + 1) l)
  | [] => LeO.refl _
  | x :: l => by
    unfold impl_IsValidStore.any; exact LeO.bind (impl_IsValidStore_1.mono _ _) (fun _ => LeO.ite (LeO.refl _) (impl_IsValidStore.mono_any k l))
theorem impl_IsValidStore.mono : ∀ a0 k, LeO (impl_IsValidStore.f k a0) (impl_IsValidStore.f (k + 1) a0) := by
  intro a0 k; unfold impl_IsValidStore.f; exact LeO.ite (LeO.bind (impl_IsValidStore.mono_any k a0) (fun _ => LeO.refl _)) (LeO.refl _)
/-- The index that the search gives says whether there is one. -/
def impl_IsValidStore.Post (r : Bool) (w : World) (e : Ending) (w' : World) : Prop := ∃ m : Int, e = .returned (.int .i64 m) ∧ decide (m ≥ 0) = r ∧ Below w.heap.size w w'
set_option maxHeartbeats 2000000 in
set_option maxRecDepth 100000 in
theorem impl_IsValidStore.idx (k : Nat) (A0 : Option Addr) (c0 : Nat) (l0 : List (List S27)) (r : Bool) (w : World) (hr0 : Kd.C (Kd.slice 27 k27) w A0 l0.length l0) (hc0 : l0.length ≤ c0) (h : impl_IsValidStore.any k l0 = some r) :
    Calls Try.prog 109 #[.slice A0 l0.length c0, .func (.func 92) #[] #[]] w (impl_IsValidStore.Post r w) := by
  have hlen := hr0.2.1; have HR0 := Aside0.mk hr0; have HF0 := Aside0.mk h; clear hr0 h
  go_enter Try.func109, Try.ntmps109
  go_wp2
  go_loopg [8] l0.length (fun kq v8 w' => ∃ (i : Nat), v8 = .int .i64 (i : Int) ∧ i ≤ l0.length ∧ Aside0 (impl_IsValidStore.any k (l0.drop i) = some r) ∧ Aside0 (kq + i = l0.length) ∧ Aside0 (Below w.heap.size w w'))
  case atStart => exact ⟨0, rfl, Nat.zero_le _, ⟨by rw [List.drop_zero]; exact HF0.out⟩, ⟨by omega⟩, ⟨Below.refl _ _⟩⟩
  case round =>
    clear HF0; obtain ⟨i, rfl, hi, HF, HK, HB⟩ := hrel
    by_cases hlt : i < l0.length
    · obtain ⟨k1, rfl⟩ : ∃ m, gk = m + 1 := ⟨gk - 1, by have := HK.out; omega⟩; obtain ⟨ad, A1, c1, e_, hx, hl1, hi1⟩ := at_L4 HR0.out (i : Int) (by omega) (by omega)
      cases e_
      replace hx := bl_ HB.out hx; simp only [Int.toNat_natCast] at hx
      have hd : l0.drop i = rd_L4 l0 (i : Int) :: l0.drop (i + 1) := by
        rw [List.drop_eq_getElem_cons hlt]; unfold rd_L4; rw [Int.toNat_natCast, List.getD_eq_getElem?_getD, List.getElem?_eq_getElem hlt]; rfl
      have hf := HF.out; rw [hd] at hf; unfold impl_IsValidStore.any at hf; obtain ⟨b, hb, hf⟩ := Option.bind_eq_some_iff.mp hf; have HBB := Aside0.mk hb; have HI1 := Aside0.mk hi1; have HL1 := Aside0.mk hl1; clear hd hb HF hi1 hl1
      cases b with
      | true =>
        rw [if_pos rfl] at hf; have HF := Aside0.mk (Option.some.inj hf); clear hf
        go_wp2_with (go_at_call 92; (with_reducible refine (impl_IsValidStore_1.calls k _ _ (rd_L4 l0 (i : Int)) true _ ?s1 ?s2 HBB.out).mono ?_); (case s1 => exact Kd.C_below HI1.out HB.out); (case s2 => exact HL1.out); rintro e w1 ⟨rfl, hb1⟩; have HB2 := Aside0.mk (below_step HB.out hb1); clear hb1)
        go_ret; exact ⟨(i : Int), rfl, by rw [← HF.out]; exact decide_eq_true (by omega), HB2.out⟩
      | false =>
        rw [if_neg (by decide)] at hf; have HF := Aside0.mk hf; clear hf
        go_wp2_with (go_at_call 92; (with_reducible refine (impl_IsValidStore_1.calls k _ _ (rd_L4 l0 (i : Int)) false _ ?s1 ?s2 HBB.out).mono ?_); (case s1 => exact Kd.C_below HI1.out HB.out); (case s2 => exact HL1.out); rintro e w1 ⟨rfl, hb1⟩; have HB2 := Aside0.mk (below_step HB.out hb1); clear hb1)
        go_roundg k1
        case measure => have := HK.out; omega
        case rel => exact ⟨i + 1, by go_num, by omega, HF, ⟨by have := HK.out; omega⟩, HB2⟩
    · have hf := HF.out; rw [List.drop_eq_nil_of_le (by omega)] at hf; have HF2 := Aside0.mk (Option.some.inj hf); clear hf
      go_wp2
      go_ret; exact ⟨-1, rfl, by rw [← HF2.out]; decide, HB.out⟩
set_option maxHeartbeats 2000000 in
set_option maxRecDepth 100000 in
theorem impl_IsValidStore.con (k : Nat) (A0 : Option Addr) (c0 : Nat) (l0 : List (List S27)) (r : Bool) (w : World) (hr0 : Kd.C (Kd.slice 27 k27) w A0 l0.length l0) (hc0 : l0.length ≤ c0) (h : impl_IsValidStore.any k l0 = some r) :
    Calls Try.prog 91 #[.slice A0 l0.length c0, .func (.func 92) #[] #[]] w fun e w' => e = .returned (.bool r) ∧ Below w.heap.size w w' := by
  have HR0 := Aside0.mk hr0; have HF0 := Aside0.mk h; clear hr0 h
  go_enter Try.func91, Try.ntmps91
  go_wp2_with (go_at_call 109; (with_reducible refine (impl_IsValidStore.idx k A0 c0 l0 r _ HR0.out hc0 HF0.out).mono ?_); rintro e w1 ⟨m, rfl, hm, hb1⟩; have HM := Aside0.mk hm; have HB2 := Aside0.mk hb1; clear hb1 hm)
  go_ret; exact ⟨by rw [← HM.out]; rfl, HB2.out⟩
set_option maxHeartbeats 2000000 in
set_option maxRecDepth 100000 in
theorem impl_IsValidStore.calls (k : Nat) (A0_0 : Option Addr) (c0_0 : Nat) (l0_0 : List (List S27)) (r : Bool) (w : World) (hr0_0 : Kd.C (Kd.slice 27 k27) w A0_0 l0_0.length l0_0) (hc0_0 : l0_0.length ≤ c0_0) (h : impl_IsValidStore.f k l0_0 = some r) :
    Calls Try.prog 57 #[.agg #[.slice A0_0 l0_0.length c0_0]] w fun e w' => e = .returned (.bool r) ∧ Below w.heap.size w w' := by
  have hu := Try.underlying32; have HR0 := Aside0.mk hr0_0; clear hr0_0; unfold impl_IsValidStore.f at h
  by_cases h6 : l0_0.length = 6
  · rw [if_pos h6] at h; obtain ⟨t, ht, hq⟩ := Option.bind_eq_some_iff.mp h; obtain rfl := Option.some.inj hq; have HT := Aside0.mk ht; (have hg : ((l0_0.length : Int) == 6) = true := by rw [beq_iff_eq]; omega); clear h h6 ht hq
    go_enter Try.func57, Try.ntmps57
    go_wp2_with (go_at_call 91; (with_reducible refine (impl_IsValidStore.con k A0_0 c0_0 l0_0 t _ ?s1 hc0_0 HT.out).mono ?_); (case s1 => exact Kd.C_alloc HR0.out _); rintro e w1 ⟨rfl, hb1⟩; have HB2 := Aside0.mk (below_step (below_alloc (Below.refl _ _) _) hb1); clear hb1)
    go_ret; exact ⟨rfl, HB2.out⟩
  · rw [if_neg h6] at h; obtain rfl := Option.some.inj h; (have hg : ((l0_0.length : Int) == 6) = false := by rw [beq_eq_false_iff_ne]; omega); clear h h6
    go_enter Try.func57, Try.ntmps57
    go_wp2
    go_ret; exact ⟨rfl, below_alloc (Below.refl _ _) _⟩


/-! ### impl_Store_latest: function 59 -/
-- FLAGS PTR
/-- The cells of a version. -/
def CellsV (w : World) (p : Addr) (v : S27) : Prop :=
  w.cell? p = some (.int .i64 v.f0) ∧ w.cell? ⟨p.block, p.off + 1, none⟩ = some (.int .i64 v.f1) ∧ w.cell? ⟨p.block, p.off + 2, none⟩ = some (.int .i64 v.f2) ∧ w.cell? ⟨p.block, p.off + 3, none⟩ = some (.int .i64 v.f3) ∧ w.cell? ⟨p.block, p.off + 4, none⟩ = some (.int .i64 v.f4)
set_option maxHeartbeats 2000000 in
set_option maxRecDepth 100000 in
/-- Where the last version of a key stands. -/
theorem impl_Store_latest.told (A0 : Option Addr) (c0 : Nat) (l0 : List (List S27)) (key i : Int) (w : World) (hr0 : Kd.C (Kd.slice 27 k27) w A0 l0.length l0) (hk0 : 0 ≤ key) (hk1 : key < (l0.length : Int)) (hi : wrap64 (((rd_L4 l0 key).length : Int) - 1) = i) (hi0 : 0 ≤ i) (hi1 : i < ((rd_L4 l0 key).length : Int)) :
    Calls Try.prog 59 #[.agg #[.slice A0 l0.length c0], .int .i64 key] w fun e w' => ∃ p : Addr, e = .returned (.pointer (some p)) ∧ Below w.heap.size w w' ∧ CellsV w p (rd_T27 (rd_L4 l0 key) i) := by
  have hu := Try.underlying32; have hb := below_alloc (Below.refl w.heap.size w) (.cells #[.slice A0 l0.length c0] 32); obtain ⟨ad1, A2, c2, e1, hx, hl2, hC⟩ := at_L4 hr0 key hk0 hk1
  cases e1
  obtain ⟨ad2, e2, hx0, hx1, hx2, hx3, hx4⟩ := at_T27 hC i hi0 hi1
  cases e2
  replace hx := (hb.cell (World.block_lt_of_cell? w _ hx)).trans hx; have HB := Aside0.mk hb; have HC := Aside0.mk (show CellsV w _ (rd_T27 (rd_L4 l0 key) i) from ⟨hx0, hx1, hx2, hx3, hx4⟩); clear hb hx0 hx1 hx2 hx3 hx4 hC hr0; have d1 := decide_eq_true hk0; have d2 := decide_eq_true hk1; have d3 := decide_eq_true hi0; have d4 := decide_eq_true hi1; replace hk0 := eq_true hk0; replace hk1 := eq_true hk1; replace hi0 := eq_true hi0; replace hi1 := eq_true hi1
  go_enter Try.func59, Try.ntmps59
  go_wp2
  go_ret; exact ⟨_, rfl, HB.out, HC.out⟩
/-- The last version of a key, where there is one. -/
def impl_Store_latest.f (l0 : List (List S27)) (key : Int) : Option (Int × Int × Int × Int × Int) :=
  if 0 ≤ key ∧ key < (l0.length : Int) ∧ 0 ≤ wrap64 (((rd_L4 l0 key).length : Int) - 1) ∧ wrap64 (((rd_L4 l0 key).length : Int) - 1) < ((rd_L4 l0 key).length : Int) then
    some ((rd_T27 (rd_L4 l0 key) (wrap64 (((rd_L4 l0 key).length : Int) - 1))).f0, (rd_T27 (rd_L4 l0 key) (wrap64 (((rd_L4 l0 key).length : Int) - 1))).f1, (rd_T27 (rd_L4 l0 key) (wrap64 (((rd_L4 l0 key).length : Int) - 1))).f2, (rd_T27 (rd_L4 l0 key) (wrap64 (((rd_L4 l0 key).length : Int) - 1))).f3, (rd_T27 (rd_L4 l0 key) (wrap64 (((rd_L4 l0 key).length : Int) - 1))).f4)
  else none
theorem impl_Store_latest.calls (A0 : Option Addr) (c0 : Nat) (l0 : List (List S27)) (key : Int) (r1 r2 r3 r4 r5 : Int) (w0 w : World) (hb0 : Below w0.heap.size w0 w) (hr0 : Kd.C (Kd.slice 27 k27) w0 A0 l0.length l0) (hc0 : l0.length ≤ c0) (h : impl_Store_latest.f l0 key = some (r1, r2, r3, r4, r5)) :
    Calls Try.prog 59 #[.agg #[.slice A0 l0.length c0], .int .i64 key] w fun e w' => ∃ p : Addr, e = .returned (.pointer (some p)) ∧ CellsV w' p ⟨r1, r2, r3, r4, r5⟩ ∧ Below w0.heap.size w0 w' ∧ Below w.heap.size w w' := by
  unfold impl_Store_latest.f at h
  by_cases hk : 0 ≤ key ∧ key < (l0.length : Int) ∧ 0 ≤ wrap64 (((rd_L4 l0 key).length : Int) - 1) ∧ wrap64 (((rd_L4 l0 key).length : Int) - 1) < ((rd_L4 l0 key).length : Int)
  · rw [if_pos hk] at h; have h := Option.some.inj h; simp only [Prod.mk.injEq] at h; obtain ⟨rfl, rfl, rfl, rfl, rfl⟩ := h; refine (impl_Store_latest.told A0 c0 l0 key _ w (Kd.C_below hr0 hb0) hk.1 hk.2.1 rfl hk.2.2.1 hk.2.2.2).mono ?_; rintro e w' ⟨p, rfl, hb, q0, q1, q2, q3, q4⟩; exact ⟨p, rfl, ⟨(hb.cell (World.block_lt_of_cell? w _ q0)).trans q0, (hb.cell (World.block_lt_of_cell? w _ q1)).trans q1, (hb.cell (World.block_lt_of_cell? w _ q2)).trans q2, (hb.cell (World.block_lt_of_cell? w _ q3)).trans q3, (hb.cell (World.block_lt_of_cell? w _ q4)).trans q4⟩, below_step hb0 hb, hb⟩
  · rw [if_neg hk] at h
    cases h


/-! ### impl_Store_refreshLow: function 84 -/
mutual
def impl_Store_refreshLow.l0 : Nat → Int → List (S84) → Int → Int → List (List (S27)) → Int → Int → Int → Int → Int → Int → Int → List (S84) → List (S87) → Option (Int)
  | 0, _, _, _, _, _, _, _, _, _, _, _, _, _, _ => none
  | k + 1, x5, x11, x12, x13, x293000, x294000, x294001, x294002, x294003, x294004, x294005, x294006, x294007, x294008 => if x13 < x12 then (if 0 ≤ x13 then (if x13 < (x11.length : Int) then (impl_Store_refreshLow.l0 k (mx x5 ((rd_T84 x11 x13).f1)) x11 x12 (wrap64 (x13 + 1)) x293000 x294000 x294001 x294002 x294003 x294004 x294005 x294006 x294007 x294008) else (none)) else (none)) else (impl_Store_refreshLow.l1 k x5 x294008 (x294008.length : Int) 0 x293000)
def impl_Store_refreshLow.l1 : Nat → Int → List (S87) → Int → Int → List (List (S27)) → Option (Int)
  | 0, _, _, _, _, _ => none
  | k + 1, x5, x23, x24, x25, x293000 => if x25 < x24 then (if 0 ≤ x25 then (if x25 < (x23.length : Int) then ((impl_Store_latest.f x293000 ((rd_T87 x23 x25).f0)).bind fun bt298 => (impl_Store_refreshLow.l1 k (mx x5 bt298.2.2.2.1) x23 x24 (wrap64 (x25 + 1)) x293000)) else (none)) else (none)) else (some x5)
end
def impl_Store_refreshLow.f (k : Nat) (l0_0 : List (List (S27))) (a1_0 : Int) (a1_1 : Int) (a1_2 : Int) (a1_3 : Int) (a1_4 : Int) (a1_5 : Int) (a1_6 : Int) (l1_7 : List (S84)) (l1_8 : List (S87)) : Option (Int) := impl_Store_refreshLow.l0 k 0 l1_7 (l1_7.length : Int) 0 l0_0 a1_0 a1_1 a1_2 a1_3 a1_4 a1_5 a1_6 l1_7 l1_8
theorem impl_Store_refreshLow.mono_l : ∀ k, (∀ y0 y1 y2 y3 y4 y5 y6 y7 y8 y9 y10 y11 y12 y13, LeO (impl_Store_refreshLow.l0 k y0 y1 y2 y3 y4 y5 y6 y7 y8 y9 y10 y11 y12 y13) (impl_Store_refreshLow.l0 (k + 1) y0 y1 y2 y3 y4 y5 y6 y7 y8 y9 y10 y11 y12 y13)) ∧ (∀ y0 y1 y2 y3 y4, LeO (impl_Store_refreshLow.l1 k y0 y1 y2 y3 y4) (impl_Store_refreshLow.l1 (k + 1) y0 y1 y2 y3 y4))
  | 0 => ⟨fun _ _ _ _ _ _ _ _ _ _ _ _ _ _ r h => by simp [impl_Store_refreshLow.l0] at h, fun _ _ _ _ _ r h => by simp [impl_Store_refreshLow.l1] at h⟩
  | k + 1 => by
    obtain ⟨ih0, ih1⟩ := impl_Store_refreshLow.mono_l k; refine ⟨?_, ?_⟩
    · intro y0 y1 y2 y3 y4 y5 y6 y7 y8 y9 y10 y11 y12 y13; unfold impl_Store_refreshLow.l0
      repeat' first
      | (with_reducible exact ih0 _ _ _ _ _ _ _ _ _ _ _ _ _ _)
      | (with_reducible exact ih1 _ _ _ _ _)
      | (with_reducible exact LeO.refl _)
      | (with_reducible exact LeO.none _)
      | (with_reducible refine LeO.ite ?_ ?_)
      | (with_reducible refine LeO.bind ?_ (fun _ => ?_))
      | exact ih0 _ _ _ _ _ _ _ _ _ _ _ _ _ _
      | exact ih1 _ _ _ _ _
      | exact LeO.none _
      | refine LeO.ite ?_ ?_
      | refine LeO.bind ?_ (fun _ => ?_)
    · intro y0 y1 y2 y3 y4; unfold impl_Store_refreshLow.l1
      repeat' first
      | (with_reducible exact ih0 _ _ _ _ _ _ _ _ _ _ _ _ _ _)
      | (with_reducible exact ih1 _ _ _ _ _)
      | (with_reducible exact LeO.refl _)
      | (with_reducible exact LeO.none _)
      | (with_reducible refine LeO.ite ?_ ?_)
      | (with_reducible refine LeO.bind ?_ (fun _ => ?_))
      | exact ih0 _ _ _ _ _ _ _ _ _ _ _ _ _ _
      | exact ih1 _ _ _ _ _
      | exact LeO.none _
      | refine LeO.ite ?_ ?_
      | refine LeO.bind ?_ (fun _ => ?_)
theorem impl_Store_refreshLow.mono : ∀ a0 a1 a2 a3 a4 a5 a6 a7 a8 a9 k, LeO (impl_Store_refreshLow.f k a0 a1 a2 a3 a4 a5 a6 a7 a8 a9) (impl_Store_refreshLow.f (k + 1) a0 a1 a2 a3 a4 a5 a6 a7 a8 a9) := by
  intro a0 a1 a2 a3 a4 a5 a6 a7 a8 a9 k; obtain ⟨ih0, ih1⟩ := impl_Store_refreshLow.mono_l k; unfold impl_Store_refreshLow.f
  repeat' first
      | (with_reducible exact ih0 _ _ _ _ _ _ _ _ _ _ _ _ _ _)
      | (with_reducible exact ih1 _ _ _ _ _)
      | (with_reducible exact LeO.refl _)
      | (with_reducible exact LeO.none _)
      | (with_reducible refine LeO.ite ?_ ?_)
      | (with_reducible refine LeO.bind ?_ (fun _ => ?_))
      | exact ih0 _ _ _ _ _ _ _ _ _ _ _ _ _ _
      | exact ih1 _ _ _ _ _
      | exact LeO.none _
      | refine LeO.ite ?_ ?_
      | refine LeO.bind ?_ (fun _ => ?_)
set_option maxHeartbeats 8000000 in
set_option maxRecDepth 100000 in
theorem impl_Store_refreshLow.calls (k : Nat) (A0_0 : Option Addr) (c0_0 : Nat) (l0_0 : List (List (S27))) (a1_0 : Int) (a1_1 : Int) (a1_2 : Int) (a1_3 : Int) (a1_4 : Int) (a1_5 : Int) (a1_6 : Int) (A1_7 : Option Addr) (c1_7 : Nat) (l1_7 : List (S84)) (A1_8 : Option Addr) (c1_8 : Nat) (l1_8 : List (S87)) (r : Int) (w : World) (hr0_0 : Kd.C (Kd.slice 27 k27) w A0_0 l0_0.length l0_0) (hc0_0 : l0_0.length ≤ c0_0) (hr1_7 : Kd.C k84 w A1_7 l1_7.length l1_7) (hc1_7 : l1_7.length ≤ c1_7) (hr1_8 : Kd.C k87 w A1_8 l1_8.length l1_8) (hc1_8 : l1_8.length ≤ c1_8) (h : impl_Store_refreshLow.f k l0_0 a1_0 a1_1 a1_2 a1_3 a1_4 a1_5 a1_6 l1_7 l1_8 = some r) :
    Calls Try.prog 84 #[.agg #[.slice A0_0 l0_0.length c0_0], .agg #[.int .i64 a1_0, .int .i64 a1_1, .int .i64 a1_2, .int .i64 a1_3, .int .i64 a1_4, .int .i64 a1_5, .int .i64 a1_6, .slice A1_7 l1_7.length c1_7, .slice A1_8 l1_8.length c1_8]] w fun e w' => e = .returned (.int .i64 r) ∧ Below w.heap.size w w' := by
  have hu32 := Try.underlying32; have hu50 := Try.underlying50; have hu84 := Try.underlying84; have hu87 := Try.underlying87; have HR0_0 := Aside0.mk hr0_0; have HC0_0 := Aside0.mk hc0_0; clear hr0_0 hc0_0; have HR1_7 := Aside0.mk hr1_7; have HC1_7 := Aside0.mk hc1_7; clear hr1_7 hc1_7; have HR1_8 := Aside0.mk hr1_8; have HC1_8 := Aside0.mk hc1_8; clear hr1_8 hc1_8; have HB := Aside0.mk (Below.refl w.heap.size w); have H : (impl_Store_refreshLow.l0 k 0 l1_7 (l1_7.length : Int) 0 l0_0 a1_0 a1_1 a1_2 a1_3 a1_4 a1_5 a1_6 l1_7 l1_8) = some r := h; clear h; have H' := Aside0.mk H; clear H
  go_enter Try.func84, Try.ntmps84
  go_wp2_with (first | ((with_reducible refine gate_dst (N := 2) rfl ?_); refine box_event ?hg (N := 2) ?hd (cs := #[.slice A0_0 l0_0.length c0_0]) (t := 32) ?hr ?_; (case hd => rfl); (case hg => rfl); (case hr => first | (go_simp; done) | (go_simp; rfl)); intro gb292 hg w3 hbox hb; have n0_ := Aside0.mk (below_step (hq0_ HB.out) hb); have n1_ := Aside0.mk (hbox); have n2_ := Aside0.mk ((ws_ hg (hq0_ HB.out) : w.heap.size ≤ gb292)); have n3_ := n2_; clear HB; have HB := n0_; have BK292 := n1_; have GW292 := n2_; have GE292 := n3_; clear n0_ n1_ n2_ n3_; clear hb hbox hg) | ((with_reducible refine gate_dst (N := 3) rfl ?_); refine box_event ?hg (N := 3) ?hd (cs := #[.int .i64 a1_0, .int .i64 a1_1, .int .i64 a1_2, .int .i64 a1_3, .int .i64 a1_4, .int .i64 a1_5, .int .i64 a1_6, .slice A1_7 l1_7.length c1_7, .slice A1_8 l1_8.length c1_8]) (t := 50) ?hr ?_; (case hd => rfl); (case hg => rfl); (case hr => first | (go_simp; done) | (go_simp; rfl)); intro gb293 hg w4 hbox hb; have n0_ := Aside0.mk (blk_below (bq_ BK292.out) hb); have n1_ := Aside0.mk (below_step (hq1_ HB.out GE292.out) hb); have n2_ := Aside0.mk (hbox); have n3_ := Aside0.mk ((ws_ hg (hq1_ HB.out GE292.out) : w.heap.size ≤ gb293)); have n4_ := n3_; have n5_ := Aside0.mk ((by rw [hg]; exact Nat.ne_of_lt (blk_lt (bq_ BK292.out)) : gb292 ≠ gb293)); have n6_ := Aside0.mk (Ne.symm n5_.out); clear BK292; clear HB; have BK292 := n0_; have HB := n1_; have BK293 := n2_; have GW293 := n3_; have GE293 := n4_; have NB292_293 := n5_; have NB293_292 := n6_; clear n0_ n1_ n2_ n3_ n4_ n5_ n6_; clear hb hbox hg; have hnb5 := NB293_292.out; have hnc5 := NB292_293.out; obtain ⟨hcz6_0, hcz6_1, hcz6_2, hcz6_3, hcz6_4, hcz6_5, hcz6_6, hcz6_7, hcz6_8⟩ := bc9_ BK293.out; obtain ⟨hfz6_0, hfz6_1, hfz6_2, hfz6_3, hfz6_4, hfz6_5, hfz6_6, hfz6_7, hfz6_8⟩ := bf9_ BK293.out))
  go_loopg [5, 13] k (fun kq v5 v13 w' => ∃ (x5_1 : Int) (x13_1 : Int), v5 = .int .i64 x5_1 ∧ v13 = .int .i64 x13_1 ∧ Aside0 (impl_Store_refreshLow.l0 kq x5_1 l1_7 (l1_7.length : Int) x13_1 l0_0 a1_0 a1_1 a1_2 a1_3 a1_4 a1_5 a1_6 l1_7 l1_8 = some r) ∧ Aside0 (kq ≤ k) ∧ Aside0 (w'.heap[gb292]? = some (.cells #[(.slice A0_0 l0_0.length c0_0)] 32 (0, 0))) ∧ Aside0 (w'.heap[gb293]? = some (.cells #[.int .i64 a1_0, .int .i64 a1_1, .int .i64 a1_2, .int .i64 a1_3, .int .i64 a1_4, .int .i64 a1_5, .int .i64 a1_6, (.slice A1_7 l1_7.length c1_7), (.slice A1_8 l1_8.length c1_8)] 50 (0, 0))) ∧ Aside0 (Below w.heap.size w w'))
  case atStart => exact ⟨(0), (0), (by first | rfl | (simp; done) | (simp [*]; done)), (by first | rfl | (simp; done) | (simp [*]; done)), H', ⟨Nat.le_refl _⟩, ⟨bq_ BK292.out⟩, ⟨bq_ BK293.out⟩, ⟨hq2_ HB.out GE292.out GE293.out⟩⟩
  case round =>
    clear H'; (try clear c1); (try clear p2); (try clear c5); (try clear hcz6_0); (try clear hcz6_1); (try clear hcz6_2); (try clear hcz6_3); (try clear hcz6_4); (try clear hcz6_5); (try clear hcz6_6); (try clear hcz6_7); (try clear hcz6_8); (try clear hfz6_0); (try clear hfz6_1); (try clear hfz6_2); (try clear hfz6_3); (try clear hfz6_4); (try clear hfz6_5); (try clear hfz6_6); (try clear hfz6_7); (try clear hfz6_8); obtain ⟨x5_1, x13_1, rfl, rfl, HA, HK1, BK292, BK293, HB⟩ := hrel
    cases gk with
    | zero => exact absurd HA.out (by simp [impl_Store_refreshLow.l0])
    | succ k1 =>
      have H := HA.out; clear HA; simp only [impl_Store_refreshLow.l0] at H
      by_cases c7 : x13_1 < (l1_7.length : Int)
      · rw [if_pos c7] at H; have c7b0 : decide (x13_1 < (l1_7.length : Int)) = true := decide_eq_true c7; clear c7
        by_cases c8 : 0 ≤ x13_1
        · rw [if_pos c8] at H; have c8b0 : decide (0 ≤ x13_1) = true := decide_eq_true c8; clear c8
          by_cases c9 : x13_1 < (l1_7.length : Int)
          · rw [if_pos c9] at H; have c9b0 : decide (x13_1 < (l1_7.length : Int)) = true := decide_eq_true c9; clear c9; obtain ⟨ji10, hji10⟩ : ∃ j_ : Int, (mx x5_1 ((rd_T84 l1_7 x13_1).f1)) = j_ := ⟨_, rfl⟩; (replace H : (impl_Store_refreshLow.l0 k1 ji10 l1_7 (l1_7.length : Int) (wrap64 (x13_1 + 1)) l0_0 a1_0 a1_1 a1_2 a1_3 a1_4 a1_5 a1_6 l1_7 l1_8) = some r := by first | (rw [hji10] at H; exact H) | (simp only [hji10] at H ⊢; exact H)); have hji10_ : (if x5_1 < ((rd_T84 l1_7 x13_1).f1) then ((rd_T84 l1_7 x13_1).f1) else x5_1) = ji10 := hji10; have H' := Aside0.mk H; clear H; have p294 : 0 ≤ (x13_1 : Int) := of_decide_eq_true as_; have q294 : x13_1 < (l1_7.length : Int) := of_decide_eq_true as_; obtain ⟨ad294, e294, hx294_0, hx294_1⟩ := at_T84 HR1_7.out x13_1 p294 q294
            cases e294
            replace hx294_0 := bl_ HB.out hx294_0; replace hx294_1 := bl_ HB.out hx294_1; replace p294 := eq_true p294; replace q294 := eq_true q294
            go_wp2_with (first | ((with_reducible refine gate_dst (N := 7) rfl ?_); refine box_event ?hg (N := 7) ?hd (cs := #[.int .i64 0, .int .i64 0]) (t := 84) ?hr ?_; (case hd => rfl); (case hg => rfl); (case hr => first | (go_simp; done) | (go_simp; rfl)); intro gb295 hg w11 hbox hb; have n0_ := Aside0.mk (blk_below (bq_ BK292.out) hb); have n1_ := Aside0.mk (blk_below (bq_ BK293.out) hb); have n2_ := Aside0.mk (below_step (hq2_ HB.out GE292.out GE293.out) hb); have n3_ := Aside0.mk (hbox); have n4_ := Aside0.mk ((ws_ hg (hq2_ HB.out GE292.out GE293.out) : w.heap.size ≤ gb295)); have n5_ := n4_; have n6_ := Aside0.mk ((by rw [hg]; exact Nat.ne_of_lt (blk_lt (bq_ BK292.out)) : gb292 ≠ gb295)); have n7_ := Aside0.mk (Ne.symm n6_.out); have n8_ := Aside0.mk ((by rw [hg]; exact Nat.ne_of_lt (blk_lt (bq_ BK293.out)) : gb293 ≠ gb295)); have n9_ := Aside0.mk (Ne.symm n8_.out); clear BK292; clear BK293; clear HB; have BK292 := n0_; have BK293 := n1_; have HB := n2_; have BK295 := n3_; have GW295 := n4_; have GE295 := n5_; have NB292_295 := n6_; have NB295_292 := n7_; have NB293_295 := n8_; have NB295_293 := n9_; clear n0_ n1_ n2_ n3_ n4_ n5_ n6_ n7_ n8_ n9_; clear hb hbox hg; have hnb12 := NB295_292.out; have hnc12 := NB292_295.out; have hnb13 := NB295_293.out; have hnc13 := NB293_295.out; obtain ⟨hcz14_0, hcz14_1⟩ := bc2_ BK295.out; obtain ⟨hfz14_0, hfz14_1⟩ := bf2_ BK295.out))
            go_roundg k1
            case measure => have := HK1.out; omega
            case rel => exact ⟨(ji10), (wrap64 (x13_1 + 1)), (by first | rfl | (simp; done) | (simp only [← hji10] <;> (first | rfl | simp)) | (simp [*]; done)), (by first | rfl | (simp; done) | (simp [*]; done)), H', ⟨by have := HK1.out; omega⟩, ⟨by (with_reducible repeat (first | refine blk_drewN ?_ _ | refine blk_drew ?_ | refine blk_alloc ?_ _)); refine blk_far ?_ NB292_295.out _; (with_reducible repeat (first | refine blk_drewN ?_ _ | refine blk_drew ?_ | refine blk_alloc ?_ _)); refine blk_far ?_ NB292_295.out _; (with_reducible repeat (first | refine blk_drewN ?_ _ | refine blk_drew ?_ | refine blk_alloc ?_ _)); exact BK292.out⟩, ⟨by (with_reducible repeat (first | refine blk_drewN ?_ _ | refine blk_drew ?_ | refine blk_alloc ?_ _)); refine blk_far ?_ NB293_295.out _; (with_reducible repeat (first | refine blk_drewN ?_ _ | refine blk_drew ?_ | refine blk_alloc ?_ _)); refine blk_far ?_ NB293_295.out _; (with_reducible repeat (first | refine blk_drewN ?_ _ | refine blk_drew ?_ | refine blk_alloc ?_ _)); exact BK293.out⟩, ⟨hq3_ HB.out GE292.out GE293.out GE295.out⟩⟩
          · rw [if_neg c9] at H; exact absurd H (by simp)
        · rw [if_neg c8] at H; exact absurd H (by simp)
      · rw [if_neg c7] at H; have c7b0 : decide (x13_1 < (l1_7.length : Int)) = false := decide_eq_false c7; clear c7; have H' := Aside0.mk H; clear H; have hnb15 := NB293_292.out; have hnc15 := NB292_293.out; obtain ⟨hcz16_0, hcz16_1, hcz16_2, hcz16_3, hcz16_4, hcz16_5, hcz16_6, hcz16_7, hcz16_8⟩ := bc9_ BK293.out; obtain ⟨hfz16_0, hfz16_1, hfz16_2, hfz16_3, hfz16_4, hfz16_5, hfz16_6, hfz16_7, hfz16_8⟩ := bf9_ BK293.out
        go_wp2
        go_loopg [5, 25] k1 (fun kq v5 v25 w' => ∃ (x5_2 : Int) (x25_2 : Int), v5 = .int .i64 x5_2 ∧ v25 = .int .i64 x25_2 ∧ Aside0 (impl_Store_refreshLow.l1 kq x5_2 l1_8 (l1_8.length : Int) x25_2 l0_0 = some r) ∧ Aside0 (kq ≤ k1) ∧ Aside0 (w'.heap[gb292]? = some (.cells #[(.slice A0_0 l0_0.length c0_0)] 32 (0, 0))) ∧ Aside0 (w'.heap[gb293]? = some (.cells #[.int .i64 a1_0, .int .i64 a1_1, .int .i64 a1_2, .int .i64 a1_3, .int .i64 a1_4, .int .i64 a1_5, .int .i64 a1_6, (.slice A1_7 l1_7.length c1_7), (.slice A1_8 l1_8.length c1_8)] 50 (0, 0))) ∧ Aside0 (Below w.heap.size w w'))
        case atStart => exact ⟨(x5_1), (0), (by first | rfl | (simp; done) | (simp [*]; done)), (by first | rfl | (simp; done) | (simp [*]; done)), H', ⟨Nat.le_refl _⟩, ⟨bq_ BK292.out⟩, ⟨bq_ BK293.out⟩, ⟨hq2_ HB.out GE292.out GE293.out⟩⟩
        case round =>
          clear H'; (try clear c1); (try clear p2); (try clear q2); (try clear hx2); (try clear c5); (try clear p6); (try clear c7); (try clear c7b0); (try clear c8); (try clear c8b0); (try clear c9); (try clear c9b0); (try clear c12); (try clear c13); (try clear c15); (try clear hcz14_0); (try clear hcz14_1); (try clear hcz16_0); (try clear hcz16_1); (try clear hcz16_2); (try clear hcz16_3); (try clear hcz16_4); (try clear hcz16_5); (try clear hcz16_6); (try clear hcz16_7); (try clear hcz16_8); (try clear hcz6_0); (try clear hcz6_1); (try clear hcz6_2); (try clear hcz6_3); (try clear hcz6_4); (try clear hcz6_5); (try clear hcz6_6); (try clear hcz6_7); (try clear hcz6_8); (try clear hfz14_0); (try clear hfz14_1); (try clear hfz16_0); (try clear hfz16_1); (try clear hfz16_2); (try clear hfz16_3); (try clear hfz16_4); (try clear hfz16_5); (try clear hfz16_6); (try clear hfz16_7); (try clear hfz16_8); (try clear hfz6_0); (try clear hfz6_1); (try clear hfz6_2); (try clear hfz6_3); (try clear hfz6_4); (try clear hfz6_5); (try clear hfz6_6); (try clear hfz6_7); (try clear hfz6_8); (try clear hx294_0); (try clear hx294_1); (try clear p2); (try clear p294); (try clear q294); obtain ⟨x5_2, x25_2, rfl, rfl, HA, HK2, BK292, BK293, HB⟩ := hrel
          cases gk with
          | zero => exact absurd HA.out (by simp [impl_Store_refreshLow.l1])
          | succ k2 =>
            have H := HA.out; clear HA; simp only [impl_Store_refreshLow.l1] at H
            by_cases c17 : x25_2 < (l1_8.length : Int)
            · rw [if_pos c17] at H; have c17b0 : decide (x25_2 < (l1_8.length : Int)) = true := decide_eq_true c17; clear c17
              by_cases c18 : 0 ≤ x25_2
              · rw [if_pos c18] at H; have c18b0 : decide (0 ≤ x25_2) = true := decide_eq_true c18; clear c18
                by_cases c19 : x25_2 < (l1_8.length : Int)
                · rw [if_pos c19] at H; have c19b0 : decide (x25_2 < (l1_8.length : Int)) = true := decide_eq_true c19; clear c19; replace H := Option.bind_eq_some_iff.mp H; obtain ⟨⟨t298, t299, t300, t301, t302⟩, A200, H⟩ := H; replace H : (impl_Store_refreshLow.l1 k2 (mx x5_2 t301) l1_8 (l1_8.length : Int) (wrap64 (x25_2 + 1)) l0_0) = some r := H; have A20 := Aside0.mk A200; clear A200; obtain ⟨ji21, hji21⟩ : ∃ j_ : Int, (mx x5_2 t301) = j_ := ⟨_, rfl⟩; (replace H : (impl_Store_refreshLow.l1 k2 ji21 l1_8 (l1_8.length : Int) (wrap64 (x25_2 + 1)) l0_0) = some r := by first | (rw [hji21] at H; exact H) | (simp only [hji21] at H ⊢; exact H)); (try rw [hji21] at A20); have hji21_ : (if x5_2 < t301 then t301 else x5_2) = ji21 := hji21; have H' := Aside0.mk H; clear H; have p296 : 0 ≤ (x25_2 : Int) := of_decide_eq_true as_; have q296 : x25_2 < (l1_8.length : Int) := of_decide_eq_true as_; obtain ⟨ad296, e296, hx296_0, hx296_1⟩ := at_T87 HR1_8.out x25_2 p296 q296
                  cases e296
                  replace hx296_0 := bl_ HB.out hx296_0; replace hx296_1 := bl_ HB.out hx296_1; replace p296 := eq_true p296; replace q296 := eq_true q296
                  go_wp2_with (first | ((with_reducible refine gate_dst (N := 9) rfl ?_); refine box_event ?hg (N := 9) ?hd (cs := #[.int .i64 0, .int .i64 0]) (t := 87) ?hr ?_; (case hd => rfl); (case hg => rfl); (case hr => first | (go_simp; done) | (go_simp; rfl)); intro gb297 hg w22 hbox hb; have n0_ := Aside0.mk (blk_below (bq_ BK292.out) hb); have n1_ := Aside0.mk (blk_below (bq_ BK293.out) hb); have n2_ := Aside0.mk (below_step (hq2_ HB.out GE292.out GE293.out) hb); have n3_ := Aside0.mk (hbox); have n4_ := Aside0.mk ((ws_ hg (hq2_ HB.out GE292.out GE293.out) : w.heap.size ≤ gb297)); have n5_ := n4_; have n6_ := Aside0.mk ((by rw [hg]; exact Nat.ne_of_lt (blk_lt (bq_ BK292.out)) : gb292 ≠ gb297)); have n7_ := Aside0.mk (Ne.symm n6_.out); have n8_ := Aside0.mk ((by rw [hg]; exact Nat.ne_of_lt (blk_lt (bq_ BK293.out)) : gb293 ≠ gb297)); have n9_ := Aside0.mk (Ne.symm n8_.out); clear BK292; clear BK293; clear HB; have BK292 := n0_; have BK293 := n1_; have HB := n2_; have BK297 := n3_; have GW297 := n4_; have GE297 := n5_; have NB292_297 := n6_; have NB297_292 := n7_; have NB293_297 := n8_; have NB297_293 := n9_; clear n0_ n1_ n2_ n3_ n4_ n5_ n6_ n7_ n8_ n9_; clear hb hbox hg; have hnb23 := NB297_292.out; have hnc23 := NB292_297.out; have hnb24 := NB297_293.out; have hnc24 := NB293_297.out; obtain ⟨hcz25_0, hcz25_1⟩ := bc2_ BK297.out; obtain ⟨hfz25_0, hfz25_1⟩ := bf2_ BK297.out; have hnb26 := NB292_293.out; have hnc26 := NB293_292.out; have hcz27_0 := bc1_ BK292.out; have hfz27_0 := blk_frozen BK292.out 0) | ((with_reducible refine gate_callee (f := 59) rfl ?_); refine goesL_ (some 33) rfl rfl Try.func59 (by kernel_rfl) rfl #[.agg #[.slice A0_0 l0_0.length c0_0], .int .i64 ((rd_T87 l1_8 x25_2).f0)] rfl mp_ ?_; (with_reducible refine (impl_Store_latest.calls _ _ l0_0 ((rd_T87 l1_8 x25_2).f0) t298 t299 t300 t301 t302 w _ ?side1 ?side2 ?side3 A20.out).mono ?_); (case side1 => repeat (first | (with_reducible first | exact HB.out | apply below_alloc | apply pw_below_drewN | apply below_drew1 | refine below_set ?_ GE292.out | refine below_set ?_ GE293.out | refine below_set ?_ GE297.out) | exact HB.out)); (case side2 => exact HR0_0.out); (case side3 => exact HC0_0.out); rintro e w28 ⟨g303, rfl, hi, hb, hb2⟩; refine ⟨_, rfl, ?_⟩; have n0_ := Aside0.mk (blk_below (g := gb292) (o := .cells #[.slice A0_0 l0_0.length c0_0] 32 (0, 0)) (by (with_reducible repeat (first | refine blk_drewN ?_ _ | refine blk_drew ?_ | refine blk_alloc ?_ _)); refine blk_far ?_ NB292_297.out _; (with_reducible repeat (first | refine blk_drewN ?_ _ | refine blk_drew ?_ | refine blk_alloc ?_ _)); refine blk_far ?_ NB292_297.out _; (with_reducible repeat (first | refine blk_drewN ?_ _ | refine blk_drew ?_ | refine blk_alloc ?_ _)); exact BK292.out) hb2); have n1_ := Aside0.mk (blk_below (g := gb293) (o := .cells #[.int .i64 a1_0, .int .i64 a1_1, .int .i64 a1_2, .int .i64 a1_3, .int .i64 a1_4, .int .i64 a1_5, .int .i64 a1_6, .slice A1_7 l1_7.length c1_7, .slice (some ad296) l1_8.length c1_8] 50 (0, 0)) (by (with_reducible repeat (first | refine blk_drewN ?_ _ | refine blk_drew ?_ | refine blk_alloc ?_ _)); refine blk_far ?_ NB293_297.out _; (with_reducible repeat (first | refine blk_drewN ?_ _ | refine blk_drew ?_ | refine blk_alloc ?_ _)); refine blk_far ?_ NB293_297.out _; (with_reducible repeat (first | refine blk_drewN ?_ _ | refine blk_drew ?_ | refine blk_alloc ?_ _)); exact BK293.out) hb2); have n2_ := Aside0.mk (blk_below (g := gb297) (o := .cells #[.int .i64 ((rd_T87 l1_8 x25_2).f0), .int .i64 ((rd_T87 l1_8 x25_2).f1)] 87 (0, 0)) (by (with_reducible repeat (first | refine blk_drewN ?_ _ | refine blk_drew ?_ | refine blk_alloc ?_ _)); refine blk_put (cs := #[.int .i64 ((rd_T87 l1_8 x25_2).f0), .int .i64 0]) ?_ 1 _ rfl; (with_reducible repeat (first | refine blk_drewN ?_ _ | refine blk_drew ?_ | refine blk_alloc ?_ _)); refine blk_put (cs := #[.int .i64 0, .int .i64 0]) ?_ 0 _ rfl; (with_reducible repeat (first | refine blk_drewN ?_ _ | refine blk_drew ?_ | refine blk_alloc ?_ _)); exact BK297.out) hb2); have n3_ := Aside0.mk (hb); have n4_ := Aside0.mk (hi); have n5_ := Aside0.mk True.intro; have n6_ := Aside0.mk True.intro; have n7_ := Aside0.mk True.intro; have n8_ := Aside0.mk True.intro; have n9_ := Aside0.mk True.intro; have n10_ := Aside0.mk True.intro; clear BK292; clear BK293; clear BK297; clear HB; have BK292 := n0_; have BK293 := n1_; have BK297 := n2_; have HB := n3_; have HI303 := n4_; have NB303_292 := n5_; have NB292_303 := n6_; have NB303_293 := n7_; have NB293_303 := n8_; have NB303_297 := n9_; have NB297_303 := n10_; clear n0_ n1_ n2_ n3_ n4_ n5_ n6_ n7_ n8_ n9_ n10_; (try clear hb); (try clear hb2); (try clear hk); (try clear hi); obtain ⟨hcz29_0, hcz29_1, hcz29_2, hcz29_3, hcz29_4⟩ := HI303.out))
                  go_roundg k2
                  case measure => have := HK1.out; have := HK2.out; omega
                  case rel => exact ⟨(ji21), (wrap64 (x25_2 + 1)), (by first | rfl | (simp; done) | (simp only [← hji21] <;> (first | rfl | simp)) | (simp [*]; done)), (by first | rfl | (simp; done) | (simp [*]; done)), H', ⟨by have := HK1.out; have := HK2.out; omega⟩, ⟨bq_ BK292.out⟩, ⟨bq_ BK293.out⟩, ⟨hq3_ HB.out GE292.out GE293.out GE297.out⟩⟩
                · rw [if_neg c19] at H; exact absurd H (by simp)
              · rw [if_neg c18] at H; exact absurd H (by simp)
            · rw [if_neg c17] at H; have c17b0 : decide (x25_2 < (l1_8.length : Int)) = false := decide_eq_false c17; clear c17; obtain rfl := Option.some.inj H
              go_wp2
              go_ret; exact ⟨by first | rfl | (simp [errW_none, errW_some] <;> rfl) | (simp [*, errW_none, errW_some] <;> rfl), hq2_ HB.out GE292.out GE293.out⟩

/-! ### impl_RefreshLow: function 49 -/
def impl_RefreshLow.f (k : Nat) (l0_0 : List (List (S27))) (a1_0 : Int) (a1_1 : Int) (a1_2 : Int) (a1_3 : Int) (a1_4 : Int) (a1_5 : Int) (a1_6 : Int) (l1_7 : List (S84)) (l1_8 : List (S87)) : Option (Int) := (impl_IsValidStore.f k l0_0).bind fun t306 => (if t306 = true then ((impl_IsValidTransaction.f k a1_0 a1_1 a1_2 a1_3 a1_4 a1_5 a1_6 l1_7 l1_8).bind fun t307 => (if t307 = true then ((impl_Store_refreshLow.f k l0_0 a1_0 a1_1 a1_2 a1_3 a1_4 a1_5 a1_6 l1_7 l1_8).bind fun t308 => (some t308)) else (some 0))) else (some 0))
theorem impl_RefreshLow.mono : ∀ a0 a1 a2 a3 a4 a5 a6 a7 a8 a9 k, LeO (impl_RefreshLow.f k a0 a1 a2 a3 a4 a5 a6 a7 a8 a9) (impl_RefreshLow.f (k + 1) a0 a1 a2 a3 a4 a5 a6 a7 a8 a9) := by
  intro a0 a1 a2 a3 a4 a5 a6 a7 a8 a9 k; unfold impl_RefreshLow.f
  repeat' first
      | (with_reducible exact impl_IsValidStore.mono _ _)
      | (with_reducible exact impl_IsValidTransaction.mono _ _ _ _ _ _ _ _ _ _)
      | (with_reducible exact impl_Store_refreshLow.mono _ _ _ _ _ _ _ _ _ _ _)
      | (with_reducible exact LeO.refl _)
      | (with_reducible exact LeO.none _)
      | (with_reducible refine LeO.ite ?_ ?_)
      | (with_reducible refine LeO.bind ?_ (fun _ => ?_))
      | exact impl_IsValidStore.mono _ _
      | exact impl_IsValidTransaction.mono _ _ _ _ _ _ _ _ _ _
      | exact impl_Store_refreshLow.mono _ _ _ _ _ _ _ _ _ _ _
      | exact LeO.none _
      | refine LeO.ite ?_ ?_
      | refine LeO.bind ?_ (fun _ => ?_)
set_option maxHeartbeats 8000000 in
set_option maxRecDepth 100000 in
theorem impl_RefreshLow.calls (k : Nat) (A0_0 : Option Addr) (c0_0 : Nat) (l0_0 : List (List (S27))) (a1_0 : Int) (a1_1 : Int) (a1_2 : Int) (a1_3 : Int) (a1_4 : Int) (a1_5 : Int) (a1_6 : Int) (A1_7 : Option Addr) (c1_7 : Nat) (l1_7 : List (S84)) (A1_8 : Option Addr) (c1_8 : Nat) (l1_8 : List (S87)) (r : Int) (w : World) (hr0_0 : Kd.C (Kd.slice 27 k27) w A0_0 l0_0.length l0_0) (hc0_0 : l0_0.length ≤ c0_0) (hr1_7 : Kd.C k84 w A1_7 l1_7.length l1_7) (hc1_7 : l1_7.length ≤ c1_7) (hr1_8 : Kd.C k87 w A1_8 l1_8.length l1_8) (hc1_8 : l1_8.length ≤ c1_8) (h : impl_RefreshLow.f k l0_0 a1_0 a1_1 a1_2 a1_3 a1_4 a1_5 a1_6 l1_7 l1_8 = some r) :
    Calls Try.prog 49 #[.agg #[.slice A0_0 l0_0.length c0_0], .agg #[.int .i64 a1_0, .int .i64 a1_1, .int .i64 a1_2, .int .i64 a1_3, .int .i64 a1_4, .int .i64 a1_5, .int .i64 a1_6, .slice A1_7 l1_7.length c1_7, .slice A1_8 l1_8.length c1_8]] w fun e w' => e = .returned (.int .i64 r) ∧ Below w.heap.size w w' := by
  have hu32 := Try.underlying32; have hu50 := Try.underlying50; have HR0_0 := Aside0.mk hr0_0; have HC0_0 := Aside0.mk hc0_0; clear hr0_0 hc0_0; have HR1_7 := Aside0.mk hr1_7; have HC1_7 := Aside0.mk hc1_7; clear hr1_7 hc1_7; have HR1_8 := Aside0.mk hr1_8; have HC1_8 := Aside0.mk hc1_8; clear hr1_8 hc1_8; have HB := Aside0.mk (Below.refl w.heap.size w); have H : ((impl_IsValidStore.f k l0_0).bind fun t306 => (if t306 = true then ((impl_IsValidTransaction.f k a1_0 a1_1 a1_2 a1_3 a1_4 a1_5 a1_6 l1_7 l1_8).bind fun t307 => (if t307 = true then ((impl_Store_refreshLow.f k l0_0 a1_0 a1_1 a1_2 a1_3 a1_4 a1_5 a1_6 l1_7 l1_8).bind fun t308 => (some t308)) else (some 0))) else (some 0))) = some r := h; clear h; replace H := Option.bind_eq_some_iff.mp H; obtain ⟨t306, A30, H⟩ := H; replace H : (if t306 = true then ((impl_IsValidTransaction.f k a1_0 a1_1 a1_2 a1_3 a1_4 a1_5 a1_6 l1_7 l1_8).bind fun t307 => (if t307 = true then ((impl_Store_refreshLow.f k l0_0 a1_0 a1_1 a1_2 a1_3 a1_4 a1_5 a1_6 l1_7 l1_8).bind fun t308 => (some t308)) else (some 0))) else (some 0)) = some r := H; have A3 := Aside0.mk A30; clear A30
  by_cases c4 : t306 = true
  · subst c4; (have H1 : ((impl_IsValidTransaction.f k a1_0 a1_1 a1_2 a1_3 a1_4 a1_5 a1_6 l1_7 l1_8).bind fun t307 => (if t307 = true then ((impl_Store_refreshLow.f k l0_0 a1_0 a1_1 a1_2 a1_3 a1_4 a1_5 a1_6 l1_7 l1_8).bind fun t308 => (some t308)) else (some 0))) = some r := by rw [if_pos rfl] at H; exact H); clear H; have H := H1; clear H1; replace H := Option.bind_eq_some_iff.mp H; obtain ⟨t307, A50, H⟩ := H; replace H : (if t307 = true then ((impl_Store_refreshLow.f k l0_0 a1_0 a1_1 a1_2 a1_3 a1_4 a1_5 a1_6 l1_7 l1_8).bind fun t308 => (some t308)) else (some 0)) = some r := H; have A5 := Aside0.mk A50; clear A50
    by_cases c6 : t307 = true
    · subst c6; (have H1 : ((impl_Store_refreshLow.f k l0_0 a1_0 a1_1 a1_2 a1_3 a1_4 a1_5 a1_6 l1_7 l1_8).bind fun t308 => (some t308)) = some r := by rw [if_pos rfl] at H; exact H); clear H; have H := H1; clear H1; replace H := Option.bind_eq_some_iff.mp H; obtain ⟨t308, A70, H⟩ := H; replace H : (some t308) = some r := H; have A7 := Aside0.mk A70; clear A70; obtain rfl := Option.some.inj H
      go_enter Try.func49, Try.ntmps49
      go_wp2_with (first | ((with_reducible refine gate_dst (N := 2) rfl ?_); refine box_event ?hg (N := 2) ?hd (cs := #[.slice A0_0 l0_0.length c0_0]) (t := 32) ?hr ?_; (case hd => rfl); (case hg => rfl); (case hr => first | (go_simp; done) | (go_simp; rfl)); intro gb304 hg w8 hbox hb; have n0_ := Aside0.mk (below_step (hq0_ HB.out) hb); have n1_ := Aside0.mk (hbox); have n2_ := Aside0.mk ((ws_ hg (hq0_ HB.out) : w.heap.size ≤ gb304)); have n3_ := n2_; clear HB; have HB := n0_; have BK304 := n1_; have GW304 := n2_; have GE304 := n3_; clear n0_ n1_ n2_ n3_; clear hb hbox hg) | ((with_reducible refine gate_dst (N := 3) rfl ?_); refine box_event ?hg (N := 3) ?hd (cs := #[.int .i64 a1_0, .int .i64 a1_1, .int .i64 a1_2, .int .i64 a1_3, .int .i64 a1_4, .int .i64 a1_5, .int .i64 a1_6, .slice A1_7 l1_7.length c1_7, .slice A1_8 l1_8.length c1_8]) (t := 50) ?hr ?_; (case hd => rfl); (case hg => rfl); (case hr => first | (go_simp; done) | (go_simp; rfl)); intro gb305 hg w9 hbox hb; have n0_ := Aside0.mk (blk_below (bq_ BK304.out) hb); have n1_ := Aside0.mk (below_step (hq1_ HB.out GE304.out) hb); have n2_ := Aside0.mk (hbox); have n3_ := Aside0.mk ((ws_ hg (hq1_ HB.out GE304.out) : w.heap.size ≤ gb305)); have n4_ := n3_; have n5_ := Aside0.mk ((by rw [hg]; exact Nat.ne_of_lt (blk_lt (bq_ BK304.out)) : gb304 ≠ gb305)); have n6_ := Aside0.mk (Ne.symm n5_.out); clear BK304; clear HB; have BK304 := n0_; have HB := n1_; have BK305 := n2_; have GW305 := n3_; have GE305 := n4_; have NB304_305 := n5_; have NB305_304 := n6_; clear n0_ n1_ n2_ n3_ n4_ n5_ n6_; clear hb hbox hg; have hnb10 := NB304_305.out; have hnc10 := NB305_304.out; have hcz11_0 := bc1_ BK304.out; have hfz11_0 := blk_frozen BK304.out 0) | ((with_reducible refine gate_callee (f := 57) rfl ?_); refine goesL_ (some 6) rfl rfl Try.func57 (by kernel_rfl) rfl #[.agg #[.slice A0_0 l0_0.length c0_0]] rfl mp_ ?_; (with_reducible refine (impl_IsValidStore.calls k _ _ l0_0 true _ ?side1 ?side2 A3.out).mono ?_); (case side1 => repeat (first | exact (Kd.C_below HR0_0.out HB.out) | (with_reducible refine Kd.C_alloc ?_ _) | (with_reducible refine Kd.C_drewN ?_ _) | (with_reducible refine Kd.C_drew ?_))); (case side2 => exact HC0_0.out); rintro e w12 ⟨rfl, hb⟩; refine ⟨_, rfl, ?_⟩; have n0_ := Aside0.mk (blk_below (bq_ BK304.out) hb); have n1_ := Aside0.mk (blk_below (bq_ BK305.out) hb); have n2_ := Aside0.mk (below_step (hq2_ HB.out GE304.out GE305.out) hb); clear BK304; clear BK305; clear HB; have BK304 := n0_; have BK305 := n1_; have HB := n2_; clear n0_ n1_ n2_; (try clear hb); (try clear hb2); (try clear hk); (try clear hi); obtain ⟨hcz13_0, hcz13_1, hcz13_2, hcz13_3, hcz13_4, hcz13_5, hcz13_6, hcz13_7, hcz13_8⟩ := bc9_ BK305.out; obtain ⟨hfz13_0, hfz13_1, hfz13_2, hfz13_3, hfz13_4, hfz13_5, hfz13_6, hfz13_7, hfz13_8⟩ := bf9_ BK305.out) | (go_at_call 28; (with_reducible refine (impl_IsValidTransaction.calls k a1_0 a1_1 a1_2 a1_3 a1_4 a1_5 a1_6 _ _ l1_7 _ _ l1_8 true _ ?side1 ?side2 ?side3 ?side4 A5.out).mono ?_); (case side1 => repeat (first | exact (Kd.C_below HR1_7.out HB.out) | (with_reducible refine Kd.C_alloc ?_ _) | (with_reducible refine Kd.C_drewN ?_ _) | (with_reducible refine Kd.C_drew ?_))); (case side2 => exact HC1_7.out); (case side3 => repeat (first | exact (Kd.C_below HR1_8.out HB.out) | (with_reducible refine Kd.C_alloc ?_ _) | (with_reducible refine Kd.C_drewN ?_ _) | (with_reducible refine Kd.C_drew ?_))); (case side4 => exact HC1_8.out); rintro e w14 ⟨rfl, hb⟩; have n0_ := Aside0.mk (blk_below (bq_ BK304.out) hb); have n1_ := Aside0.mk (blk_below (bq_ BK305.out) hb); have n2_ := Aside0.mk (below_step (hq2_ HB.out GE304.out GE305.out) hb); clear BK304; clear BK305; clear HB; have BK304 := n0_; have BK305 := n1_; have HB := n2_; clear n0_ n1_ n2_; (try clear hb); (try clear hb2); (try clear hk); (try clear hi); have hcz15_0 := bc1_ BK304.out; have hfz15_0 := blk_frozen BK304.out 0; obtain ⟨hcz16_0, hcz16_1, hcz16_2, hcz16_3, hcz16_4, hcz16_5, hcz16_6, hcz16_7, hcz16_8⟩ := bc9_ BK305.out; obtain ⟨hfz16_0, hfz16_1, hfz16_2, hfz16_3, hfz16_4, hfz16_5, hfz16_6, hfz16_7, hfz16_8⟩ := bf9_ BK305.out) | ((with_reducible refine gate_callee (f := 84) rfl ?_); refine goesL_ (some 15) rfl rfl Try.func84 (by kernel_rfl) rfl #[.agg #[.slice A0_0 l0_0.length c0_0], .agg #[.int .i64 a1_0, .int .i64 a1_1, .int .i64 a1_2, .int .i64 a1_3, .int .i64 a1_4, .int .i64 a1_5, .int .i64 a1_6, .slice A1_7 l1_7.length c1_7, .slice A1_8 l1_8.length c1_8]] rfl mp_ ?_; (with_reducible refine (impl_Store_refreshLow.calls k _ _ l0_0 a1_0 a1_1 a1_2 a1_3 a1_4 a1_5 a1_6 _ _ l1_7 _ _ l1_8 t308 _ ?side1 ?side2 ?side3 ?side4 ?side5 ?side6 A7.out).mono ?_); (case side1 => repeat (first | exact (Kd.C_below HR0_0.out HB.out) | (with_reducible refine Kd.C_alloc ?_ _) | (with_reducible refine Kd.C_drewN ?_ _) | (with_reducible refine Kd.C_drew ?_))); (case side2 => exact HC0_0.out); (case side3 => repeat (first | exact (Kd.C_below HR1_7.out HB.out) | (with_reducible refine Kd.C_alloc ?_ _) | (with_reducible refine Kd.C_drewN ?_ _) | (with_reducible refine Kd.C_drew ?_))); (case side4 => exact HC1_7.out); (case side5 => repeat (first | exact (Kd.C_below HR1_8.out HB.out) | (with_reducible refine Kd.C_alloc ?_ _) | (with_reducible refine Kd.C_drewN ?_ _) | (with_reducible refine Kd.C_drew ?_))); (case side6 => exact HC1_8.out); rintro e w17 ⟨rfl, hb⟩; refine ⟨_, rfl, ?_⟩; have n0_ := Aside0.mk (blk_below (bq_ BK304.out) hb); have n1_ := Aside0.mk (blk_below (bq_ BK305.out) hb); have n2_ := Aside0.mk (below_step (hq2_ HB.out GE304.out GE305.out) hb); clear BK304; clear BK305; clear HB; have BK304 := n0_; have BK305 := n1_; have HB := n2_; clear n0_ n1_ n2_; (try clear hb); (try clear hb2); (try clear hk); (try clear hi)))
      go_ret; exact ⟨by first | rfl | (simp [errW_none, errW_some] <;> rfl) | (simp [*, errW_none, errW_some] <;> rfl), hq2_ HB.out GE304.out GE305.out⟩
    · replace c6 := Bool.eq_false_iff.mpr c6; subst c6; (have H1 : (some 0) = some r := by rw [if_neg (show ¬ (false = true) by decide)] at H; exact H); clear H; have H := H1; clear H1; obtain rfl := Option.some.inj H
      go_enter Try.func49, Try.ntmps49
      go_wp2_with (first | ((with_reducible refine gate_dst (N := 2) rfl ?_); refine box_event ?hg (N := 2) ?hd (cs := #[.slice A0_0 l0_0.length c0_0]) (t := 32) ?hr ?_; (case hd => rfl); (case hg => rfl); (case hr => first | (go_simp; done) | (go_simp; rfl)); intro gb304 hg w18 hbox hb; have n0_ := Aside0.mk (below_step (hq0_ HB.out) hb); have n1_ := Aside0.mk (hbox); have n2_ := Aside0.mk ((ws_ hg (hq0_ HB.out) : w.heap.size ≤ gb304)); have n3_ := n2_; clear HB; have HB := n0_; have BK304 := n1_; have GW304 := n2_; have GE304 := n3_; clear n0_ n1_ n2_ n3_; clear hb hbox hg) | ((with_reducible refine gate_dst (N := 3) rfl ?_); refine box_event ?hg (N := 3) ?hd (cs := #[.int .i64 a1_0, .int .i64 a1_1, .int .i64 a1_2, .int .i64 a1_3, .int .i64 a1_4, .int .i64 a1_5, .int .i64 a1_6, .slice A1_7 l1_7.length c1_7, .slice A1_8 l1_8.length c1_8]) (t := 50) ?hr ?_; (case hd => rfl); (case hg => rfl); (case hr => first | (go_simp; done) | (go_simp; rfl)); intro gb305 hg w19 hbox hb; have n0_ := Aside0.mk (blk_below (bq_ BK304.out) hb); have n1_ := Aside0.mk (below_step (hq1_ HB.out GE304.out) hb); have n2_ := Aside0.mk (hbox); have n3_ := Aside0.mk ((ws_ hg (hq1_ HB.out GE304.out) : w.heap.size ≤ gb305)); have n4_ := n3_; have n5_ := Aside0.mk ((by rw [hg]; exact Nat.ne_of_lt (blk_lt (bq_ BK304.out)) : gb304 ≠ gb305)); have n6_ := Aside0.mk (Ne.symm n5_.out); clear BK304; clear HB; have BK304 := n0_; have HB := n1_; have BK305 := n2_; have GW305 := n3_; have GE305 := n4_; have NB304_305 := n5_; have NB305_304 := n6_; clear n0_ n1_ n2_ n3_ n4_ n5_ n6_; clear hb hbox hg; have hnb20 := NB304_305.out; have hnc20 := NB305_304.out; have hcz21_0 := bc1_ BK304.out; have hfz21_0 := blk_frozen BK304.out 0) | ((with_reducible refine gate_callee (f := 57) rfl ?_); refine goesL_ (some 6) rfl rfl Try.func57 (by kernel_rfl) rfl #[.agg #[.slice A0_0 l0_0.length c0_0]] rfl mp_ ?_; (with_reducible refine (impl_IsValidStore.calls k _ _ l0_0 true _ ?side1 ?side2 A3.out).mono ?_); (case side1 => repeat (first | exact (Kd.C_below HR0_0.out HB.out) | (with_reducible refine Kd.C_alloc ?_ _) | (with_reducible refine Kd.C_drewN ?_ _) | (with_reducible refine Kd.C_drew ?_))); (case side2 => exact HC0_0.out); rintro e w22 ⟨rfl, hb⟩; refine ⟨_, rfl, ?_⟩; have n0_ := Aside0.mk (blk_below (bq_ BK304.out) hb); have n1_ := Aside0.mk (blk_below (bq_ BK305.out) hb); have n2_ := Aside0.mk (below_step (hq2_ HB.out GE304.out GE305.out) hb); clear BK304; clear BK305; clear HB; have BK304 := n0_; have BK305 := n1_; have HB := n2_; clear n0_ n1_ n2_; (try clear hb); (try clear hb2); (try clear hk); (try clear hi); obtain ⟨hcz23_0, hcz23_1, hcz23_2, hcz23_3, hcz23_4, hcz23_5, hcz23_6, hcz23_7, hcz23_8⟩ := bc9_ BK305.out; obtain ⟨hfz23_0, hfz23_1, hfz23_2, hfz23_3, hfz23_4, hfz23_5, hfz23_6, hfz23_7, hfz23_8⟩ := bf9_ BK305.out) | (go_at_call 28; (with_reducible refine (impl_IsValidTransaction.calls k a1_0 a1_1 a1_2 a1_3 a1_4 a1_5 a1_6 _ _ l1_7 _ _ l1_8 false _ ?side1 ?side2 ?side3 ?side4 A5.out).mono ?_); (case side1 => repeat (first | exact (Kd.C_below HR1_7.out HB.out) | (with_reducible refine Kd.C_alloc ?_ _) | (with_reducible refine Kd.C_drewN ?_ _) | (with_reducible refine Kd.C_drew ?_))); (case side2 => exact HC1_7.out); (case side3 => repeat (first | exact (Kd.C_below HR1_8.out HB.out) | (with_reducible refine Kd.C_alloc ?_ _) | (with_reducible refine Kd.C_drewN ?_ _) | (with_reducible refine Kd.C_drew ?_))); (case side4 => exact HC1_8.out); rintro e w24 ⟨rfl, hb⟩; have n0_ := Aside0.mk (blk_below (bq_ BK304.out) hb); have n1_ := Aside0.mk (blk_below (bq_ BK305.out) hb); have n2_ := Aside0.mk (below_step (hq2_ HB.out GE304.out GE305.out) hb); clear BK304; clear BK305; clear HB; have BK304 := n0_; have BK305 := n1_; have HB := n2_; clear n0_ n1_ n2_; (try clear hb); (try clear hb2); (try clear hk); (try clear hi)))
      go_ret; exact ⟨by first | rfl | (simp [errW_none, errW_some] <;> rfl) | (simp [*, errW_none, errW_some] <;> rfl), hq2_ HB.out GE304.out GE305.out⟩
  · replace c4 := Bool.eq_false_iff.mpr c4; subst c4; (have H1 : (some 0) = some r := by rw [if_neg (show ¬ (false = true) by decide)] at H; exact H); clear H; have H := H1; clear H1; obtain rfl := Option.some.inj H
    go_enter Try.func49, Try.ntmps49
    go_wp2_with (first | ((with_reducible refine gate_dst (N := 2) rfl ?_); refine box_event ?hg (N := 2) ?hd (cs := #[.slice A0_0 l0_0.length c0_0]) (t := 32) ?hr ?_; (case hd => rfl); (case hg => rfl); (case hr => first | (go_simp; done) | (go_simp; rfl)); intro gb304 hg w25 hbox hb; have n0_ := Aside0.mk (below_step (hq0_ HB.out) hb); have n1_ := Aside0.mk (hbox); have n2_ := Aside0.mk ((ws_ hg (hq0_ HB.out) : w.heap.size ≤ gb304)); have n3_ := n2_; clear HB; have HB := n0_; have BK304 := n1_; have GW304 := n2_; have GE304 := n3_; clear n0_ n1_ n2_ n3_; clear hb hbox hg) | ((with_reducible refine gate_dst (N := 3) rfl ?_); refine box_event ?hg (N := 3) ?hd (cs := #[.int .i64 a1_0, .int .i64 a1_1, .int .i64 a1_2, .int .i64 a1_3, .int .i64 a1_4, .int .i64 a1_5, .int .i64 a1_6, .slice A1_7 l1_7.length c1_7, .slice A1_8 l1_8.length c1_8]) (t := 50) ?hr ?_; (case hd => rfl); (case hg => rfl); (case hr => first | (go_simp; done) | (go_simp; rfl)); intro gb305 hg w26 hbox hb; have n0_ := Aside0.mk (blk_below (bq_ BK304.out) hb); have n1_ := Aside0.mk (below_step (hq1_ HB.out GE304.out) hb); have n2_ := Aside0.mk (hbox); have n3_ := Aside0.mk ((ws_ hg (hq1_ HB.out GE304.out) : w.heap.size ≤ gb305)); have n4_ := n3_; have n5_ := Aside0.mk ((by rw [hg]; exact Nat.ne_of_lt (blk_lt (bq_ BK304.out)) : gb304 ≠ gb305)); have n6_ := Aside0.mk (Ne.symm n5_.out); clear BK304; clear HB; have BK304 := n0_; have HB := n1_; have BK305 := n2_; have GW305 := n3_; have GE305 := n4_; have NB304_305 := n5_; have NB305_304 := n6_; clear n0_ n1_ n2_ n3_ n4_ n5_ n6_; clear hb hbox hg; have hnb27 := NB304_305.out; have hnc27 := NB305_304.out; have hcz28_0 := bc1_ BK304.out; have hfz28_0 := blk_frozen BK304.out 0) | ((with_reducible refine gate_callee (f := 57) rfl ?_); refine goesL_ (some 6) rfl rfl Try.func57 (by kernel_rfl) rfl #[.agg #[.slice A0_0 l0_0.length c0_0]] rfl mp_ ?_; (with_reducible refine (impl_IsValidStore.calls k _ _ l0_0 false _ ?side1 ?side2 A3.out).mono ?_); (case side1 => repeat (first | exact (Kd.C_below HR0_0.out HB.out) | (with_reducible refine Kd.C_alloc ?_ _) | (with_reducible refine Kd.C_drewN ?_ _) | (with_reducible refine Kd.C_drew ?_))); (case side2 => exact HC0_0.out); rintro e w29 ⟨rfl, hb⟩; refine ⟨_, rfl, ?_⟩; have n0_ := Aside0.mk (blk_below (bq_ BK304.out) hb); have n1_ := Aside0.mk (blk_below (bq_ BK305.out) hb); have n2_ := Aside0.mk (below_step (hq2_ HB.out GE304.out GE305.out) hb); clear BK304; clear BK305; clear HB; have BK304 := n0_; have BK305 := n1_; have HB := n2_; clear n0_ n1_ n2_; (try clear hb); (try clear hb2); (try clear hk); (try clear hi)))
    go_ret; exact ⟨by first | rfl | (simp [errW_none, errW_some] <;> rfl) | (simp [*, errW_none, errW_some] <;> rfl), hq2_ HB.out GE304.out GE305.out⟩

end Go.Proofs.Ytlnglooomeliiaa.PFnExactRefreshLow
