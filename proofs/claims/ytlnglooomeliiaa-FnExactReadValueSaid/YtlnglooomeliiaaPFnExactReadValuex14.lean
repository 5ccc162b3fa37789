-- Printed by my own myprint.py out of the translation of the seat Ytlnglooomeliiaa. Not trusted: Lean checks it.
import Derived.Test.YtlnglooomeliiaaPFnExactReadValuex0
import Derived.Test.YtlnglooomeliiaaPFnExactReadValuex7
import Derived.Test.YtlnglooomeliiaaPFnExactReadValuex11
import Derived.Test.YtlnglooomeliiaaPFnExactReadValuex13
namespace Go.Proofs.Ytlnglooomeliiaa.PFnExactReadValue
open Go.RowKit Go.Proofs.YtlnglooomeliiaaW.PrintWords Go.Proofs.YtlnglooomeliiaaW.PrintLast Go.Proofs.YtlnglooomeliiaaW.PrintMore
attribute [local go_sem] max2_int min2_int max_two min_two max_three min_three max_four min_four   -- for this text's walks alone
set_option linter.unusedVariables false
set_option linter.unusedSimpArgs false

/-! ### impl_IsValidStore_1: function 92 -/
def impl_IsValidStore_1.f (k : Nat) (l0 : List (S27)) : Option (Bool) := (impl_IsValidChain.f k l0).bind fun t290 => (if t290 = true then (some (decide ((l0.length : Int) > 50))) else (some true))
theorem impl_IsValidStore_1.mono : ∀ a0 k, LeO (impl_IsValidStore_1.f k a0) (impl_IsValidStore_1.f (k + 1) a0) := by
  intro a0 k; unfold impl_IsValidStore_1.f
  repeat' first
      | (with_reducible first | apply impl_IsValidChain.mono | exact LeO.refl _ | exact LeO.none _ | refine LeO.ite ?_ ?_ | refine LeO.bind ?_ (fun _ => ?_))
set_option maxHeartbeats 8000000 in
set_option maxRecDepth 100000 in
theorem impl_IsValidStore_1.calls (k : Nat) (A0 : Option Addr) (c0 : Nat) (l0 : List (S27)) (r : Bool) (w : World) (hr0 : Kd.C k27 w A0 l0.length l0) (hc0 : l0.length ≤ c0) (h : impl_IsValidStore_1.f k l0 = some r) :
    Calls Try.prog 92 #[.slice A0 l0.length c0] w fun e w' => e = .returned (.bool r) ∧ Below w.heap.size w w' := by
  have HR0 := Aside0.mk hr0; have HC0 := Aside0.mk hc0; clear hr0 hc0; have HB := Aside0.mk (Below.refl w.heap.size w); have H : ((impl_IsValidChain.f k l0).bind fun t290 => (if t290 = true then (some (decide ((l0.length : Int) > 50))) else (some true))) = some r := h; clear h; replace H := Option.bind_eq_some_iff.mp H; obtain ⟨t290, A20, H⟩ := H; have A2 := Aside0.mk A20; clear A20
  by_cases c3 : t290 = true
  · subst c3; rw [if_pos rfl] at H; obtain rfl := Option.some.inj H
    go_enter Try.func92, Try.ntmps92
    go_wp2_with (first | ((with_reducible refine gate_callee (f := 93) rfl ?_); refine goesL_ (some 4) rfl rfl Try.func93 (by kernel_rfl) rfl #[.slice A0 l0.length c0] rfl mp_ ?_; (with_reducible refine (impl_IsValidChain.calls k _ _ l0 true _ ?side1 ?side2 A2.out).mono ?_); (case side1 => repeat (first | exact HR0.out | (with_reducible refine Kd.C_alloc ?_ _) | (with_reducible refine Kd.C_drewN ?_ _) | (with_reducible refine Kd.C_drew ?_))); (case side2 => exact HC0.out); rintro e w4 ⟨rfl, hb⟩; refine ⟨_, rfl, ?_⟩; have n0_ := Aside0.mk (below_step (hq0_ HB.out) hb); clear HB; have HB := n0_; clear n0_; (try clear hb); (try clear hb2); (try clear hk); (try clear hi)))
    go_ret; exact ⟨ew_, hq0_ HB.out⟩
  · replace c3 := Bool.eq_false_iff.mpr c3; subst c3; rw [if_neg nt_] at H; obtain rfl := Option.some.inj H
    go_enter Try.func92, Try.ntmps92
    go_wp2_with (first | ((with_reducible refine gate_callee (f := 93) rfl ?_); refine goesL_ (some 4) rfl rfl Try.func93 (by kernel_rfl) rfl #[.slice A0 l0.length c0] rfl mp_ ?_; (with_reducible refine (impl_IsValidChain.calls k _ _ l0 false _ ?side1 ?side2 A2.out).mono ?_); (case side1 => repeat (first | exact HR0.out | (with_reducible refine Kd.C_alloc ?_ _) | (with_reducible refine Kd.C_drewN ?_ _) | (with_reducible refine Kd.C_drew ?_))); (case side2 => exact HC0.out); rintro e w5 ⟨rfl, hb⟩; refine ⟨_, rfl, ?_⟩; have n0_ := Aside0.mk (below_step (hq0_ HB.out) hb); clear HB; have HB := n0_; clear n0_; (try clear hb); (try clear hb2); (try clear hk); (try clear hi)))
    go_ret; exact ⟨ew_, hq0_ HB.out⟩

/-! ### impl_IsValidStore: function 57 -/
-- FLAGS ROUNDS
/-- Is there a chain that is not right? -/
def impl_IsValidStore.any (k : Nat) : List (List S27) → Option Bool
  | [] => some false
  | x :: l => (impl_IsValidStore_1.f k x).bind fun b => if b = true then some true else impl_IsValidStore.any k l
def impl_IsValidStore.f (k : Nat) (l0_0 : List (List S27)) : Option Bool := if l0_0.length = 6 then (impl_IsValidStore.any k l0_0).bind (fun t => some (!t)) else some false
theorem impl_IsValidStore.mono_any (k : Nat) : ∀ l, LeO (impl_IsValidStore.any k l) (impl_IsValidStore.any (k + 1) l)
  | [] => LeO.refl _
  | x :: l => by
    unfold impl_IsValidStore.any; exact LeO.bind (impl_IsValidStore_1.mono _ _) (fun _ => LeO.ite (LeO.refl _) (impl_IsValidStore.mono_any k l))
theorem impl_IsValidStore.mono : ∀ a0 k, LeO (impl_IsValidStore.f k a0) (impl_IsValidStore.f (k + 1) a0) := by
  intro a0 k; unfold impl_IsValidStore.f; exact LeO.ite (LeO.bind (impl_IsValidStore.mono_any k a0) (fun _ => LeO.refl _)) (LeO.refl _)
/-- The index that the search gives says whether there is one. -/
def impl_IsValidStore.Post (r : Bool) (w : World) (e : Ending) (w' : World) : Prop := ∃ m : Int, e = .returned (.int .i64 m) ∧ decide (m ≥ 0) = r ∧ Below w.heap.size w w'
set_option maxHeartbeats 2000000 in
set_option maxRecDepth 100000 in
theorem impl_IsValidStore.idx (k : Nat) (A0 : Option Addr) (c0 : Nat) (l0 : List (List S27)) (r : Bool) (w : World) (hr0 : Kd.C (Kd.slice 27 k27) w A0 l0.length l0) (hc0 : l0.length ≤ c0) (h : impl_IsValidStore.any k l0 = some r) :
    Calls Try.prog 109 #[.slice A0 l0.length c0, .func (.func 92) #[] #[]] w (impl_IsValidStore.Post r w) := by
  have hlen := hr0.2.1; have HR0 := Aside0.mk hr0; have HF0 := Aside0.mk h; clear hr0 h
  go_enter Try.func109, Try.ntmps109
  go_wp2
  go_loopg [8] l0.length (fun kq v8 w' => ∃ (i : Nat), v8 = .int .i64 (i : Int) ∧ i ≤ l0.length ∧ Aside0 (impl_IsValidStore.any k (l0.drop i) = some r) ∧ Aside0 (kq + i = l0.length) ∧ Aside0 (Below w.heap.size w w'))
  case atStart => exact ⟨0, rfl, Nat.zero_le _, ⟨by rw [List.drop_zero]; exact HF0.out⟩, ⟨by omega⟩, ⟨Below.refl _ _⟩⟩
  case round =>
    clear HF0; obtain ⟨i, rfl, hi, HF, HK, HB⟩ := hrel
    by_cases hlt : i < l0.length
    · obtain ⟨k1, rfl⟩ : ∃ m, gk = m + 1 := ⟨gk - 1, by have := HK.out; omega⟩; obtain ⟨ad, A1, c1, e_, hx, hl1, hi1⟩ := at_L4 HR0.out (i : Int) (by omega) (by omega)
      cases e_
      replace hx := bl_ HB.out hx; simp only [Int.toNat_natCast] at hx
      have hd : l0.drop i = rd_L4 l0 (i : Int) :: l0.drop (i + 1) := by
        rw [List.drop_eq_getElem_cons hlt]; unfold rd_L4; rw [Int.toNat_natCast, List.getD_eq_getElem?_getD, List.getElem?_eq_getElem hlt]; rfl
      have hf := HF.out; rw [hd] at hf; unfold impl_IsValidStore.any at hf; obtain ⟨b, hb, hf⟩ := Option.bind_eq_some_iff.mp hf; have HBB := Aside0.mk hb; have HI1 := Aside0.mk hi1; have HL1 := Aside0.mk hl1; clear hd hb HF hi1 hl1
      cases b with
      | true =>
        rw [if_pos rfl] at hf; have HF := Aside0.mk (Option.some.inj hf); clear hf
        go_wp2_with (go_at_call 92; (with_reducible refine (impl_IsValidStore_1.calls k _ _ (rd_L4 l0 (i : Int)) true _ ?s1 ?s2 HBB.out).mono ?_); (case s1 => exact Kd.C_below HI1.out HB.out); (case s2 => exact HL1.out); rintro e w1 ⟨rfl, hb1⟩; have HB2 := Aside0.mk (below_step HB.out hb1); clear hb1)
        go_ret; exact ⟨(i : Int), rfl, by rw [← HF.out]; exact decide_eq_true (by omega), HB2.out⟩
      | false =>
        rw [if_neg (by decide)] at hf; have HF := Aside0.mk hf; clear hf
        go_wp2_with (go_at_call 92; (with_reducible refine (impl_IsValidStore_1.calls k _ _ (rd_L4 l0 (i : Int)) false _ ?s1 ?s2 HBB.out).mono ?_); (case s1 => exact Kd.C_below HI1.out HB.out); (case s2 => exact HL1.out); rintro e w1 ⟨rfl, hb1⟩; have HB2 := Aside0.mk (below_step HB.out hb1); clear hb1)
        go_roundg k1
        case measure => have := HK.out; omega
        case rel => exact ⟨i + 1, by go_num, by omega, HF, ⟨by have := HK.out; omega⟩, HB2⟩
    · have hf := HF.out; rw [List.drop_eq_nil_of_le (by omega)] at hf; have HF2 := Aside0.mk (Option.some.inj hf); clear hf
      go_wp2
      go_ret; exact ⟨-1, rfl, by rw [← HF2.out]; decide, HB.out⟩
set_option maxHeartbeats 2000000 in
set_option maxRecDepth 100000 in
theorem impl_IsValidStore.con (k : Nat) (A0 : Option Addr) (c0 : Nat) (l0 : List (List S27)) (r : Bool) (w : World) (hr0 : Kd.C (Kd.slice 27 k27) w A0 l0.length l0) (hc0 : l0.length ≤ c0) (h : impl_IsValidStore.any k l0 = some r) :
    Calls Try.prog 91 #[.slice A0 l0.length c0, .func (.func 92) #[] #[]] w fun e w' => e = .returned (.bool r) ∧ Below w.heap.size w w' := by
  have HR0 := Aside0.mk hr0; have HF0 := Aside0.mk h; clear hr0 h
  go_enter Try.func91, Try.ntmps91
  go_wp2_with (go_at_call 109; (with_reducible refine (impl_IsValidStore.idx k A0 c0 l0 r _ HR0.out hc0 HF0.out).mono ?_); rintro e w1 ⟨m, rfl, hm, hb1⟩; have HM := Aside0.mk hm; have HB2 := Aside0.mk hb1; clear hb1 hm)
  go_ret; exact ⟨by rw [← HM.out]; rfl, HB2.out⟩
set_option maxHeartbeats 2000000 in
set_option maxRecDepth 100000 in
theorem impl_IsValidStore.calls (k : Nat) (A0_0 : Option Addr) (c0_0 : Nat) (l0_0 : List (List S27)) (r : Bool) (w : World) (hr0_0 : Kd.C (Kd.slice 27 k27) w A0_0 l0_0.length l0_0) (hc0_0 : l0_0.length ≤ c0_0) (h : impl_IsValidStore.f k l0_0 = some r) :
    Calls Try.prog 57 #[.agg #[.slice A0_0 l0_0.length c0_0]] w fun e w' => e = .returned (.bool r) ∧ Below w.heap.size w w' := by
  have hu := Try.underlying32; have HR0 := Aside0.mk hr0_0; clear hr0_0; unfold impl_IsValidStore.f at h
  by_cases h6 : l0_0.length = 6
  · rw [if_pos h6] at h; obtain ⟨t, ht, hq⟩ := Option.bind_eq_some_iff.mp h; obtain rfl := Option.some.inj hq; have HT := Aside0.mk ht; (have hg : ((l0_0.length : Int) == 6) = true := by rw [beq_iff_eq]; omega); clear h h6 ht hq
    go_enter Try.func57, Try.ntmps57
    go_wp2_with (go_at_call 91; (with_reducible refine (impl_IsValidStore.con k A0_0 c0_0 l0_0 t _ ?s1 hc0_0 HT.out).mono ?_); (case s1 => exact Kd.C_alloc HR0.out _); rintro e w1 ⟨rfl, hb1⟩; have HB2 := Aside0.mk (below_step (below_alloc (Below.refl _ _) _) hb1); clear hb1)
    go_ret; exact ⟨rfl, HB2.out⟩
  · rw [if_neg h6] at h; obtain rfl := Option.some.inj h; (have hg : ((l0_0.length : Int) == 6) = false := by rw [beq_eq_false_iff_ne]; omega); clear h h6
    go_enter Try.func57, Try.ntmps57
    go_wp2
    go_ret; exact ⟨rfl, below_alloc (Below.refl _ _) _⟩


-- NOT PRINTED: function 104 (impl_Write)

-- NOT PRINTED: function 105 (impl_FindWrite_1)

/-! ### impl_FindWrite: function 86 -/
/-- What is found from place i on. -/
def impl_FindWrite.frm (l : List S87) (c : Int) (i : Nat) : Int := match (List.range' i (l.length - i)).find? (fun j => decide ((l.getD j z87).f0 = c)) with | some j => (j : Int) | none => -1
theorem impl_FindWrite.frm_end (l : List S87) (c : Int) (i : Nat) (h : ¬ i < l.length) : impl_FindWrite.frm l c i = -1 := by
  unfold impl_FindWrite.frm; rw [show l.length - i = 0 by omega]; rfl
theorem impl_FindWrite.frm_hit (l : List S87) (c : Int) (i : Nat) (h : i < l.length) (hp : (l.getD i z87).f0 = c) : impl_FindWrite.frm l c i = i := by
  unfold impl_FindWrite.frm; rw [show l.length - i = (l.length - i - 1) + 1 by omega, List.range'_succ, List.find?_cons, decide_eq_true hp]
theorem impl_FindWrite.frm_miss (l : List S87) (c : Int) (i : Nat) (h : i < l.length) (hp : ¬ (l.getD i z87).f0 = c) : impl_FindWrite.frm l c i = impl_FindWrite.frm l c (i + 1) := by
  unfold impl_FindWrite.frm; rw [show l.length - i = (l.length - (i + 1)) + 1 by omega, List.range'_succ, List.find?_cons, decide_eq_false hp]
set_option maxHeartbeats 1000000 in
set_option maxRecDepth 100000 in
theorem impl_FindWrite.clo (v : S87) (g : Nat) (c : Int) (w : World) (hg : w.cell? ⟨g, 0, none⟩ = some (.int .i64 c)) (hl : g < w.heap.size) :
    Calls Try.prog 105 #[.agg #[.int .i64 v.f0, .int .i64 v.f1], .pointer (some ⟨g, 0, none⟩)] w fun e w' => e = .returned (.bool (v.f0 == c)) ∧ Below w.heap.size w w' := by
  have hu := Try.underlying87; (have hg' : ∀ o, (w.alloc o).cell? ⟨g, 0, none⟩ = some (.int .i64 c) := fun o => (World.cell?_alloc_lt _ _ _ hl).trans hg)
  go_enter Try.func105, Try.ntmps105
  go_wp2
  go_ret; exact ⟨rfl, below_alloc (Below.refl _ _) _⟩
set_option maxHeartbeats 2000000 in
set_option maxRecDepth 100000 in
theorem impl_FindWrite.idx (g : Nat) (c : Int) (A0 : Option Addr) (c0 : Nat) (l0 : List S87) (w : World) (hr0 : Kd.C k87 w A0 l0.length l0) (hc0 : l0.length ≤ c0) (hg : w.cell? ⟨g, 0, none⟩ = some (.int .i64 c)) :
    Calls Try.prog 104 #[.slice A0 l0.length c0, .func (.func 105) #[] #[.pointer (some ⟨g, 0, none⟩)]] w fun e w' => e = .returned (.int .i64 (impl_FindWrite.frm l0 c 0)) ∧ Below w.heap.size w w' := by
  have hu := Try.underlying87; have hlen := hr0.2.1; have HR0 := Aside0.mk hr0; have HG := Aside0.mk hg; clear hr0 hg; obtain ⟨r, hr⟩ : ∃ r, r = impl_FindWrite.frm l0 c 0 := ⟨_, rfl⟩; rw [← hr]; have HF := Aside0.mk hr.symm; clear hr
  go_enter Try.func104, Try.ntmps104
  go_wp2
  go_loopg [8] l0.length (fun kq v8 w' => ∃ (i : Nat), v8 = .int .i64 (i : Int) ∧ i ≤ l0.length ∧ Aside0 (impl_FindWrite.frm l0 c i = r) ∧ Aside0 (kq + i = l0.length) ∧ Aside0 (Below w.heap.size w w'))
  case atStart => exact ⟨0, rfl, Nat.zero_le _, HF, ⟨by omega⟩, ⟨Below.refl _ _⟩⟩
  case round =>
    clear HF; obtain ⟨i, rfl, hi, HF, HK, HB⟩ := hrel
    by_cases hlt : i < l0.length
    · obtain ⟨k1, rfl⟩ : ∃ m, gk = m + 1 := ⟨gk - 1, by have := HK.out; omega⟩; obtain ⟨ad, e_, hx0, hx1⟩ := at_T87 HR0.out (i : Int) (by omega) (by omega)
      cases e_
      replace hx0 := bl_ HB.out hx0; replace hx1 := bl_ HB.out hx1; simp only [Int.toNat_natCast] at hx0 hx1; (have hv : rd_T87 l0 (i : Int) = l0.getD i z87 := by unfold rd_T87; rw [Int.toNat_natCast]); have HV := Aside0.mk hv; clear hv
      by_cases hp : (l0.getD i z87).f0 = c
      · (have hb : ((rd_T87 l0 (i : Int)).f0 == c) = true := by rw [HV.out]; exact beq_iff_eq.2 hp); have HP := Aside0.mk hp; clear hp
        go_wp2_with (go_at_call 105; (with_reducible refine (impl_FindWrite.clo (rd_T87 l0 (i : Int)) g c _ ?s1 ?s2).mono ?_); (case s1 => exact (HB.out.cell (World.block_lt_of_cell? w _ HG.out)).trans HG.out); (case s2 => exact Nat.lt_of_lt_of_le (World.block_lt_of_cell? w _ HG.out) HB.out.size); rintro e w1 ⟨rfl, hb1⟩; have HB2 := Aside0.mk (below_step HB.out hb1); clear hb1)
        go_ret; exact ⟨by rw [← HF.out, impl_FindWrite.frm_hit _ _ _ hlt HP.out]; rfl, HB2.out⟩
      · (have hb : ((rd_T87 l0 (i : Int)).f0 == c) = false := by rw [HV.out]; exact beq_eq_false_iff_ne.2 hp); have HP := Aside0.mk hp; clear hp
        go_wp2_with (go_at_call 105; (with_reducible refine (impl_FindWrite.clo (rd_T87 l0 (i : Int)) g c _ ?s1 ?s2).mono ?_); (case s1 => exact (HB.out.cell (World.block_lt_of_cell? w _ HG.out)).trans HG.out); (case s2 => exact Nat.lt_of_lt_of_le (World.block_lt_of_cell? w _ HG.out) HB.out.size); rintro e w1 ⟨rfl, hb1⟩; have HB2 := Aside0.mk (below_step HB.out hb1); clear hb1)
        go_roundg k1
        case measure => have := HK.out; omega
        case rel => exact ⟨i + 1, by go_num, by omega, ⟨by rw [← HF.out, impl_FindWrite.frm_miss _ _ _ hlt HP.out]⟩, ⟨by have := HK.out; omega⟩, HB2⟩
    · go_wp2
      go_ret; exact ⟨by rw [← HF.out, impl_FindWrite.frm_end _ _ _ hlt]; rfl, HB.out⟩
def impl_FindWrite.f (a0_0 : Int) (a0_1 : Int) (a0_2 : Int) (a0_3 : Int) (a0_4 : Int) (a0_5 : Int) (a0_6 : Int) (l0_7 : List S84) (l0_8 : List S87) (a1 : Int) : Option Int := some (impl_FindWrite.frm l0_8 a1 0)
set_option maxHeartbeats 2000000 in
set_option maxRecDepth 100000 in
theorem impl_FindWrite.calls (a0_0 : Int) (a0_1 : Int) (a0_2 : Int) (a0_3 : Int) (a0_4 : Int) (a0_5 : Int) (a0_6 : Int) (A0_7 : Option Addr) (c0_7 : Nat) (l0_7 : List S84) (A0_8 : Option Addr) (c0_8 : Nat) (l0_8 : List S87) (a1 : Int) (r : Int) (w : World) (hr0_7 : Kd.C k84 w A0_7 l0_7.length l0_7) (hc0_7 : l0_7.length ≤ c0_7) (hr0_8 : Kd.C k87 w A0_8 l0_8.length l0_8) (hc0_8 : l0_8.length ≤ c0_8) (h : impl_FindWrite.f a0_0 a0_1 a0_2 a0_3 a0_4 a0_5 a0_6 l0_7 l0_8 a1 = some r) :
    Calls Try.prog 86 #[.agg #[.int .i64 a0_0, .int .i64 a0_1, .int .i64 a0_2, .int .i64 a0_3, .int .i64 a0_4, .int .i64 a0_5, .int .i64 a0_6, .slice A0_7 l0_7.length c0_7, .slice A0_8 l0_8.length c0_8], .int .i64 a1] w fun e w' => e = .returned (.int .i64 r) ∧ Below w.heap.size w w' := by
  have hu := Try.underlying50; obtain rfl := Option.some.inj h; have HR0 := Aside0.mk hr0_8; clear hr0_8 hr0_7 h
  go_enter Try.func86, Try.ntmps86
  go_wp2_with (go_at_call 104; (with_reducible refine (impl_FindWrite.idx _ a1 A0_8 c0_8 l0_8 _ ?s1 hc0_8 ?s2).mono ?_); (case s1 => exact Kd.C_alloc (Kd.C_alloc HR0.out _) _); (case s2 => simp); rintro e w1 ⟨rfl, hb1⟩; have HB2 := Aside0.mk (below_step (below_alloc (below_alloc (Below.refl _ _) _) _) hb1); clear hb1)
  go_ret; exact ⟨rfl, HB2.out⟩


-- NOT PRINTED: function 114 (impl_Version_114)

-- NOT PRINTED: function 115 (impl_FindVersion_1)

/-! ### impl_FindVersion: function 106 -/
/-- What is found from place i on. -/
def impl_FindVersion.frm (l : List S27) (c : Int) (i : Nat) : Int := match (List.range' i (l.length - i)).find? (fun j => decide ((l.getD j z27).f2 = c)) with | some j => (j : Int) | none => -1
theorem impl_FindVersion.frm_end (l : List S27) (c : Int) (i : Nat) (h : ¬ i < l.length) : impl_FindVersion.frm l c i = -1 := by
  unfold impl_FindVersion.frm; rw [show l.length - i = 0 by omega]; rfl
theorem impl_FindVersion.frm_hit (l : List S27) (c : Int) (i : Nat) (h : i < l.length) (hp : (l.getD i z27).f2 = c) : impl_FindVersion.frm l c i = i := by
  unfold impl_FindVersion.frm; rw [show l.length - i = (l.length - i - 1) + 1 by omega, List.range'_succ, List.find?_cons, decide_eq_true hp]
theorem impl_FindVersion.frm_miss (l : List S27) (c : Int) (i : Nat) (h : i < l.length) (hp : ¬ (l.getD i z27).f2 = c) : impl_FindVersion.frm l c i = impl_FindVersion.frm l c (i + 1) := by
  unfold impl_FindVersion.frm; rw [show l.length - i = (l.length - (i + 1)) + 1 by omega, List.range'_succ, List.find?_cons, decide_eq_false hp]
set_option maxHeartbeats 1000000 in
set_option maxRecDepth 100000 in
theorem impl_FindVersion.clo (v : S27) (g : Nat) (c : Int) (w : World) (hg : w.cell? ⟨g, 0, none⟩ = some (.int .i64 c)) (hl : g < w.heap.size) :
    Calls Try.prog 115 #[.agg #[.int .i64 v.f0, .int .i64 v.f1, .int .i64 v.f2, .int .i64 v.f3, .int .i64 v.f4], .pointer (some ⟨g, 0, none⟩)] w fun e w' => e = .returned (.bool (v.f2 == c)) ∧ Below w.heap.size w w' := by
  have hu := Try.underlying27; (have hg' : ∀ o, (w.alloc o).cell? ⟨g, 0, none⟩ = some (.int .i64 c) := fun o => (World.cell?_alloc_lt _ _ _ hl).trans hg)
  go_enter Try.func115, Try.ntmps115
  go_wp2
  go_ret; exact ⟨rfl, below_alloc (Below.refl _ _) _⟩
set_option maxHeartbeats 2000000 in
set_option maxRecDepth 100000 in
theorem impl_FindVersion.idx (g : Nat) (c : Int) (A0 : Option Addr) (c0 : Nat) (l0 : List S27) (w : World) (hr0 : Kd.C k27 w A0 l0.length l0) (hc0 : l0.length ≤ c0) (hg : w.cell? ⟨g, 0, none⟩ = some (.int .i64 c)) :
    Calls Try.prog 114 #[.slice A0 l0.length c0, .func (.func 115) #[] #[.pointer (some ⟨g, 0, none⟩)]] w fun e w' => e = .returned (.int .i64 (impl_FindVersion.frm l0 c 0)) ∧ Below w.heap.size w w' := by
  have hu := Try.underlying27; have hlen := hr0.2.1; have HR0 := Aside0.mk hr0; have HG := Aside0.mk hg; clear hr0 hg; obtain ⟨r, hr⟩ : ∃ r, r = impl_FindVersion.frm l0 c 0 := ⟨_, rfl⟩; rw [← hr]; have HF := Aside0.mk hr.symm; clear hr
  go_enter Try.func114, Try.ntmps114
  go_wp2
  go_loopg [8] l0.length (fun kq v8 w' => ∃ (i : Nat), v8 = .int .i64 (i : Int) ∧ i ≤ l0.length ∧ Aside0 (impl_FindVersion.frm l0 c i = r) ∧ Aside0 (kq + i = l0.length) ∧ Aside0 (Below w.heap.size w w'))
  case atStart => exact ⟨0, rfl, Nat.zero_le _, HF, ⟨by omega⟩, ⟨Below.refl _ _⟩⟩
  case round =>
    clear HF; obtain ⟨i, rfl, hi, HF, HK, HB⟩ := hrel
    by_cases hlt : i < l0.length
    · obtain ⟨k1, rfl⟩ : ∃ m, gk = m + 1 := ⟨gk - 1, by have := HK.out; omega⟩; obtain ⟨ad, e_, hx0, hx1, hx2, hx3, hx4⟩ := at_T27 HR0.out (i : Int) (by omega) (by omega)
      cases e_
      replace hx0 := bl_ HB.out hx0; replace hx1 := bl_ HB.out hx1; replace hx2 := bl_ HB.out hx2; replace hx3 := bl_ HB.out hx3; replace hx4 := bl_ HB.out hx4; simp only [Int.toNat_natCast] at hx0 hx1 hx2 hx3 hx4; (have hv : rd_T27 l0 (i : Int) = l0.getD i z27 := by unfold rd_T27; rw [Int.toNat_natCast]); have HV := Aside0.mk hv; clear hv
      by_cases hp : (l0.getD i z27).f2 = c
      · (have hb : ((rd_T27 l0 (i : Int)).f2 == c) = true := by rw [HV.out]; exact beq_iff_eq.2 hp); have HP := Aside0.mk hp; clear hp
        go_wp2_with (go_at_call 115; (with_reducible refine (impl_FindVersion.clo (rd_T27 l0 (i : Int)) g c _ ?s1 ?s2).mono ?_); (case s1 => exact (HB.out.cell (World.block_lt_of_cell? w _ HG.out)).trans HG.out); (case s2 => exact Nat.lt_of_lt_of_le (World.block_lt_of_cell? w _ HG.out) HB.out.size); rintro e w1 ⟨rfl, hb1⟩; have HB2 := Aside0.mk (below_step HB.out hb1); clear hb1)
        go_ret; exact ⟨by rw [← HF.out, impl_FindVersion.frm_hit _ _ _ hlt HP.out]; rfl, HB2.out⟩
      · (have hb : ((rd_T27 l0 (i : Int)).f2 == c) = false := by rw [HV.out]; exact beq_eq_false_iff_ne.2 hp); have HP := Aside0.mk hp; clear hp
        go_wp2_with (go_at_call 115; (with_reducible refine (impl_FindVersion.clo (rd_T27 l0 (i : Int)) g c _ ?s1 ?s2).mono ?_); (case s1 => exact (HB.out.cell (World.block_lt_of_cell? w _ HG.out)).trans HG.out); (case s2 => exact Nat.lt_of_lt_of_le (World.block_lt_of_cell? w _ HG.out) HB.out.size); rintro e w1 ⟨rfl, hb1⟩; have HB2 := Aside0.mk (below_step HB.out hb1); clear hb1)
        go_roundg k1
        case measure => have := HK.out; omega
        case rel => exact ⟨i + 1, by go_num, by omega, ⟨by rw [← HF.out, impl_FindVersion.frm_miss _ _ _ hlt HP.out]⟩, ⟨by have := HK.out; omega⟩, HB2⟩
    · go_wp2
      go_ret; exact ⟨by rw [← HF.out, impl_FindVersion.frm_end _ _ _ hlt]; rfl, HB.out⟩
def impl_FindVersion.f (l0 : List S27) (a1 : Int) : Option Int := some (impl_FindVersion.frm l0 a1 0)
set_option maxHeartbeats 2000000 in
set_option maxRecDepth 100000 in
theorem impl_FindVersion.calls (A0 : Option Addr) (c0 : Nat) (l0 : List S27) (a1 : Int) (r : Int) (w : World) (hr0 : Kd.C k27 w A0 l0.length l0) (hc0 : l0.length ≤ c0) (h : impl_FindVersion.f l0 a1 = some r) :
    Calls Try.prog 106 #[.slice A0 l0.length c0, .int .i64 a1] w fun e w' => e = .returned (.int .i64 r) ∧ Below w.heap.size w w' := by
  obtain rfl := Option.some.inj h; have HR0 := Aside0.mk hr0; clear hr0 h
  go_enter Try.func106, Try.ntmps106
  go_wp2_with (go_at_call 114; (with_reducible refine (impl_FindVersion.idx _ a1 A0 c0 l0 _ ?s1 hc0 ?s2).mono ?_); (case s1 => exact Kd.C_alloc HR0.out _); (case s2 => simp); rintro e w1 ⟨rfl, hb1⟩; have HB2 := Aside0.mk (below_step (below_alloc (Below.refl _ _) _) hb1); clear hb1)
  go_ret; exact ⟨rfl, HB2.out⟩


/-! ### impl_Store_find: function 87 -/
-- FLAGS PTR
/-- The cells of a version. -/
def CellsF (w : World) (p : Addr) (v : S27) : Prop :=
  w.cell? p = some (.int .i64 v.f0) ∧ w.cell? ⟨p.block, p.off + 1, none⟩ = some (.int .i64 v.f1) ∧ w.cell? ⟨p.block, p.off + 2, none⟩ = some (.int .i64 v.f2) ∧ w.cell? ⟨p.block, p.off + 3, none⟩ = some (.int .i64 v.f3) ∧ w.cell? ⟨p.block, p.off + 4, none⟩ = some (.int .i64 v.f4)
theorem impl_Store_find.bd (l : List S27) (c : Int) (i : Nat) : -1 ≤ impl_FindVersion.frm l c i ∧ impl_FindVersion.frm l c i < (l.length : Int) := by
  unfold impl_FindVersion.frm
  cases h : (List.range' i (l.length - i)).find? (fun j => decide ((l.getD j z27).f2 = c)) with
  | none => exact ⟨Int.le_refl _, by show (-1 : Int) < _; omega⟩
  | some j =>
    have := List.mem_range'_1.1 (List.mem_of_find?_eq_some h); exact ⟨by show (-1 : Int) ≤ (j : Int); omega, by show (j : Int) < _; omega⟩
set_option maxHeartbeats 2000000 in
set_option maxRecDepth 100000 in
/-- Where the version of a mark stands, or nil. -/
theorem impl_Store_find.told (A0 : Option Addr) (c0 : Nat) (l0 : List (List S27)) (m0 m1 : Int) (w : World) (hr0 : Kd.C (Kd.slice 27 k27) w A0 l0.length l0) (hk0 : 0 ≤ m0) (hk1 : m0 < (l0.length : Int)) :
    Calls Try.prog 87 #[.agg #[.slice A0 l0.length c0], .agg #[.int .i64 m0, .int .i64 m1]] w fun e w' => Below w.heap.size w w' ∧ ((impl_FindVersion.frm (rd_L4 l0 m0) m1 0 < 0 ∧ e = .returned (.pointer none)) ∨ (0 ≤ impl_FindVersion.frm (rd_L4 l0 m0) m1 0 ∧ ∃ p : Addr, e = .returned (.pointer (some p)) ∧ CellsF w' p (rd_T27 (rd_L4 l0 m0) (impl_FindVersion.frm (rd_L4 l0 m0) m1 0)))) := by
  have hu := Try.underlying32; have hv := Try.underlying84; have hb := below_alloc (below_alloc (Below.refl w.heap.size w) (.cells #[.slice A0 l0.length c0] 32)) (.cells #[.int .i64 m0, .int .i64 m1] 84); obtain ⟨ad1, A2, c2, e1, hx, hl2, hC⟩ := at_L4 hr0 m0 hk0 hk1
  cases e1
  replace hx := (hb.cell (World.block_lt_of_cell? w _ hx)).trans hx; have HB := Aside0.mk hb; have HC := Aside0.mk hC; have HL := Aside0.mk hl2; obtain ⟨hi0, hi1⟩ := impl_Store_find.bd (rd_L4 l0 m0) m1 0; clear hb hC hr0 hl2; have d1 := decide_eq_true hk0; have d2 := decide_eq_true hk1; replace hk0 := eq_true hk0; replace hk1 := eq_true hk1; obtain ⟨i, hi⟩ : ∃ i, impl_FindVersion.frm (rd_L4 l0 m0) m1 0 = i := ⟨_, rfl⟩; rw [hi] at hi0 hi1 ⊢; have HI := Aside0.mk hi; clear hi
  by_cases hneg : i < 0
  · have d3 := decide_eq_true hneg; have HN := Aside0.mk hneg; clear hi0 hi1 hneg
    go_enter Try.func87, Try.ntmps87
    go_wp2_with (go_at_call 106; (with_reducible refine (impl_FindVersion.calls A2 c2 (rd_L4 l0 m0) m1 i _ ?s1 HL.out ?s2).mono ?_); (case s1 => exact Kd.C_below HC.out HB.out); (case s2 => exact congrArg some HI.out); rintro e w1 ⟨rfl, hb1⟩; have HB1 := Aside0.mk (below_step HB.out hb1); clear hb1)
    go_ret; exact ⟨HB1.out, Or.inl ⟨HN.out, rfl⟩⟩
  · have d3 := decide_eq_false hneg; (have hge : 0 ≤ i := by omega); obtain ⟨ad2, e2, hx0, hx1, hx2, hx3, hx4⟩ := at_T27 HC.out i hge hi1
    cases e2
    have HX := Aside0.mk (show CellsF w _ (rd_T27 (rd_L4 l0 m0) i) from ⟨hx0, hx1, hx2, hx3, hx4⟩); have HG := Aside0.mk hge; have d4 := decide_eq_true hge; have d5 := decide_eq_true hi1; replace hge := eq_true hge; replace hi1 := eq_true hi1; clear hx0 hx1 hx2 hx3 hx4 hi0 hneg
    go_enter Try.func87, Try.ntmps87
    go_wp2_with (go_at_call 106; (with_reducible refine (impl_FindVersion.calls _ c2 (rd_L4 l0 m0) m1 i _ ?s1 HL.out ?s2).mono ?_); (case s1 => exact Kd.C_below HC.out HB.out); (case s2 => exact congrArg some HI.out); rintro e w1 ⟨rfl, hb1⟩; have HB1 := Aside0.mk (below_step HB.out hb1); clear hb1)
    go_ret; obtain ⟨q0, q1, q2, q3, q4⟩ := HX.out; have hb := HB1.out; exact ⟨hb, Or.inr ⟨HG.out, _, rfl, (hb.cell (World.block_lt_of_cell? w _ q0)).trans q0, (hb.cell (World.block_lt_of_cell? w _ q1)).trans q1, (hb.cell (World.block_lt_of_cell? w _ q2)).trans q2, (hb.cell (World.block_lt_of_cell? w _ q3)).trans q3, (hb.cell (World.block_lt_of_cell? w _ q4)).trans q4⟩⟩
/-- The version of a mark, where there is one. -/
def impl_Store_find.f (l0 : List (List S27)) (m0 m1 : Int) : Option (Int × Int × Int × Int × Int) :=
  if 0 ≤ m0 ∧ m0 < (l0.length : Int) ∧ 0 ≤ impl_FindVersion.frm (rd_L4 l0 m0) m1 0 then
    some ((rd_T27 (rd_L4 l0 m0) (impl_FindVersion.frm (rd_L4 l0 m0) m1 0)).f0, (rd_T27 (rd_L4 l0 m0) (impl_FindVersion.frm (rd_L4 l0 m0) m1 0)).f1, (rd_T27 (rd_L4 l0 m0) (impl_FindVersion.frm (rd_L4 l0 m0) m1 0)).f2, (rd_T27 (rd_L4 l0 m0) (impl_FindVersion.frm (rd_L4 l0 m0) m1 0)).f3, (rd_T27 (rd_L4 l0 m0) (impl_FindVersion.frm (rd_L4 l0 m0) m1 0)).f4)
  else none
theorem impl_Store_find.calls (A0 : Option Addr) (c0 : Nat) (l0 : List (List S27)) (m0 m1 : Int) (r1 r2 r3 r4 r5 : Int) (w0 w : World) (hb0 : Below w0.heap.size w0 w) (hr0 : Kd.C (Kd.slice 27 k27) w0 A0 l0.length l0) (hc0 : l0.length ≤ c0) (h : impl_Store_find.f l0 m0 m1 = some (r1, r2, r3, r4, r5)) :
    Calls Try.prog 87 #[.agg #[.slice A0 l0.length c0], .agg #[.int .i64 m0, .int .i64 m1]] w fun e w' => ∃ p : Addr, e = .returned (.pointer (some p)) ∧ CellsF w' p ⟨r1, r2, r3, r4, r5⟩ ∧ Below w0.heap.size w0 w' ∧ Below w.heap.size w w' := by
  unfold impl_Store_find.f at h
  by_cases hk : 0 ≤ m0 ∧ m0 < (l0.length : Int) ∧ 0 ≤ impl_FindVersion.frm (rd_L4 l0 m0) m1 0
  · rw [if_pos hk] at h; have h := Option.some.inj h; simp only [Prod.mk.injEq] at h; obtain ⟨rfl, rfl, rfl, rfl, rfl⟩ := h; refine (impl_Store_find.told A0 c0 l0 m0 m1 w (Kd.C_below hr0 hb0) hk.1 hk.2.1).mono ?_; rintro e w' ⟨hb, h | ⟨_, p, rfl, hp⟩⟩
    · exact absurd hk.2.2 (by omega)
    · exact ⟨p, rfl, hp, below_step hb0 hb, hb⟩
  · rw [if_neg hk] at h
    cases h


/-! ### impl_ReadValue: function 51 -/
-- FLAGS ROUNDS
theorem impl_ReadValue.bdw (l : List S87) (c : Int) (i : Nat) : -1 ≤ impl_FindWrite.frm l c i ∧ impl_FindWrite.frm l c i < (l.length : Int) := by
  unfold impl_FindWrite.frm
  cases h : (List.range' i (l.length - i)).find? (fun j => decide ((l.getD j z87).f0 = c)) with
  | none => exact ⟨Int.le_refl _, by show (-1 : Int) < _; omega⟩
  | some j =>
    have := List.mem_range'_1.1 (List.mem_of_find?_eq_some h); exact ⟨by show (-1 : Int) ≤ (j : Int); omega, by show (j : Int) < _; omega⟩
theorem rl_size (w : World) (o : Obj) : (w.alloc o).heap.size = w.heap.size + 1 := Array.size_push _
theorem rl_box (w : World) (o : Obj) : (w.alloc o).heap[w.heap.size]? = some o := Array.getElem?_push_size
def impl_ReadValue.g (l0_0 : List (List S27)) (l1_8 : List S87) (a2 a3 : Int) : Option (Int × Bool) :=
  if 0 ≤ (impl_FindWrite.frm l1_8 a2 0) then some ((rd_T87 l1_8 (impl_FindWrite.frm l1_8 a2 0)).f1, true) else
    if 0 ≤ a2 ∧ a2 < (l0_0.length : Int) then (if 0 ≤ (impl_FindVersion.frm (rd_L4 l0_0 a2) a3 0) then some ((rd_T27 (rd_L4 l0_0 a2) (impl_FindVersion.frm (rd_L4 l0_0 a2) a3 0)).f1, true) else some (0, false)) else none
def impl_ReadValue.f (k : Nat) (l0_0 : List (List S27)) (a1_0 : Int) (a1_1 : Int) (a1_2 : Int) (a1_3 : Int) (a1_4 : Int) (a1_5 : Int) (a1_6 : Int) (l1_7 : List S84) (l1_8 : List S87) (a2 : Int) (a3 : Int) : Option (Int × Bool) :=
  (impl_IsValidStore.f k l0_0).bind fun t => if t = true then (impl_IsValidTransaction.f k a1_0 a1_1 a1_2 a1_3 a1_4 a1_5 a1_6 l1_7 l1_8).bind (fun u => if u = true then (impl_isKey.f a2).bind (fun v => if v = true then impl_ReadValue.g l0_0 l1_8 a2 a3 else some (0, false)) else some (0, false)) else some (0, false)
theorem impl_ReadValue.mono : ∀ a0 a1 a2 a3 a4 a5 a6 a7 a8 a9 a10 a11 k, LeO (impl_ReadValue.f k a0 a1 a2 a3 a4 a5 a6 a7 a8 a9 a10 a11) (impl_ReadValue.f (k + 1) a0 a1 a2 a3 a4 a5 a6 a7 a8 a9 a10 a11) := by
  intro a0 a1 a2 a3 a4 a5 a6 a7 a8 a9 a10 a11 k; unfold impl_ReadValue.f; exact LeO.bind (impl_IsValidStore.mono _ _) (fun _ => LeO.ite (LeO.bind (impl_IsValidTransaction.mono _ _ _ _ _ _ _ _ _ _) (fun _ => LeO.refl _)) (LeO.refl _))
set_option maxHeartbeats 8000000 in
set_option maxRecDepth 100000 in
theorem impl_ReadValue.calls (k : Nat) (A0_0 : Option Addr) (c0_0 : Nat) (l0_0 : List (List S27)) (a1_0 : Int) (a1_1 : Int) (a1_2 : Int) (a1_3 : Int) (a1_4 : Int) (a1_5 : Int) (a1_6 : Int) (A1_7 : Option Addr) (c1_7 : Nat) (l1_7 : List S84) (A1_8 : Option Addr) (c1_8 : Nat) (l1_8 : List S87) (a2 : Int) (a3 : Int) (r1 : Int) (r2 : Bool) (w : World) (hr0_0 : Kd.C (Kd.slice 27 k27) w A0_0 l0_0.length l0_0) (hc0_0 : l0_0.length ≤ c0_0) (hr1_7 : Kd.C k84 w A1_7 l1_7.length l1_7) (hc1_7 : l1_7.length ≤ c1_7) (hr1_8 : Kd.C k87 w A1_8 l1_8.length l1_8) (hc1_8 : l1_8.length ≤ c1_8) (h : impl_ReadValue.f k l0_0 a1_0 a1_1 a1_2 a1_3 a1_4 a1_5 a1_6 l1_7 l1_8 a2 a3 = some (r1, r2)) :
    Calls Try.prog 51 #[.agg #[.slice A0_0 l0_0.length c0_0], .agg #[.int .i64 a1_0, .int .i64 a1_1, .int .i64 a1_2, .int .i64 a1_3, .int .i64 a1_4, .int .i64 a1_5, .int .i64 a1_6, .slice A1_7 l1_7.length c1_7, .slice A1_8 l1_8.length c1_8], .int .i64 a2, .int .i64 a3] w fun e w' => e = .returned (.tuple #[.int .i64 r1, .bool r2]) ∧ Below w.heap.size w w' := by
  have huS := Try.underlying32; have huT := Try.underlying50; have huW := Try.underlying87; have huV := Try.underlying27; have huM := Try.underlying84; unfold impl_ReadValue.f at h; obtain ⟨t, ht, h⟩ := Option.bind_eq_some_iff.mp h; have HT := Aside0.mk ht; have HR := Aside0.mk hr0_0; have HR7 := Aside0.mk hr1_7; have HR8 := Aside0.mk hr1_8; have HC0 := Aside0.mk hc0_0; have HC7 := Aside0.mk hc1_7; have HC8 := Aside0.mk hc1_8; have HB0 := Aside0.mk (below_alloc (below_alloc (Below.refl w.heap.size w) (.cells #[.slice A0_0 l0_0.length c0_0] 32)) (.cells #[.int .i64 a1_0, .int .i64 a1_1, .int .i64 a1_2, .int .i64 a1_3, .int .i64 a1_4, .int .i64 a1_5, .int .i64 a1_6, .slice A1_7 l1_7.length c1_7, .slice A1_8 l1_8.length c1_8] 50)); clear ht hr0_0 hr1_7 hr1_8 hc0_0 hc1_7 hc1_8
  cases t with
  | false =>
    rw [if_neg (by simp)] at h; have h := Option.some.inj h; simp only [Prod.mk.injEq] at h; obtain ⟨rfl, rfl⟩ := h
    go_enter Try.func51, Try.ntmps51
    go_upto_region 1 with fail
    have BS0 := Aside0.mk (blk_alloc (rl_box w (.cells #[.slice A0_0 l0_0.length c0_0] 32)) (.cells #[.int .i64 a1_0, .int .i64 a1_1, .int .i64 a1_2, .int .i64 a1_3, .int .i64 a1_4, .int .i64 a1_5, .int .i64 a1_6, .slice A1_7 l1_7.length c1_7, .slice A1_8 l1_8.length c1_8] 50)); have br := rl_box (w.alloc (.cells #[.slice A0_0 l0_0.length c0_0] 32)) (.cells #[.int .i64 a1_0, .int .i64 a1_1, .int .i64 a1_2, .int .i64 a1_3, .int .i64 a1_4, .int .i64 a1_5, .int .i64 a1_6, .slice A1_7 l1_7.length c1_7, .slice A1_8 l1_8.length c1_8] 50); rw [rl_size] at br; have BT0 := Aside0.mk br; clear br; generalize hW : (w.alloc (.cells #[.slice A0_0 l0_0.length c0_0] 32)).alloc (.cells #[.int .i64 a1_0, .int .i64 a1_1, .int .i64 a1_2, .int .i64 a1_3, .int .i64 a1_4, .int .i64 a1_5, .int .i64 a1_6, .slice A1_7 l1_7.length c1_7, .slice A1_8 l1_8.length c1_8] 50) = W0 at *; clear hW; have hS0 : W0.cell? ⟨w.heap.size, 0, none⟩ = some (.slice A0_0 l0_0.length c0_0) := (blk_cell BS0.out 0).trans rfl
    go_wp2_with (first | (go_at_call 57; (with_reducible refine (impl_IsValidStore.calls k _ _ l0_0 false _ ?s1 HC0.out HT.out).mono ?_); (case s1 => exact Kd.C_below HR.out HB0.out); rintro e w1 ⟨rfl, hb1⟩; have HB1 := Aside0.mk (below_step HB0.out hb1); have BS1 := Aside0.mk (blk_below BS0.out hb1); have BT1 := Aside0.mk (blk_below BT0.out hb1); clear hb1; have hTa_0 : w1.cell? ⟨w.heap.size + 1, 0, none⟩ = some (.int .i64 a1_0) := (blk_cell BT1.out 0).trans rfl; have hTa_1 : w1.cell? ⟨w.heap.size + 1, 1, none⟩ = some (.int .i64 a1_1) := (blk_cell BT1.out 1).trans rfl; have hTa_2 : w1.cell? ⟨w.heap.size + 1, 2, none⟩ = some (.int .i64 a1_2) := (blk_cell BT1.out 2).trans rfl; have hTa_3 : w1.cell? ⟨w.heap.size + 1, 3, none⟩ = some (.int .i64 a1_3) := (blk_cell BT1.out 3).trans rfl; have hTa_4 : w1.cell? ⟨w.heap.size + 1, 4, none⟩ = some (.int .i64 a1_4) := (blk_cell BT1.out 4).trans rfl; have hTa_5 : w1.cell? ⟨w.heap.size + 1, 5, none⟩ = some (.int .i64 a1_5) := (blk_cell BT1.out 5).trans rfl; have hTa_6 : w1.cell? ⟨w.heap.size + 1, 6, none⟩ = some (.int .i64 a1_6) := (blk_cell BT1.out 6).trans rfl; have hTa_7 : w1.cell? ⟨w.heap.size + 1, 7, none⟩ = some (.slice A1_7 l1_7.length c1_7) := (blk_cell BT1.out 7).trans rfl; have hTa_8 : w1.cell? ⟨w.heap.size + 1, 8, none⟩ = some (.slice A1_8 l1_8.length c1_8) := (blk_cell BT1.out 8).trans rfl))
    go_ret2
    exact ⟨rfl, HB1.out⟩
  | true =>
    rw [if_pos rfl] at h; obtain ⟨u, hu1, h⟩ := Option.bind_eq_some_iff.mp h; have HU := Aside0.mk hu1; clear hu1
    cases u with
    | false =>
      rw [if_neg (by simp)] at h; have h := Option.some.inj h; simp only [Prod.mk.injEq] at h; obtain ⟨rfl, rfl⟩ := h
      go_enter Try.func51, Try.ntmps51
      go_upto_region 1 with fail
      have BS0 := Aside0.mk (blk_alloc (rl_box w (.cells #[.slice A0_0 l0_0.length c0_0] 32)) (.cells #[.int .i64 a1_0, .int .i64 a1_1, .int .i64 a1_2, .int .i64 a1_3, .int .i64 a1_4, .int .i64 a1_5, .int .i64 a1_6, .slice A1_7 l1_7.length c1_7, .slice A1_8 l1_8.length c1_8] 50)); have br := rl_box (w.alloc (.cells #[.slice A0_0 l0_0.length c0_0] 32)) (.cells #[.int .i64 a1_0, .int .i64 a1_1, .int .i64 a1_2, .int .i64 a1_3, .int .i64 a1_4, .int .i64 a1_5, .int .i64 a1_6, .slice A1_7 l1_7.length c1_7, .slice A1_8 l1_8.length c1_8] 50); rw [rl_size] at br; have BT0 := Aside0.mk br; clear br; generalize hW : (w.alloc (.cells #[.slice A0_0 l0_0.length c0_0] 32)).alloc (.cells #[.int .i64 a1_0, .int .i64 a1_1, .int .i64 a1_2, .int .i64 a1_3, .int .i64 a1_4, .int .i64 a1_5, .int .i64 a1_6, .slice A1_7 l1_7.length c1_7, .slice A1_8 l1_8.length c1_8] 50) = W0 at *; clear hW; have hS0 : W0.cell? ⟨w.heap.size, 0, none⟩ = some (.slice A0_0 l0_0.length c0_0) := (blk_cell BS0.out 0).trans rfl
      go_wp2_with (first | (go_at_call 57; (with_reducible refine (impl_IsValidStore.calls k _ _ l0_0 true _ ?s1 HC0.out HT.out).mono ?_); (case s1 => exact Kd.C_below HR.out HB0.out); rintro e w1 ⟨rfl, hb1⟩; have HB1 := Aside0.mk (below_step HB0.out hb1); have BS1 := Aside0.mk (blk_below BS0.out hb1); have BT1 := Aside0.mk (blk_below BT0.out hb1); clear hb1; have hTa_0 : w1.cell? ⟨w.heap.size + 1, 0, none⟩ = some (.int .i64 a1_0) := (blk_cell BT1.out 0).trans rfl; have hTa_1 : w1.cell? ⟨w.heap.size + 1, 1, none⟩ = some (.int .i64 a1_1) := (blk_cell BT1.out 1).trans rfl; have hTa_2 : w1.cell? ⟨w.heap.size + 1, 2, none⟩ = some (.int .i64 a1_2) := (blk_cell BT1.out 2).trans rfl; have hTa_3 : w1.cell? ⟨w.heap.size + 1, 3, none⟩ = some (.int .i64 a1_3) := (blk_cell BT1.out 3).trans rfl; have hTa_4 : w1.cell? ⟨w.heap.size + 1, 4, none⟩ = some (.int .i64 a1_4) := (blk_cell BT1.out 4).trans rfl; have hTa_5 : w1.cell? ⟨w.heap.size + 1, 5, none⟩ = some (.int .i64 a1_5) := (blk_cell BT1.out 5).trans rfl; have hTa_6 : w1.cell? ⟨w.heap.size + 1, 6, none⟩ = some (.int .i64 a1_6) := (blk_cell BT1.out 6).trans rfl; have hTa_7 : w1.cell? ⟨w.heap.size + 1, 7, none⟩ = some (.slice A1_7 l1_7.length c1_7) := (blk_cell BT1.out 7).trans rfl; have hTa_8 : w1.cell? ⟨w.heap.size + 1, 8, none⟩ = some (.slice A1_8 l1_8.length c1_8) := (blk_cell BT1.out 8).trans rfl) | (go_at_call 28; (with_reducible refine (impl_IsValidTransaction.calls k a1_0 a1_1 a1_2 a1_3 a1_4 a1_5 a1_6 _ _ l1_7 _ _ l1_8 false _ ?s1 HC7.out ?s3 HC8.out HU.out).mono ?_); (case s1 => exact Kd.C_below HR7.out HB1.out); (case s3 => exact Kd.C_below HR8.out HB1.out); rintro e w2 ⟨rfl, hd⟩; have hb2 : Below w1.heap.size w1 w2 := (by first | exact hd | exact hd.below); have HB2 := Aside0.mk (below_step HB1.out hb2); have BS2 := Aside0.mk (blk_below BS1.out hb2); have BT2 := Aside0.mk (blk_below BT1.out hb2); clear hb2 hd; clear hTa_0 hTa_1 hTa_2 hTa_3 hTa_4 hTa_5 hTa_6 hTa_7 hTa_8))
      go_ret2
      exact ⟨rfl, HB2.out⟩
    | true =>
      rw [if_pos rfl] at h; obtain ⟨v, hv1, h⟩ := Option.bind_eq_some_iff.mp h; have HV := Aside0.mk hv1; clear hv1
      cases v with
      | false =>
        rw [if_neg (by simp)] at h; have h := Option.some.inj h; simp only [Prod.mk.injEq] at h; obtain ⟨rfl, rfl⟩ := h
        go_enter Try.func51, Try.ntmps51
        go_upto_region 1 with fail
        have BS0 := Aside0.mk (blk_alloc (rl_box w (.cells #[.slice A0_0 l0_0.length c0_0] 32)) (.cells #[.int .i64 a1_0, .int .i64 a1_1, .int .i64 a1_2, .int .i64 a1_3, .int .i64 a1_4, .int .i64 a1_5, .int .i64 a1_6, .slice A1_7 l1_7.length c1_7, .slice A1_8 l1_8.length c1_8] 50)); have br := rl_box (w.alloc (.cells #[.slice A0_0 l0_0.length c0_0] 32)) (.cells #[.int .i64 a1_0, .int .i64 a1_1, .int .i64 a1_2, .int .i64 a1_3, .int .i64 a1_4, .int .i64 a1_5, .int .i64 a1_6, .slice A1_7 l1_7.length c1_7, .slice A1_8 l1_8.length c1_8] 50); rw [rl_size] at br; have BT0 := Aside0.mk br; clear br; generalize hW : (w.alloc (.cells #[.slice A0_0 l0_0.length c0_0] 32)).alloc (.cells #[.int .i64 a1_0, .int .i64 a1_1, .int .i64 a1_2, .int .i64 a1_3, .int .i64 a1_4, .int .i64 a1_5, .int .i64 a1_6, .slice A1_7 l1_7.length c1_7, .slice A1_8 l1_8.length c1_8] 50) = W0 at *; clear hW; have hS0 : W0.cell? ⟨w.heap.size, 0, none⟩ = some (.slice A0_0 l0_0.length c0_0) := (blk_cell BS0.out 0).trans rfl
        go_wp2_with (first | (go_at_call 57; (with_reducible refine (impl_IsValidStore.calls k _ _ l0_0 true _ ?s1 HC0.out HT.out).mono ?_); (case s1 => exact Kd.C_below HR.out HB0.out); rintro e w1 ⟨rfl, hb1⟩; have HB1 := Aside0.mk (below_step HB0.out hb1); have BS1 := Aside0.mk (blk_below BS0.out hb1); have BT1 := Aside0.mk (blk_below BT0.out hb1); clear hb1; have hTa_0 : w1.cell? ⟨w.heap.size + 1, 0, none⟩ = some (.int .i64 a1_0) := (blk_cell BT1.out 0).trans rfl; have hTa_1 : w1.cell? ⟨w.heap.size + 1, 1, none⟩ = some (.int .i64 a1_1) := (blk_cell BT1.out 1).trans rfl; have hTa_2 : w1.cell? ⟨w.heap.size + 1, 2, none⟩ = some (.int .i64 a1_2) := (blk_cell BT1.out 2).trans rfl; have hTa_3 : w1.cell? ⟨w.heap.size + 1, 3, none⟩ = some (.int .i64 a1_3) := (blk_cell BT1.out 3).trans rfl; have hTa_4 : w1.cell? ⟨w.heap.size + 1, 4, none⟩ = some (.int .i64 a1_4) := (blk_cell BT1.out 4).trans rfl; have hTa_5 : w1.cell? ⟨w.heap.size + 1, 5, none⟩ = some (.int .i64 a1_5) := (blk_cell BT1.out 5).trans rfl; have hTa_6 : w1.cell? ⟨w.heap.size + 1, 6, none⟩ = some (.int .i64 a1_6) := (blk_cell BT1.out 6).trans rfl; have hTa_7 : w1.cell? ⟨w.heap.size + 1, 7, none⟩ = some (.slice A1_7 l1_7.length c1_7) := (blk_cell BT1.out 7).trans rfl; have hTa_8 : w1.cell? ⟨w.heap.size + 1, 8, none⟩ = some (.slice A1_8 l1_8.length c1_8) := (blk_cell BT1.out 8).trans rfl) | (go_at_call 28; (with_reducible refine (impl_IsValidTransaction.calls k a1_0 a1_1 a1_2 a1_3 a1_4 a1_5 a1_6 _ _ l1_7 _ _ l1_8 true _ ?s1 HC7.out ?s3 HC8.out HU.out).mono ?_); (case s1 => exact Kd.C_below HR7.out HB1.out); (case s3 => exact Kd.C_below HR8.out HB1.out); rintro e w2 ⟨rfl, hd⟩; have hb2 : Below w1.heap.size w1 w2 := (by first | exact hd | exact hd.below); have HB2 := Aside0.mk (below_step HB1.out hb2); have BS2 := Aside0.mk (blk_below BS1.out hb2); have BT2 := Aside0.mk (blk_below BT1.out hb2); clear hb2 hd; clear hTa_0 hTa_1 hTa_2 hTa_3 hTa_4 hTa_5 hTa_6 hTa_7 hTa_8) | (go_at_call 58; (with_reducible refine (impl_isKey.calls a2 false _ HV.out).mono ?_); rintro e w3 ⟨rfl, hd⟩; have hb3 : Below w2.heap.size w2 w3 := (by first | exact hd | exact hd.below); have HB3 := Aside0.mk (below_step HB2.out hb3); have BS3 := Aside0.mk (blk_below BS2.out hb3); have BT3 := Aside0.mk (blk_below BT2.out hb3); clear hb3 hd; have hTb_0 : w3.cell? ⟨w.heap.size + 1, 0, none⟩ = some (.int .i64 a1_0) := (blk_cell BT3.out 0).trans rfl; have hTb_1 : w3.cell? ⟨w.heap.size + 1, 1, none⟩ = some (.int .i64 a1_1) := (blk_cell BT3.out 1).trans rfl; have hTb_2 : w3.cell? ⟨w.heap.size + 1, 2, none⟩ = some (.int .i64 a1_2) := (blk_cell BT3.out 2).trans rfl; have hTb_3 : w3.cell? ⟨w.heap.size + 1, 3, none⟩ = some (.int .i64 a1_3) := (blk_cell BT3.out 3).trans rfl; have hTb_4 : w3.cell? ⟨w.heap.size + 1, 4, none⟩ = some (.int .i64 a1_4) := (blk_cell BT3.out 4).trans rfl; have hTb_5 : w3.cell? ⟨w.heap.size + 1, 5, none⟩ = some (.int .i64 a1_5) := (blk_cell BT3.out 5).trans rfl; have hTb_6 : w3.cell? ⟨w.heap.size + 1, 6, none⟩ = some (.int .i64 a1_6) := (blk_cell BT3.out 6).trans rfl; have hTb_7 : w3.cell? ⟨w.heap.size + 1, 7, none⟩ = some (.slice A1_7 l1_7.length c1_7) := (blk_cell BT3.out 7).trans rfl; have hTb_8 : w3.cell? ⟨w.heap.size + 1, 8, none⟩ = some (.slice A1_8 l1_8.length c1_8) := (blk_cell BT3.out 8).trans rfl))
        go_ret2
        exact ⟨rfl, HB3.out⟩
      | true =>
        rw [if_pos rfl] at h; unfold impl_ReadValue.g at h; obtain ⟨hi0, hi1⟩ := impl_ReadValue.bdw l1_8 a2 0; obtain ⟨i, hi⟩ : ∃ i, (impl_FindWrite.frm l1_8 a2 0) = i := ⟨_, rfl⟩; rw [hi] at h hi0 hi1; have HI := Aside0.mk (show impl_FindWrite.f a1_0 a1_1 a1_2 a1_3 a1_4 a1_5 a1_6 l1_7 l1_8 a2 = some i from congrArg some hi); clear hi
        by_cases hge : 0 ≤ i
        · rw [if_pos hge] at h; have h := Option.some.inj h; simp only [Prod.mk.injEq] at h; obtain ⟨rfl, rfl⟩ := h; obtain ⟨ad1, e1, hx1_0, hx1_1⟩ := at_T87 HR8.out i hge hi1
          cases e1
          have HX := Aside0.mk hx1_1; have g1 := decide_eq_true hge; have g2 := decide_eq_true hi1; have g3 : decide (i ≥ 0) = true := decide_eq_true hge; clear hx1_0 hx1_1 hi0; replace hge := eq_true hge; replace hi1 := eq_true hi1
          go_enter Try.func51, Try.ntmps51
          go_upto_region 1 with fail
          have BS0 := Aside0.mk (blk_alloc (rl_box w (.cells #[.slice A0_0 l0_0.length c0_0] 32)) (.cells #[.int .i64 a1_0, .int .i64 a1_1, .int .i64 a1_2, .int .i64 a1_3, .int .i64 a1_4, .int .i64 a1_5, .int .i64 a1_6, .slice A1_7 l1_7.length c1_7, .slice (some ad1) l1_8.length c1_8] 50)); have br := rl_box (w.alloc (.cells #[.slice A0_0 l0_0.length c0_0] 32)) (.cells #[.int .i64 a1_0, .int .i64 a1_1, .int .i64 a1_2, .int .i64 a1_3, .int .i64 a1_4, .int .i64 a1_5, .int .i64 a1_6, .slice A1_7 l1_7.length c1_7, .slice (some ad1) l1_8.length c1_8] 50); rw [rl_size] at br; have BT0 := Aside0.mk br; clear br; generalize hW : (w.alloc (.cells #[.slice A0_0 l0_0.length c0_0] 32)).alloc (.cells #[.int .i64 a1_0, .int .i64 a1_1, .int .i64 a1_2, .int .i64 a1_3, .int .i64 a1_4, .int .i64 a1_5, .int .i64 a1_6, .slice A1_7 l1_7.length c1_7, .slice (some ad1) l1_8.length c1_8] 50) = W0 at *; clear hW; have hS0 : W0.cell? ⟨w.heap.size, 0, none⟩ = some (.slice A0_0 l0_0.length c0_0) := (blk_cell BS0.out 0).trans rfl
          go_wp2_with (first | (go_at_call 57; (with_reducible refine (impl_IsValidStore.calls k _ _ l0_0 true _ ?s1 HC0.out HT.out).mono ?_); (case s1 => exact Kd.C_below HR.out HB0.out); rintro e w1 ⟨rfl, hb1⟩; have HB1 := Aside0.mk (below_step HB0.out hb1); have BS1 := Aside0.mk (blk_below BS0.out hb1); have BT1 := Aside0.mk (blk_below BT0.out hb1); clear hb1; have hTa_0 : w1.cell? ⟨w.heap.size + 1, 0, none⟩ = some (.int .i64 a1_0) := (blk_cell BT1.out 0).trans rfl; have hTa_1 : w1.cell? ⟨w.heap.size + 1, 1, none⟩ = some (.int .i64 a1_1) := (blk_cell BT1.out 1).trans rfl; have hTa_2 : w1.cell? ⟨w.heap.size + 1, 2, none⟩ = some (.int .i64 a1_2) := (blk_cell BT1.out 2).trans rfl; have hTa_3 : w1.cell? ⟨w.heap.size + 1, 3, none⟩ = some (.int .i64 a1_3) := (blk_cell BT1.out 3).trans rfl; have hTa_4 : w1.cell? ⟨w.heap.size + 1, 4, none⟩ = some (.int .i64 a1_4) := (blk_cell BT1.out 4).trans rfl; have hTa_5 : w1.cell? ⟨w.heap.size + 1, 5, none⟩ = some (.int .i64 a1_5) := (blk_cell BT1.out 5).trans rfl; have hTa_6 : w1.cell? ⟨w.heap.size + 1, 6, none⟩ = some (.int .i64 a1_6) := (blk_cell BT1.out 6).trans rfl; have hTa_7 : w1.cell? ⟨w.heap.size + 1, 7, none⟩ = some (.slice A1_7 l1_7.length c1_7) := (blk_cell BT1.out 7).trans rfl; have hTa_8 : w1.cell? ⟨w.heap.size + 1, 8, none⟩ = some (.slice (some ad1) l1_8.length c1_8) := (blk_cell BT1.out 8).trans rfl) | (go_at_call 28; (with_reducible refine (impl_IsValidTransaction.calls k a1_0 a1_1 a1_2 a1_3 a1_4 a1_5 a1_6 _ _ l1_7 _ _ l1_8 true _ ?s1 HC7.out ?s3 HC8.out HU.out).mono ?_); (case s1 => exact Kd.C_below HR7.out HB1.out); (case s3 => exact Kd.C_below HR8.out HB1.out); rintro e w2 ⟨rfl, hd⟩; have hb2 : Below w1.heap.size w1 w2 := (by first | exact hd | exact hd.below); have HB2 := Aside0.mk (below_step HB1.out hb2); have BS2 := Aside0.mk (blk_below BS1.out hb2); have BT2 := Aside0.mk (blk_below BT1.out hb2); clear hb2 hd; clear hTa_0 hTa_1 hTa_2 hTa_3 hTa_4 hTa_5 hTa_6 hTa_7 hTa_8) | (go_at_call 58; (with_reducible refine (impl_isKey.calls a2 true _ HV.out).mono ?_); rintro e w3 ⟨rfl, hd⟩; have hb3 : Below w2.heap.size w2 w3 := (by first | exact hd | exact hd.below); have HB3 := Aside0.mk (below_step HB2.out hb3); have BS3 := Aside0.mk (blk_below BS2.out hb3); have BT3 := Aside0.mk (blk_below BT2.out hb3); clear hb3 hd; have hTb_0 : w3.cell? ⟨w.heap.size + 1, 0, none⟩ = some (.int .i64 a1_0) := (blk_cell BT3.out 0).trans rfl; have hTb_1 : w3.cell? ⟨w.heap.size + 1, 1, none⟩ = some (.int .i64 a1_1) := (blk_cell BT3.out 1).trans rfl; have hTb_2 : w3.cell? ⟨w.heap.size + 1, 2, none⟩ = some (.int .i64 a1_2) := (blk_cell BT3.out 2).trans rfl; have hTb_3 : w3.cell? ⟨w.heap.size + 1, 3, none⟩ = some (.int .i64 a1_3) := (blk_cell BT3.out 3).trans rfl; have hTb_4 : w3.cell? ⟨w.heap.size + 1, 4, none⟩ = some (.int .i64 a1_4) := (blk_cell BT3.out 4).trans rfl; have hTb_5 : w3.cell? ⟨w.heap.size + 1, 5, none⟩ = some (.int .i64 a1_5) := (blk_cell BT3.out 5).trans rfl; have hTb_6 : w3.cell? ⟨w.heap.size + 1, 6, none⟩ = some (.int .i64 a1_6) := (blk_cell BT3.out 6).trans rfl; have hTb_7 : w3.cell? ⟨w.heap.size + 1, 7, none⟩ = some (.slice A1_7 l1_7.length c1_7) := (blk_cell BT3.out 7).trans rfl; have hTb_8 : w3.cell? ⟨w.heap.size + 1, 8, none⟩ = some (.slice (some ad1) l1_8.length c1_8) := (blk_cell BT3.out 8).trans rfl) | (go_at_call 86; (with_reducible refine (impl_FindWrite.calls a1_0 a1_1 a1_2 a1_3 a1_4 a1_5 a1_6 _ _ l1_7 _ _ l1_8 a2 i _ ?s1 HC7.out ?s3 HC8.out HI.out).mono ?_); (case s1 => exact Kd.C_below HR7.out HB3.out); (case s3 => exact Kd.C_below HR8.out HB3.out); rintro e w4 ⟨rfl, hb4⟩; have HB4 := Aside0.mk (below_step HB3.out hb4); have BS4 := Aside0.mk (blk_below BS3.out hb4); have BT4 := Aside0.mk (blk_below BT3.out hb4); clear hb4; clear hTb_0 hTb_1 hTb_2 hTb_3 hTb_4 hTb_5 hTb_6 hTb_7 hTb_8; have hT4 : w4.cell? ⟨w.heap.size + 1, 8, none⟩ = some (.slice (some ad1) l1_8.length c1_8) := (blk_cell BT4.out 8).trans rfl; have hx := (HB4.out.cell (World.block_lt_of_cell? w _ HX.out)).trans HX.out))
          go_ret2
          exact ⟨rfl, HB4.out⟩
        · rw [if_neg hge] at h; have g3 : decide (i ≥ 0) = false := decide_eq_false hge; have g1 := decide_eq_false hge; replace hge := eq_false hge; clear hi0 hi1
          by_cases hk : 0 ≤ a2 ∧ a2 < (l0_0.length : Int)
          · rw [if_pos hk] at h; have HK := Aside0.mk hk; clear hk
            by_cases hf : 0 ≤ (impl_FindVersion.frm (rd_L4 l0_0 a2) a3 0)
            · rw [if_pos hf] at h; have h := Option.some.inj h; simp only [Prod.mk.injEq] at h; obtain ⟨x, hx⟩ : ∃ x, rd_T27 (rd_L4 l0_0 a2) (impl_FindVersion.frm (rd_L4 l0_0 a2) a3 0) = x := ⟨_, rfl⟩; rw [hx] at h; obtain ⟨rfl, rfl⟩ := h; have HX := Aside0.mk hx; have HF := Aside0.mk hf; clear hx hf
              go_enter Try.func51, Try.ntmps51
              go_upto_region 1 with fail
              have BS0 := Aside0.mk (blk_alloc (rl_box w (.cells #[.slice A0_0 l0_0.length c0_0] 32)) (.cells #[.int .i64 a1_0, .int .i64 a1_1, .int .i64 a1_2, .int .i64 a1_3, .int .i64 a1_4, .int .i64 a1_5, .int .i64 a1_6, .slice A1_7 l1_7.length c1_7, .slice A1_8 l1_8.length c1_8] 50)); have br := rl_box (w.alloc (.cells #[.slice A0_0 l0_0.length c0_0] 32)) (.cells #[.int .i64 a1_0, .int .i64 a1_1, .int .i64 a1_2, .int .i64 a1_3, .int .i64 a1_4, .int .i64 a1_5, .int .i64 a1_6, .slice A1_7 l1_7.length c1_7, .slice A1_8 l1_8.length c1_8] 50); rw [rl_size] at br; have BT0 := Aside0.mk br; clear br; generalize hW : (w.alloc (.cells #[.slice A0_0 l0_0.length c0_0] 32)).alloc (.cells #[.int .i64 a1_0, .int .i64 a1_1, .int .i64 a1_2, .int .i64 a1_3, .int .i64 a1_4, .int .i64 a1_5, .int .i64 a1_6, .slice A1_7 l1_7.length c1_7, .slice A1_8 l1_8.length c1_8] 50) = W0 at *; clear hW; have hS0 : W0.cell? ⟨w.heap.size, 0, none⟩ = some (.slice A0_0 l0_0.length c0_0) := (blk_cell BS0.out 0).trans rfl
              go_wp2_with (first | (go_at_call 57; (with_reducible refine (impl_IsValidStore.calls k _ _ l0_0 true _ ?s1 HC0.out HT.out).mono ?_); (case s1 => exact Kd.C_below HR.out HB0.out); rintro e w1 ⟨rfl, hb1⟩; have HB1 := Aside0.mk (below_step HB0.out hb1); have BS1 := Aside0.mk (blk_below BS0.out hb1); have BT1 := Aside0.mk (blk_below BT0.out hb1); clear hb1; have hTa_0 : w1.cell? ⟨w.heap.size + 1, 0, none⟩ = some (.int .i64 a1_0) := (blk_cell BT1.out 0).trans rfl; have hTa_1 : w1.cell? ⟨w.heap.size + 1, 1, none⟩ = some (.int .i64 a1_1) := (blk_cell BT1.out 1).trans rfl; have hTa_2 : w1.cell? ⟨w.heap.size + 1, 2, none⟩ = some (.int .i64 a1_2) := (blk_cell BT1.out 2).trans rfl; have hTa_3 : w1.cell? ⟨w.heap.size + 1, 3, none⟩ = some (.int .i64 a1_3) := (blk_cell BT1.out 3).trans rfl; have hTa_4 : w1.cell? ⟨w.heap.size + 1, 4, none⟩ = some (.int .i64 a1_4) := (blk_cell BT1.out 4).trans rfl; have hTa_5 : w1.cell? ⟨w.heap.size + 1, 5, none⟩ = some (.int .i64 a1_5) := (blk_cell BT1.out 5).trans rfl; have hTa_6 : w1.cell? ⟨w.heap.size + 1, 6, none⟩ = some (.int .i64 a1_6) := (blk_cell BT1.out 6).trans rfl; have hTa_7 : w1.cell? ⟨w.heap.size + 1, 7, none⟩ = some (.slice A1_7 l1_7.length c1_7) := (blk_cell BT1.out 7).trans rfl; have hTa_8 : w1.cell? ⟨w.heap.size + 1, 8, none⟩ = some (.slice A1_8 l1_8.length c1_8) := (blk_cell BT1.out 8).trans rfl) | (go_at_call 28; (with_reducible refine (impl_IsValidTransaction.calls k a1_0 a1_1 a1_2 a1_3 a1_4 a1_5 a1_6 _ _ l1_7 _ _ l1_8 true _ ?s1 HC7.out ?s3 HC8.out HU.out).mono ?_); (case s1 => exact Kd.C_below HR7.out HB1.out); (case s3 => exact Kd.C_below HR8.out HB1.out); rintro e w2 ⟨rfl, hd⟩; have hb2 : Below w1.heap.size w1 w2 := (by first | exact hd | exact hd.below); have HB2 := Aside0.mk (below_step HB1.out hb2); have BS2 := Aside0.mk (blk_below BS1.out hb2); have BT2 := Aside0.mk (blk_below BT1.out hb2); clear hb2 hd; clear hTa_0 hTa_1 hTa_2 hTa_3 hTa_4 hTa_5 hTa_6 hTa_7 hTa_8) | (go_at_call 58; (with_reducible refine (impl_isKey.calls a2 true _ HV.out).mono ?_); rintro e w3 ⟨rfl, hd⟩; have hb3 : Below w2.heap.size w2 w3 := (by first | exact hd | exact hd.below); have HB3 := Aside0.mk (below_step HB2.out hb3); have BS3 := Aside0.mk (blk_below BS2.out hb3); have BT3 := Aside0.mk (blk_below BT2.out hb3); clear hb3 hd; have hTb_0 : w3.cell? ⟨w.heap.size + 1, 0, none⟩ = some (.int .i64 a1_0) := (blk_cell BT3.out 0).trans rfl; have hTb_1 : w3.cell? ⟨w.heap.size + 1, 1, none⟩ = some (.int .i64 a1_1) := (blk_cell BT3.out 1).trans rfl; have hTb_2 : w3.cell? ⟨w.heap.size + 1, 2, none⟩ = some (.int .i64 a1_2) := (blk_cell BT3.out 2).trans rfl; have hTb_3 : w3.cell? ⟨w.heap.size + 1, 3, none⟩ = some (.int .i64 a1_3) := (blk_cell BT3.out 3).trans rfl; have hTb_4 : w3.cell? ⟨w.heap.size + 1, 4, none⟩ = some (.int .i64 a1_4) := (blk_cell BT3.out 4).trans rfl; have hTb_5 : w3.cell? ⟨w.heap.size + 1, 5, none⟩ = some (.int .i64 a1_5) := (blk_cell BT3.out 5).trans rfl; have hTb_6 : w3.cell? ⟨w.heap.size + 1, 6, none⟩ = some (.int .i64 a1_6) := (blk_cell BT3.out 6).trans rfl; have hTb_7 : w3.cell? ⟨w.heap.size + 1, 7, none⟩ = some (.slice A1_7 l1_7.length c1_7) := (blk_cell BT3.out 7).trans rfl; have hTb_8 : w3.cell? ⟨w.heap.size + 1, 8, none⟩ = some (.slice A1_8 l1_8.length c1_8) := (blk_cell BT3.out 8).trans rfl) | (go_at_call 86; (with_reducible refine (impl_FindWrite.calls a1_0 a1_1 a1_2 a1_3 a1_4 a1_5 a1_6 _ _ l1_7 _ _ l1_8 a2 i _ ?s1 HC7.out ?s3 HC8.out HI.out).mono ?_); (case s1 => exact Kd.C_below HR7.out HB3.out); (case s3 => exact Kd.C_below HR8.out HB3.out); rintro e w4 ⟨rfl, hb4⟩; have HB4 := Aside0.mk (below_step HB3.out hb4); have BS4 := Aside0.mk (blk_below BS3.out hb4); have BT4 := Aside0.mk (blk_below BT3.out hb4); clear hb4; clear hTb_0 hTb_1 hTb_2 hTb_3 hTb_4 hTb_5 hTb_6 hTb_7 hTb_8; have hS4 : w4.cell? ⟨w.heap.size, 0, none⟩ = some (.slice A0_0 l0_0.length c0_0) := (blk_cell BS4.out 0).trans rfl) | (go_at_call 87; (with_reducible refine (impl_Store_find.told A0_0 c0_0 l0_0 a2 a3 _ ?s1 HK.out.1 HK.out.2).mono ?_); (case s1 => exact Kd.C_below HR.out HB4.out); rintro e w5 ⟨hb5, hd⟩; obtain ⟨hn, p, rfl, hp⟩ := hd.resolve_left (fun hn => absurd hn.1 (by have := HF.out; omega)); clear hd hn; rw [HX.out] at hp; obtain ⟨q0, q1, q2, q3, q4⟩ := hp; have HB5 := Aside0.mk (below_step HB4.out hb5); clear hb5))
              go_ret2
              exact ⟨rfl, HB5.out⟩
            · rw [if_neg hf] at h; have h := Option.some.inj h; simp only [Prod.mk.injEq] at h; obtain ⟨rfl, rfl⟩ := h; have HF := Aside0.mk hf; clear hf
              go_enter Try.func51, Try.ntmps51
              go_upto_region 1 with fail
              have BS0 := Aside0.mk (blk_alloc (rl_box w (.cells #[.slice A0_0 l0_0.length c0_0] 32)) (.cells #[.int .i64 a1_0, .int .i64 a1_1, .int .i64 a1_2, .int .i64 a1_3, .int .i64 a1_4, .int .i64 a1_5, .int .i64 a1_6, .slice A1_7 l1_7.length c1_7, .slice A1_8 l1_8.length c1_8] 50)); have br := rl_box (w.alloc (.cells #[.slice A0_0 l0_0.length c0_0] 32)) (.cells #[.int .i64 a1_0, .int .i64 a1_1, .int .i64 a1_2, .int .i64 a1_3, .int .i64 a1_4, .int .i64 a1_5, .int .i64 a1_6, .slice A1_7 l1_7.length c1_7, .slice A1_8 l1_8.length c1_8] 50); rw [rl_size] at br; have BT0 := Aside0.mk br; clear br; generalize hW : (w.alloc (.cells #[.slice A0_0 l0_0.length c0_0] 32)).alloc (.cells #[.int .i64 a1_0, .int .i64 a1_1, .int .i64 a1_2, .int .i64 a1_3, .int .i64 a1_4, .int .i64 a1_5, .int .i64 a1_6, .slice A1_7 l1_7.length c1_7, .slice A1_8 l1_8.length c1_8] 50) = W0 at *; clear hW; have hS0 : W0.cell? ⟨w.heap.size, 0, none⟩ = some (.slice A0_0 l0_0.length c0_0) := (blk_cell BS0.out 0).trans rfl
              go_wp2_with (first | (go_at_call 57; (with_reducible refine (impl_IsValidStore.calls k _ _ l0_0 true _ ?s1 HC0.out HT.out).mono ?_); (case s1 => exact Kd.C_below HR.out HB0.out); rintro e w1 ⟨rfl, hb1⟩; have HB1 := Aside0.mk (below_step HB0.out hb1); have BS1 := Aside0.mk (blk_below BS0.out hb1); have BT1 := Aside0.mk (blk_below BT0.out hb1); clear hb1; have hTa_0 : w1.cell? ⟨w.heap.size + 1, 0, none⟩ = some (.int .i64 a1_0) := (blk_cell BT1.out 0).trans rfl; have hTa_1 : w1.cell? ⟨w.heap.size + 1, 1, none⟩ = some (.int .i64 a1_1) := (blk_cell BT1.out 1).trans rfl; have hTa_2 : w1.cell? ⟨w.heap.size + 1, 2, none⟩ = some (.int .i64 a1_2) := (blk_cell BT1.out 2).trans rfl; have hTa_3 : w1.cell? ⟨w.heap.size + 1, 3, none⟩ = some (.int .i64 a1_3) := (blk_cell BT1.out 3).trans rfl; have hTa_4 : w1.cell? ⟨w.heap.size + 1, 4, none⟩ = some (.int .i64 a1_4) := (blk_cell BT1.out 4).trans rfl; have hTa_5 : w1.cell? ⟨w.heap.size + 1, 5, none⟩ = some (.int .i64 a1_5) := (blk_cell BT1.out 5).trans rfl; have hTa_6 : w1.cell? ⟨w.heap.size + 1, 6, none⟩ = some (.int .i64 a1_6) := (blk_cell BT1.out 6).trans rfl; have hTa_7 : w1.cell? ⟨w.heap.size + 1, 7, none⟩ = some (.slice A1_7 l1_7.length c1_7) := (blk_cell BT1.out 7).trans rfl; have hTa_8 : w1.cell? ⟨w.heap.size + 1, 8, none⟩ = some (.slice A1_8 l1_8.length c1_8) := (blk_cell BT1.out 8).trans rfl) | (go_at_call 28; (with_reducible refine (impl_IsValidTransaction.calls k a1_0 a1_1 a1_2 a1_3 a1_4 a1_5 a1_6 _ _ l1_7 _ _ l1_8 true _ ?s1 HC7.out ?s3 HC8.out HU.out).mono ?_); (case s1 => exact Kd.C_below HR7.out HB1.out); (case s3 => exact Kd.C_below HR8.out HB1.out); rintro e w2 ⟨rfl, hd⟩; have hb2 : Below w1.heap.size w1 w2 := (by first | exact hd | exact hd.below); have HB2 := Aside0.mk (below_step HB1.out hb2); have BS2 := Aside0.mk (blk_below BS1.out hb2); have BT2 := Aside0.mk (blk_below BT1.out hb2); clear hb2 hd; clear hTa_0 hTa_1 hTa_2 hTa_3 hTa_4 hTa_5 hTa_6 hTa_7 hTa_8) | (go_at_call 58; (with_reducible refine (impl_isKey.calls a2 true _ HV.out).mono ?_); rintro e w3 ⟨rfl, hd⟩; have hb3 : Below w2.heap.size w2 w3 := (by first | exact hd | exact hd.below); have HB3 := Aside0.mk (below_step HB2.out hb3); have BS3 := Aside0.mk (blk_below BS2.out hb3); have BT3 := Aside0.mk (blk_below BT2.out hb3); clear hb3 hd; have hTb_0 : w3.cell? ⟨w.heap.size + 1, 0, none⟩ = some (.int .i64 a1_0) := (blk_cell BT3.out 0).trans rfl; have hTb_1 : w3.cell? ⟨w.heap.size + 1, 1, none⟩ = some (.int .i64 a1_1) := (blk_cell BT3.out 1).trans rfl; have hTb_2 : w3.cell? ⟨w.heap.size + 1, 2, none⟩ = some (.int .i64 a1_2) := (blk_cell BT3.out 2).trans rfl; have hTb_3 : w3.cell? ⟨w.heap.size + 1, 3, none⟩ = some (.int .i64 a1_3) := (blk_cell BT3.out 3).trans rfl; have hTb_4 : w3.cell? ⟨w.heap.size + 1, 4, none⟩ = some (.int .i64 a1_4) := (blk_cell BT3.out 4).trans rfl; have hTb_5 : w3.cell? ⟨w.heap.size + 1, 5, none⟩ = some (.int .i64 a1_5) := (blk_cell BT3.out 5).trans rfl; have hTb_6 : w3.cell? ⟨w.heap.size + 1, 6, none⟩ = some (.int .i64 a1_6) := (blk_cell BT3.out 6).trans rfl; have hTb_7 : w3.cell? ⟨w.heap.size + 1, 7, none⟩ = some (.slice A1_7 l1_7.length c1_7) := (blk_cell BT3.out 7).trans rfl; have hTb_8 : w3.cell? ⟨w.heap.size + 1, 8, none⟩ = some (.slice A1_8 l1_8.length c1_8) := (blk_cell BT3.out 8).trans rfl) | (go_at_call 86; (with_reducible refine (impl_FindWrite.calls a1_0 a1_1 a1_2 a1_3 a1_4 a1_5 a1_6 _ _ l1_7 _ _ l1_8 a2 i _ ?s1 HC7.out ?s3 HC8.out HI.out).mono ?_); (case s1 => exact Kd.C_below HR7.out HB3.out); (case s3 => exact Kd.C_below HR8.out HB3.out); rintro e w4 ⟨rfl, hb4⟩; have HB4 := Aside0.mk (below_step HB3.out hb4); have BS4 := Aside0.mk (blk_below BS3.out hb4); have BT4 := Aside0.mk (blk_below BT3.out hb4); clear hb4; clear hTb_0 hTb_1 hTb_2 hTb_3 hTb_4 hTb_5 hTb_6 hTb_7 hTb_8; have hS4 : w4.cell? ⟨w.heap.size, 0, none⟩ = some (.slice A0_0 l0_0.length c0_0) := (blk_cell BS4.out 0).trans rfl) | (go_at_call 87; (with_reducible refine (impl_Store_find.told A0_0 c0_0 l0_0 a2 a3 _ ?s1 HK.out.1 HK.out.2).mono ?_); (case s1 => exact Kd.C_below HR.out HB4.out); rintro e w5 ⟨hb5, hd⟩; obtain ⟨hn, rfl⟩ := hd.resolve_right (fun hn => absurd hn.1 (by have := HF.out; omega)); clear hd hn; have HB5 := Aside0.mk (below_step HB4.out hb5); clear hb5))
              go_ret2
              exact ⟨rfl, HB5.out⟩
          · rw [if_neg hk] at h
            cases h


end Go.Proofs.Ytlnglooomeliiaa.PFnExactReadValue
