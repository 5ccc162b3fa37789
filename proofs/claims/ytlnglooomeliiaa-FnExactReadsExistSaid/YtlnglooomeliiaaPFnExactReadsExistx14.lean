-- Printed by my own myprint.py out of the translation of the seat Ytlnglooomeliiaa. Not trusted: Lean checks it.
import Derived.Test.YtlnglooomeliiaaPFnExactReadsExistx0
import Derived.Test.YtlnglooomeliiaaPFnExactReadsExistx11
import Derived.Test.YtlnglooomeliiaaPFnExactReadsExistx13
namespace Go.Proofs.Ytlnglooomeliiaa.PFnExactReadsExist
open Go.RowKit Go.Proofs.YtlnglooomeliiaaW.PrintWords Go.Proofs.YtlnglooomeliiaaW.PrintLast Go.Proofs.YtlnglooomeliiaaW.PrintMore
attribute [local go_sem] max2_int min2_int max_two min_two max_three min_three max_four min_four   -- for this text's walks alone
set_option linter.unusedVariables false
set_option linter.unusedSimpArgs false

/-! ### impl_IsValidStore_1: function 92 -/
def impl_IsValidStore_1.f (k : Nat) (l0 : List (S27)) : Option (Bool) := (impl_IsValidChain.f k l0).bind fun t285 => (if t285 = true then (some (decide ((l0.length : Int) > 50))) else (some true))
theorem impl_IsValidStore_1.mono : ∀ a0 k, LeO (impl_IsValidStore_1.f k a0) (impl_IsValidStore_1.f (k + 1) a0) := by
  intro a0 k; unfold impl_IsValidStore_1.f
  repeat' first
      | (with_reducible exact impl_IsValidChain.mono _ _)
      | (with_reducible exact LeO.refl _)
      | (with_reducible exact LeO.none _)
      | (with_reducible refine LeO.ite ?_ ?_)
      | (with_reducible refine LeO.bind ?_ (fun _ => ?_))
      | exact impl_IsValidChain.mono _ _
      | exact LeO.none _
      | refine LeO.ite ?_ ?_
      | refine LeO.bind ?_ (fun _ => ?_)
set_option maxHeartbeats 8000000 in
set_option maxRecDepth 100000 in
theorem impl_IsValidStore_1.calls (k : Nat) (A0 : Option Addr) (c0 : Nat) (l0 : List (S27)) (r : Bool) (w : World) (hr0 : Kd.C k27 w A0 l0.length l0) (hc0 : l0.length ≤ c0) (h : impl_IsValidStore_1.f k l0 = some r) :
    Calls Try.prog 92 #[.slice A0 l0.length c0] w fun e w' => e = .returned (.bool r) ∧ Below w.heap.size w w' := by
  have HR0 := Aside0.mk hr0; have HC0 := Aside0.mk hc0; clear hr0 hc0; have HB := Aside0.mk (Below.refl w.heap.size w); have H : ((impl_IsValidChain.f k l0).bind fun t285 => (if t285 = true then (some (decide ((l0.length : Int) > 50))) else (some true))) = some r := h; clear h; replace H := Option.bind_eq_some_iff.mp H; obtain ⟨t285, A20, H⟩ := H; replace H : (if t285 = true then (some (decide ((l0.length : Int) > 50))) else (some true)) = some r := H; have A2 := Aside0.mk A20; clear A20
  by_cases c3 : t285 = true
  · subst c3; (have H1 : (some (decide ((l0.length : Int) > 50))) = some r := by rw [if_pos rfl] at H; exact H); clear H; have H := H1; clear H1; obtain rfl := Option.some.inj H
    go_enter Try.func92, Try.ntmps92
    go_wp2_with (first | ((with_reducible refine gate_callee (f := 93) rfl ?_); refine goesL_ (some 4) rfl rfl Try.func93 (by kernel_rfl) rfl #[.slice A0 l0.length c0] rfl mp_ ?_; (with_reducible refine (impl_IsValidChain.calls k _ _ l0 true _ ?side1 ?side2 A2.out).mono ?_); (case side1 => repeat (first | exact HR0.out | (with_reducible refine Kd.C_alloc ?_ _) | (with_reducible refine Kd.C_drewN ?_ _) | (with_reducible refine Kd.C_drew ?_))); (case side2 => exact HC0.out); rintro e w4 ⟨rfl, hb⟩; refine ⟨_, rfl, ?_⟩; have n0_ := Aside0.mk (below_step (hq0_ HB.out) hb); clear HB; have HB := n0_; clear n0_; (try clear hb); (try clear hb2); (try clear hk); (try clear hi)))
    go_ret; exact ⟨by first | rfl | (simp [errW_none, errW_some] <;> rfl) | (simp [*, errW_none, errW_some] <;> rfl), hq0_ HB.out⟩
  · replace c3 := Bool.eq_false_iff.mpr c3; subst c3; (have H1 : (some true) = some r := by rw [if_neg (show ¬ (false = true) by decide)] at H; exact H); clear H; have H := H1; clear H1; obtain rfl := Option.some.inj H
    go_enter Try.func92, Try.ntmps92
    go_wp2_with (first | ((with_reducible refine gate_callee (f := 93) rfl ?_); refine goesL_ (some 4) rfl rfl Try.func93 (by kernel_rfl) rfl #[.slice A0 l0.length c0] rfl mp_ ?_; (with_reducible refine (impl_IsValidChain.calls k _ _ l0 false _ ?side1 ?side2 A2.out).mono ?_); (case side1 => repeat (first | exact HR0.out | (with_reducible refine Kd.C_alloc ?_ _) | (with_reducible refine Kd.C_drewN ?_ _) | (with_reducible refine Kd.C_drew ?_))); (case side2 => exact HC0.out); rintro e w5 ⟨rfl, hb⟩; refine ⟨_, rfl, ?_⟩; have n0_ := Aside0.mk (below_step (hq0_ HB.out) hb); clear HB; have HB := n0_; clear n0_; (try clear hb); (try clear hb2); (try clear hk); (try clear hi)))
    go_ret; exact ⟨by first | rfl | (simp [errW_none, errW_some] <;> rfl) | (simp [*, errW_none, errW_some] <;> rfl), hq0_ HB.out⟩

/-! ### impl_IsValidStore: function 57 -/
-- FLAGS ROUNDS
/-- Is there a chain that is not right? -/
def impl_IsValidStore.any (k : Nat) : List (List S27) → Option Bool
  | [] => some false
  | x :: l => (impl_IsValidStore_1.f k x).bind fun b => if b = true then some true else impl_IsValidStore.any k l
def impl_IsValidStore.f (k : Nat) (l0_0 : List (List S27)) : Option Bool := if l0_0.length = 6 then (impl_IsValidStore.any k l0_0).bind (fun t => some (!t)) else some false
theorem impl_IsValidStore.mono_any (k : Nat) : ∀ l, LeO (impl_IsValidStore.any k l) (impl_IsValidStore.any (k + 1) l)
  | [] => LeO.refl _
  | x :: l => by
    unfold impl_IsValidStore.any; exact LeO.bind (impl_IsValidStore_1.mono _ _) (fun _ => LeO.ite (LeO.refl _) (impl_IsValidStore.mono_any k l))
theorem impl_IsValidStore.mono : ∀ a0 k, LeO (impl_IsValidStore.f k a0) (impl_IsValidStore.f (k + 1) a0) := by
  intro a0 k; unfold impl_IsValidStore.f; exact LeO.ite (LeO.bind (impl_IsValidStore.mono_any k a0) (fun _ => LeO.refl _)) (LeO.refl _)
/-- The index that the search gives says whether there is one. -/
def impl_IsValidStore.Post (r : Bool) (w : World) (e : Ending) (w' : World) : Prop := ∃ m : Int, e = .returned (.int .i64 m) ∧ decide (m ≥ 0) = r ∧ Below w.heap.size w w'
set_option maxHeartbeats 2000000 in
set_option maxRecDepth 100000 in
theorem impl_IsValidStore.idx (k : Nat) (A0 : Option Addr) (c0 : Nat) (l0 : List (List S27)) (r : Bool) (w : World) (hr0 : Kd.C (Kd.slice 27 k27) w A0 l0.length l0) (hc0 : l0.length ≤ c0) (h : impl_IsValidStore.any k l0 = some r) :
    Calls Try.prog 109 #[.slice A0 l0.length c0, .func (.func 92) #[] #[]] w (impl_IsValidStore.Post r w) := by
  have hlen := hr0.2.1; have HR0 := Aside0.mk hr0; have HF0 := Aside0.mk h; clear hr0 h
  go_enter Try.func109, Try.ntmps109
  go_wp2
  go_loopg [8] l0.length (fun kq v8 w' => ∃ (i : Nat), v8 = .int .i64 (i : Int) ∧ i ≤ l0.length ∧ Aside0 (impl_IsValidStore.any k (l0.drop i) = some r) ∧ Aside0 (kq + i = l0.length) ∧ Aside0 (Below w.heap.size w w'))
  case atStart => exact ⟨0, rfl, Nat.zero_le _, ⟨by rw [List.drop_zero]; exact HF0.out⟩, ⟨by omega⟩, ⟨Below.refl _ _⟩⟩
  case round =>
    clear HF0; obtain ⟨i, rfl, hi, HF, HK, HB⟩ := hrel
    by_cases hlt : i < l0.length
    · obtain ⟨k1, rfl⟩ : ∃ m, gk = m + 1 := ⟨gk - 1, by have := HK.out; omega⟩; obtain ⟨ad, A1, c1, e_, hx, hl1, hi1⟩ := at_L4 HR0.out (i : Int) (by omega) (by omega)
      cases e_
      replace hx := bl_ HB.out hx; simp only [Int.toNat_natCast] at hx
      have hd : l0.drop i = rd_L4 l0 (i : Int) :: l0.drop (i + 1) := by
        rw [List.drop_eq_getElem_cons hlt]; unfold rd_L4; rw [Int.toNat_natCast, List.getD_eq_getElem?_getD, List.getElem?_eq_getElem hlt]; rfl
      have hf := HF.out; rw [hd] at hf; unfold impl_IsValidStore.any at hf; obtain ⟨b, hb, hf⟩ := Option.bind_eq_some_iff.mp hf; have HBB := Aside0.mk hb; have HI1 := Aside0.mk hi1; have HL1 := Aside0.mk hl1; clear hd hb HF hi1 hl1
      cases b with
      | true =>
        rw [if_pos rfl] at hf; have HF := Aside0.mk (Option.some.inj hf); clear hf
        go_wp2_with (go_at_call 92; (with_reducible refine (impl_IsValidStore_1.calls k _ _ (rd_L4 l0 (i : Int)) true _ ?s1 ?s2 HBB.out).mono ?_); (case s1 => exact Kd.C_below HI1.out HB.out); (case s2 => exact HL1.out); rintro e w1 ⟨rfl, hb1⟩; have HB2 := Aside0.mk (below_step HB.out hb1); clear hb1)
        go_ret; exact ⟨(i : Int), rfl, by rw [← HF.out]; exact decide_eq_true (by omega), HB2.out⟩
      | false =>
        rw [if_neg (by decide)] at hf; have HF := Aside0.mk hf; clear hf
        go_wp2_with (go_at_call 92; (with_reducible refine (impl_IsValidStore_1.calls k _ _ (rd_L4 l0 (i : Int)) false _ ?s1 ?s2 HBB.out).mono ?_); (case s1 => exact Kd.C_below HI1.out HB.out); (case s2 => exact HL1.out); rintro e w1 ⟨rfl, hb1⟩; have HB2 := Aside0.mk (below_step HB.out hb1); clear hb1)
        go_roundg k1
        case measure => have := HK.out; omega
        case rel => exact ⟨i + 1, by go_num, by omega, HF, ⟨by have := HK.out; omega⟩, HB2⟩
    · have hf := HF.out; rw [List.drop_eq_nil_of_le (by omega)] at hf; have HF2 := Aside0.mk (Option.some.inj hf); clear hf
      go_wp2
      go_ret; exact ⟨-1, rfl, by rw [← HF2.out]; decide, HB.out⟩
set_option maxHeartbeats 2000000 in
set_option maxRecDepth 100000 in
theorem impl_IsValidStore.con (k : Nat) (A0 : Option Addr) (c0 : Nat) (l0 : List (List S27)) (r : Bool) (w : World) (hr0 : Kd.C (Kd.slice 27 k27) w A0 l0.length l0) (hc0 : l0.length ≤ c0) (h : impl_IsValidStore.any k l0 = some r) :
    Calls Try.prog 91 #[.slice A0 l0.length c0, .func (.func 92) #[] #[]] w fun e w' => e = .returned (.bool r) ∧ Below w.heap.size w w' := by
  have HR0 := Aside0.mk hr0; have HF0 := Aside0.mk h; clear hr0 h
  go_enter Try.func91, Try.ntmps91
  go_wp2_with (go_at_call 109; (with_reducible refine (impl_IsValidStore.idx k A0 c0 l0 r _ HR0.out hc0 HF0.out).mono ?_); rintro e w1 ⟨m, rfl, hm, hb1⟩; have HM := Aside0.mk hm; have HB2 := Aside0.mk hb1; clear hb1 hm)
  go_ret; exact ⟨by rw [← HM.out]; rfl, HB2.out⟩
set_option maxHeartbeats 2000000 in
set_option maxRecDepth 100000 in
theorem impl_IsValidStore.calls (k : Nat) (A0_0 : Option Addr) (c0_0 : Nat) (l0_0 : List (List S27)) (r : Bool) (w : World) (hr0_0 : Kd.C (Kd.slice 27 k27) w A0_0 l0_0.length l0_0) (hc0_0 : l0_0.length ≤ c0_0) (h : impl_IsValidStore.f k l0_0 = some r) :
    Calls Try.prog 57 #[.agg #[.slice A0_0 l0_0.length c0_0]] w fun e w' => e = .returned (.bool r) ∧ Below w.heap.size w w' := by
  have hu := Try.underlying32; have HR0 := Aside0.mk hr0_0; clear hr0_0; unfold impl_IsValidStore.f at h
  by_cases h6 : l0_0.length = 6
  · rw [if_pos h6] at h; obtain ⟨t, ht, hq⟩ := Option.bind_eq_some_iff.mp h; obtain rfl := Option.some.inj hq; have HT := Aside0.mk ht; (have hg : ((l0_0.length : Int) == 6) = true := by rw [beq_iff_eq]; omega); clear h h6 ht hq
    go_enter Try.func57, Try.ntmps57
    go_wp2_with (go_at_call 91; (with_reducible refine (impl_IsValidStore.con k A0_0 c0_0 l0_0 t _ ?s1 hc0_0 HT.out).mono ?_); (case s1 => exact Kd.C_alloc HR0.out _); rintro e w1 ⟨rfl, hb1⟩; have HB2 := Aside0.mk (below_step (below_alloc (Below.refl _ _) _) hb1); clear hb1)
    go_ret; exact ⟨rfl, HB2.out⟩
  · rw [if_neg h6] at h; obtain rfl := Option.some.inj h; (have hg : ((l0_0.length : Int) == 6) = false := by rw [beq_eq_false_iff_ne]; omega); clear h h6
    go_enter Try.func57, Try.ntmps57
    go_wp2
    go_ret; exact ⟨rfl, below_alloc (Below.refl _ _) _⟩


-- NOT PRINTED: function 113 (impl_ReadMark_113)

-- NOT PRINTED: function 102 (impl_ReadMark_102)

-- NOT PRINTED: function 114 (impl_Version_114)

-- NOT PRINTED: function 115 (impl_FindVersion_1)

/-! ### impl_FindVersion: function 106 -/
/-- What is found from place i on. -/
def impl_FindVersion.frm (l : List S27) (c : Int) (i : Nat) : Int := match (List.range' i (l.length - i)).find? (fun j => decide ((l.getD j z27).f2 = c)) with | some j => (j : Int) | none => -1
theorem impl_FindVersion.frm_end (l : List S27) (c : Int) (i : Nat) (h : ¬ i < l.length) : impl_FindVersion.frm l c i = -1 := by
  unfold impl_FindVersion.frm; rw [show l.length - i = 0 by omega]; rfl
theorem impl_FindVersion.frm_hit (l : List S27) (c : Int) (i : Nat) (h : i < l.length) (hp : (l.getD i z27).f2 = c) : impl_FindVersion.frm l c i = i := by
  unfold impl_FindVersion.frm; rw [show l.length - i = (l.length - i - 1) + 1 by omega, List.range'_succ, List.find?_cons, decide_eq_true hp]
theorem impl_FindVersion.frm_miss (l : List S27) (c : Int) (i : Nat) (h : i < l.length) (hp : ¬ (l.getD i z27).f2 = c) : impl_FindVersion.frm l c i = impl_FindVersion.frm l c (i + 1) := by
  unfold impl_FindVersion.frm; rw [show l.length - i = (l.length - (i + 1)) + 1 by omega, List.range'_succ, List.find?_cons, decide_eq_false hp]
set_option maxHeartbeats 1000000 in
set_option maxRecDepth 100000 in
theorem impl_FindVersion.clo (v : S27) (g : Nat) (c : Int) (w : World) (hg : w.cell? ⟨g, 0, none⟩ = some (.int .i64 c)) (hl : g < w.heap.size) :
    Calls Try.prog 115 #[.agg #[.int .i64 v.f0, .int .i64 v.f1, .int .i64 v.f2, .int .i64 v.f3, .int .i64 v.f4], .pointer (some ⟨g, 0, none⟩)] w fun e w' => e = .returned (.bool (v.f2 == c)) ∧ Below w.heap.size w w' := by
  have hu := Try.underlying27; (have hg' : ∀ o, (w.alloc o).cell? ⟨g, 0, none⟩ = some (.int .i64 c) := fun o => (World.cell?_alloc_lt _ _ _ hl).trans hg)
  go_enter Try.func115, Try.ntmps115
  go_wp2
  go_ret; exact ⟨rfl, below_alloc (Below.refl _ _) _⟩
set_option maxHeartbeats 2000000 in
set_option maxRecDepth 100000 in
theorem impl_FindVersion.idx (g : Nat) (c : Int) (A0 : Option Addr) (c0 : Nat) (l0 : List S27) (w : World) (hr0 : Kd.C k27 w A0 l0.length l0) (hc0 : l0.length ≤ c0) (hg : w.cell? ⟨g, 0, none⟩ = some (.int .i64 c)) :
    Calls Try.prog 114 #[.slice A0 l0.length c0, .func (.func 115) #[] #[.pointer (some ⟨g, 0, none⟩)]] w fun e w' => e = .returned (.int .i64 (impl_FindVersion.frm l0 c 0)) ∧ Below w.heap.size w w' := by
  have hu := Try.underlying27; have hlen := hr0.2.1; have HR0 := Aside0.mk hr0; have HG := Aside0.mk hg; clear hr0 hg; obtain ⟨r, hr⟩ : ∃ r, r = impl_FindVersion.frm l0 c 0 := ⟨_, rfl⟩; rw [← hr]; have HF := Aside0.mk hr.symm; clear hr
  go_enter Try.func114, Try.ntmps114
  go_wp2
  go_loopg [8] l0.length (fun kq v8 w' => ∃ (i : Nat), v8 = .int .i64 (i : Int) ∧ i ≤ l0.length ∧ Aside0 (impl_FindVersion.frm l0 c i = r) ∧ Aside0 (kq + i = l0.length) ∧ Aside0 (Below w.heap.size w w'))
  case atStart => exact ⟨0, rfl, Nat.zero_le _, HF, ⟨by omega⟩, ⟨Below.refl _ _⟩⟩
  case round =>
    clear HF; obtain ⟨i, rfl, hi, HF, HK, HB⟩ := hrel
    by_cases hlt : i < l0.length
    · obtain ⟨k1, rfl⟩ : ∃ m, gk = m + 1 := ⟨gk - 1, by have := HK.out; omega⟩; obtain ⟨ad, e_, hx0, hx1, hx2, hx3, hx4⟩ := at_T27 HR0.out (i : Int) (by omega) (by omega)
      cases e_
      replace hx0 := bl_ HB.out hx0; replace hx1 := bl_ HB.out hx1; replace hx2 := bl_ HB.out hx2; replace hx3 := bl_ HB.out hx3; replace hx4 := bl_ HB.out hx4; simp only [Int.toNat_natCast] at hx0 hx1 hx2 hx3 hx4; (have hv : rd_T27 l0 (i : Int) = l0.getD i z27 := by unfold rd_T27; rw [Int.toNat_natCast]); have HV := Aside0.mk hv; clear hv
      by_cases hp : (l0.getD i z27).f2 = c
      · (have hb : ((rd_T27 l0 (i : Int)).f2 == c) = true := by rw [HV.out]; exact beq_iff_eq.2 hp); have HP := Aside0.mk hp; clear hp
        go_wp2_with (go_at_call 115; (with_reducible refine (impl_FindVersion.clo (rd_T27 l0 (i : Int)) g c _ ?s1 ?s2).mono ?_); (case s1 => exact (HB.out.cell (World.block_lt_of_cell? w _ HG.out)).trans HG.out); (case s2 => exact Nat.lt_of_lt_of_le (World.block_lt_of_cell? w _ HG.out) HB.out.size); rintro e w1 ⟨rfl, hb1⟩; have HB2 := Aside0.mk (below_step HB.out hb1); clear hb1)
        go_ret; exact ⟨by rw [← HF.out, impl_FindVersion.frm_hit _ _ _ hlt HP.out]; rfl, HB2.out⟩
      · (have hb : ((rd_T27 l0 (i : Int)).f2 == c) = false := by rw [HV.out]; exact beq_eq_false_iff_ne.2 hp); have HP := Aside0.mk hp; clear hp
        go_wp2_with (go_at_call 115; (with_reducible refine (impl_FindVersion.clo (rd_T27 l0 (i : Int)) g c _ ?s1 ?s2).mono ?_); (case s1 => exact (HB.out.cell (World.block_lt_of_cell? w _ HG.out)).trans HG.out); (case s2 => exact Nat.lt_of_lt_of_le (World.block_lt_of_cell? w _ HG.out) HB.out.size); rintro e w1 ⟨rfl, hb1⟩; have HB2 := Aside0.mk (below_step HB.out hb1); clear hb1)
        go_roundg k1
        case measure => have := HK.out; omega
        case rel => exact ⟨i + 1, by go_num, by omega, ⟨by rw [← HF.out, impl_FindVersion.frm_miss _ _ _ hlt HP.out]⟩, ⟨by have := HK.out; omega⟩, HB2⟩
    · go_wp2
      go_ret; exact ⟨by rw [← HF.out, impl_FindVersion.frm_end _ _ _ hlt]; rfl, HB.out⟩
def impl_FindVersion.f (l0 : List S27) (a1 : Int) : Option Int := some (impl_FindVersion.frm l0 a1 0)
set_option maxHeartbeats 2000000 in
set_option maxRecDepth 100000 in
theorem impl_FindVersion.calls (A0 : Option Addr) (c0 : Nat) (l0 : List S27) (a1 : Int) (r : Int) (w : World) (hr0 : Kd.C k27 w A0 l0.length l0) (hc0 : l0.length ≤ c0) (h : impl_FindVersion.f l0 a1 = some r) :
    Calls Try.prog 106 #[.slice A0 l0.length c0, .int .i64 a1] w fun e w' => e = .returned (.int .i64 r) ∧ Below w.heap.size w w' := by
  obtain rfl := Option.some.inj h; have HR0 := Aside0.mk hr0; clear hr0 h
  go_enter Try.func106, Try.ntmps106
  go_wp2_with (go_at_call 114; (with_reducible refine (impl_FindVersion.idx _ a1 A0 c0 l0 _ ?s1 hc0 ?s2).mono ?_); (case s1 => exact Kd.C_alloc HR0.out _); (case s2 => simp); rintro e w1 ⟨rfl, hb1⟩; have HB2 := Aside0.mk (below_step (below_alloc (Below.refl _ _) _) hb1); clear hb1)
  go_ret; exact ⟨rfl, HB2.out⟩


/-! ### impl_Store_find: function 87 -/
-- FLAGS PTR
/-- The cells of a version. -/
def CellsF (w : World) (p : Addr) (v : S27) : Prop :=
  w.cell? p = some (.int .i64 v.f0) ∧ w.cell? ⟨p.block, p.off + 1, none⟩ = some (.int .i64 v.f1) ∧ w.cell? ⟨p.block, p.off + 2, none⟩ = some (.int .i64 v.f2) ∧ w.cell? ⟨p.block, p.off + 3, none⟩ = some (.int .i64 v.f3) ∧ w.cell? ⟨p.block, p.off + 4, none⟩ = some (.int .i64 v.f4)
theorem impl_Store_find.bd (l : List S27) (c : Int) (i : Nat) : -1 ≤ impl_FindVersion.frm l c i ∧ impl_FindVersion.frm l c i < (l.length : Int) := by
  unfold impl_FindVersion.frm
  cases h : (List.range' i (l.length - i)).find? (fun j => decide ((l.getD j z27).f2 = c)) with
  | none => exact ⟨Int.le_refl _, by show (-1 : Int) < _; omega⟩
  | some j =>
    have := List.mem_range'_1.1 (List.mem_of_find?_eq_some h); exact ⟨by show (-1 : Int) ≤ (j : Int); omega, by show (j : Int) < _; omega⟩
set_option maxHeartbeats 2000000 in
set_option maxRecDepth 100000 in
/-- Where the version of a mark stands, or nil. -/
theorem impl_Store_find.told (A0 : Option Addr) (c0 : Nat) (l0 : List (List S27)) (m0 m1 : Int) (w : World) (hr0 : Kd.C (Kd.slice 27 k27) w A0 l0.length l0) (hk0 : 0 ≤ m0) (hk1 : m0 < (l0.length : Int)) :
    Calls Try.prog 87 #[.agg #[.slice A0 l0.length c0], .agg #[.int .i64 m0, .int .i64 m1]] w fun e w' => Below w.heap.size w w' ∧ ((impl_FindVersion.frm (rd_L4 l0 m0) m1 0 < 0 ∧ e = .returned (.pointer none)) ∨ (0 ≤ impl_FindVersion.frm (rd_L4 l0 m0) m1 0 ∧ ∃ p : Addr, e = .returned (.pointer (some p)) ∧ CellsF w' p (rd_T27 (rd_L4 l0 m0) (impl_FindVersion.frm (rd_L4 l0 m0) m1 0)))) := by
  have hu := Try.underlying32; have hv := Try.underlying84; have hb := below_alloc (below_alloc (Below.refl w.heap.size w) (.cells #[.slice A0 l0.length c0] 32)) (.cells #[.int .i64 m0, .int .i64 m1] 84); obtain ⟨ad1, A2, c2, e1, hx, hl2, hC⟩ := at_L4 hr0 m0 hk0 hk1
  cases e1
  replace hx := (hb.cell (World.block_lt_of_cell? w _ hx)).trans hx; have HB := Aside0.mk hb; have HC := Aside0.mk hC; have HL := Aside0.mk hl2; obtain ⟨hi0, hi1⟩ := impl_Store_find.bd (rd_L4 l0 m0) m1 0; clear hb hC hr0 hl2; have d1 := decide_eq_true hk0; have d2 := decide_eq_true hk1; replace hk0 := eq_true hk0; replace hk1 := eq_true hk1; obtain ⟨i, hi⟩ : ∃ i, impl_FindVersion.frm (rd_L4 l0 m0) m1 0 = i := ⟨_, rfl⟩; rw [hi] at hi0 hi1 ⊢; have HI := Aside0.mk hi; clear hi
  by_cases hneg : i < 0
  · have d3 := decide_eq_true hneg; have HN := Aside0.mk hneg; clear hi0 hi1 hneg
    go_enter Try.func87, Try.ntmps87
    go_wp2_with (go_at_call 106; (with_reducible refine (impl_FindVersion.calls A2 c2 (rd_L4 l0 m0) m1 i _ ?s1 HL.out ?s2).mono ?_); (case s1 => exact Kd.C_below HC.out HB.out); (case s2 => exact congrArg some HI.out); rintro e w1 ⟨rfl, hb1⟩; have HB1 := Aside0.mk (below_step HB.out hb1); clear hb1)
    go_ret; exact ⟨HB1.out, Or.inl ⟨HN.out, rfl⟩⟩
  · have d3 := decide_eq_false hneg; (have hge : 0 ≤ i := by omega); obtain ⟨ad2, e2, hx0, hx1, hx2, hx3, hx4⟩ := at_T27 HC.out i hge hi1
    cases e2
    have HX := Aside0.mk (show CellsF w _ (rd_T27 (rd_L4 l0 m0) i) from ⟨hx0, hx1, hx2, hx3, hx4⟩); have HG := Aside0.mk hge; have d4 := decide_eq_true hge; have d5 := decide_eq_true hi1; replace hge := eq_true hge; replace hi1 := eq_true hi1; clear hx0 hx1 hx2 hx3 hx4 hi0 hneg
    go_enter Try.func87, Try.ntmps87
    go_wp2_with (go_at_call 106; (with_reducible refine (impl_FindVersion.calls _ c2 (rd_L4 l0 m0) m1 i _ ?s1 HL.out ?s2).mono ?_); (case s1 => exact Kd.C_below HC.out HB.out); (case s2 => exact congrArg some HI.out); rintro e w1 ⟨rfl, hb1⟩; have HB1 := Aside0.mk (below_step HB.out hb1); clear hb1)
    go_ret; obtain ⟨q0, q1, q2, q3, q4⟩ := HX.out; have hb := HB1.out; exact ⟨hb, Or.inr ⟨HG.out, _, rfl, (hb.cell (World.block_lt_of_cell? w _ q0)).trans q0, (hb.cell (World.block_lt_of_cell? w _ q1)).trans q1, (hb.cell (World.block_lt_of_cell? w _ q2)).trans q2, (hb.cell (World.block_lt_of_cell? w _ q3)).trans q3, (hb.cell (World.block_lt_of_cell? w _ q4)).trans q4⟩⟩
/-- The version of a mark, where there is one. -/
def impl_Store_find.f (l0 : List (List S27)) (m0 m1 : Int) : Option (Int × Int × Int × Int × Int) :=
  if 0 ≤ m0 ∧ m0 < (l0.length : Int) ∧ 0 ≤ impl_FindVersion.frm (rd_L4 l0 m0) m1 0 then
    some ((rd_T27 (rd_L4 l0 m0) (impl_FindVersion.frm (rd_L4 l0 m0) m1 0)).f0, (rd_T27 (rd_L4 l0 m0) (impl_FindVersion.frm (rd_L4 l0 m0) m1 0)).f1, (rd_T27 (rd_L4 l0 m0) (impl_FindVersion.frm (rd_L4 l0 m0) m1 0)).f2, (rd_T27 (rd_L4 l0 m0) (impl_FindVersion.frm (rd_L4 l0 m0) m1 0)).f3, (rd_T27 (rd_L4 l0 m0) (impl_FindVersion.frm (rd_L4 l0 m0) m1 0)).f4)
  else none
theorem impl_Store_find.calls (A0 : Option Addr) (c0 : Nat) (l0 : List (List S27)) (m0 m1 : Int) (r1 r2 r3 r4 r5 : Int) (w0 w : World) (hb0 : Below w0.heap.size w0 w) (hr0 : Kd.C (Kd.slice 27 k27) w0 A0 l0.length l0) (hc0 : l0.length ≤ c0) (h : impl_Store_find.f l0 m0 m1 = some (r1, r2, r3, r4, r5)) :
    Calls Try.prog 87 #[.agg #[.slice A0 l0.length c0], .agg #[.int .i64 m0, .int .i64 m1]] w fun e w' => ∃ p : Addr, e = .returned (.pointer (some p)) ∧ CellsF w' p ⟨r1, r2, r3, r4, r5⟩ ∧ Below w0.heap.size w0 w' ∧ Below w.heap.size w w' := by
  unfold impl_Store_find.f at h
  by_cases hk : 0 ≤ m0 ∧ m0 < (l0.length : Int) ∧ 0 ≤ impl_FindVersion.frm (rd_L4 l0 m0) m1 0
  · rw [if_pos hk] at h; have h := Option.some.inj h; simp only [Prod.mk.injEq] at h; obtain ⟨rfl, rfl, rfl, rfl, rfl⟩ := h; refine (impl_Store_find.told A0 c0 l0 m0 m1 w (Kd.C_below hr0 hb0) hk.1 hk.2.1).mono ?_; rintro e w' ⟨hb, h | ⟨_, p, rfl, hp⟩⟩
    · exact absurd hk.2.2 (by omega)
    · exact ⟨p, rfl, hp, below_step hb0 hb, hb⟩
  · rw [if_neg hk] at h
    cases h


-- NOT PRINTED: function 103 (impl_Store_readsExist_1)

/-! ### impl_Store_readsExist: function 83 -/
-- FLAGS
/-- What is found from place i on. -/
def impl_Store_readsExist.frm (p : S84 → Bool) (l : List S84) (i : Nat) : Int := match (List.range' i (l.length - i)).find? (fun j => p (l.getD j z84)) with | some j => (j : Int) | none => -1
theorem impl_Store_readsExist.frm_end (p : S84 → Bool) (l : List S84) (i : Nat) (h : ¬ i < l.length) : impl_Store_readsExist.frm p l i = -1 := by
  unfold impl_Store_readsExist.frm; rw [show l.length - i = 0 by omega]; rfl
theorem impl_Store_readsExist.frm_hit (p : S84 → Bool) (l : List S84) (i : Nat) (h : i < l.length) (hp : p (l.getD i z84) = true) : impl_Store_readsExist.frm p l i = i := by
  unfold impl_Store_readsExist.frm; rw [show l.length - i = (l.length - i - 1) + 1 by omega, List.range'_succ, List.find?_cons, hp]
theorem impl_Store_readsExist.frm_miss (p : S84 → Bool) (l : List S84) (i : Nat) (h : i < l.length) (hp : p (l.getD i z84) = false) : impl_Store_readsExist.frm p l i = impl_Store_readsExist.frm p l (i + 1) := by
  unfold impl_Store_readsExist.frm; rw [show l.length - i = (l.length - (i + 1)) + 1 by omega, List.range'_succ, List.find?_cons, hp]
set_option maxHeartbeats 2000000 in
set_option maxRecDepth 100000 in
/-- The search, by what the closure answers at each world behind the first. -/
theorem impl_Store_readsExist.idx (fv : Array Value) (p : S84 → Bool) (A0 : Option Addr) (c0 : Nat) (l0 : List S84) (w : World) (hr0 : Kd.C k84 w A0 l0.length l0) (hc0 : l0.length ≤ c0)
    (hclo : ∀ j, j < l0.length → ∀ W, Below w.heap.size w W → Calls Try.prog 103 (#[.agg #[.int .i64 (rd_T84 l0 (j : Int)).f0, .int .i64 (rd_T84 l0 (j : Int)).f1]] ++ fv) W fun e w' => e = .returned (.bool (p (rd_T84 l0 (j : Int)))) ∧ Below W.heap.size W w') :
    Calls Try.prog 113 #[.slice A0 l0.length c0, .func (.func 103) #[] fv] w fun e w' => e = .returned (.int .i64 (impl_Store_readsExist.frm p l0 0)) ∧ Below w.heap.size w w' := by
  have hu := Try.underlying84; have hlen := hr0.2.1; have HR0 := Aside0.mk hr0; have HC := Aside0.mk hclo; clear hr0 hclo; obtain ⟨r, hr⟩ : ∃ r, r = impl_Store_readsExist.frm p l0 0 := ⟨_, rfl⟩; rw [← hr]; have HF := Aside0.mk hr.symm; clear hr
  go_enter Try.func113, Try.ntmps113
  go_wp2
  go_loopg [8] l0.length (fun kq v8 w' => ∃ (i : Nat), v8 = .int .i64 (i : Int) ∧ i ≤ l0.length ∧ Aside0 (impl_Store_readsExist.frm p l0 i = r) ∧ Aside0 (kq + i = l0.length) ∧ Aside0 (Below w.heap.size w w'))
  case atStart => exact ⟨0, rfl, Nat.zero_le _, HF, ⟨by omega⟩, ⟨Below.refl _ _⟩⟩
  case round =>
    clear HF; obtain ⟨i, rfl, hi, HF, HK, HB⟩ := hrel
    by_cases hlt : i < l0.length
    · obtain ⟨k1, rfl⟩ : ∃ m, gk = m + 1 := ⟨gk - 1, by have := HK.out; omega⟩; obtain ⟨ad, e_, hx0, hx1⟩ := at_T84 HR0.out (i : Int) (by omega) (by omega)
      cases e_
      replace hx0 := bl_ HB.out hx0; replace hx1 := bl_ HB.out hx1; simp only [Int.toNat_natCast] at hx0 hx1; have HCI := Aside0.mk (HC.out i hlt); (have hv : rd_T84 l0 (i : Int) = l0.getD i z84 := by unfold rd_T84; rw [Int.toNat_natCast]); have HV := Aside0.mk hv; clear hv
      cases hp : p (l0.getD i z84) with
      | true =>
        (have hb : p (rd_T84 l0 (i : Int)) = true := by rw [HV.out]; exact hp); have HP := Aside0.mk hp; clear hp
        go_wp2_with (go_at_call 103; (with_reducible refine (HCI.out _ HB.out).mono ?_); rintro e w1 ⟨rfl, hb1⟩; have HB2 := Aside0.mk (below_step HB.out hb1); clear hb1)
        go_ret; exact ⟨by rw [← HF.out, impl_Store_readsExist.frm_hit _ _ _ hlt HP.out]; rfl, HB2.out⟩
      | false =>
        (have hb : p (rd_T84 l0 (i : Int)) = false := by rw [HV.out]; exact hp); have HP := Aside0.mk hp; clear hp
        go_wp2_with (go_at_call 103; (with_reducible refine (HCI.out _ HB.out).mono ?_); rintro e w1 ⟨rfl, hb1⟩; have HB2 := Aside0.mk (below_step HB.out hb1); clear hb1)
        go_roundg k1
        case measure => have := HK.out; omega
        case rel => exact ⟨i + 1, by go_num, by omega, ⟨by rw [← HF.out, impl_Store_readsExist.frm_miss _ _ _ hlt HP.out]⟩, ⟨by have := HK.out; omega⟩, HB2⟩
    · go_wp2
      go_ret; exact ⟨by rw [← HF.out, impl_Store_readsExist.frm_end _ _ _ hlt]; rfl, HB.out⟩
/-- Is there no version of this mark? -/
def impl_Store_readsExist.miss (l : List (List S27)) (v : S84) : Bool := decide (impl_FindVersion.frm (rd_L4 l v.f0) v.f1 0 < 0)
set_option maxHeartbeats 2000000 in
set_option maxRecDepth 100000 in
theorem impl_Store_readsExist.clo (v : S84) (g : Nat) (A0 : Option Addr) (c0 : Nat) (l0 : List (List S27)) (w : World) (hr0 : Kd.C (Kd.slice 27 k27) w A0 l0.length l0) (hk0 : 0 ≤ v.f0) (hk1 : v.f0 < (l0.length : Int)) (hg : w.cell? ⟨g, 0, none⟩ = some (.slice A0 l0.length c0)) (hl : g < w.heap.size) :
    Calls Try.prog 103 #[.agg #[.int .i64 v.f0, .int .i64 v.f1], .pointer (some ⟨g, 0, none⟩)] w fun e w' => e = .returned (.bool (impl_Store_readsExist.miss l0 v)) ∧ Below w.heap.size w w' := by
  have hu := Try.underlying84; have hv := Try.underlying32; (have hg' : ∀ o, (w.alloc o).cell? ⟨g, 0, none⟩ = some (.slice A0 l0.length c0) := fun o => (World.cell?_alloc_lt _ _ _ hl).trans hg); have HR := Aside0.mk hr0; have HK0 := Aside0.mk hk0; have HK1 := Aside0.mk hk1; have HB := Aside0.mk (below_alloc (Below.refl w.heap.size w) (.cells #[.int .i64 v.f0, .int .i64 v.f1] 84)); clear hr0 hk0 hk1; obtain ⟨r, hr⟩ : ∃ r, r = impl_Store_readsExist.miss l0 v := ⟨_, rfl⟩; have HM := Aside0.mk hr; rw [← hr]; clear hr
  cases r with
  | true =>
    go_enter Try.func103, Try.ntmps103
    go_wp2_with (go_at_call 87; (with_reducible refine (impl_Store_find.told A0 c0 l0 v.f0 v.f1 _ ?s1 HK0.out HK1.out).mono ?_); (case s1 => exact Kd.C_below HR.out HB.out); rintro e w1 ⟨hb1, hd⟩; obtain ⟨hn, rfl⟩ := hd.resolve_right (fun hn => absurd (of_decide_eq_true HM.out.symm) (by have := hn.1; omega)); clear hd; have HB1 := Aside0.mk (below_step HB.out hb1); clear hb1 hn)
    go_ret; exact ⟨rfl, HB1.out⟩
  | false =>
    go_enter Try.func103, Try.ntmps103
    go_wp2_with (go_at_call 87; (with_reducible refine (impl_Store_find.told A0 c0 l0 v.f0 v.f1 _ ?s1 HK0.out HK1.out).mono ?_); (case s1 => exact Kd.C_below HR.out HB.out); rintro e w1 ⟨hb1, hd⟩; obtain ⟨hn, p, rfl, hp⟩ := hd.resolve_left (fun hn => absurd hn.1 (of_decide_eq_false HM.out.symm)); clear hd; have HB1 := Aside0.mk (below_step HB.out hb1); clear hb1 hn hp)
    go_ret; exact ⟨rfl, HB1.out⟩
set_option maxHeartbeats 2000000 in
set_option maxRecDepth 100000 in
theorem impl_Store_readsExist.con (p : S84 → Bool) (fv : Array Value) (A0 : Option Addr) (c0 : Nat) (l0 : List S84) (w : World) (hr0 : Kd.C k84 w A0 l0.length l0) (hc0 : l0.length ≤ c0)
    (hclo : ∀ j, j < l0.length → ∀ W, Below w.heap.size w W → Calls Try.prog 103 (#[.agg #[.int .i64 (rd_T84 l0 (j : Int)).f0, .int .i64 (rd_T84 l0 (j : Int)).f1]] ++ fv) W fun e w' => e = .returned (.bool (p (rd_T84 l0 (j : Int)))) ∧ Below W.heap.size W w') :
    Calls Try.prog 102 #[.slice A0 l0.length c0, .func (.func 103) #[] fv] w fun e w' => e = .returned (.bool (decide (impl_Store_readsExist.frm p l0 0 ≥ 0))) ∧ Below w.heap.size w w' := by
  have HR0 := Aside0.mk hr0; have HC := Aside0.mk hclo; clear hr0 hclo
  go_enter Try.func102, Try.ntmps102
  go_wp2_with (go_at_call 113; (with_reducible refine (impl_Store_readsExist.idx fv p A0 c0 l0 _ HR0.out hc0 HC.out).mono ?_); rintro e w1 ⟨rfl, hb1⟩; have HB2 := Aside0.mk hb1; clear hb1)
  go_ret; exact ⟨rfl, HB2.out⟩
/-- Are there versions of all marks? -/
def impl_Store_readsExist.f (l0_0 : List (List S27)) (l1 : List S84) : Option Bool := if (∀ j, j < l1.length → 0 ≤ (l1.getD j z84).f0 ∧ (l1.getD j z84).f0 < (l0_0.length : Int)) then some (decide (impl_Store_readsExist.frm (impl_Store_readsExist.miss l0_0) l1 0 < 0)) else none
set_option maxHeartbeats 2000000 in
set_option maxRecDepth 100000 in
theorem impl_Store_readsExist.calls (A0_0 : Option Addr) (c0_0 : Nat) (l0_0 : List (List S27)) (A1 : Option Addr) (c1 : Nat) (l1 : List S84) (r : Bool) (w : World) (hr0_0 : Kd.C (Kd.slice 27 k27) w A0_0 l0_0.length l0_0) (hc0_0 : l0_0.length ≤ c0_0) (hr1 : Kd.C k84 w A1 l1.length l1) (hc1 : l1.length ≤ c1) (h : impl_Store_readsExist.f l0_0 l1 = some r) :
    Calls Try.prog 83 #[.agg #[.slice A0_0 l0_0.length c0_0], .slice A1 l1.length c1] w fun e w' => e = .returned (.bool r) ∧ Below w.heap.size w w' := by
  have hu := Try.underlying32; unfold impl_Store_readsExist.f at h
  by_cases hk : ∀ j, j < l1.length → 0 ≤ (l1.getD j z84).f0 ∧ (l1.getD j z84).f0 < (l0_0.length : Int)
  · rw [if_pos hk] at h; obtain rfl := Option.some.inj h; have HR := Aside0.mk hr0_0; have HR1 := Aside0.mk hr1; have HC1 := Aside0.mk hc1; have HK := Aside0.mk hk; have HB := Aside0.mk (below_alloc (Below.refl w.heap.size w) (.cells #[.slice A0_0 l0_0.length c0_0] 32)); have HG := Aside0.mk (show (w.alloc (.cells #[.slice A0_0 l0_0.length c0_0] 32)).cell? ⟨w.heap.size, 0, none⟩ = some (.slice A0_0 l0_0.length c0_0) by simp); have HL := Aside0.mk (show w.heap.size < (w.alloc (.cells #[.slice A0_0 l0_0.length c0_0] 32)).heap.size from Nat.lt_of_lt_of_eq (Nat.lt_succ_self _) (Array.size_push _).symm); clear hr0_0 hr1 hc1 hk h
    go_enter Try.func83, Try.ntmps83
    go_wp2_with (go_at_call 102; (with_reducible refine (impl_Store_readsExist.con (impl_Store_readsExist.miss l0_0) #[.pointer (some ⟨w.heap.size, 0, none⟩)] A1 c1 l1 _ ?s1 HC1.out ?s2).mono ?_); (case s1 => exact Kd.C_below HR1.out HB.out); (case s2 => (intro j hj W hbW; have hv : rd_T84 l1 (j : Int) = l1.getD j z84 := (by unfold rd_T84; rw [Int.toNat_natCast]); rw [hv]; exact impl_Store_readsExist.clo _ _ A0_0 c0_0 l0_0 W (Kd.C_below (Kd.C_below HR.out HB.out) hbW) (HK.out j hj).1 (HK.out j hj).2 ((hbW.cell (World.block_lt_of_cell? _ _ HG.out)).trans HG.out) (Nat.lt_of_lt_of_le HL.out hbW.size))); rintro e w1 ⟨rfl, hb1⟩; have HB2 := Aside0.mk (below_step HB.out hb1); clear hb1)
    go_ret; exact ⟨congrArg (fun b => Ending.returned (.bool b)) (by rw [← decide_not]; exact decide_eq_decide.2 (by omega)), HB2.out⟩
  · rw [if_neg hk] at h
    cases h


/-! ### impl_ReadsExist: function 47 -/
def impl_ReadsExist.f (k : Nat) (l0_0 : List (List (S27))) (a1_0 : Int) (a1_1 : Int) (a1_2 : Int) (a1_3 : Int) (a1_4 : Int) (a1_5 : Int) (a1_6 : Int) (l1_7 : List (S84)) (l1_8 : List (S87)) : Option (Bool) := (impl_IsValidStore.f k l0_0).bind fun t290 => (if t290 = true then ((impl_IsValidTransaction.f k a1_0 a1_1 a1_2 a1_3 a1_4 a1_5 a1_6 l1_7 l1_8).bind fun t291 => (if t291 = true then ((impl_Store_readsExist.f l0_0 l1_7).bind fun t292 => (some t292)) else (some false))) else (some false))
theorem impl_ReadsExist.mono : ∀ a0 a1 a2 a3 a4 a5 a6 a7 a8 a9 k, LeO (impl_ReadsExist.f k a0 a1 a2 a3 a4 a5 a6 a7 a8 a9) (impl_ReadsExist.f (k + 1) a0 a1 a2 a3 a4 a5 a6 a7 a8 a9) := by
  intro a0 a1 a2 a3 a4 a5 a6 a7 a8 a9 k; unfold impl_ReadsExist.f
  repeat' first
      | (with_reducible exact impl_IsValidStore.mono _ _)
      | (with_reducible exact impl_IsValidTransaction.mono _ _ _ _ _ _ _ _ _ _)
      | (with_reducible exact LeO.refl _)
      | (with_reducible exact LeO.none _)
      | (with_reducible refine LeO.ite ?_ ?_)
      | (with_reducible refine LeO.bind ?_ (fun _ => ?_))
      | exact impl_IsValidStore.mono _ _
      | exact impl_IsValidTransaction.mono _ _ _ _ _ _ _ _ _ _
      | exact LeO.none _
      | refine LeO.ite ?_ ?_
      | refine LeO.bind ?_ (fun _ => ?_)
set_option maxHeartbeats 8000000 in
set_option maxRecDepth 100000 in
theorem impl_ReadsExist.calls (k : Nat) (A0_0 : Option Addr) (c0_0 : Nat) (l0_0 : List (List (S27))) (a1_0 : Int) (a1_1 : Int) (a1_2 : Int) (a1_3 : Int) (a1_4 : Int) (a1_5 : Int) (a1_6 : Int) (A1_7 : Option Addr) (c1_7 : Nat) (l1_7 : List (S84)) (A1_8 : Option Addr) (c1_8 : Nat) (l1_8 : List (S87)) (r : Bool) (w : World) (hr0_0 : Kd.C (Kd.slice 27 k27) w A0_0 l0_0.length l0_0) (hc0_0 : l0_0.length ≤ c0_0) (hr1_7 : Kd.C k84 w A1_7 l1_7.length l1_7) (hc1_7 : l1_7.length ≤ c1_7) (hr1_8 : Kd.C k87 w A1_8 l1_8.length l1_8) (hc1_8 : l1_8.length ≤ c1_8) (h : impl_ReadsExist.f k l0_0 a1_0 a1_1 a1_2 a1_3 a1_4 a1_5 a1_6 l1_7 l1_8 = some r) :
    Calls Try.prog 47 #[.agg #[.slice A0_0 l0_0.length c0_0], .agg #[.int .i64 a1_0, .int .i64 a1_1, .int .i64 a1_2, .int .i64 a1_3, .int .i64 a1_4, .int .i64 a1_5, .int .i64 a1_6, .slice A1_7 l1_7.length c1_7, .slice A1_8 l1_8.length c1_8]] w fun e w' => e = .returned (.bool r) ∧ Below w.heap.size w w' := by
  have hu32 := Try.underlying32; have hu50 := Try.underlying50; have HR0_0 := Aside0.mk hr0_0; have HC0_0 := Aside0.mk hc0_0; clear hr0_0 hc0_0; have HR1_7 := Aside0.mk hr1_7; have HC1_7 := Aside0.mk hc1_7; clear hr1_7 hc1_7; have HR1_8 := Aside0.mk hr1_8; have HC1_8 := Aside0.mk hc1_8; clear hr1_8 hc1_8; have HB := Aside0.mk (Below.refl w.heap.size w); have H : ((impl_IsValidStore.f k l0_0).bind fun t290 => (if t290 = true then ((impl_IsValidTransaction.f k a1_0 a1_1 a1_2 a1_3 a1_4 a1_5 a1_6 l1_7 l1_8).bind fun t291 => (if t291 = true then ((impl_Store_readsExist.f l0_0 l1_7).bind fun t292 => (some t292)) else (some false))) else (some false))) = some r := h; clear h; replace H := Option.bind_eq_some_iff.mp H; obtain ⟨t290, A30, H⟩ := H; replace H : (if t290 = true then ((impl_IsValidTransaction.f k a1_0 a1_1 a1_2 a1_3 a1_4 a1_5 a1_6 l1_7 l1_8).bind fun t291 => (if t291 = true then ((impl_Store_readsExist.f l0_0 l1_7).bind fun t292 => (some t292)) else (some false))) else (some false)) = some r := H; have A3 := Aside0.mk A30; clear A30
  by_cases c4 : t290 = true
  · subst c4; (have H1 : ((impl_IsValidTransaction.f k a1_0 a1_1 a1_2 a1_3 a1_4 a1_5 a1_6 l1_7 l1_8).bind fun t291 => (if t291 = true then ((impl_Store_readsExist.f l0_0 l1_7).bind fun t292 => (some t292)) else (some false))) = some r := by rw [if_pos rfl] at H; exact H); clear H; have H := H1; clear H1; replace H := Option.bind_eq_some_iff.mp H; obtain ⟨t291, A50, H⟩ := H; replace H : (if t291 = true then ((impl_Store_readsExist.f l0_0 l1_7).bind fun t292 => (some t292)) else (some false)) = some r := H; have A5 := Aside0.mk A50; clear A50
    by_cases c6 : t291 = true
    · subst c6; (have H1 : ((impl_Store_readsExist.f l0_0 l1_7).bind fun t292 => (some t292)) = some r := by rw [if_pos rfl] at H; exact H); clear H; have H := H1; clear H1; replace H := Option.bind_eq_some_iff.mp H; obtain ⟨t292, A70, H⟩ := H; replace H : (some t292) = some r := H; have A7 := Aside0.mk A70; clear A70; obtain rfl := Option.some.inj H
      go_enter Try.func47, Try.ntmps47
      go_wp2_with (first | ((with_reducible refine gate_dst (N := 2) rfl ?_); refine box_event ?hg (N := 2) ?hd (cs := #[.slice A0_0 l0_0.length c0_0]) (t := 32) ?hr ?_; (case hd => rfl); (case hg => rfl); (case hr => first | (go_simp; done) | (go_simp; rfl)); intro gb288 hg w8 hbox hb; have n0_ := Aside0.mk (below_step (hq0_ HB.out) hb); have n1_ := Aside0.mk (hbox); have n2_ := Aside0.mk ((ws_ hg (hq0_ HB.out) : w.heap.size ≤ gb288)); have n3_ := n2_; clear HB; have HB := n0_; have BK288 := n1_; have GW288 := n2_; have GE288 := n3_; clear n0_ n1_ n2_ n3_; clear hb hbox hg) | ((with_reducible refine gate_dst (N := 3) rfl ?_); refine box_event ?hg (N := 3) ?hd (cs := #[.int .i64 a1_0, .int .i64 a1_1, .int .i64 a1_2, .int .i64 a1_3, .int .i64 a1_4, .int .i64 a1_5, .int .i64 a1_6, .slice A1_7 l1_7.length c1_7, .slice A1_8 l1_8.length c1_8]) (t := 50) ?hr ?_; (case hd => rfl); (case hg => rfl); (case hr => first | (go_simp; done) | (go_simp; rfl)); intro gb289 hg w9 hbox hb; have n0_ := Aside0.mk (blk_below (bq_ BK288.out) hb); have n1_ := Aside0.mk (below_step (hq1_ HB.out GE288.out) hb); have n2_ := Aside0.mk (hbox); have n3_ := Aside0.mk ((ws_ hg (hq1_ HB.out GE288.out) : w.heap.size ≤ gb289)); have n4_ := n3_; have n5_ := Aside0.mk ((by rw [hg]; exact Nat.ne_of_lt (blk_lt (bq_ BK288.out)) : gb288 ≠ gb289)); have n6_ := Aside0.mk (Ne.symm n5_.out); clear BK288; clear HB; have BK288 := n0_; have HB := n1_; have BK289 := n2_; have GW289 := n3_; have GE289 := n4_; have NB288_289 := n5_; have NB289_288 := n6_; clear n0_ n1_ n2_ n3_ n4_ n5_ n6_; clear hb hbox hg; have hnb10 := NB288_289.out; have hnc10 := NB289_288.out; have hcz11_0 := bc1_ BK288.out; have hfz11_0 := blk_frozen BK288.out 0) | ((with_reducible refine gate_callee (f := 57) rfl ?_); refine goesL_ (some 6) rfl rfl Try.func57 (by kernel_rfl) rfl #[.agg #[.slice A0_0 l0_0.length c0_0]] rfl mp_ ?_; (with_reducible refine (impl_IsValidStore.calls k _ _ l0_0 true _ ?side1 ?side2 A3.out).mono ?_); (case side1 => repeat (first | exact (Kd.C_below HR0_0.out HB.out) | (with_reducible refine Kd.C_alloc ?_ _) | (with_reducible refine Kd.C_drewN ?_ _) | (with_reducible refine Kd.C_drew ?_))); (case side2 => exact HC0_0.out); rintro e w12 ⟨rfl, hb⟩; refine ⟨_, rfl, ?_⟩; have n0_ := Aside0.mk (blk_below (bq_ BK288.out) hb); have n1_ := Aside0.mk (blk_below (bq_ BK289.out) hb); have n2_ := Aside0.mk (below_step (hq2_ HB.out GE288.out GE289.out) hb); clear BK288; clear BK289; clear HB; have BK288 := n0_; have BK289 := n1_; have HB := n2_; clear n0_ n1_ n2_; (try clear hb); (try clear hb2); (try clear hk); (try clear hi); obtain ⟨hcz13_0, hcz13_1, hcz13_2, hcz13_3, hcz13_4, hcz13_5, hcz13_6, hcz13_7, hcz13_8⟩ := bc9_ BK289.out; obtain ⟨hfz13_0, hfz13_1, hfz13_2, hfz13_3, hfz13_4, hfz13_5, hfz13_6, hfz13_7, hfz13_8⟩ := bf9_ BK289.out) | (go_at_call 28; (with_reducible refine (impl_IsValidTransaction.calls k a1_0 a1_1 a1_2 a1_3 a1_4 a1_5 a1_6 _ _ l1_7 _ _ l1_8 true _ ?side1 ?side2 ?side3 ?side4 A5.out).mono ?_); (case side1 => repeat (first | exact (Kd.C_below HR1_7.out HB.out) | (with_reducible refine Kd.C_alloc ?_ _) | (with_reducible refine Kd.C_drewN ?_ _) | (with_reducible refine Kd.C_drew ?_))); (case side2 => exact HC1_7.out); (case side3 => repeat (first | exact (Kd.C_below HR1_8.out HB.out) | (with_reducible refine Kd.C_alloc ?_ _) | (with_reducible refine Kd.C_drewN ?_ _) | (with_reducible refine Kd.C_drew ?_))); (case side4 => exact HC1_8.out); rintro e w14 ⟨rfl, hb⟩; have n0_ := Aside0.mk (blk_below (bq_ BK288.out) hb); have n1_ := Aside0.mk (blk_below (bq_ BK289.out) hb); have n2_ := Aside0.mk (below_step (hq2_ HB.out GE288.out GE289.out) hb); clear BK288; clear BK289; clear HB; have BK288 := n0_; have BK289 := n1_; have HB := n2_; clear n0_ n1_ n2_; (try clear hb); (try clear hb2); (try clear hk); (try clear hi); have hcz15_0 := bc1_ BK288.out; have hfz15_0 := blk_frozen BK288.out 0; obtain ⟨hcz16_0, hcz16_1, hcz16_2, hcz16_3, hcz16_4, hcz16_5, hcz16_6, hcz16_7, hcz16_8⟩ := bc9_ BK289.out; obtain ⟨hfz16_0, hfz16_1, hfz16_2, hfz16_3, hfz16_4, hfz16_5, hfz16_6, hfz16_7, hfz16_8⟩ := bf9_ BK289.out) | (go_at_call 83; (with_reducible refine (impl_Store_readsExist.calls _ _ l0_0 _ _ l1_7 t292 _ ?side1 ?side2 ?side3 ?side4 A7.out).mono ?_); (case side1 => repeat (first | exact (Kd.C_below HR0_0.out HB.out) | (with_reducible refine Kd.C_alloc ?_ _) | (with_reducible refine Kd.C_drewN ?_ _) | (with_reducible refine Kd.C_drew ?_))); (case side2 => exact HC0_0.out); (case side3 => repeat (first | exact (Kd.C_below HR1_7.out HB.out) | (with_reducible refine Kd.C_alloc ?_ _) | (with_reducible refine Kd.C_drewN ?_ _) | (with_reducible refine Kd.C_drew ?_))); (case side4 => exact HC1_7.out); rintro e w17 ⟨rfl, hb⟩; have n0_ := Aside0.mk (blk_below (bq_ BK288.out) hb); have n1_ := Aside0.mk (blk_below (bq_ BK289.out) hb); have n2_ := Aside0.mk (below_step (hq2_ HB.out GE288.out GE289.out) hb); clear BK288; clear BK289; clear HB; have BK288 := n0_; have BK289 := n1_; have HB := n2_; clear n0_ n1_ n2_; (try clear hb); (try clear hb2); (try clear hk); (try clear hi)))
      go_ret; exact ⟨by first | rfl | (simp [errW_none, errW_some] <;> rfl) | (simp [*, errW_none, errW_some] <;> rfl), hq2_ HB.out GE288.out GE289.out⟩
    · replace c6 := Bool.eq_false_iff.mpr c6; subst c6; (have H1 : (some false) = some r := by rw [if_neg (show ¬ (false = true) by decide)] at H; exact H); clear H; have H := H1; clear H1; obtain rfl := Option.some.inj H
      go_enter Try.func47, Try.ntmps47
      go_wp2_with (first | ((with_reducible refine gate_dst (N := 2) rfl ?_); refine box_event ?hg (N := 2) ?hd (cs := #[.slice A0_0 l0_0.length c0_0]) (t := 32) ?hr ?_; (case hd => rfl); (case hg => rfl); (case hr => first | (go_simp; done) | (go_simp; rfl)); intro gb288 hg w18 hbox hb; have n0_ := Aside0.mk (below_step (hq0_ HB.out) hb); have n1_ := Aside0.mk (hbox); have n2_ := Aside0.mk ((ws_ hg (hq0_ HB.out) : w.heap.size ≤ gb288)); have n3_ := n2_; clear HB; have HB := n0_; have BK288 := n1_; have GW288 := n2_; have GE288 := n3_; clear n0_ n1_ n2_ n3_; clear hb hbox hg) | ((with_reducible refine gate_dst (N := 3) rfl ?_); refine box_event ?hg (N := 3) ?hd (cs := #[.int .i64 a1_0, .int .i64 a1_1, .int .i64 a1_2, .int .i64 a1_3, .int .i64 a1_4, .int .i64 a1_5, .int .i64 a1_6, .slice A1_7 l1_7.length c1_7, .slice A1_8 l1_8.length c1_8]) (t := 50) ?hr ?_; (case hd => rfl); (case hg => rfl); (case hr => first | (go_simp; done) | (go_simp; rfl)); intro gb289 hg w19 hbox hb; have n0_ := Aside0.mk (blk_below (bq_ BK288.out) hb); have n1_ := Aside0.mk (below_step (hq1_ HB.out GE288.out) hb); have n2_ := Aside0.mk (hbox); have n3_ := Aside0.mk ((ws_ hg (hq1_ HB.out GE288.out) : w.heap.size ≤ gb289)); have n4_ := n3_; have n5_ := Aside0.mk ((by rw [hg]; exact Nat.ne_of_lt (blk_lt (bq_ BK288.out)) : gb288 ≠ gb289)); have n6_ := Aside0.mk (Ne.symm n5_.out); clear BK288; clear HB; have BK288 := n0_; have HB := n1_; have BK289 := n2_; have GW289 := n3_; have GE289 := n4_; have NB288_289 := n5_; have NB289_288 := n6_; clear n0_ n1_ n2_ n3_ n4_ n5_ n6_; clear hb hbox hg; have hnb20 := NB288_289.out; have hnc20 := NB289_288.out; have hcz21_0 := bc1_ BK288.out; have hfz21_0 := blk_frozen BK288.out 0) | ((with_reducible refine gate_callee (f := 57) rfl ?_); refine goesL_ (some 6) rfl rfl Try.func57 (by kernel_rfl) rfl #[.agg #[.slice A0_0 l0_0.length c0_0]] rfl mp_ ?_; (with_reducible refine (impl_IsValidStore.calls k _ _ l0_0 true _ ?side1 ?side2 A3.out).mono ?_); (case side1 => repeat (first | exact (Kd.C_below HR0_0.out HB.out) | (with_reducible refine Kd.C_alloc ?_ _) | (with_reducible refine Kd.C_drewN ?_ _) | (with_reducible refine Kd.C_drew ?_))); (case side2 => exact HC0_0.out); rintro e w22 ⟨rfl, hb⟩; refine ⟨_, rfl, ?_⟩; have n0_ := Aside0.mk (blk_below (bq_ BK288.out) hb); have n1_ := Aside0.mk (blk_below (bq_ BK289.out) hb); have n2_ := Aside0.mk (below_step (hq2_ HB.out GE288.out GE289.out) hb); clear BK288; clear BK289; clear HB; have BK288 := n0_; have BK289 := n1_; have HB := n2_; clear n0_ n1_ n2_; (try clear hb); (try clear hb2); (try clear hk); (try clear hi); obtain ⟨hcz23_0, hcz23_1, hcz23_2, hcz23_3, hcz23_4, hcz23_5, hcz23_6, hcz23_7, hcz23_8⟩ := bc9_ BK289.out; obtain ⟨hfz23_0, hfz23_1, hfz23_2, hfz23_3, hfz23_4, hfz23_5, hfz23_6, hfz23_7, hfz23_8⟩ := bf9_ BK289.out) | (go_at_call 28; (with_reducible refine (impl_IsValidTransaction.calls k a1_0 a1_1 a1_2 a1_3 a1_4 a1_5 a1_6 _ _ l1_7 _ _ l1_8 false _ ?side1 ?side2 ?side3 ?side4 A5.out).mono ?_); (case side1 => repeat (first | exact (Kd.C_below HR1_7.out HB.out) | (with_reducible refine Kd.C_alloc ?_ _) | (with_reducible refine Kd.C_drewN ?_ _) | (with_reducible refine Kd.C_drew ?_))); (case side2 => exact HC1_7.out); (case side3 => repeat (first | exact (Kd.C_below HR1_8.out HB.out) | (with_reducible refine Kd.C_alloc ?_ _) | (with_reducible refine Kd.C_drewN ?_ _) | (with_reducible refine Kd.C_drew ?_))); (case side4 => exact HC1_8.out); rintro e w24 ⟨rfl, hb⟩; have n0_ := Aside0.mk (blk_below (bq_ BK288.out) hb); have n1_ := Aside0.mk (blk_below (bq_ BK289.out) hb); have n2_ := Aside0.mk (below_step (hq2_ HB.out GE288.out GE289.out) hb); clear BK288; clear BK289; clear HB; have BK288 := n0_; have BK289 := n1_; have HB := n2_; clear n0_ n1_ n2_; (try clear hb); (try clear hb2); (try clear hk); (try clear hi)))
      go_ret; exact ⟨by first | rfl | (simp [errW_none, errW_some] <;> rfl) | (simp [*, errW_none, errW_some] <;> rfl), hq2_ HB.out GE288.out GE289.out⟩
  · replace c4 := Bool.eq_false_iff.mpr c4; subst c4; (have H1 : (some false) = some r := by rw [if_neg (show ¬ (false = true) by decide)] at H; exact H); clear H; have H := H1; clear H1; obtain rfl := Option.some.inj H
    go_enter Try.func47, Try.ntmps47
    go_wp2_with (first | ((with_reducible refine gate_dst (N := 2) rfl ?_); refine box_event ?hg (N := 2) ?hd (cs := #[.slice A0_0 l0_0.length c0_0]) (t := 32) ?hr ?_; (case hd => rfl); (case hg => rfl); (case hr => first | (go_simp; done) | (go_simp; rfl)); intro gb288 hg w25 hbox hb; have n0_ := Aside0.mk (below_step (hq0_ HB.out) hb); have n1_ := Aside0.mk (hbox); have n2_ := Aside0.mk ((ws_ hg (hq0_ HB.out) : w.heap.size ≤ gb288)); have n3_ := n2_; clear HB; have HB := n0_; have BK288 := n1_; have GW288 := n2_; have GE288 := n3_; clear n0_ n1_ n2_ n3_; clear hb hbox hg) | ((with_reducible refine gate_dst (N := 3) rfl ?_); refine box_event ?hg (N := 3) ?hd (cs := #[.int .i64 a1_0, .int .i64 a1_1, .int .i64 a1_2, .int .i64 a1_3, .int .i64 a1_4, .int .i64 a1_5, .int .i64 a1_6, .slice A1_7 l1_7.length c1_7, .slice A1_8 l1_8.length c1_8]) (t := 50) ?hr ?_; (case hd => rfl); (case hg => rfl); (case hr => first | (go_simp; done) | (go_simp; rfl)); intro gb289 hg w26 hbox hb; have n0_ := Aside0.mk (blk_below (bq_ BK288.out) hb); have n1_ := Aside0.mk (below_step (hq1_ HB.out GE288.out) hb); have n2_ := Aside0.mk (hbox); have n3_ := Aside0.mk ((ws_ hg (hq1_ HB.out GE288.out) : w.heap.size ≤ gb289)); have n4_ := n3_; have n5_ := Aside0.mk ((by rw [hg]; exact Nat.ne_of_lt (blk_lt (bq_ BK288.out)) : gb288 ≠ gb289)); have n6_ := Aside0.mk (Ne.symm n5_.out); clear BK288; clear HB; have BK288 := n0_; have HB := n1_; have BK289 := n2_; have GW289 := n3_; have GE289 := n4_; have NB288_289 := n5_; have NB289_288 := n6_; clear n0_ n1_ n2_ n3_ n4_ n5_ n6_; clear hb hbox hg; have hnb27 := NB288_289.out; have hnc27 := NB289_288.out; have hcz28_0 := bc1_ BK288.out; have hfz28_0 := blk_frozen BK288.out 0) | ((with_reducible refine gate_callee (f := 57) rfl ?_); refine goesL_ (some 6) rfl rfl Try.func57 (by kernel_rfl) rfl #[.agg #[.slice A0_0 l0_0.length c0_0]] rfl mp_ ?_; (with_reducible refine (impl_IsValidStore.calls k _ _ l0_0 false _ ?side1 ?side2 A3.out).mono ?_); (case side1 => repeat (first | exact (Kd.C_below HR0_0.out HB.out) | (with_reducible refine Kd.C_alloc ?_ _) | (with_reducible refine Kd.C_drewN ?_ _) | (with_reducible refine Kd.C_drew ?_))); (case side2 => exact HC0_0.out); rintro e w29 ⟨rfl, hb⟩; refine ⟨_, rfl, ?_⟩; have n0_ := Aside0.mk (blk_below (bq_ BK288.out) hb); have n1_ := Aside0.mk (blk_below (bq_ BK289.out) hb); have n2_ := Aside0.mk (below_step (hq2_ HB.out GE288.out GE289.out) hb); clear BK288; clear BK289; clear HB; have BK288 := n0_; have BK289 := n1_; have HB := n2_; clear n0_ n1_ n2_; (try clear hb); (try clear hb2); (try clear hk); (try clear hi)))
    go_ret; exact ⟨by first | rfl | (simp [errW_none, errW_some] <;> rfl) | (simp [*, errW_none, errW_some] <;> rfl), hq2_ HB.out GE288.out GE289.out⟩

end Go.Proofs.Ytlnglooomeliiaa.PFnExactReadsExist
