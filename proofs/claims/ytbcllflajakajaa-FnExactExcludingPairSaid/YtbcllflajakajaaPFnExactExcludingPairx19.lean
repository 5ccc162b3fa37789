-- Printed by my own myprint.py out of the translation of the seat Ytbcllflajakajaa. Not trusted: Lean checks it.
import Derived.Test.YtbcllflajakajaaPFnExactExcludingPairx0
import Derived.Test.YtbcllflajakajaaPFnExactExcludingPairx15
import Derived.Test.YtbcllflajakajaaPFnExactExcludingPairx18
namespace Go.Proofs.Ytbcllflajakajaa.PFnExactExcludingPair
open Go.RowKit Go.Proofs.YtbcllflajakajaaW.PrintWords Go.Proofs.YtbcllflajakajaaW.PrintLast Go.Proofs.YtbcllflajakajaaW.PrintMore
attribute [local go_sem] max2_int min2_int max_two min_two max_three min_three max_four min_four   -- for this text's walks alone
set_option linter.unusedVariables false
set_option linter.unusedSimpArgs false

/-! ### impl_FindVersion: function 89 -/
/-- What is found from place i on. -/
def impl_FindVersion.frm (l : List S65) (c : Int) (i : Nat) : Int := match (List.range' i (l.length - i)).find? (fun j => decide ((l.getD j z65).f2 = c)) with | some j => (j : Int) | none => -1
theorem impl_FindVersion.frm_end (l : List S65) (c : Int) (i : Nat) (h : ¬ i < l.length) : impl_FindVersion.frm l c i = -1 := by
  unfold impl_FindVersion.frm; rw [show l.length - i = 0 by omega]; rfl
theorem impl_FindVersion.frm_hit (l : List S65) (c : Int) (i : Nat) (h : i < l.length) (hp : (l.getD i z65).f2 = c) : impl_FindVersion.frm l c i = i := by
  unfold impl_FindVersion.frm; rw [show l.length - i = (l.length - i - 1) + 1 by omega, List.range'_succ, List.find?_cons, decide_eq_true hp]
theorem impl_FindVersion.frm_miss (l : List S65) (c : Int) (i : Nat) (h : i < l.length) (hp : ¬ (l.getD i z65).f2 = c) : impl_FindVersion.frm l c i = impl_FindVersion.frm l c (i + 1) := by
  unfold impl_FindVersion.frm; rw [show l.length - i = (l.length - (i + 1)) + 1 by omega, List.range'_succ, List.find?_cons, decide_eq_false hp]
set_option maxHeartbeats 1000000 in
set_option maxRecDepth 100000 in
theorem impl_FindVersion.clo (v : S65) (g : Nat) (c : Int) (w : World) (hg : w.cell? ⟨g, 0, none⟩ = some (.int .i64 c)) (hl : g < w.heap.size) :
    Calls Try.prog 101 #[.agg #[.int .i64 v.f0, .int .i64 v.f1, .int .i64 v.f2, .int .i64 v.f3, .int .i64 v.f4], .pointer (some ⟨g, 0, none⟩)] w fun e w' => e = .returned (.bool (v.f2 == c)) ∧ Below w.heap.size w w' := by
  have hu := Try.underlying65; (have hg' : ∀ o, (w.alloc o).cell? ⟨g, 0, none⟩ = some (.int .i64 c) := fun o => (World.cell?_alloc_lt _ _ _ hl).trans hg)
  go_enter Try.func101, Try.ntmps101
  go_wp2
  go_ret; exact ⟨rfl, below_alloc (Below.refl _ _) _⟩
set_option maxHeartbeats 2000000 in
set_option maxRecDepth 100000 in
theorem impl_FindVersion.idx (g : Nat) (c : Int) (A0 : Option Addr) (c0 : Nat) (l0 : List S65) (w : World) (hr0 : Kd.C k65 w A0 l0.length l0) (hc0 : l0.length ≤ c0) (hg : w.cell? ⟨g, 0, none⟩ = some (.int .i64 c)) :
    Calls Try.prog 100 #[.slice A0 l0.length c0, .func (.func 101) #[] #[.pointer (some ⟨g, 0, none⟩)]] w fun e w' => e = .returned (.int .i64 (impl_FindVersion.frm l0 c 0)) ∧ Below w.heap.size w w' := by
  have hu := Try.underlying65; have hlen := hr0.2.1; have HR0 := Aside0.mk hr0; have HG := Aside0.mk hg; clear hr0 hg; obtain ⟨r, hr⟩ : ∃ r, r = impl_FindVersion.frm l0 c 0 := ⟨_, rfl⟩; rw [← hr]; have HF := Aside0.mk hr.symm; clear hr
  go_enter Try.func100, Try.ntmps100
  go_wp2
  go_loopg [8] l0.length (fun kq v8 w' => ∃ (i : Nat), v8 = .int .i64 (i : Int) ∧ i ≤ l0.length ∧ Aside0 (impl_FindVersion.frm l0 c i = r) ∧ Aside0 (kq + i = l0.length) ∧ Aside0 (Below w.heap.size w w'))
  case atStart => exact ⟨0, rfl, Nat.zero_le _, HF, ⟨by omega⟩, ⟨Below.refl _ _⟩⟩
  case round =>
    clear HF; obtain ⟨i, rfl, hi, HF, HK, HB⟩ := hrel
    by_cases hlt : i < l0.length
    · obtain ⟨k1, rfl⟩ : ∃ m, gk = m + 1 := ⟨gk - 1, by have := HK.out; omega⟩; obtain ⟨ad, e_, hx0, hx1, hx2, hx3, hx4⟩ := at_T65 HR0.out (i : Int) (by omega) (by omega)
      cases e_
      replace hx0 := bl_ HB.out hx0; replace hx1 := bl_ HB.out hx1; replace hx2 := bl_ HB.out hx2; replace hx3 := bl_ HB.out hx3; replace hx4 := bl_ HB.out hx4; simp only [Int.toNat_natCast] at hx0 hx1 hx2 hx3 hx4; (have hv : rd_T65 l0 (i : Int) = l0.getD i z65 := by unfold rd_T65; rw [Int.toNat_natCast]); have HV := Aside0.mk hv; clear hv
      by_cases hp : (l0.getD i z65).f2 = c
      · (have hb : ((rd_T65 l0 (i : Int)).f2 == c) = true := by rw [HV.out]; exact beq_iff_eq.2 hp); have HP := Aside0.mk hp; clear hp
        go_wp2_with (go_at_call 101; (with_reducible refine (impl_FindVersion.clo (rd_T65 l0 (i : Int)) g c _ ?s1 ?s2).mono ?_); (case s1 => exact (HB.out.cell (World.block_lt_of_cell? w _ HG.out)).trans HG.out); (case s2 => exact Nat.lt_of_lt_of_le (World.block_lt_of_cell? w _ HG.out) HB.out.size); rintro e w1 ⟨rfl, hb1⟩; have HB2 := Aside0.mk (below_step HB.out hb1); clear hb1)
        go_ret; exact ⟨by rw [← HF.out, impl_FindVersion.frm_hit _ _ _ hlt HP.out]; rfl, HB2.out⟩
      · (have hb : ((rd_T65 l0 (i : Int)).f2 == c) = false := by rw [HV.out]; exact beq_eq_false_iff_ne.2 hp); have HP := Aside0.mk hp; clear hp
        go_wp2_with (go_at_call 101; (with_reducible refine (impl_FindVersion.clo (rd_T65 l0 (i : Int)) g c _ ?s1 ?s2).mono ?_); (case s1 => exact (HB.out.cell (World.block_lt_of_cell? w _ HG.out)).trans HG.out); (case s2 => exact Nat.lt_of_lt_of_le (World.block_lt_of_cell? w _ HG.out) HB.out.size); rintro e w1 ⟨rfl, hb1⟩; have HB2 := Aside0.mk (below_step HB.out hb1); clear hb1)
        go_roundg k1
        case measure => have := HK.out; omega
        case rel => exact ⟨i + 1, by go_num, by omega, ⟨by rw [← HF.out, impl_FindVersion.frm_miss _ _ _ hlt HP.out]⟩, ⟨by have := HK.out; omega⟩, HB2⟩
    · go_wp2
      go_ret; exact ⟨by rw [← HF.out, impl_FindVersion.frm_end _ _ _ hlt]; rfl, HB.out⟩
def impl_FindVersion.f (l0 : List S65) (a1 : Int) : Option Int := some (impl_FindVersion.frm l0 a1 0)
set_option maxHeartbeats 2000000 in
set_option maxRecDepth 100000 in
theorem impl_FindVersion.calls (A0 : Option Addr) (c0 : Nat) (l0 : List S65) (a1 : Int) (r : Int) (w : World) (hr0 : Kd.C k65 w A0 l0.length l0) (hc0 : l0.length ≤ c0) (h : impl_FindVersion.f l0 a1 = some r) :
    Calls Try.prog 89 #[.slice A0 l0.length c0, .int .i64 a1] w fun e w' => e = .returned (.int .i64 r) ∧ Below w.heap.size w w' := by
  obtain rfl := Option.some.inj h; have HR0 := Aside0.mk hr0; clear hr0 h
  go_enter Try.func89, Try.ntmps89
  go_wp2_with (go_at_call 100; (with_reducible refine (impl_FindVersion.idx _ a1 A0 c0 l0 _ ?s1 hc0 ?s2).mono ?_); (case s1 => exact Kd.C_alloc HR0.out _); (case s2 => simp); rintro e w1 ⟨rfl, hb1⟩; have HB2 := Aside0.mk (below_step (below_alloc (Below.refl _ _) _) hb1); clear hb1)
  go_ret; exact ⟨rfl, HB2.out⟩


/-! ### impl_Store_find: function 65 -/
-- FLAGS PTR
/-- The cells of a version. -/
def CellsF (w : World) (p : Addr) (v : S65) : Prop :=
  w.cell? p = some (.int .i64 v.f0) ∧ w.cell? ⟨p.block, p.off + 1, none⟩ = some (.int .i64 v.f1) ∧ w.cell? ⟨p.block, p.off + 2, none⟩ = some (.int .i64 v.f2) ∧ w.cell? ⟨p.block, p.off + 3, none⟩ = some (.int .i64 v.f3) ∧ w.cell? ⟨p.block, p.off + 4, none⟩ = some (.int .i64 v.f4)
theorem impl_Store_find.bd (l : List S65) (c : Int) (i : Nat) : -1 ≤ impl_FindVersion.frm l c i ∧ impl_FindVersion.frm l c i < (l.length : Int) := by
  unfold impl_FindVersion.frm
  cases h : (List.range' i (l.length - i)).find? (fun j => decide ((l.getD j z65).f2 = c)) with
  | none => exact ⟨Int.le_refl _, by show (-1 : Int) < _; omega⟩
  | some j =>
    have := List.mem_range'_1.1 (List.mem_of_find?_eq_some h); exact ⟨by show (-1 : Int) ≤ (j : Int); omega, by show (j : Int) < _; omega⟩
set_option maxHeartbeats 2000000 in
set_option maxRecDepth 100000 in
/-- Where the version of a mark stands, or nil. -/
theorem impl_Store_find.told (A0 : Option Addr) (c0 : Nat) (l0 : List (List S65)) (m0 m1 : Int) (w : World) (hr0 : Kd.C (Kd.slice 65 k65) w A0 l0.length l0) (hk0 : 0 ≤ m0) (hk1 : m0 < (l0.length : Int)) :
    Calls Try.prog 65 #[.agg #[.slice A0 l0.length c0], .agg #[.int .i64 m0, .int .i64 m1]] w fun e w' => Below w.heap.size w w' ∧ ((impl_FindVersion.frm (rd_L6 l0 m0) m1 0 < 0 ∧ e = .returned (.pointer none)) ∨ (0 ≤ impl_FindVersion.frm (rd_L6 l0 m0) m1 0 ∧ ∃ p : Addr, e = .returned (.pointer (some p)) ∧ CellsF w' p (rd_T65 (rd_L6 l0 m0) (impl_FindVersion.frm (rd_L6 l0 m0) m1 0)))) := by
  have hu := Try.underlying34; have hv := Try.underlying55; have hb := below_alloc (below_alloc (Below.refl w.heap.size w) (.cells #[.slice A0 l0.length c0] 34)) (.cells #[.int .i64 m0, .int .i64 m1] 55); obtain ⟨ad1, A2, c2, e1, hx, hl2, hC⟩ := at_L6 hr0 m0 hk0 hk1
  cases e1
  replace hx := (hb.cell (World.block_lt_of_cell? w _ hx)).trans hx; have HB := Aside0.mk hb; have HC := Aside0.mk hC; have HL := Aside0.mk hl2; obtain ⟨hi0, hi1⟩ := impl_Store_find.bd (rd_L6 l0 m0) m1 0; clear hb hC hr0 hl2; have d1 := decide_eq_true hk0; have d2 := decide_eq_true hk1; replace hk0 := eq_true hk0; replace hk1 := eq_true hk1; obtain ⟨i, hi⟩ : ∃ i, impl_FindVersion.frm (rd_L6 l0 m0) m1 0 = i := ⟨_, rfl⟩; rw [hi] at hi0 hi1 ⊢; have HI := Aside0.mk hi; clear hi
  by_cases hneg : i < 0
  · have d3 := decide_eq_true hneg; have HN := Aside0.mk hneg; clear hi0 hi1 hneg
    go_enter Try.func65, Try.ntmps65
    go_wp2_with (go_at_call 89; (with_reducible refine (impl_FindVersion.calls A2 c2 (rd_L6 l0 m0) m1 i _ ?s1 HL.out ?s2).mono ?_); (case s1 => exact Kd.C_below HC.out HB.out); (case s2 => exact congrArg some HI.out); rintro e w1 ⟨rfl, hb1⟩; have HB1 := Aside0.mk (below_step HB.out hb1); clear hb1)
    go_ret; exact ⟨HB1.out, Or.inl ⟨HN.out, rfl⟩⟩
  · have d3 := decide_eq_false hneg; (have hge : 0 ≤ i := by omega); obtain ⟨ad2, e2, hx0, hx1, hx2, hx3, hx4⟩ := at_T65 HC.out i hge hi1
    cases e2
    have HX := Aside0.mk (show CellsF w _ (rd_T65 (rd_L6 l0 m0) i) from ⟨hx0, hx1, hx2, hx3, hx4⟩); have HG := Aside0.mk hge; have d4 := decide_eq_true hge; have d5 := decide_eq_true hi1; replace hge := eq_true hge; replace hi1 := eq_true hi1; clear hx0 hx1 hx2 hx3 hx4 hi0 hneg
    go_enter Try.func65, Try.ntmps65
    go_wp2_with (go_at_call 89; (with_reducible refine (impl_FindVersion.calls _ c2 (rd_L6 l0 m0) m1 i _ ?s1 HL.out ?s2).mono ?_); (case s1 => exact Kd.C_below HC.out HB.out); (case s2 => exact congrArg some HI.out); rintro e w1 ⟨rfl, hb1⟩; have HB1 := Aside0.mk (below_step HB.out hb1); clear hb1)
    go_ret; obtain ⟨q0, q1, q2, q3, q4⟩ := HX.out; have hb := HB1.out; exact ⟨hb, Or.inr ⟨HG.out, _, rfl, (hb.cell (World.block_lt_of_cell? w _ q0)).trans q0, (hb.cell (World.block_lt_of_cell? w _ q1)).trans q1, (hb.cell (World.block_lt_of_cell? w _ q2)).trans q2, (hb.cell (World.block_lt_of_cell? w _ q3)).trans q3, (hb.cell (World.block_lt_of_cell? w _ q4)).trans q4⟩⟩
/-- The version of a mark, where there is one. -/
def impl_Store_find.f (l0 : List (List S65)) (m0 m1 : Int) : Option (Int × Int × Int × Int × Int) :=
  if 0 ≤ m0 ∧ m0 < (l0.length : Int) ∧ 0 ≤ impl_FindVersion.frm (rd_L6 l0 m0) m1 0 then
    some ((rd_T65 (rd_L6 l0 m0) (impl_FindVersion.frm (rd_L6 l0 m0) m1 0)).f0, (rd_T65 (rd_L6 l0 m0) (impl_FindVersion.frm (rd_L6 l0 m0) m1 0)).f1, (rd_T65 (rd_L6 l0 m0) (impl_FindVersion.frm (rd_L6 l0 m0) m1 0)).f2, (rd_T65 (rd_L6 l0 m0) (impl_FindVersion.frm (rd_L6 l0 m0) m1 0)).f3, (rd_T65 (rd_L6 l0 m0) (impl_FindVersion.frm (rd_L6 l0 m0) m1 0)).f4)
  else none
theorem impl_Store_find.calls (A0 : Option Addr) (c0 : Nat) (l0 : List (List S65)) (m0 m1 : Int) (r1 r2 r3 r4 r5 : Int) (w0 w : World) (hb0 : Below w0.heap.size w0 w) (hr0 : Kd.C (Kd.slice 65 k65) w0 A0 l0.length l0) (hc0 : l0.length ≤ c0) (h : impl_Store_find.f l0 m0 m1 = some (r1, r2, r3, r4, r5)) :
    Calls Try.prog 65 #[.agg #[.slice A0 l0.length c0], .agg #[.int .i64 m0, .int .i64 m1]] w fun e w' => ∃ p : Addr, e = .returned (.pointer (some p)) ∧ CellsF w' p ⟨r1, r2, r3, r4, r5⟩ ∧ Below w0.heap.size w0 w' ∧ Below w.heap.size w w' := by
  unfold impl_Store_find.f at h
  by_cases hk : 0 ≤ m0 ∧ m0 < (l0.length : Int) ∧ 0 ≤ impl_FindVersion.frm (rd_L6 l0 m0) m1 0
  · rw [if_pos hk] at h; have h := Option.some.inj h; simp only [Prod.mk.injEq] at h; obtain ⟨rfl, rfl, rfl, rfl, rfl⟩ := h; refine (impl_Store_find.told A0 c0 l0 m0 m1 w (Kd.C_below hr0 hb0) hk.1 hk.2.1).mono ?_; rintro e w' ⟨hb, h | ⟨_, p, rfl, hp⟩⟩
    · exact absurd hk.2.2 (by omega)
    · exact ⟨p, rfl, hp, below_step hb0 hb, hb⟩
  · rw [if_neg hk] at h
    cases h


-- NOT PRINTED: function 92 (impl_Store_readsExist_1)

/-! ### impl_Store_readsExist: function 75 -/
-- FLAGS
/-- What is found from place i on. -/
def impl_Store_readsExist.frm (p : S55 → Bool) (l : List S55) (i : Nat) : Int := match (List.range' i (l.length - i)).find? (fun j => p (l.getD j z55)) with | some j => (j : Int) | none => -1
theorem impl_Store_readsExist.frm_end (p : S55 → Bool) (l : List S55) (i : Nat) (h : ¬ i < l.length) : impl_Store_readsExist.frm p l i = -1 := by
  unfold impl_Store_readsExist.frm; rw [show l.length - i = 0 by omega]; rfl
theorem impl_Store_readsExist.frm_hit (p : S55 → Bool) (l : List S55) (i : Nat) (h : i < l.length) (hp : p (l.getD i z55) = true) : impl_Store_readsExist.frm p l i = i := by
  unfold impl_Store_readsExist.frm; rw [show l.length - i = (l.length - i - 1) + 1 by omega, List.range'_succ, List.find?_cons, hp]
theorem impl_Store_readsExist.frm_miss (p : S55 → Bool) (l : List S55) (i : Nat) (h : i < l.length) (hp : p (l.getD i z55) = false) : impl_Store_readsExist.frm p l i = impl_Store_readsExist.frm p l (i + 1) := by
  unfold impl_Store_readsExist.frm; rw [show l.length - i = (l.length - (i + 1)) + 1 by omega, List.range'_succ, List.find?_cons, hp]
set_option maxHeartbeats 2000000 in
set_option maxRecDepth 100000 in
/-- The search, by what the closure answers at each world behind the first. -/
theorem impl_Store_readsExist.idx (fv : Array Value) (p : S55 → Bool) (A0 : Option Addr) (c0 : Nat) (l0 : List S55) (w : World) (hr0 : Kd.C k55 w A0 l0.length l0) (hc0 : l0.length ≤ c0)
    (hclo : ∀ j, j < l0.length → ∀ W, Below w.heap.size w W → Calls Try.prog 92 (#[.agg #[.int .i64 (rd_T55 l0 (j : Int)).f0, .int .i64 (rd_T55 l0 (j : Int)).f1]] ++ fv) W fun e w' => e = .returned (.bool (p (rd_T55 l0 (j : Int)))) ∧ Below W.heap.size W w') :
    Calls Try.prog 69 #[.slice A0 l0.length c0, .func (.func 92) #[] fv] w fun e w' => e = .returned (.int .i64 (impl_Store_readsExist.frm p l0 0)) ∧ Below w.heap.size w w' := by
  have hu := Try.underlying55; have hlen := hr0.2.1; have HR0 := Aside0.mk hr0; have HC := Aside0.mk hclo; clear hr0 hclo; obtain ⟨r, hr⟩ : ∃ r, r = impl_Store_readsExist.frm p l0 0 := ⟨_, rfl⟩; rw [← hr]; have HF := Aside0.mk hr.symm; clear hr
  go_enter Try.func69, Try.ntmps69
  go_wp2
  go_loopg [8] l0.length (fun kq v8 w' => ∃ (i : Nat), v8 = .int .i64 (i : Int) ∧ i ≤ l0.length ∧ Aside0 (impl_Store_readsExist.frm p l0 i = r) ∧ Aside0 (kq + i = l0.length) ∧ Aside0 (Below w.heap.size w w'))
  case atStart => exact ⟨0, rfl, Nat.zero_le _, HF, ⟨by omega⟩, ⟨Below.refl _ _⟩⟩
  case round =>
    clear HF; obtain ⟨i, rfl, hi, HF, HK, HB⟩ := hrel
    by_cases hlt : i < l0.length
    · obtain ⟨k1, rfl⟩ : ∃ m, gk = m + 1 := ⟨gk - 1, by have := HK.out; omega⟩; obtain ⟨ad, e_, hx0, hx1⟩ := at_T55 HR0.out (i : Int) (by omega) (by omega)
      cases e_
      replace hx0 := bl_ HB.out hx0; replace hx1 := bl_ HB.out hx1; simp only [Int.toNat_natCast] at hx0 hx1; have HCI := Aside0.mk (HC.out i hlt); (have hv : rd_T55 l0 (i : Int) = l0.getD i z55 := by unfold rd_T55; rw [Int.toNat_natCast]); have HV := Aside0.mk hv; clear hv
      cases hp : p (l0.getD i z55) with
      | true =>
        (have hb : p (rd_T55 l0 (i : Int)) = true := by rw [HV.out]; exact hp); have HP := Aside0.mk hp; clear hp
        go_wp2_with (go_at_call 92; (with_reducible refine (HCI.out _ HB.out).mono ?_); rintro e w1 ⟨rfl, hb1⟩; have HB2 := Aside0.mk (below_step HB.out hb1); clear hb1)
        go_ret; exact ⟨by rw [← HF.out, impl_Store_readsExist.frm_hit _ _ _ hlt HP.out]; rfl, HB2.out⟩
      | false =>
        (have hb : p (rd_T55 l0 (i : Int)) = false := by rw [HV.out]; exact hp); have HP := Aside0.mk hp; clear hp
        go_wp2_with (go_at_call 92; (with_reducible refine (HCI.out _ HB.out).mono ?_); rintro e w1 ⟨rfl, hb1⟩; have HB2 := Aside0.mk (below_step HB.out hb1); clear hb1)
        go_roundg k1
        case measure => have := HK.out; omega
        case rel => exact ⟨i + 1, by go_num, by omega, ⟨by rw [← HF.out, impl_Store_readsExist.frm_miss _ _ _ hlt HP.out]⟩, ⟨by have := HK.out; omega⟩, HB2⟩
    · go_wp2
      go_ret; exact ⟨by rw [← HF.out, impl_Store_readsExist.frm_end _ _ _ hlt]; rfl, HB.out⟩
/-- Is there no version of this mark? -/
def impl_Store_readsExist.miss (l : List (List S65)) (v : S55) : Bool := decide (impl_FindVersion.frm (rd_L6 l v.f0) v.f1 0 < 0)
set_option maxHeartbeats 2000000 in
set_option maxRecDepth 100000 in
theorem impl_Store_readsExist.clo (v : S55) (g : Nat) (A0 : Option Addr) (c0 : Nat) (l0 : List (List S65)) (w : World) (hr0 : Kd.C (Kd.slice 65 k65) w A0 l0.length l0) (hk0 : 0 ≤ v.f0) (hk1 : v.f0 < (l0.length : Int)) (hg : w.cell? ⟨g, 0, none⟩ = some (.slice A0 l0.length c0)) (hl : g < w.heap.size) :
    Calls Try.prog 92 #[.agg #[.int .i64 v.f0, .int .i64 v.f1], .pointer (some ⟨g, 0, none⟩)] w fun e w' => e = .returned (.bool (impl_Store_readsExist.miss l0 v)) ∧ Below w.heap.size w w' := by
  have hu := Try.underlying55; have hv := Try.underlying34; (have hg' : ∀ o, (w.alloc o).cell? ⟨g, 0, none⟩ = some (.slice A0 l0.length c0) := fun o => (World.cell?_alloc_lt _ _ _ hl).trans hg); have HR := Aside0.mk hr0; have HK0 := Aside0.mk hk0; have HK1 := Aside0.mk hk1; have HB := Aside0.mk (below_alloc (Below.refl w.heap.size w) (.cells #[.int .i64 v.f0, .int .i64 v.f1] 55)); clear hr0 hk0 hk1; obtain ⟨r, hr⟩ : ∃ r, r = impl_Store_readsExist.miss l0 v := ⟨_, rfl⟩; have HM := Aside0.mk hr; rw [← hr]; clear hr
  cases r with
  | true =>
    go_enter Try.func92, Try.ntmps92
    go_wp2_with (go_at_call 65; (with_reducible refine (impl_Store_find.told A0 c0 l0 v.f0 v.f1 _ ?s1 HK0.out HK1.out).mono ?_); (case s1 => exact Kd.C_below HR.out HB.out); rintro e w1 ⟨hb1, hd⟩; obtain ⟨hn, rfl⟩ := hd.resolve_right (fun hn => absurd (of_decide_eq_true HM.out.symm) (by have := hn.1; omega)); clear hd; have HB1 := Aside0.mk (below_step HB.out hb1); clear hb1 hn)
    go_ret; exact ⟨rfl, HB1.out⟩
  | false =>
    go_enter Try.func92, Try.ntmps92
    go_wp2_with (go_at_call 65; (with_reducible refine (impl_Store_find.told A0 c0 l0 v.f0 v.f1 _ ?s1 HK0.out HK1.out).mono ?_); (case s1 => exact Kd.C_below HR.out HB.out); rintro e w1 ⟨hb1, hd⟩; obtain ⟨hn, p, rfl, hp⟩ := hd.resolve_left (fun hn => absurd hn.1 (of_decide_eq_false HM.out.symm)); clear hd; have HB1 := Aside0.mk (below_step HB.out hb1); clear hb1 hn hp)
    go_ret; exact ⟨rfl, HB1.out⟩
set_option maxHeartbeats 2000000 in
set_option maxRecDepth 100000 in
theorem impl_Store_readsExist.con (p : S55 → Bool) (fv : Array Value) (A0 : Option Addr) (c0 : Nat) (l0 : List S55) (w : World) (hr0 : Kd.C k55 w A0 l0.length l0) (hc0 : l0.length ≤ c0)
    (hclo : ∀ j, j < l0.length → ∀ W, Below w.heap.size w W → Calls Try.prog 92 (#[.agg #[.int .i64 (rd_T55 l0 (j : Int)).f0, .int .i64 (rd_T55 l0 (j : Int)).f1]] ++ fv) W fun e w' => e = .returned (.bool (p (rd_T55 l0 (j : Int)))) ∧ Below W.heap.size W w') :
    Calls Try.prog 91 #[.slice A0 l0.length c0, .func (.func 92) #[] fv] w fun e w' => e = .returned (.bool (decide (impl_Store_readsExist.frm p l0 0 ≥ 0))) ∧ Below w.heap.size w w' := by
  have HR0 := Aside0.mk hr0; have HC := Aside0.mk hclo; clear hr0 hclo
  go_enter Try.func91, Try.ntmps91
  go_wp2_with (go_at_call 69; (with_reducible refine (impl_Store_readsExist.idx fv p A0 c0 l0 _ HR0.out hc0 HC.out).mono ?_); rintro e w1 ⟨rfl, hb1⟩; have HB2 := Aside0.mk hb1; clear hb1)
  go_ret; exact ⟨rfl, HB2.out⟩
/-- Are there versions of all marks? -/
def impl_Store_readsExist.f (l0_0 : List (List S65)) (l1 : List S55) : Option Bool := if (∀ j, j < l1.length → 0 ≤ (l1.getD j z55).f0 ∧ (l1.getD j z55).f0 < (l0_0.length : Int)) then some (decide (impl_Store_readsExist.frm (impl_Store_readsExist.miss l0_0) l1 0 < 0)) else none
set_option maxHeartbeats 2000000 in
set_option maxRecDepth 100000 in
theorem impl_Store_readsExist.calls (A0_0 : Option Addr) (c0_0 : Nat) (l0_0 : List (List S65)) (A1 : Option Addr) (c1 : Nat) (l1 : List S55) (r : Bool) (w : World) (hr0_0 : Kd.C (Kd.slice 65 k65) w A0_0 l0_0.length l0_0) (hc0_0 : l0_0.length ≤ c0_0) (hr1 : Kd.C k55 w A1 l1.length l1) (hc1 : l1.length ≤ c1) (h : impl_Store_readsExist.f l0_0 l1 = some r) :
    Calls Try.prog 75 #[.agg #[.slice A0_0 l0_0.length c0_0], .slice A1 l1.length c1] w fun e w' => e = .returned (.bool r) ∧ Below w.heap.size w w' := by
  have hu := Try.underlying34; unfold impl_Store_readsExist.f at h
  by_cases hk : ∀ j, j < l1.length → 0 ≤ (l1.getD j z55).f0 ∧ (l1.getD j z55).f0 < (l0_0.length : Int)
  · rw [if_pos hk] at h; obtain rfl := Option.some.inj h; have HR := Aside0.mk hr0_0; have HR1 := Aside0.mk hr1; have HC1 := Aside0.mk hc1; have HK := Aside0.mk hk; have HB := Aside0.mk (below_alloc (Below.refl w.heap.size w) (.cells #[.slice A0_0 l0_0.length c0_0] 34)); have HG := Aside0.mk (show (w.alloc (.cells #[.slice A0_0 l0_0.length c0_0] 34)).cell? ⟨w.heap.size, 0, none⟩ = some (.slice A0_0 l0_0.length c0_0) by simp); have HL := Aside0.mk (show w.heap.size < (w.alloc (.cells #[.slice A0_0 l0_0.length c0_0] 34)).heap.size from Nat.lt_of_lt_of_eq (Nat.lt_succ_self _) (Array.size_push _).symm); clear hr0_0 hr1 hc1 hk h
    go_enter Try.func75, Try.ntmps75
    go_wp2_with (go_at_call 91; (with_reducible refine (impl_Store_readsExist.con (impl_Store_readsExist.miss l0_0) #[.pointer (some ⟨w.heap.size, 0, none⟩)] A1 c1 l1 _ ?s1 HC1.out ?s2).mono ?_); (case s1 => exact Kd.C_below HR1.out HB.out); (case s2 => (intro j hj W hbW; have hv : rd_T55 l1 (j : Int) = l1.getD j z55 := (by unfold rd_T55; rw [Int.toNat_natCast]); rw [hv]; exact impl_Store_readsExist.clo _ _ A0_0 c0_0 l0_0 W (Kd.C_below (Kd.C_below HR.out HB.out) hbW) (HK.out j hj).1 (HK.out j hj).2 ((hbW.cell (World.block_lt_of_cell? _ _ HG.out)).trans HG.out) (Nat.lt_of_lt_of_le HL.out hbW.size))); rintro e w1 ⟨rfl, hb1⟩; have HB2 := Aside0.mk (below_step HB.out hb1); clear hb1)
    go_ret; exact ⟨congrArg (fun b => Ending.returned (.bool b)) (by rw [← decide_not]; exact decide_eq_decide.2 (by omega)), HB2.out⟩
  · rw [if_neg hk] at h
    cases h


/-! ### impl_ReadsExist: function 44 -/
def impl_ReadsExist.f (k : Nat) (l0_0 : List (List (S65))) (a1_0 : Int) (a1_1 : Int) (a1_2 : Int) (a1_3 : Int) (a1_4 : Int) (a1_5 : Int) (a1_6 : Int) (l1_7 : List (S55)) (l1_8 : List (S76)) : Option (Bool) := (impl_IsValidStore.f k l0_0).bind fun t380 => (if t380 = true then ((impl_IsValidTransaction.f k a1_0 a1_1 a1_2 a1_3 a1_4 a1_5 a1_6 l1_7 l1_8).bind fun t381 => (if t381 = true then ((impl_Store_readsExist.f l0_0 l1_7).bind fun t382 => (some t382)) else (some false))) else (some false))
theorem impl_ReadsExist.mono : ∀ a0 a1 a2 a3 a4 a5 a6 a7 a8 a9 k, LeO (impl_ReadsExist.f k a0 a1 a2 a3 a4 a5 a6 a7 a8 a9) (impl_ReadsExist.f (k + 1) a0 a1 a2 a3 a4 a5 a6 a7 a8 a9) := by
  intro a0 a1 a2 a3 a4 a5 a6 a7 a8 a9 k; unfold impl_ReadsExist.f
  repeat' first
      | (with_reducible first | apply impl_IsValidStore.mono | apply impl_IsValidTransaction.mono | exact LeO.refl _ | exact LeO.none _ | refine LeO.ite ?_ ?_ | refine LeO.bind ?_ (fun _ => ?_))
set_option maxHeartbeats 8000000 in
set_option maxRecDepth 100000 in
theorem impl_ReadsExist.calls (k : Nat) (A0_0 : Option Addr) (c0_0 : Nat) (l0_0 : List (List (S65))) (a1_0 : Int) (a1_1 : Int) (a1_2 : Int) (a1_3 : Int) (a1_4 : Int) (a1_5 : Int) (a1_6 : Int) (A1_7 : Option Addr) (c1_7 : Nat) (l1_7 : List (S55)) (A1_8 : Option Addr) (c1_8 : Nat) (l1_8 : List (S76)) (r : Bool) (w : World) (hr0_0 : Kd.C (Kd.slice 65 k65) w A0_0 l0_0.length l0_0) (hc0_0 : l0_0.length ≤ c0_0) (hr1_7 : Kd.C k55 w A1_7 l1_7.length l1_7) (hc1_7 : l1_7.length ≤ c1_7) (hr1_8 : Kd.C k76 w A1_8 l1_8.length l1_8) (hc1_8 : l1_8.length ≤ c1_8) (h : impl_ReadsExist.f k l0_0 a1_0 a1_1 a1_2 a1_3 a1_4 a1_5 a1_6 l1_7 l1_8 = some r) :
    Calls Try.prog 44 #[.agg #[.slice A0_0 l0_0.length c0_0], .agg #[.int .i64 a1_0, .int .i64 a1_1, .int .i64 a1_2, .int .i64 a1_3, .int .i64 a1_4, .int .i64 a1_5, .int .i64 a1_6, .slice A1_7 l1_7.length c1_7, .slice A1_8 l1_8.length c1_8]] w fun e w' => e = .returned (.bool r) ∧ Below w.heap.size w w' := by
  have hu34 := Try.underlying34; have hu39 := Try.underlying39; have HR0_0 := Aside0.mk hr0_0; have HC0_0 := Aside0.mk hc0_0; clear hr0_0 hc0_0; have HR1_7 := Aside0.mk hr1_7; have HC1_7 := Aside0.mk hc1_7; clear hr1_7 hc1_7; have HR1_8 := Aside0.mk hr1_8; have HC1_8 := Aside0.mk hc1_8; clear hr1_8 hc1_8; have HB := Aside0.mk (Below.refl w.heap.size w); have H : ((impl_IsValidStore.f k l0_0).bind fun t380 => (if t380 = true then ((impl_IsValidTransaction.f k a1_0 a1_1 a1_2 a1_3 a1_4 a1_5 a1_6 l1_7 l1_8).bind fun t381 => (if t381 = true then ((impl_Store_readsExist.f l0_0 l1_7).bind fun t382 => (some t382)) else (some false))) else (some false))) = some r := h; clear h; replace H := Option.bind_eq_some_iff.mp H; obtain ⟨t380, A30, H⟩ := H; have A3 := Aside0.mk A30; clear A30
  by_cases c4 : t380 = true
  · subst c4; rw [if_pos rfl] at H; replace H := Option.bind_eq_some_iff.mp H; obtain ⟨t381, A50, H⟩ := H; have A5 := Aside0.mk A50; clear A50
    by_cases c6 : t381 = true
    · subst c6; rw [if_pos rfl] at H; replace H := Option.bind_eq_some_iff.mp H; obtain ⟨t382, A70, H⟩ := H; have A7 := Aside0.mk A70; clear A70; obtain rfl := Option.some.inj H
      go_enter Try.func44, Try.ntmps44
      go_wp2_with (first | ((with_reducible refine gate_dst (N := 2) rfl ?_); refine be_ 2 #[.slice A0_0 l0_0.length c0_0] 34 ?_; intro gb378 hg w8 hbox hb; have BK378 := Aside0.mk (hbox); have GW378 := wk_ hg HB; replace HB := hs_ HB hb; have GE378 := GW378; clear hb hbox hg) | ((with_reducible refine gate_dst (N := 3) rfl ?_); refine be_ 3 #[.int .i64 a1_0, .int .i64 a1_1, .int .i64 a1_2, .int .i64 a1_3, .int .i64 a1_4, .int .i64 a1_5, .int .i64 a1_6, .slice A1_7 l1_7.length c1_7, .slice A1_8 l1_8.length c1_8] 39 ?_; intro gb379 hg w9 hbox hb; have BK379 := Aside0.mk (hbox); have GW379 := wk_ hg HB; replace HB := hs_ HB hb; have GE379 := GW379; have NB378_379 := nk_ hg BK378; replace BK378 := bb_ BK378 hb; have NB379_378 := ny_ NB378_379; clear hb hbox hg; have hnb10 := NB378_379.out; have hnc10 := NB379_378.out; have hcz11_0 := bc1_ BK378.out; have hfz11_0 := blk_frozen BK378.out 0) | ((with_reducible refine gate_callee (f := 51) rfl ?_); refine goesL_ (some 6) rfl rfl Try.func51 (by kernel_rfl) rfl #[.agg #[.slice A0_0 l0_0.length c0_0]] rfl mp_ ?_; (with_reducible refine (impl_IsValidStore.calls k _ _ l0_0 true _ ?side1 ?side2 A3.out).mono ?_); (case side1 => exact cq_ HR0_0.out HB.out); (case side2 => exact HC0_0.out); rintro e w12 ⟨rfl, hb⟩; refine ⟨_, rfl, ?_⟩; replace BK378 := bb_ BK378 hb; replace BK379 := bb_ BK379 hb; replace HB := hs_ HB hb; (try clear hb); (try clear hb2); (try clear hk); (try clear hi); have hcz13 := bc9_ BK379.out; have hfz13 := bf9_ BK379.out) | (go_at_call 52; (with_reducible refine (impl_IsValidTransaction.calls k a1_0 a1_1 a1_2 a1_3 a1_4 a1_5 a1_6 _ _ l1_7 _ _ l1_8 true _ ?side1 ?side2 ?side3 ?side4 A5.out).mono ?_); (case side1 => exact cq_ HR1_7.out HB.out); (case side2 => exact HC1_7.out); (case side3 => exact cq_ HR1_8.out HB.out); (case side4 => exact HC1_8.out); rintro e w14 ⟨rfl, hb⟩; replace BK378 := bb_ BK378 hb; replace BK379 := bb_ BK379 hb; replace HB := hs_ HB hb; (try clear hb); (try clear hb2); (try clear hk); (try clear hi); have hcz15_0 := bc1_ BK378.out; have hfz15_0 := blk_frozen BK378.out 0; have hcz16 := bc9_ BK379.out; have hfz16 := bf9_ BK379.out) | (go_at_call 75; (with_reducible refine (impl_Store_readsExist.calls _ _ l0_0 _ _ l1_7 t382 _ ?side1 ?side2 ?side3 ?side4 A7.out).mono ?_); (case side1 => exact cq_ HR0_0.out HB.out); (case side2 => exact HC0_0.out); (case side3 => exact cq_ HR1_7.out HB.out); (case side4 => exact HC1_7.out); rintro e w17 ⟨rfl, hb⟩; replace BK378 := bb_ BK378 hb; replace BK379 := bb_ BK379 hb; replace HB := hs_ HB hb; (try clear hb); (try clear hb2); (try clear hk); (try clear hi)))
      go_ret; exact ⟨ew_, hq2_ HB.out GE378.out GE379.out⟩
    · replace c6 := Bool.eq_false_iff.mpr c6; subst c6; rw [if_neg nt_] at H; obtain rfl := Option.some.inj H
      go_enter Try.func44, Try.ntmps44
      go_wp2_with (first | ((with_reducible refine gate_dst (N := 2) rfl ?_); refine be_ 2 #[.slice A0_0 l0_0.length c0_0] 34 ?_; intro gb378 hg w18 hbox hb; have BK378 := Aside0.mk (hbox); have GW378 := wk_ hg HB; replace HB := hs_ HB hb; have GE378 := GW378; clear hb hbox hg) | ((with_reducible refine gate_dst (N := 3) rfl ?_); refine be_ 3 #[.int .i64 a1_0, .int .i64 a1_1, .int .i64 a1_2, .int .i64 a1_3, .int .i64 a1_4, .int .i64 a1_5, .int .i64 a1_6, .slice A1_7 l1_7.length c1_7, .slice A1_8 l1_8.length c1_8] 39 ?_; intro gb379 hg w19 hbox hb; have BK379 := Aside0.mk (hbox); have GW379 := wk_ hg HB; replace HB := hs_ HB hb; have GE379 := GW379; have NB378_379 := nk_ hg BK378; replace BK378 := bb_ BK378 hb; have NB379_378 := ny_ NB378_379; clear hb hbox hg; have hnb20 := NB378_379.out; have hnc20 := NB379_378.out; have hcz21_0 := bc1_ BK378.out; have hfz21_0 := blk_frozen BK378.out 0) | ((with_reducible refine gate_callee (f := 51) rfl ?_); refine goesL_ (some 6) rfl rfl Try.func51 (by kernel_rfl) rfl #[.agg #[.slice A0_0 l0_0.length c0_0]] rfl mp_ ?_; (with_reducible refine (impl_IsValidStore.calls k _ _ l0_0 true _ ?side1 ?side2 A3.out).mono ?_); (case side1 => exact cq_ HR0_0.out HB.out); (case side2 => exact HC0_0.out); rintro e w22 ⟨rfl, hb⟩; refine ⟨_, rfl, ?_⟩; replace BK378 := bb_ BK378 hb; replace BK379 := bb_ BK379 hb; replace HB := hs_ HB hb; (try clear hb); (try clear hb2); (try clear hk); (try clear hi); have hcz23 := bc9_ BK379.out; have hfz23 := bf9_ BK379.out) | (go_at_call 52; (with_reducible refine (impl_IsValidTransaction.calls k a1_0 a1_1 a1_2 a1_3 a1_4 a1_5 a1_6 _ _ l1_7 _ _ l1_8 false _ ?side1 ?side2 ?side3 ?side4 A5.out).mono ?_); (case side1 => exact cq_ HR1_7.out HB.out); (case side2 => exact HC1_7.out); (case side3 => exact cq_ HR1_8.out HB.out); (case side4 => exact HC1_8.out); rintro e w24 ⟨rfl, hb⟩; replace BK378 := bb_ BK378 hb; replace BK379 := bb_ BK379 hb; replace HB := hs_ HB hb; (try clear hb); (try clear hb2); (try clear hk); (try clear hi)))
      go_ret; exact ⟨ew_, hq2_ HB.out GE378.out GE379.out⟩
  · replace c4 := Bool.eq_false_iff.mpr c4; subst c4; rw [if_neg nt_] at H; obtain rfl := Option.some.inj H
    go_enter Try.func44, Try.ntmps44
    go_wp2_with (first | ((with_reducible refine gate_dst (N := 2) rfl ?_); refine be_ 2 #[.slice A0_0 l0_0.length c0_0] 34 ?_; intro gb378 hg w25 hbox hb; have BK378 := Aside0.mk (hbox); have GW378 := wk_ hg HB; replace HB := hs_ HB hb; have GE378 := GW378; clear hb hbox hg) | ((with_reducible refine gate_dst (N := 3) rfl ?_); refine be_ 3 #[.int .i64 a1_0, .int .i64 a1_1, .int .i64 a1_2, .int .i64 a1_3, .int .i64 a1_4, .int .i64 a1_5, .int .i64 a1_6, .slice A1_7 l1_7.length c1_7, .slice A1_8 l1_8.length c1_8] 39 ?_; intro gb379 hg w26 hbox hb; have BK379 := Aside0.mk (hbox); have GW379 := wk_ hg HB; replace HB := hs_ HB hb; have GE379 := GW379; have NB378_379 := nk_ hg BK378; replace BK378 := bb_ BK378 hb; have NB379_378 := ny_ NB378_379; clear hb hbox hg; have hnb27 := NB378_379.out; have hnc27 := NB379_378.out; have hcz28_0 := bc1_ BK378.out; have hfz28_0 := blk_frozen BK378.out 0) | ((with_reducible refine gate_callee (f := 51) rfl ?_); refine goesL_ (some 6) rfl rfl Try.func51 (by kernel_rfl) rfl #[.agg #[.slice A0_0 l0_0.length c0_0]] rfl mp_ ?_; (with_reducible refine (impl_IsValidStore.calls k _ _ l0_0 false _ ?side1 ?side2 A3.out).mono ?_); (case side1 => exact cq_ HR0_0.out HB.out); (case side2 => exact HC0_0.out); rintro e w29 ⟨rfl, hb⟩; refine ⟨_, rfl, ?_⟩; replace BK378 := bb_ BK378 hb; replace BK379 := bb_ BK379 hb; replace HB := hs_ HB hb; (try clear hb); (try clear hb2); (try clear hk); (try clear hi)))
    go_ret; exact ⟨ew_, hq2_ HB.out GE378.out GE379.out⟩

/-! ### impl_Store_lastStamp: function 60 -/
mutual
def impl_Store_lastStamp.l0 : Nat → Int → List (List (S65)) → Int → Int → Option (Int)
  | 0, _, _, _, _ => none
  | k + 1, x3, x9, x10, x11 => if x11 < x10 then (if 0 ≤ x11 then (if x11 < (x9.length : Int) then (impl_Store_lastStamp.l1 k x3 x9 x10 x11 (rd_L6 x9 x11) ((rd_L6 x9 x11).length : Int) 0) else (none)) else (none)) else (some x3)
def impl_Store_lastStamp.l1 : Nat → Int → List (List (S65)) → Int → Int → List (S65) → Int → Int → Option (Int)
  | 0, _, _, _, _, _, _, _ => none
  | k + 1, x3, x9, x10, x11, x15, x16, x17 => if x17 < x16 then (if 0 ≤ x17 then (if x17 < (x15.length : Int) then (impl_Store_lastStamp.l1 k (mx x3 ((rd_T65 x15 x17).f3)) x9 x10 x11 x15 x16 (wrap64 (x17 + 1))) else (none)) else (none)) else (impl_Store_lastStamp.l0 k x3 x9 x10 (wrap64 (x11 + 1)))
end
def impl_Store_lastStamp.f (k : Nat) (l0_0 : List (List (S65))) : Option (Int) := impl_Store_lastStamp.l0 k 0 l0_0 (l0_0.length : Int) 0
theorem impl_Store_lastStamp.mono_l : ∀ k, (∀ y0 y1 y2 y3, LeO (impl_Store_lastStamp.l0 k y0 y1 y2 y3) (impl_Store_lastStamp.l0 (k + 1) y0 y1 y2 y3)) ∧ (∀ y0 y1 y2 y3 y4 y5 y6, LeO (impl_Store_lastStamp.l1 k y0 y1 y2 y3 y4 y5 y6) (impl_Store_lastStamp.l1 (k + 1) y0 y1 y2 y3 y4 y5 y6))
  | 0 => ⟨fun _ _ _ _ r h => by simp [impl_Store_lastStamp.l0] at h, fun _ _ _ _ _ _ _ r h => by simp [impl_Store_lastStamp.l1] at h⟩
  | k + 1 => by
    obtain ⟨ih0, ih1⟩ := impl_Store_lastStamp.mono_l k; refine ⟨?_, ?_⟩
    · intro y0 y1 y2 y3; unfold impl_Store_lastStamp.l0
      repeat' first
      | (with_reducible first | apply ih0 | apply ih1 | exact LeO.refl _ | exact LeO.none _ | refine LeO.ite ?_ ?_ | refine LeO.bind ?_ (fun _ => ?_))
    · intro y0 y1 y2 y3 y4 y5 y6; unfold impl_Store_lastStamp.l1
      repeat' first
      | (with_reducible first | apply ih0 | apply ih1 | exact LeO.refl _ | exact LeO.none _ | refine LeO.ite ?_ ?_ | refine LeO.bind ?_ (fun _ => ?_))
theorem impl_Store_lastStamp.mono : ∀ a0 k, LeO (impl_Store_lastStamp.f k a0) (impl_Store_lastStamp.f (k + 1) a0) := by
  intro a0 k; obtain ⟨ih0, ih1⟩ := impl_Store_lastStamp.mono_l k; unfold impl_Store_lastStamp.f
  repeat' first
      | (with_reducible first | apply ih0 | apply ih1 | exact LeO.refl _ | exact LeO.none _ | refine LeO.ite ?_ ?_ | refine LeO.bind ?_ (fun _ => ?_))
set_option maxHeartbeats 8000000 in
set_option maxRecDepth 100000 in
theorem impl_Store_lastStamp.calls (k : Nat) (A0_0 : Option Addr) (c0_0 : Nat) (l0_0 : List (List (S65))) (r : Int) (w : World) (hr0_0 : Kd.C (Kd.slice 65 k65) w A0_0 l0_0.length l0_0) (hc0_0 : l0_0.length ≤ c0_0) (h : impl_Store_lastStamp.f k l0_0 = some r) :
    Calls Try.prog 60 #[.agg #[.slice A0_0 l0_0.length c0_0]] w fun e w' => e = .returned (.int .i64 r) ∧ Below w.heap.size w w' := by
  have hu34 := Try.underlying34; have hu65 := Try.underlying65; have HR0_0 := Aside0.mk hr0_0; have HC0_0 := Aside0.mk hc0_0; clear hr0_0 hc0_0; have HB := Aside0.mk (Below.refl w.heap.size w); have H : (impl_Store_lastStamp.l0 k 0 l0_0 (l0_0.length : Int) 0) = some r := h; clear h; have H' := Aside0.mk H; clear H
  go_enter Try.func60, Try.ntmps60
  go_wp2_with (first | ((with_reducible refine gate_dst (N := 1) rfl ?_); refine be_ 1 #[.slice A0_0 l0_0.length c0_0] 34 ?_; intro gb383 hg w2 hbox hb; have BK383 := Aside0.mk (hbox); have GW383 := wk_ hg HB; replace HB := hs_ HB hb; have GE383 := GW383; clear hb hbox hg; have hcz3_0 := bc1_ BK383.out; have hfz3_0 := blk_frozen BK383.out 0))
  go_loopg [3, 11] k (fun kq v3 v11 w' => ∃ (x3_1 : Int) (x11_1 : Int), v3 = .int .i64 x3_1 ∧ v11 = .int .i64 x11_1 ∧ Aside0 (impl_Store_lastStamp.l0 kq x3_1 l0_0 (l0_0.length : Int) x11_1 = some r) ∧ Aside0 (kq ≤ k) ∧ Aside0 (w'.heap[gb383]? = some (.cells #[(.slice A0_0 l0_0.length c0_0)] 34 (0, 0))) ∧ Aside0 (Below w.heap.size w w'))
  case atStart => exact ⟨(0), (0), rs_, rs_, H', ⟨Nat.le_refl _⟩, ⟨bq_ BK383.out⟩, ⟨hbw_ HB⟩⟩
  case round =>
    clear H'; (try clear hcz3_0); (try clear hfz3_0); obtain ⟨x3_1, x11_1, rfl, rfl, HA, HK1, BK383, HB⟩ := hrel
    cases gk with
    | zero => exact absurd HA.out (by simp [impl_Store_lastStamp.l0])
    | succ k1 =>
      have H := HA.out; clear HA; simp only [impl_Store_lastStamp.l0] at H
      by_cases c4 : x11_1 < (l0_0.length : Int)
      · rw [if_pos c4] at H; have c4b0 : decide (x11_1 < (l0_0.length : Int)) = true := decide_eq_true c4; clear c4
        by_cases c5 : 0 ≤ x11_1
        · rw [if_pos c5] at H; have c5b0 : decide (0 ≤ x11_1) = true := decide_eq_true c5; clear c5
          by_cases c6 : x11_1 < (l0_0.length : Int)
          · rw [if_pos c6] at H; have c6b0 : decide (x11_1 < (l0_0.length : Int)) = true := decide_eq_true c6; clear c6; have H' := Aside0.mk H; clear H; have p384 : 0 ≤ (x11_1 : Int) := of_decide_eq_true as_; have q384 : x11_1 < (l0_0.length : Int) := of_decide_eq_true as_; obtain ⟨ad384, A384_0, c384_0, e384, hx384_0, hl384_0, hi384_0⟩ := at_L6 HR0_0.out x11_1 p384 q384
            cases e384
            replace hx384_0 := bl_ HB.out hx384_0; have HR384_0 := Aside0.mk hi384_0; have HC384_0 := Aside0.mk hl384_0; clear hi384_0 hl384_0; replace p384 := eq_true p384; replace q384 := eq_true q384
            go_wp2
            go_loopg [3, 17] k1 (fun kq v3 v17 w' => ∃ (x3_2 : Int) (x17_2 : Int), v3 = .int .i64 x3_2 ∧ v17 = .int .i64 x17_2 ∧ Aside0 (impl_Store_lastStamp.l1 kq x3_2 l0_0 (l0_0.length : Int) x11_1 (rd_L6 l0_0 x11_1) ((rd_L6 l0_0 x11_1).length : Int) x17_2 = some r) ∧ Aside0 (kq ≤ k1) ∧ Aside0 (w'.heap[gb383]? = some (.cells #[(.slice (some ad384) l0_0.length c0_0)] 34 (0, 0))) ∧ Aside0 (Below w.heap.size w w'))
            case atStart => exact ⟨(x3_1), (0), rs_, rs_, H', ⟨Nat.le_refl _⟩, ⟨bq_ BK383.out⟩, ⟨hbw_ HB⟩⟩
            case round =>
              clear H'; (try clear c4b0); (try clear c5b0); (try clear c6b0); (try clear hcz3_0); (try clear hfz3_0); (try clear hx384_0); obtain ⟨x3_2, x17_2, rfl, rfl, HA, HK2, BK383, HB⟩ := hrel
              cases gk with
              | zero => exact absurd HA.out (by simp [impl_Store_lastStamp.l1])
              | succ k2 =>
                have H := HA.out; clear HA; simp only [impl_Store_lastStamp.l1] at H
                by_cases c7 : x17_2 < ((rd_L6 l0_0 x11_1).length : Int)
                · rw [if_pos c7] at H; have c7b0 : decide (x17_2 < ((rd_L6 l0_0 x11_1).length : Int)) = true := decide_eq_true c7; clear c7
                  by_cases c8 : 0 ≤ x17_2
                  · rw [if_pos c8] at H; have c8b0 : decide (0 ≤ x17_2) = true := decide_eq_true c8; clear c8
                    by_cases c9 : x17_2 < ((rd_L6 l0_0 x11_1).length : Int)
                    · rw [if_pos c9] at H; have c9b0 : decide (x17_2 < ((rd_L6 l0_0 x11_1).length : Int)) = true := decide_eq_true c9; clear c9; obtain ⟨ji10, hji10⟩ : ∃ j_ : Int, (mx x3_2 ((rd_T65 (rd_L6 l0_0 x11_1) x17_2).f3)) = j_ := ⟨_, rfl⟩; (replace H : (impl_Store_lastStamp.l1 k2 ji10 l0_0 (l0_0.length : Int) x11_1 (rd_L6 l0_0 x11_1) ((rd_L6 l0_0 x11_1).length : Int) (wrap64 (x17_2 + 1))) = some r := by first | (rw [hji10] at H; exact H) | (simp only [hji10] at H ⊢; exact H)); have hji10_ : (if x3_2 < ((rd_T65 (rd_L6 l0_0 x11_1) x17_2).f3) then ((rd_T65 (rd_L6 l0_0 x11_1) x17_2).f3) else x3_2) = ji10 := hji10; have H' := Aside0.mk H; clear H; have p385 : 0 ≤ (x17_2 : Int) := of_decide_eq_true as_; have q385 : x17_2 < ((rd_L6 l0_0 x11_1).length : Int) := of_decide_eq_true as_; obtain ⟨ad385, e385, hx385_0, hx385_1, hx385_2, hx385_3, hx385_4⟩ := at_T65 HR384_0.out x17_2 p385 q385
                      cases e385
                      replace hx385_0 := bl_ HB.out hx385_0; replace hx385_1 := bl_ HB.out hx385_1; replace hx385_2 := bl_ HB.out hx385_2; replace hx385_3 := bl_ HB.out hx385_3; replace hx385_4 := bl_ HB.out hx385_4; replace p385 := eq_true p385; replace q385 := eq_true q385
                      go_wp2_with (first | ((with_reducible refine gate_dst (N := 7) rfl ?_); refine be_ 7 #[.int .i64 0, .int .i64 0, .int .i64 0, .int .i64 0, .int .i64 0] 65 ?_; intro gb386 hg w11 hbox hb; have BK386 := Aside0.mk (hbox); have GW386 := wk_ hg HB; replace HB := hs_ HB hb; have GE386 := GW386; have NB383_386 := nk_ hg BK383; replace BK383 := bb_ BK383 hb; have NB386_383 := ny_ NB383_386; clear hb hbox hg; have hnb12 := NB386_383.out; have hnc12 := NB383_386.out; have hcz13 := bc5_ BK386.out; have hfz13 := bf5_ BK386.out))
                      go_roundg k2
                      case measure => have := HK1.out; have := HK2.out; omega
                      case rel => exact ⟨(ji10), (wrap64 (x17_2 + 1)), (by first | rfl | (simp; done) | (simp only [← hji10] <;> (first | rfl | simp)) | (simp [*]; done)), rs_, H', ⟨by have := HK1.out; have := HK2.out; omega⟩, ⟨bk1_ BK383.out NB383_386.out⟩, ⟨hbw_ HB⟩⟩
                    · rw [if_neg c9] at H; exact absurd H (by simp)
                  · rw [if_neg c8] at H; exact absurd H (by simp)
                · rw [if_neg c7] at H; have c7b0 : decide (x17_2 < ((rd_L6 l0_0 x11_1).length : Int)) = false := decide_eq_false c7; clear c7; have H' := Aside0.mk H; clear H
                  go_wp2
                  go_roundg k2
                  case measure => have := HK1.out; have := HK2.out; omega
                  case rel => exact ⟨(x3_2), (wrap64 (x11_1 + 1)), rs_, rs_, H', ⟨by have := HK1.out; have := HK2.out; omega⟩, ⟨bq_ BK383.out⟩, ⟨hbw_ HB⟩⟩
          · rw [if_neg c6] at H; exact absurd H (by simp)
        · rw [if_neg c5] at H; exact absurd H (by simp)
      · rw [if_neg c4] at H; have c4b0 : decide (x11_1 < (l0_0.length : Int)) = false := decide_eq_false c4; clear c4; obtain rfl := Option.some.inj H
        go_wp2
        go_ret; exact ⟨ew_, hq1_ HB.out GE383.out⟩

/-! ### impl_Store_refreshHigh: function 45 -/
def impl_Store_refreshHigh.l0 : Nat → Int → List (S55) → Int → Int → List (List (S65)) → Option (Int)
  | 0, _, _, _, _, _ => none
  | k + 1, x5, x9, x10, x11, x388000 => if x11 < x10 then (if 0 ≤ x11 then (if x11 < (x9.length : Int) then ((impl_Store_find.f x388000 ((rd_T55 x9 x11).f0) ((rd_T55 x9 x11).f1)).bind fun bt391 => (impl_Store_refreshHigh.l0 k (mn x5 bt391.2.2.2.2) x9 x10 (wrap64 (x11 + 1)) x388000)) else (none)) else (none)) else (some x5)
def impl_Store_refreshHigh.f (k : Nat) (l0_0 : List (List (S65))) (a1_0 : Int) (a1_1 : Int) (a1_2 : Int) (a1_3 : Int) (a1_4 : Int) (a1_5 : Int) (a1_6 : Int) (l1_7 : List (S55)) (l1_8 : List (S76)) : Option (Int) := impl_Store_refreshHigh.l0 k 1000 l1_7 (l1_7.length : Int) 0 l0_0
theorem impl_Store_refreshHigh.mono_l : ∀ k, (∀ y0 y1 y2 y3 y4, LeO (impl_Store_refreshHigh.l0 k y0 y1 y2 y3 y4) (impl_Store_refreshHigh.l0 (k + 1) y0 y1 y2 y3 y4))
  | 0 => fun _ _ _ _ _ r h => by simp [impl_Store_refreshHigh.l0] at h
  | k + 1 => by
    have ih0 := impl_Store_refreshHigh.mono_l k
    · intro y0 y1 y2 y3 y4; unfold impl_Store_refreshHigh.l0
      repeat' first
      | (with_reducible first | apply ih0 | exact LeO.refl _ | exact LeO.none _ | refine LeO.ite ?_ ?_ | refine LeO.bind ?_ (fun _ => ?_))
theorem impl_Store_refreshHigh.mono : ∀ a0 a1 a2 a3 a4 a5 a6 a7 a8 a9 k, LeO (impl_Store_refreshHigh.f k a0 a1 a2 a3 a4 a5 a6 a7 a8 a9) (impl_Store_refreshHigh.f (k + 1) a0 a1 a2 a3 a4 a5 a6 a7 a8 a9) := by
  intro a0 a1 a2 a3 a4 a5 a6 a7 a8 a9 k; have ih0 := impl_Store_refreshHigh.mono_l k; unfold impl_Store_refreshHigh.f
  repeat' first
      | (with_reducible first | apply ih0 | exact LeO.refl _ | exact LeO.none _ | refine LeO.ite ?_ ?_ | refine LeO.bind ?_ (fun _ => ?_))
set_option maxHeartbeats 8000000 in
set_option maxRecDepth 100000 in
theorem impl_Store_refreshHigh.calls (k : Nat) (A0_0 : Option Addr) (c0_0 : Nat) (l0_0 : List (List (S65))) (a1_0 : Int) (a1_1 : Int) (a1_2 : Int) (a1_3 : Int) (a1_4 : Int) (a1_5 : Int) (a1_6 : Int) (A1_7 : Option Addr) (c1_7 : Nat) (l1_7 : List (S55)) (A1_8 : Option Addr) (c1_8 : Nat) (l1_8 : List (S76)) (r : Int) (w : World) (hr0_0 : Kd.C (Kd.slice 65 k65) w A0_0 l0_0.length l0_0) (hc0_0 : l0_0.length ≤ c0_0) (hr1_7 : Kd.C k55 w A1_7 l1_7.length l1_7) (hc1_7 : l1_7.length ≤ c1_7) (hr1_8 : Kd.C k76 w A1_8 l1_8.length l1_8) (hc1_8 : l1_8.length ≤ c1_8) (h : impl_Store_refreshHigh.f k l0_0 a1_0 a1_1 a1_2 a1_3 a1_4 a1_5 a1_6 l1_7 l1_8 = some r) :
    Calls Try.prog 45 #[.agg #[.slice A0_0 l0_0.length c0_0], .agg #[.int .i64 a1_0, .int .i64 a1_1, .int .i64 a1_2, .int .i64 a1_3, .int .i64 a1_4, .int .i64 a1_5, .int .i64 a1_6, .slice A1_7 l1_7.length c1_7, .slice A1_8 l1_8.length c1_8]] w fun e w' => e = .returned (.int .i64 r) ∧ Below w.heap.size w w' := by
  have hu34 := Try.underlying34; have hu39 := Try.underlying39; have hu55 := Try.underlying55; have HR0_0 := Aside0.mk hr0_0; have HC0_0 := Aside0.mk hc0_0; clear hr0_0 hc0_0; have HR1_7 := Aside0.mk hr1_7; have HC1_7 := Aside0.mk hc1_7; clear hr1_7 hc1_7; have HR1_8 := Aside0.mk hr1_8; have HC1_8 := Aside0.mk hc1_8; clear hr1_8 hc1_8; have HB := Aside0.mk (Below.refl w.heap.size w); have H : (impl_Store_refreshHigh.l0 k 1000 l1_7 (l1_7.length : Int) 0 l0_0) = some r := h; clear h; have H' := Aside0.mk H; clear H
  go_enter Try.func45, Try.ntmps45
  go_wp2_with (first | ((with_reducible refine gate_dst (N := 2) rfl ?_); refine be_ 2 #[.slice A0_0 l0_0.length c0_0] 34 ?_; intro gb387 hg w3 hbox hb; have BK387 := Aside0.mk (hbox); have GW387 := wk_ hg HB; replace HB := hs_ HB hb; have GE387 := GW387; clear hb hbox hg) | ((with_reducible refine gate_dst (N := 3) rfl ?_); refine be_ 3 #[.int .i64 a1_0, .int .i64 a1_1, .int .i64 a1_2, .int .i64 a1_3, .int .i64 a1_4, .int .i64 a1_5, .int .i64 a1_6, .slice A1_7 l1_7.length c1_7, .slice A1_8 l1_8.length c1_8] 39 ?_; intro gb388 hg w4 hbox hb; have BK388 := Aside0.mk (hbox); have GW388 := wk_ hg HB; replace HB := hs_ HB hb; have GE388 := GW388; have NB387_388 := nk_ hg BK387; replace BK387 := bb_ BK387 hb; have NB388_387 := ny_ NB387_388; clear hb hbox hg; have hnb5 := NB388_387.out; have hnc5 := NB387_388.out; have hcz6 := bc9_ BK388.out; have hfz6 := bf9_ BK388.out))
  go_loopg [5, 11] k (fun kq v5 v11 w' => ∃ (x5_1 : Int) (x11_1 : Int), v5 = .int .i64 x5_1 ∧ v11 = .int .i64 x11_1 ∧ Aside0 (impl_Store_refreshHigh.l0 kq x5_1 l1_7 (l1_7.length : Int) x11_1 l0_0 = some r) ∧ Aside0 (kq ≤ k) ∧ Aside0 (w'.heap[gb387]? = some (.cells #[(.slice A0_0 l0_0.length c0_0)] 34 (0, 0))) ∧ Aside0 (w'.heap[gb388]? = some (.cells #[.int .i64 a1_0, .int .i64 a1_1, .int .i64 a1_2, .int .i64 a1_3, .int .i64 a1_4, .int .i64 a1_5, .int .i64 a1_6, (.slice A1_7 l1_7.length c1_7), (.slice A1_8 l1_8.length c1_8)] 39 (0, 0))) ∧ Aside0 (Below w.heap.size w w'))
  case atStart => exact ⟨(1000), (0), rs_, rs_, H', ⟨Nat.le_refl _⟩, ⟨bq_ BK387.out⟩, ⟨bq_ BK388.out⟩, ⟨hbw_ HB⟩⟩
  case round =>
    clear H'; obtain ⟨x5_1, x11_1, rfl, rfl, HA, HK1, BK387, BK388, HB⟩ := hrel
    cases gk with
    | zero => exact absurd HA.out (by simp [impl_Store_refreshHigh.l0])
    | succ k1 =>
      have H := HA.out; clear HA; simp only [impl_Store_refreshHigh.l0] at H
      by_cases c7 : x11_1 < (l1_7.length : Int)
      · rw [if_pos c7] at H; have c7b0 : decide (x11_1 < (l1_7.length : Int)) = true := decide_eq_true c7; clear c7
        by_cases c8 : 0 ≤ x11_1
        · rw [if_pos c8] at H; have c8b0 : decide (0 ≤ x11_1) = true := decide_eq_true c8; clear c8
          by_cases c9 : x11_1 < (l1_7.length : Int)
          · rw [if_pos c9] at H; have c9b0 : decide (x11_1 < (l1_7.length : Int)) = true := decide_eq_true c9; clear c9; replace H := Option.bind_eq_some_iff.mp H; obtain ⟨⟨t391, t392, t393, t394, t395⟩, A100, H⟩ := H; replace H : (impl_Store_refreshHigh.l0 k1 (mn x5_1 t395) l1_7 (l1_7.length : Int) (wrap64 (x11_1 + 1)) l0_0) = some r := H; have A10 := Aside0.mk A100; clear A100; obtain ⟨ji11, hji11⟩ : ∃ j_ : Int, (mn x5_1 t395) = j_ := ⟨_, rfl⟩; (replace H : (impl_Store_refreshHigh.l0 k1 ji11 l1_7 (l1_7.length : Int) (wrap64 (x11_1 + 1)) l0_0) = some r := by first | (rw [hji11] at H; exact H) | (simp only [hji11] at H ⊢; exact H)); (try rw [hji11] at A10); have hji11_ : (if t395 < x5_1 then t395 else x5_1) = ji11 := hji11; have H' := Aside0.mk H; clear H; have p389 : 0 ≤ (x11_1 : Int) := of_decide_eq_true as_; have q389 : x11_1 < (l1_7.length : Int) := of_decide_eq_true as_; obtain ⟨ad389, e389, hx389_0, hx389_1⟩ := at_T55 HR1_7.out x11_1 p389 q389
            cases e389
            replace hx389_0 := bl_ HB.out hx389_0; replace hx389_1 := bl_ HB.out hx389_1; replace p389 := eq_true p389; replace q389 := eq_true q389
            go_wp2_with (first | ((with_reducible refine gate_dst (N := 7) rfl ?_); refine be_ 7 #[.int .i64 0, .int .i64 0] 55 ?_; intro gb390 hg w12 hbox hb; have BK390 := Aside0.mk (hbox); have GW390 := wk_ hg HB; replace HB := hs_ HB hb; have GE390 := GW390; have NB387_390 := nk_ hg BK387; replace BK387 := bb_ BK387 hb; have NB390_387 := ny_ NB387_390; have NB388_390 := nk_ hg BK388; replace BK388 := bb_ BK388 hb; have NB390_388 := ny_ NB388_390; clear hb hbox hg; have hnb13 := NB390_387.out; have hnc13 := NB387_390.out; have hnb14 := NB390_388.out; have hnc14 := NB388_390.out; have hcz15 := bc2_ BK390.out; have hfz15 := bf2_ BK390.out; have hnb16 := NB387_388.out; have hnc16 := NB388_387.out; have hcz17_0 := bc1_ BK387.out; have hfz17_0 := blk_frozen BK387.out 0) | ((with_reducible refine gate_callee (f := 65) rfl ?_); refine goesL_ (some 18) rfl rfl Try.func65 (by kernel_rfl) rfl #[.agg #[.slice A0_0 l0_0.length c0_0], .agg #[.int .i64 ((rd_T55 l1_7 x11_1).f0), .int .i64 ((rd_T55 l1_7 x11_1).f1)]] rfl mp_ ?_; (with_reducible refine (impl_Store_find.calls _ _ l0_0 ((rd_T55 l1_7 x11_1).f0) ((rd_T55 l1_7 x11_1).f1) t391 t392 t393 t394 t395 w _ ?side1 ?side2 ?side3 A10.out).mono ?_); (case side1 => repeat (first | (with_reducible first | exact HB.out | apply below_alloc | apply pw_below_drewN | apply below_drew1 | refine below_set ?_ GE387.out | refine below_set ?_ GE388.out | refine below_set ?_ GE390.out) | exact HB.out)); (case side2 => exact HR0_0.out); (case side3 => exact HC0_0.out); rintro e w18 ⟨g396, rfl, hi, hb, hb2⟩; refine ⟨_, rfl, ?_⟩; replace BK387 := Aside0.mk (blk_below (g := gb387) (o := .cells #[.slice A0_0 l0_0.length c0_0] 34 (0, 0)) (bk1_ BK387.out NB387_390.out) hb2); replace BK388 := Aside0.mk (blk_below (g := gb388) (o := .cells #[.int .i64 a1_0, .int .i64 a1_1, .int .i64 a1_2, .int .i64 a1_3, .int .i64 a1_4, .int .i64 a1_5, .int .i64 a1_6, .slice (some ad389) l1_7.length c1_7, .slice A1_8 l1_8.length c1_8] 39 (0, 0)) (bk1_ BK388.out NB388_390.out) hb2); replace BK390 := Aside0.mk (blk_below (g := gb390) (o := .cells #[.int .i64 ((rd_T55 l1_7 x11_1).f0), .int .i64 ((rd_T55 l1_7 x11_1).f1)] 55 (0, 0)) (by (with_reducible repeat (first | refine blk_drewN ?_ _ | refine blk_drew ?_ | refine blk_alloc ?_ _)); refine blk_put (cs := #[.int .i64 ((rd_T55 l1_7 x11_1).f0), .int .i64 0]) ?_ 1 _ rfl; (with_reducible repeat (first | refine blk_drewN ?_ _ | refine blk_drew ?_ | refine blk_alloc ?_ _)); refine blk_put (cs := #[.int .i64 0, .int .i64 0]) ?_ 0 _ rfl; (with_reducible repeat (first | refine blk_drewN ?_ _ | refine blk_drew ?_ | refine blk_alloc ?_ _)); exact BK390.out) hb2); replace HB := Aside0.mk (hb); have HI396 := Aside0.mk (hi); have NB396_387 := Aside0.mk True.intro; have NB387_396 := Aside0.mk True.intro; have NB396_388 := Aside0.mk True.intro; have NB388_396 := Aside0.mk True.intro; have NB396_390 := Aside0.mk True.intro; have NB390_396 := Aside0.mk True.intro; (try clear hb); (try clear hb2); (try clear hk); (try clear hi); obtain ⟨hcz19_0, hcz19_1, hcz19_2, hcz19_3, hcz19_4⟩ := HI396.out))
            go_roundg k1
            case measure => have := HK1.out; omega
            case rel => exact ⟨(ji11), (wrap64 (x11_1 + 1)), (by first | rfl | (simp; done) | (simp only [← hji11] <;> (first | rfl | simp)) | (simp [*]; done)), rs_, H', ⟨by have := HK1.out; omega⟩, ⟨bq_ BK387.out⟩, ⟨bq_ BK388.out⟩, ⟨hbw_ HB⟩⟩
          · rw [if_neg c9] at H; exact absurd H (by simp)
        · rw [if_neg c8] at H; exact absurd H (by simp)
      · rw [if_neg c7] at H; have c7b0 : decide (x11_1 < (l1_7.length : Int)) = false := decide_eq_false c7; clear c7; obtain rfl := Option.some.inj H
        go_wp2
        go_ret; exact ⟨ew_, hq2_ HB.out GE387.out GE388.out⟩

/-! ### impl_Store_latest: function 68 -/
-- FLAGS PTR
/-- The cells of a version. -/
def CellsV (w : World) (p : Addr) (v : S65) : Prop :=
  w.cell? p = some (.int .i64 v.f0) ∧ w.cell? ⟨p.block, p.off + 1, none⟩ = some (.int .i64 v.f1) ∧ w.cell? ⟨p.block, p.off + 2, none⟩ = some (.int .i64 v.f2) ∧ w.cell? ⟨p.block, p.off + 3, none⟩ = some (.int .i64 v.f3) ∧ w.cell? ⟨p.block, p.off + 4, none⟩ = some (.int .i64 v.f4)
set_option maxHeartbeats 2000000 in
set_option maxRecDepth 100000 in
/-- Where the last version of a key stands; its cells are told of an elder world. -/
theorem impl_Store_latest.told0 (A0 : Option Addr) (c0 : Nat) (l0 : List (List S65)) (key i : Int) (w0 w : World) (hb0 : Below w0.heap.size w0 w) (hr0 : Kd.C (Kd.slice 65 k65) w0 A0 l0.length l0) (hk0 : 0 ≤ key) (hk1 : key < (l0.length : Int)) (hi : wrap64 (((rd_L6 l0 key).length : Int) - 1) = i) (hi0 : 0 ≤ i) (hi1 : i < ((rd_L6 l0 key).length : Int)) :
    Calls Try.prog 68 #[.agg #[.slice A0 l0.length c0], .int .i64 key] w fun e w' => ∃ p : Addr, e = .returned (.pointer (some p)) ∧ Below w.heap.size w w' ∧ CellsV w0 p (rd_T65 (rd_L6 l0 key) i) := by
  have hu := Try.underlying34; have hb := below_alloc (Below.refl w.heap.size w) (.cells #[.slice A0 l0.length c0] 34); obtain ⟨ad1, A2, c2, e1, hx, hl2, hC⟩ := at_L6 hr0 key hk0 hk1
  cases e1
  obtain ⟨ad2, e2, hx0, hx1, hx2, hx3, hx4⟩ := at_T65 hC i hi0 hi1
  cases e2
  replace hx := (hb0.cell (World.block_lt_of_cell? w0 _ hx)).trans hx; replace hx := (hb.cell (World.block_lt_of_cell? w _ hx)).trans hx; have HB := Aside0.mk hb; have HC := Aside0.mk (show CellsV w0 _ (rd_T65 (rd_L6 l0 key) i) from ⟨hx0, hx1, hx2, hx3, hx4⟩); clear hb hx0 hx1 hx2 hx3 hx4 hC hr0 hb0; have d1 := decide_eq_true hk0; have d2 := decide_eq_true hk1; have d3 := decide_eq_true hi0; have d4 := decide_eq_true hi1; replace hk0 := eq_true hk0; replace hk1 := eq_true hk1; replace hi0 := eq_true hi0; replace hi1 := eq_true hi1
  go_enter Try.func68, Try.ntmps68
  go_wp2
  go_ret; exact ⟨_, rfl, HB.out, HC.out⟩
theorem impl_Store_latest.told (A0 : Option Addr) (c0 : Nat) (l0 : List (List S65)) (key i : Int) (w : World) (hr0 : Kd.C (Kd.slice 65 k65) w A0 l0.length l0) (hk0 : 0 ≤ key) (hk1 : key < (l0.length : Int)) (hi : wrap64 (((rd_L6 l0 key).length : Int) - 1) = i) (hi0 : 0 ≤ i) (hi1 : i < ((rd_L6 l0 key).length : Int)) :
    Calls Try.prog 68 #[.agg #[.slice A0 l0.length c0], .int .i64 key] w fun e w' => ∃ p : Addr, e = .returned (.pointer (some p)) ∧ Below w.heap.size w w' ∧ CellsV w p (rd_T65 (rd_L6 l0 key) i) :=
  impl_Store_latest.told0 A0 c0 l0 key i w w (Below.refl _ _) hr0 hk0 hk1 hi hi0 hi1
/-- The last version of a key, where there is one. -/
def impl_Store_latest.f (l0 : List (List S65)) (key : Int) : Option (Int × Int × Int × Int × Int) :=
  if 0 ≤ key ∧ key < (l0.length : Int) ∧ 0 ≤ wrap64 (((rd_L6 l0 key).length : Int) - 1) ∧ wrap64 (((rd_L6 l0 key).length : Int) - 1) < ((rd_L6 l0 key).length : Int) then
    some ((rd_T65 (rd_L6 l0 key) (wrap64 (((rd_L6 l0 key).length : Int) - 1))).f0, (rd_T65 (rd_L6 l0 key) (wrap64 (((rd_L6 l0 key).length : Int) - 1))).f1, (rd_T65 (rd_L6 l0 key) (wrap64 (((rd_L6 l0 key).length : Int) - 1))).f2, (rd_T65 (rd_L6 l0 key) (wrap64 (((rd_L6 l0 key).length : Int) - 1))).f3, (rd_T65 (rd_L6 l0 key) (wrap64 (((rd_L6 l0 key).length : Int) - 1))).f4)
  else none
theorem impl_Store_latest.calls (A0 : Option Addr) (c0 : Nat) (l0 : List (List S65)) (key : Int) (r1 r2 r3 r4 r5 : Int) (w0 w : World) (hb0 : Below w0.heap.size w0 w) (hr0 : Kd.C (Kd.slice 65 k65) w0 A0 l0.length l0) (hc0 : l0.length ≤ c0) (h : impl_Store_latest.f l0 key = some (r1, r2, r3, r4, r5)) :
    Calls Try.prog 68 #[.agg #[.slice A0 l0.length c0], .int .i64 key] w fun e w' => ∃ p : Addr, e = .returned (.pointer (some p)) ∧ CellsV w' p ⟨r1, r2, r3, r4, r5⟩ ∧ Below w0.heap.size w0 w' ∧ Below w.heap.size w w' := by
  unfold impl_Store_latest.f at h
  by_cases hk : 0 ≤ key ∧ key < (l0.length : Int) ∧ 0 ≤ wrap64 (((rd_L6 l0 key).length : Int) - 1) ∧ wrap64 (((rd_L6 l0 key).length : Int) - 1) < ((rd_L6 l0 key).length : Int)
  · rw [if_pos hk] at h; have h := Option.some.inj h; simp only [Prod.mk.injEq] at h; obtain ⟨rfl, rfl, rfl, rfl, rfl⟩ := h; refine (impl_Store_latest.told A0 c0 l0 key _ w (Kd.C_below hr0 hb0) hk.1 hk.2.1 rfl hk.2.2.1 hk.2.2.2).mono ?_; rintro e w' ⟨p, rfl, hb, q0, q1, q2, q3, q4⟩; exact ⟨p, rfl, ⟨(hb.cell (World.block_lt_of_cell? w _ q0)).trans q0, (hb.cell (World.block_lt_of_cell? w _ q1)).trans q1, (hb.cell (World.block_lt_of_cell? w _ q2)).trans q2, (hb.cell (World.block_lt_of_cell? w _ q3)).trans q3, (hb.cell (World.block_lt_of_cell? w _ q4)).trans q4⟩, below_step hb0 hb, hb⟩
  · rw [if_neg hk] at h
    cases h
theorem impl_Store_latest.calls0 (A0 : Option Addr) (c0 : Nat) (l0 : List (List S65)) (key : Int) (r1 r2 r3 r4 r5 : Int) (w0 w : World) (hb0 : Below w0.heap.size w0 w) (hr0 : Kd.C (Kd.slice 65 k65) w0 A0 l0.length l0) (h : impl_Store_latest.f l0 key = some (r1, r2, r3, r4, r5)) :
    Calls Try.prog 68 #[.agg #[.slice A0 l0.length c0], .int .i64 key] w fun e w' => ∃ p : Addr, e = .returned (.pointer (some p)) ∧ CellsV w0 p ⟨r1, r2, r3, r4, r5⟩ ∧ Below w0.heap.size w0 w' ∧ Below w.heap.size w w' := by
  unfold impl_Store_latest.f at h
  by_cases hk : 0 ≤ key ∧ key < (l0.length : Int) ∧ 0 ≤ wrap64 (((rd_L6 l0 key).length : Int) - 1) ∧ wrap64 (((rd_L6 l0 key).length : Int) - 1) < ((rd_L6 l0 key).length : Int)
  · rw [if_pos hk] at h; have h := Option.some.inj h; simp only [Prod.mk.injEq] at h; obtain ⟨rfl, rfl, rfl, rfl, rfl⟩ := h; refine (impl_Store_latest.told0 A0 c0 l0 key _ w0 w hb0 hr0 hk.1 hk.2.1 rfl hk.2.2.1 hk.2.2.2).mono ?_; rintro e w' ⟨p, rfl, hb, hc⟩; exact ⟨p, rfl, hc, below_step hb0 hb, hb⟩
  · rw [if_neg hk] at h
    cases h


end Go.Proofs.Ytbcllflajakajaa.PFnExactExcludingPair
