-- Printed by my own myprint.py out of the translation of the seat Ytbcllflajakajaa. Not trusted: Lean checks it.
import Derived.Test.YtbcllflajakajaaPFnExactStaleReadsx0
import Derived.Test.YtbcllflajakajaaPFnExactStaleReadsx11
import Derived.Test.YtbcllflajakajaaPFnExactStaleReadsx14
namespace Go.Proofs.Ytbcllflajakajaa.PFnExactStaleReads
open Go.RowKit Go.Proofs.YtbcllflajakajaaW.PrintWords Go.Proofs.YtbcllflajakajaaW.PrintLast Go.Proofs.YtbcllflajakajaaW.PrintMore
attribute [local go_sem] max2_int min2_int max_two min_two max_three min_three max_four min_four   -- for this text's walks alone
set_option linter.unusedVariables false
set_option linter.unusedSimpArgs false

/-! ### impl_FindVersion: function 89 -/
/-- What is found from place i on. -/
def impl_FindVersion.frm (l : List S65) (c : Int) (i : Nat) : Int := match (List.range' i (l.length - i)).find? (fun j => decide ((l.getD j z65).f2 = c)) with | some j => (j : Int) | none => -1
theorem impl_FindVersion.frm_end (l : List S65) (c : Int) (i : Nat) (h : ¬ i < l.length) : impl_FindVersion.frm l c i = -1 := by
  unfold impl_FindVersion.frm; rw [show l.length - i = 0 by omega]; rfl
theorem impl_FindVersion.frm_hit (l : List S65) (c : Int) (i : Nat) (h : i < l.length) (hp : (l.getD i z65).f2 = c) : impl_FindVersion.frm l c i = i := by
  unfold impl_FindVersion.frm; rw [show l.length - i = (l.length - i - 1) + 1 by omega, List.range'_succ, List.find?_cons, decide_eq_true hp]
theorem impl_FindVersion.frm_miss (l : List S65) (c : Int) (i : Nat) (h : i < l.length) (hp : ¬ (l.getD i z65).f2 = c) : impl_FindVersion.frm l c i = impl_FindVersion.frm l c (i + 1) := by
  unfold impl_FindVersion.frm; rw [show l.length - i = (l.length - (i + 1)) + 1 by omega, List.range'_succ, List.find?_cons, decide_eq_false hp]
set_option maxHeartbeats 1000000 in
set_option maxRecDepth 100000 in
theorem impl_FindVersion.clo (v : S65) (g : Nat) (c : Int) (w : World) (hg : w.cell? ⟨g, 0, none⟩ = some (.int .i64 c)) (hl : g < w.heap.size) :
    Calls Try.prog 101 #[.agg #[.int .i64 v.f0, .int .i64 v.f1, .int .i64 v.f2, .int .i64 v.f3, .int .i64 v.f4], .pointer (some ⟨g, 0, none⟩)] w fun e w' => e = .returned (.bool (v.f2 == c)) ∧ Below w.heap.size w w' := by
  have hu := Try.underlying65; (have hg' : ∀ o, (w.alloc o).cell? ⟨g, 0, none⟩ = some (.int .i64 c) := fun o => (World.cell?_alloc_lt _ _ _ hl).trans hg)
  go_enter Try.func101, Try.ntmps101
  go_wp2
  go_ret; exact ⟨rfl, below_alloc (Below.refl _ _) _⟩
set_option maxHeartbeats 2000000 in
set_option maxRecDepth 100000 in
theorem impl_FindVersion.idx (g : Nat) (c : Int) (A0 : Option Addr) (c0 : Nat) (l0 : List S65) (w : World) (hr0 : Kd.C k65 w A0 l0.length l0) (hc0 : l0.length ≤ c0) (hg : w.cell? ⟨g, 0, none⟩ = some (.int .i64 c)) :
    Calls Try.prog 100 #[.slice A0 l0.length c0, .func (.func 101) #[] #[.pointer (some ⟨g, 0, none⟩)]] w fun e w' => e = .returned (.int .i64 (impl_FindVersion.frm l0 c 0)) ∧ Below w.heap.size w w' := by
  have hu := Try.underlying65; have hlen := hr0.2.1; have HR0 := Aside0.mk hr0; have HG := Aside0.mk hg; clear hr0 hg; obtain ⟨r, hr⟩ : ∃ r, r = impl_FindVersion.frm l0 c 0 := ⟨_, rfl⟩; rw [← hr]; have HF := Aside0.mk hr.symm; clear hr
  go_enter Try.func100, Try.ntmps100
  go_wp2
  go_loopg [8] l0.length (fun kq v8 w' => ∃ (i : Nat), v8 = .int .i64 (i : Int) ∧ i ≤ l0.length ∧ Aside0 (impl_FindVersion.frm l0 c i = r) ∧ Aside0 (kq + i = l0.length) ∧ Aside0 (Below w.heap.size w w'))
  case atStart => exact ⟨0, rfl, Nat.zero_le _, HF, ⟨by omega⟩, ⟨Below.refl _ _⟩⟩
  case round =>
    clear HF; obtain ⟨i, rfl, hi, HF, HK, HB⟩ := hrel
    by_cases hlt : i < l0.length
    · obtain ⟨k1, rfl⟩ : ∃ m, gk = m + 1 := ⟨gk - 1, by have := HK.out; omega⟩; obtain ⟨ad, e_, hx0, hx1, hx2, hx3, hx4⟩ := at_T65 HR0.out (i : Int) (by omega) (by omega)
      cases e_
      replace hx0 := bl_ HB.out hx0; replace hx1 := bl_ HB.out hx1; replace hx2 := bl_ HB.out hx2; replace hx3 := bl_ HB.out hx3; replace hx4 := bl_ HB.out hx4; simp only [Int.toNat_natCast] at hx0 hx1 hx2 hx3 hx4; (have hv : rd_T65 l0 (i : Int) = l0.getD i z65 := by unfold rd_T65; rw [Int.toNat_natCast]); have HV := Aside0.mk hv; clear hv
      by_cases hp : (l0.getD i z65).f2 = c
      · (have hb : ((rd_T65 l0 (i : Int)).f2 == c) = true := by rw [HV.out]; exact beq_iff_eq.2 hp); have HP := Aside0.mk hp; clear hp
        go_wp2_with (go_at_call 101; (with_reducible refine (impl_FindVersion.clo (rd_T65 l0 (i : Int)) g c _ ?s1 ?s2).mono ?_); (case s1 => exact (HB.out.cell (World.block_lt_of_cell? w _ HG.out)).trans HG.out); (case s2 => exact Nat.lt_of_lt_of_le (World.block_lt_of_cell? w _ HG.out) HB.out.size); rintro e w1 ⟨rfl, hb1⟩; have HB2 := Aside0.mk (below_step HB.out hb1); clear hb1)
        go_ret; exact ⟨by rw [← HF.out, impl_FindVersion.frm_hit _ _ _ hlt HP.out]; rfl, HB2.out⟩
      · (have hb : ((rd_T65 l0 (i : Int)).f2 == c) = false := by rw [HV.out]; exact beq_eq_false_iff_ne.2 hp); have HP := Aside0.mk hp; clear hp
        go_wp2_with (go_at_call 101; (with_reducible refine (impl_FindVersion.clo (rd_T65 l0 (i : Int)) g c _ ?s1 ?s2).mono ?_); (case s1 => exact (HB.out.cell (World.block_lt_of_cell? w _ HG.out)).trans HG.out); (case s2 => exact Nat.lt_of_lt_of_le (World.block_lt_of_cell? w _ HG.out) HB.out.size); rintro e w1 ⟨rfl, hb1⟩; have HB2 := Aside0.mk (below_step HB.out hb1); clear hb1)
        go_roundg k1
        case measure => have := HK.out; omega
        case rel => exact ⟨i + 1, by go_num, by omega, ⟨by rw [← HF.out, impl_FindVersion.frm_miss _ _ _ hlt HP.out]⟩, ⟨by have := HK.out; omega⟩, HB2⟩
    · go_wp2
      go_ret; exact ⟨by rw [← HF.out, impl_FindVersion.frm_end _ _ _ hlt]; rfl, HB.out⟩
def impl_FindVersion.f (l0 : List S65) (a1 : Int) : Option Int := some (impl_FindVersion.frm l0 a1 0)
set_option maxHeartbeats 2000000 in
set_option maxRecDepth 100000 in
theorem impl_FindVersion.calls (A0 : Option Addr) (c0 : Nat) (l0 : List S65) (a1 : Int) (r : Int) (w : World) (hr0 : Kd.C k65 w A0 l0.length l0) (hc0 : l0.length ≤ c0) (h : impl_FindVersion.f l0 a1 = some r) :
    Calls Try.prog 89 #[.slice A0 l0.length c0, .int .i64 a1] w fun e w' => e = .returned (.int .i64 r) ∧ Below w.heap.size w w' := by
  obtain rfl := Option.some.inj h; have HR0 := Aside0.mk hr0; clear hr0 h
  go_enter Try.func89, Try.ntmps89
  go_wp2_with (go_at_call 100; (with_reducible refine (impl_FindVersion.idx _ a1 A0 c0 l0 _ ?s1 hc0 ?s2).mono ?_); (case s1 => exact Kd.C_alloc HR0.out _); (case s2 => simp); rintro e w1 ⟨rfl, hb1⟩; have HB2 := Aside0.mk (below_step (below_alloc (Below.refl _ _) _) hb1); clear hb1)
  go_ret; exact ⟨rfl, HB2.out⟩


/-! ### impl_Store_find: function 65 -/
-- FLAGS PTR
/-- The cells of a version. -/
def CellsF (w : World) (p : Addr) (v : S65) : Prop :=
  w.cell? p = some (.int .i64 v.f0) ∧ w.cell? ⟨p.block, p.off + 1, none⟩ = some (.int .i64 v.f1) ∧ w.cell? ⟨p.block, p.off + 2, none⟩ = some (.int .i64 v.f2) ∧ w.cell? ⟨p.block, p.off + 3, none⟩ = some (.int .i64 v.f3) ∧ w.cell? ⟨p.block, p.off + 4, none⟩ = some (.int .i64 v.f4)
theorem impl_Store_find.bd (l : List S65) (c : Int) (i : Nat) : -1 ≤ impl_FindVersion.frm l c i ∧ impl_FindVersion.frm l c i < (l.length : Int) := by
  unfold impl_FindVersion.frm
  cases h : (List.range' i (l.length - i)).find? (fun j => decide ((l.getD j z65).f2 = c)) with
  | none => exact ⟨Int.le_refl _, by show (-1 : Int) < _; omega⟩
  | some j =>
    have := List.mem_range'_1.1 (List.mem_of_find?_eq_some h); exact ⟨by show (-1 : Int) ≤ (j : Int); omega, by show (j : Int) < _; omega⟩
set_option maxHeartbeats 2000000 in
set_option maxRecDepth 100000 in
/-- Where the version of a mark stands, or nil. -/
theorem impl_Store_find.told (A0 : Option Addr) (c0 : Nat) (l0 : List (List S65)) (m0 m1 : Int) (w : World) (hr0 : Kd.C (Kd.slice 65 k65) w A0 l0.length l0) (hk0 : 0 ≤ m0) (hk1 : m0 < (l0.length : Int)) :
    Calls Try.prog 65 #[.agg #[.slice A0 l0.length c0], .agg #[.int .i64 m0, .int .i64 m1]] w fun e w' => Below w.heap.size w w' ∧ ((impl_FindVersion.frm (rd_L6 l0 m0) m1 0 < 0 ∧ e = .returned (.pointer none)) ∨ (0 ≤ impl_FindVersion.frm (rd_L6 l0 m0) m1 0 ∧ ∃ p : Addr, e = .returned (.pointer (some p)) ∧ CellsF w' p (rd_T65 (rd_L6 l0 m0) (impl_FindVersion.frm (rd_L6 l0 m0) m1 0)))) := by
  have hu := Try.underlying34; have hv := Try.underlying55; have hb := below_alloc (below_alloc (Below.refl w.heap.size w) (.cells #[.slice A0 l0.length c0] 34)) (.cells #[.int .i64 m0, .int .i64 m1] 55); obtain ⟨ad1, A2, c2, e1, hx, hl2, hC⟩ := at_L6 hr0 m0 hk0 hk1
  cases e1
  replace hx := (hb.cell (World.block_lt_of_cell? w _ hx)).trans hx; have HB := Aside0.mk hb; have HC := Aside0.mk hC; have HL := Aside0.mk hl2; obtain ⟨hi0, hi1⟩ := impl_Store_find.bd (rd_L6 l0 m0) m1 0; clear hb hC hr0 hl2; have d1 := decide_eq_true hk0; have d2 := decide_eq_true hk1; replace hk0 := eq_true hk0; replace hk1 := eq_true hk1; obtain ⟨i, hi⟩ : ∃ i, impl_FindVersion.frm (rd_L6 l0 m0) m1 0 = i := ⟨_, rfl⟩; rw [hi] at hi0 hi1 ⊢; have HI := Aside0.mk hi; clear hi
  by_cases hneg : i < 0
  · have d3 := decide_eq_true hneg; have HN := Aside0.mk hneg; clear hi0 hi1 hneg
    go_enter Try.func65, Try.ntmps65
    go_wp2_with (go_at_call 89; (with_reducible refine (impl_FindVersion.calls A2 c2 (rd_L6 l0 m0) m1 i _ ?s1 HL.out ?s2).mono ?_); (case s1 => exact Kd.C_below HC.out HB.out); (case s2 => exact congrArg some HI.out); rintro e w1 ⟨rfl, hb1⟩; have HB1 := Aside0.mk (below_step HB.out hb1); clear hb1)
    go_ret; exact ⟨HB1.out, Or.inl ⟨HN.out, rfl⟩⟩
  · have d3 := decide_eq_false hneg; (have hge : 0 ≤ i := by omega); obtain ⟨ad2, e2, hx0, hx1, hx2, hx3, hx4⟩ := at_T65 HC.out i hge hi1
    cases e2
    have HX := Aside0.mk (show CellsF w _ (rd_T65 (rd_L6 l0 m0) i) from ⟨hx0, hx1, hx2, hx3, hx4⟩); have HG := Aside0.mk hge; have d4 := decide_eq_true hge; have d5 := decide_eq_true hi1; replace hge := eq_true hge; replace hi1 := eq_true hi1; clear hx0 hx1 hx2 hx3 hx4 hi0 hneg
    go_enter Try.func65, Try.ntmps65
    go_wp2_with (go_at_call 89; (with_reducible refine (impl_FindVersion.calls _ c2 (rd_L6 l0 m0) m1 i _ ?s1 HL.out ?s2).mono ?_); (case s1 => exact Kd.C_below HC.out HB.out); (case s2 => exact congrArg some HI.out); rintro e w1 ⟨rfl, hb1⟩; have HB1 := Aside0.mk (below_step HB.out hb1); clear hb1)
    go_ret; obtain ⟨q0, q1, q2, q3, q4⟩ := HX.out; have hb := HB1.out; exact ⟨hb, Or.inr ⟨HG.out, _, rfl, (hb.cell (World.block_lt_of_cell? w _ q0)).trans q0, (hb.cell (World.block_lt_of_cell? w _ q1)).trans q1, (hb.cell (World.block_lt_of_cell? w _ q2)).trans q2, (hb.cell (World.block_lt_of_cell? w _ q3)).trans q3, (hb.cell (World.block_lt_of_cell? w _ q4)).trans q4⟩⟩
/-- The version of a mark, where there is one. -/
def impl_Store_find.f (l0 : List (List S65)) (m0 m1 : Int) : Option (Int × Int × Int × Int × Int) :=
  if 0 ≤ m0 ∧ m0 < (l0.length : Int) ∧ 0 ≤ impl_FindVersion.frm (rd_L6 l0 m0) m1 0 then
    some ((rd_T65 (rd_L6 l0 m0) (impl_FindVersion.frm (rd_L6 l0 m0) m1 0)).f0, (rd_T65 (rd_L6 l0 m0) (impl_FindVersion.frm (rd_L6 l0 m0) m1 0)).f1, (rd_T65 (rd_L6 l0 m0) (impl_FindVersion.frm (rd_L6 l0 m0) m1 0)).f2, (rd_T65 (rd_L6 l0 m0) (impl_FindVersion.frm (rd_L6 l0 m0) m1 0)).f3, (rd_T65 (rd_L6 l0 m0) (impl_FindVersion.frm (rd_L6 l0 m0) m1 0)).f4)
  else none
theorem impl_Store_find.calls (A0 : Option Addr) (c0 : Nat) (l0 : List (List S65)) (m0 m1 : Int) (r1 r2 r3 r4 r5 : Int) (w0 w : World) (hb0 : Below w0.heap.size w0 w) (hr0 : Kd.C (Kd.slice 65 k65) w0 A0 l0.length l0) (hc0 : l0.length ≤ c0) (h : impl_Store_find.f l0 m0 m1 = some (r1, r2, r3, r4, r5)) :
    Calls Try.prog 65 #[.agg #[.slice A0 l0.length c0], .agg #[.int .i64 m0, .int .i64 m1]] w fun e w' => ∃ p : Addr, e = .returned (.pointer (some p)) ∧ CellsF w' p ⟨r1, r2, r3, r4, r5⟩ ∧ Below w0.heap.size w0 w' ∧ Below w.heap.size w w' := by
  unfold impl_Store_find.f at h
  by_cases hk : 0 ≤ m0 ∧ m0 < (l0.length : Int) ∧ 0 ≤ impl_FindVersion.frm (rd_L6 l0 m0) m1 0
  · rw [if_pos hk] at h; have h := Option.some.inj h; simp only [Prod.mk.injEq] at h; obtain ⟨rfl, rfl, rfl, rfl, rfl⟩ := h; refine (impl_Store_find.told A0 c0 l0 m0 m1 w (Kd.C_below hr0 hb0) hk.1 hk.2.1).mono ?_; rintro e w' ⟨hb, h | ⟨_, p, rfl, hp⟩⟩
    · exact absurd hk.2.2 (by omega)
    · exact ⟨p, rfl, hp, below_step hb0 hb, hb⟩
  · rw [if_neg hk] at h
    cases h


-- NOT PRINTED: function 92 (impl_Store_readsExist_1)

/-! ### impl_Store_readsExist: function 75 -/
-- FLAGS
/-- What is found from place i on. -/
def impl_Store_readsExist.frm (p : S55 → Bool) (l : List S55) (i : Nat) : Int := match (List.range' i (l.length - i)).find? (fun j => p (l.getD j z55)) with | some j => (j : Int) | none => -1
theorem impl_Store_readsExist.frm_end (p : S55 → Bool) (l : List S55) (i : Nat) (h : ¬ i < l.length) : impl_Store_readsExist.frm p l i = -1 := by
  unfold impl_Store_readsExist.frm; rw [show l.length - i = 0 by omega]; rfl
theorem impl_Store_readsExist.frm_hit (p : S55 → Bool) (l : List S55) (i : Nat) (h : i < l.length) (hp : p (l.getD i z55) = true) : impl_Store_readsExist.frm p l i = i := by
  unfold impl_Store_readsExist.frm; rw [show l.length - i = (l.length - i - 1) + 1 by omega, List.range'_succ, List.find?_cons, hp]
theorem impl_Store_readsExist.frm_miss (p : S55 → Bool) (l : List S55) (i : Nat) (h : i < l.length) (hp : p (l.getD i z55) = false) : impl_Store_readsExist.frm p l i = impl_Store_readsExist.frm p l (i + 1) := by
  unfold impl_Store_readsExist.frm; rw [show l.length - i = (l.length - (i + 1)) + 1 by omega, List.range'_succ, List.find?_cons, hp]
set_option maxHeartbeats 2000000 in
set_option maxRecDepth 100000 in
/-- The search, by what the closure answers at each world behind the first. -/
theorem impl_Store_readsExist.idx (fv : Array Value) (p : S55 → Bool) (A0 : Option Addr) (c0 : Nat) (l0 : List S55) (w : World) (hr0 : Kd.C k55 w A0 l0.length l0) (hc0 : l0.length ≤ c0)
    (hclo : ∀ j, j < l0.length → ∀ W, Below w.heap.size w W → Calls Try.prog 92 (#[.agg #[.int .i64 (rd_T55 l0 (j : Int)).f0, .int .i64 (rd_T55 l0 (j : Int)).f1]] ++ fv) W fun e w' => e = .returned (.bool (p (rd_T55 l0 (j : Int)))) ∧ Below W.heap.size W w') :
    Calls Try.prog 69 #[.slice A0 l0.length c0, .func (.func 92) #[] fv] w fun e w' => e = .returned (.int .i64 (impl_Store_readsExist.frm p l0 0)) ∧ Below w.heap.size w w' := by
  have hu := Try.underlying55; have hlen := hr0.2.1; have HR0 := Aside0.mk hr0; have HC := Aside0.mk hclo; clear hr0 hclo; obtain ⟨r, hr⟩ : ∃ r, r = impl_Store_readsExist.frm p l0 0 := ⟨_, rfl⟩; rw [← hr]; have HF := Aside0.mk hr.symm; clear hr
  go_enter Try.func69, Try.ntmps69
  go_wp2
  go_loopg [8] l0.length (fun kq v8 w' => ∃ (i : Nat), v8 = .int .i64 (i : Int) ∧ i ≤ l0.length ∧ Aside0 (impl_Store_readsExist.frm p l0 i = r) ∧ Aside0 (kq + i = l0.length) ∧ Aside0 (Below w.heap.size w w'))
  case atStart => exact ⟨0, rfl, Nat.zero_le _, HF, ⟨by omega⟩, ⟨Below.refl _ _⟩⟩
  case round =>
    clear HF; obtain ⟨i, rfl, hi, HF, HK, HB⟩ := hrel
    by_cases hlt : i < l0.length
    · obtain ⟨k1, rfl⟩ : ∃ m, gk = m + 1 := ⟨gk - 1, by have := HK.out; omega⟩; obtain ⟨ad, e_, hx0, hx1⟩ := at_T55 HR0.out (i : Int) (by omega) (by omega)
      cases e_
      replace hx0 := bl_ HB.out hx0; replace hx1 := bl_ HB.out hx1; simp only [Int.toNat_natCast] at hx0 hx1; have HCI := Aside0.mk (HC.out i hlt); (have hv : rd_T55 l0 (i : Int) = l0.getD i z55 := by unfold rd_T55; rw [Int.toNat_natCast]); have HV := Aside0.mk hv; clear hv
      cases hp : p (l0.getD i z55) with
      | true =>
        (have hb : p (rd_T55 l0 (i : Int)) = true := by rw [HV.out]; exact hp); have HP := Aside0.mk hp; clear hp
        go_wp2_with (go_at_call 92; (with_reducible refine (HCI.out _ HB.out).mono ?_); rintro e w1 ⟨rfl, hb1⟩; have HB2 := Aside0.mk (below_step HB.out hb1); clear hb1)
        go_ret; exact ⟨by rw [← HF.out, impl_Store_readsExist.frm_hit _ _ _ hlt HP.out]; rfl, HB2.out⟩
      | false =>
        (have hb : p (rd_T55 l0 (i : Int)) = false := by rw [HV.out]; exact hp); have HP := Aside0.mk hp; clear hp
        go_wp2_with (go_at_call 92; (with_reducible refine (HCI.out _ HB.out).mono ?_); rintro e w1 ⟨rfl, hb1⟩; have HB2 := Aside0.mk (below_step HB.out hb1); clear hb1)
        go_roundg k1
        case measure => have := HK.out; omega
        case rel => exact ⟨i + 1, by go_num, by omega, ⟨by rw [← HF.out, impl_Store_readsExist.frm_miss _ _ _ hlt HP.out]⟩, ⟨by have := HK.out; omega⟩, HB2⟩
    · go_wp2
      go_ret; exact ⟨by rw [← HF.out, impl_Store_readsExist.frm_end _ _ _ hlt]; rfl, HB.out⟩
/-- Is there no version of this mark? -/
def impl_Store_readsExist.miss (l : List (List S65)) (v : S55) : Bool := decide (impl_FindVersion.frm (rd_L6 l v.f0) v.f1 0 < 0)
set_option maxHeartbeats 2000000 in
set_option maxRecDepth 100000 in
theorem impl_Store_readsExist.clo (v : S55) (g : Nat) (A0 : Option Addr) (c0 : Nat) (l0 : List (List S65)) (w : World) (hr0 : Kd.C (Kd.slice 65 k65) w A0 l0.length l0) (hk0 : 0 ≤ v.f0) (hk1 : v.f0 < (l0.length : Int)) (hg : w.cell? ⟨g, 0, none⟩ = some (.slice A0 l0.length c0)) (hl : g < w.heap.size) :
    Calls Try.prog 92 #[.agg #[.int .i64 v.f0, .int .i64 v.f1], .pointer (some ⟨g, 0, none⟩)] w fun e w' => e = .returned (.bool (impl_Store_readsExist.miss l0 v)) ∧ Below w.heap.size w w' := by
  have hu := Try.underlying55; have hv := Try.underlying34; (have hg' : ∀ o, (w.alloc o).cell? ⟨g, 0, none⟩ = some (.slice A0 l0.length c0) := fun o => (World.cell?_alloc_lt _ _ _ hl).trans hg); have HR := Aside0.mk hr0; have HK0 := Aside0.mk hk0; have HK1 := Aside0.mk hk1; have HB := Aside0.mk (below_alloc (Below.refl w.heap.size w) (.cells #[.int .i64 v.f0, .int .i64 v.f1] 55)); clear hr0 hk0 hk1; obtain ⟨r, hr⟩ : ∃ r, r = impl_Store_readsExist.miss l0 v := ⟨_, rfl⟩; have HM := Aside0.mk hr; rw [← hr]; clear hr
  cases r with
  | true =>
    go_enter Try.func92, Try.ntmps92
    go_wp2_with (go_at_call 65; (with_reducible refine (impl_Store_find.told A0 c0 l0 v.f0 v.f1 _ ?s1 HK0.out HK1.out).mono ?_); (case s1 => exact Kd.C_below HR.out HB.out); rintro e w1 ⟨hb1, hd⟩; obtain ⟨hn, rfl⟩ := hd.resolve_right (fun hn => absurd (of_decide_eq_true HM.out.symm) (by have := hn.1; omega)); clear hd; have HB1 := Aside0.mk (below_step HB.out hb1); clear hb1 hn)
    go_ret; exact ⟨rfl, HB1.out⟩
  | false =>
    go_enter Try.func92, Try.ntmps92
    go_wp2_with (go_at_call 65; (with_reducible refine (impl_Store_find.told A0 c0 l0 v.f0 v.f1 _ ?s1 HK0.out HK1.out).mono ?_); (case s1 => exact Kd.C_below HR.out HB.out); rintro e w1 ⟨hb1, hd⟩; obtain ⟨hn, p, rfl, hp⟩ := hd.resolve_left (fun hn => absurd hn.1 (of_decide_eq_false HM.out.symm)); clear hd; have HB1 := Aside0.mk (below_step HB.out hb1); clear hb1 hn hp)
    go_ret; exact ⟨rfl, HB1.out⟩
set_option maxHeartbeats 2000000 in
set_option maxRecDepth 100000 in
theorem impl_Store_readsExist.con (p : S55 → Bool) (fv : Array Value) (A0 : Option Addr) (c0 : Nat) (l0 : List S55) (w : World) (hr0 : Kd.C k55 w A0 l0.length l0) (hc0 : l0.length ≤ c0)
    (hclo : ∀ j, j < l0.length → ∀ W, Below w.heap.size w W → Calls Try.prog 92 (#[.agg #[.int .i64 (rd_T55 l0 (j : Int)).f0, .int .i64 (rd_T55 l0 (j : Int)).f1]] ++ fv) W fun e w' => e = .returned (.bool (p (rd_T55 l0 (j : Int)))) ∧ Below W.heap.size W w') :
    Calls Try.prog 91 #[.slice A0 l0.length c0, .func (.func 92) #[] fv] w fun e w' => e = .returned (.bool (decide (impl_Store_readsExist.frm p l0 0 ≥ 0))) ∧ Below w.heap.size w w' := by
  have HR0 := Aside0.mk hr0; have HC := Aside0.mk hclo; clear hr0 hclo
  go_enter Try.func91, Try.ntmps91
  go_wp2_with (go_at_call 69; (with_reducible refine (impl_Store_readsExist.idx fv p A0 c0 l0 _ HR0.out hc0 HC.out).mono ?_); rintro e w1 ⟨rfl, hb1⟩; have HB2 := Aside0.mk hb1; clear hb1)
  go_ret; exact ⟨rfl, HB2.out⟩
/-- Are there versions of all marks? -/
def impl_Store_readsExist.f (l0_0 : List (List S65)) (l1 : List S55) : Option Bool := if (∀ j, j < l1.length → 0 ≤ (l1.getD j z55).f0 ∧ (l1.getD j z55).f0 < (l0_0.length : Int)) then some (decide (impl_Store_readsExist.frm (impl_Store_readsExist.miss l0_0) l1 0 < 0)) else none
set_option maxHeartbeats 2000000 in
set_option maxRecDepth 100000 in
theorem impl_Store_readsExist.calls (A0_0 : Option Addr) (c0_0 : Nat) (l0_0 : List (List S65)) (A1 : Option Addr) (c1 : Nat) (l1 : List S55) (r : Bool) (w : World) (hr0_0 : Kd.C (Kd.slice 65 k65) w A0_0 l0_0.length l0_0) (hc0_0 : l0_0.length ≤ c0_0) (hr1 : Kd.C k55 w A1 l1.length l1) (hc1 : l1.length ≤ c1) (h : impl_Store_readsExist.f l0_0 l1 = some r) :
    Calls Try.prog 75 #[.agg #[.slice A0_0 l0_0.length c0_0], .slice A1 l1.length c1] w fun e w' => e = .returned (.bool r) ∧ Below w.heap.size w w' := by
  have hu := Try.underlying34; unfold impl_Store_readsExist.f at h
  by_cases hk : ∀ j, j < l1.length → 0 ≤ (l1.getD j z55).f0 ∧ (l1.getD j z55).f0 < (l0_0.length : Int)
  · rw [if_pos hk] at h; obtain rfl := Option.some.inj h; have HR := Aside0.mk hr0_0; have HR1 := Aside0.mk hr1; have HC1 := Aside0.mk hc1; have HK := Aside0.mk hk; have HB := Aside0.mk (below_alloc (Below.refl w.heap.size w) (.cells #[.slice A0_0 l0_0.length c0_0] 34)); have HG := Aside0.mk (show (w.alloc (.cells #[.slice A0_0 l0_0.length c0_0] 34)).cell? ⟨w.heap.size, 0, none⟩ = some (.slice A0_0 l0_0.length c0_0) by simp); have HL := Aside0.mk (show w.heap.size < (w.alloc (.cells #[.slice A0_0 l0_0.length c0_0] 34)).heap.size from Nat.lt_of_lt_of_eq (Nat.lt_succ_self _) (Array.size_push _).symm); clear hr0_0 hr1 hc1 hk h
    go_enter Try.func75, Try.ntmps75
    go_wp2_with (go_at_call 91; (with_reducible refine (impl_Store_readsExist.con (impl_Store_readsExist.miss l0_0) #[.pointer (some ⟨w.heap.size, 0, none⟩)] A1 c1 l1 _ ?s1 HC1.out ?s2).mono ?_); (case s1 => exact Kd.C_below HR1.out HB.out); (case s2 => (intro j hj W hbW; have hv : rd_T55 l1 (j : Int) = l1.getD j z55 := (by unfold rd_T55; rw [Int.toNat_natCast]); rw [hv]; exact impl_Store_readsExist.clo _ _ A0_0 c0_0 l0_0 W (Kd.C_below (Kd.C_below HR.out HB.out) hbW) (HK.out j hj).1 (HK.out j hj).2 ((hbW.cell (World.block_lt_of_cell? _ _ HG.out)).trans HG.out) (Nat.lt_of_lt_of_le HL.out hbW.size))); rintro e w1 ⟨rfl, hb1⟩; have HB2 := Aside0.mk (below_step HB.out hb1); clear hb1)
    go_ret; exact ⟨congrArg (fun b => Ending.returned (.bool b)) (by rw [← decide_not]; exact decide_eq_decide.2 (by omega)), HB2.out⟩
  · rw [if_neg hk] at h
    cases h


/-! ### impl_ReadsExist: function 44 -/
def impl_ReadsExist.f (k : Nat) (l0_0 : List (List (S65))) (a1_0 : Int) (a1_1 : Int) (a1_2 : Int) (a1_3 : Int) (a1_4 : Int) (a1_5 : Int) (a1_6 : Int) (l1_7 : List (S55)) (l1_8 : List (S76)) : Option (Bool) := (impl_IsValidStore.f k l0_0).bind fun t322 => (if t322 = true then ((impl_IsValidTransaction.f k a1_0 a1_1 a1_2 a1_3 a1_4 a1_5 a1_6 l1_7 l1_8).bind fun t323 => (if t323 = true then ((impl_Store_readsExist.f l0_0 l1_7).bind fun t324 => (some t324)) else (some false))) else (some false))
theorem impl_ReadsExist.mono : ∀ a0 a1 a2 a3 a4 a5 a6 a7 a8 a9 k, LeO (impl_ReadsExist.f k a0 a1 a2 a3 a4 a5 a6 a7 a8 a9) (impl_ReadsExist.f (k + 1) a0 a1 a2 a3 a4 a5 a6 a7 a8 a9) := by
  intro a0 a1 a2 a3 a4 a5 a6 a7 a8 a9 k; unfold impl_ReadsExist.f
  repeat' first
      | (with_reducible first | apply impl_IsValidStore.mono | apply impl_IsValidTransaction.mono | exact LeO.refl _ | exact LeO.none _ | refine LeO.ite ?_ ?_ | refine LeO.bind ?_ (fun _ => ?_))
set_option maxHeartbeats 8000000 in
set_option maxRecDepth 100000 in
theorem impl_ReadsExist.calls (k : Nat) (A0_0 : Option Addr) (c0_0 : Nat) (l0_0 : List (List (S65))) (a1_0 : Int) (a1_1 : Int) (a1_2 : Int) (a1_3 : Int) (a1_4 : Int) (a1_5 : Int) (a1_6 : Int) (A1_7 : Option Addr) (c1_7 : Nat) (l1_7 : List (S55)) (A1_8 : Option Addr) (c1_8 : Nat) (l1_8 : List (S76)) (r : Bool) (w : World) (hr0_0 : Kd.C (Kd.slice 65 k65) w A0_0 l0_0.length l0_0) (hc0_0 : l0_0.length ≤ c0_0) (hr1_7 : Kd.C k55 w A1_7 l1_7.length l1_7) (hc1_7 : l1_7.length ≤ c1_7) (hr1_8 : Kd.C k76 w A1_8 l1_8.length l1_8) (hc1_8 : l1_8.length ≤ c1_8) (h : impl_ReadsExist.f k l0_0 a1_0 a1_1 a1_2 a1_3 a1_4 a1_5 a1_6 l1_7 l1_8 = some r) :
    Calls Try.prog 44 #[.agg #[.slice A0_0 l0_0.length c0_0], .agg #[.int .i64 a1_0, .int .i64 a1_1, .int .i64 a1_2, .int .i64 a1_3, .int .i64 a1_4, .int .i64 a1_5, .int .i64 a1_6, .slice A1_7 l1_7.length c1_7, .slice A1_8 l1_8.length c1_8]] w fun e w' => e = .returned (.bool r) ∧ Below w.heap.size w w' := by
  have hu34 := Try.underlying34; have hu39 := Try.underlying39; have HR0_0 := Aside0.mk hr0_0; have HC0_0 := Aside0.mk hc0_0; clear hr0_0 hc0_0; have HR1_7 := Aside0.mk hr1_7; have HC1_7 := Aside0.mk hc1_7; clear hr1_7 hc1_7; have HR1_8 := Aside0.mk hr1_8; have HC1_8 := Aside0.mk hc1_8; clear hr1_8 hc1_8; have HB := Aside0.mk (Below.refl w.heap.size w); have H : ((impl_IsValidStore.f k l0_0).bind fun t322 => (if t322 = true then ((impl_IsValidTransaction.f k a1_0 a1_1 a1_2 a1_3 a1_4 a1_5 a1_6 l1_7 l1_8).bind fun t323 => (if t323 = true then ((impl_Store_readsExist.f l0_0 l1_7).bind fun t324 => (some t324)) else (some false))) else (some false))) = some r := h; clear h; replace H := Option.bind_eq_some_iff.mp H; obtain ⟨t322, A30, H⟩ := H; have A3 := Aside0.mk A30; clear A30
  by_cases c4 : t322 = true
  · subst c4; rw [if_pos rfl] at H; replace H := Option.bind_eq_some_iff.mp H; obtain ⟨t323, A50, H⟩ := H; have A5 := Aside0.mk A50; clear A50
    by_cases c6 : t323 = true
    · subst c6; rw [if_pos rfl] at H; replace H := Option.bind_eq_some_iff.mp H; obtain ⟨t324, A70, H⟩ := H; have A7 := Aside0.mk A70; clear A70; obtain rfl := Option.some.inj H
      go_enter Try.func44, Try.ntmps44
      go_wp2_with (first | ((with_reducible refine gate_dst (N := 2) rfl ?_); refine be_ 2 #[.slice A0_0 l0_0.length c0_0] 34 ?_; intro gb320 hg w8 hbox hb; have BK320 := Aside0.mk (hbox); have GW320 := wk_ hg HB; replace HB := hs_ HB hb; have GE320 := GW320; clear hb hbox hg) | ((with_reducible refine gate_dst (N := 3) rfl ?_); refine be_ 3 #[.int .i64 a1_0, .int .i64 a1_1, .int .i64 a1_2, .int .i64 a1_3, .int .i64 a1_4, .int .i64 a1_5, .int .i64 a1_6, .slice A1_7 l1_7.length c1_7, .slice A1_8 l1_8.length c1_8] 39 ?_; intro gb321 hg w9 hbox hb; have BK321 := Aside0.mk (hbox); have GW321 := wk_ hg HB; replace HB := hs_ HB hb; have GE321 := GW321; have NB320_321 := nk_ hg BK320; replace BK320 := bb_ BK320 hb; have NB321_320 := ny_ NB320_321; clear hb hbox hg; have hnb10 := NB320_321.out; have hnc10 := NB321_320.out; have hcz11_0 := bc1_ BK320.out; have hfz11_0 := blk_frozen BK320.out 0) | ((with_reducible refine gate_callee (f := 51) rfl ?_); refine goesL_ (some 6) rfl rfl Try.func51 (by kernel_rfl) rfl #[.agg #[.slice A0_0 l0_0.length c0_0]] rfl mp_ ?_; (with_reducible refine (impl_IsValidStore.calls k _ _ l0_0 true _ ?side1 ?side2 A3.out).mono ?_); (case side1 => exact cq_ HR0_0.out HB.out); (case side2 => exact HC0_0.out); rintro e w12 ⟨rfl, hb⟩; refine ⟨_, rfl, ?_⟩; replace BK320 := bb_ BK320 hb; replace BK321 := bb_ BK321 hb; replace HB := hs_ HB hb; (try clear hb); (try clear hb2); (try clear hk); (try clear hi); have hcz13 := bc9_ BK321.out; have hfz13 := bf9_ BK321.out) | (go_at_call 52; (with_reducible refine (impl_IsValidTransaction.calls k a1_0 a1_1 a1_2 a1_3 a1_4 a1_5 a1_6 _ _ l1_7 _ _ l1_8 true _ ?side1 ?side2 ?side3 ?side4 A5.out).mono ?_); (case side1 => exact cq_ HR1_7.out HB.out); (case side2 => exact HC1_7.out); (case side3 => exact cq_ HR1_8.out HB.out); (case side4 => exact HC1_8.out); rintro e w14 ⟨rfl, hb⟩; replace BK320 := bb_ BK320 hb; replace BK321 := bb_ BK321 hb; replace HB := hs_ HB hb; (try clear hb); (try clear hb2); (try clear hk); (try clear hi); have hcz15_0 := bc1_ BK320.out; have hfz15_0 := blk_frozen BK320.out 0; have hcz16 := bc9_ BK321.out; have hfz16 := bf9_ BK321.out) | (go_at_call 75; (with_reducible refine (impl_Store_readsExist.calls _ _ l0_0 _ _ l1_7 t324 _ ?side1 ?side2 ?side3 ?side4 A7.out).mono ?_); (case side1 => exact cq_ HR0_0.out HB.out); (case side2 => exact HC0_0.out); (case side3 => exact cq_ HR1_7.out HB.out); (case side4 => exact HC1_7.out); rintro e w17 ⟨rfl, hb⟩; replace BK320 := bb_ BK320 hb; replace BK321 := bb_ BK321 hb; replace HB := hs_ HB hb; (try clear hb); (try clear hb2); (try clear hk); (try clear hi)))
      go_ret; exact ⟨ew_, hq2_ HB.out GE320.out GE321.out⟩
    · replace c6 := Bool.eq_false_iff.mpr c6; subst c6; rw [if_neg nt_] at H; obtain rfl := Option.some.inj H
      go_enter Try.func44, Try.ntmps44
      go_wp2_with (first | ((with_reducible refine gate_dst (N := 2) rfl ?_); refine be_ 2 #[.slice A0_0 l0_0.length c0_0] 34 ?_; intro gb320 hg w18 hbox hb; have BK320 := Aside0.mk (hbox); have GW320 := wk_ hg HB; replace HB := hs_ HB hb; have GE320 := GW320; clear hb hbox hg) | ((with_reducible refine gate_dst (N := 3) rfl ?_); refine be_ 3 #[.int .i64 a1_0, .int .i64 a1_1, .int .i64 a1_2, .int .i64 a1_3, .int .i64 a1_4, .int .i64 a1_5, .int .i64 a1_6, .slice A1_7 l1_7.length c1_7, .slice A1_8 l1_8.length c1_8] 39 ?_; intro gb321 hg w19 hbox hb; have BK321 := Aside0.mk (hbox); have GW321 := wk_ hg HB; replace HB := hs_ HB hb; have GE321 := GW321; have NB320_321 := nk_ hg BK320; replace BK320 := bb_ BK320 hb; have NB321_320 := ny_ NB320_321; clear hb hbox hg; have hnb20 := NB320_321.out; have hnc20 := NB321_320.out; have hcz21_0 := bc1_ BK320.out; have hfz21_0 := blk_frozen BK320.out 0) | ((with_reducible refine gate_callee (f := 51) rfl ?_); refine goesL_ (some 6) rfl rfl Try.func51 (by kernel_rfl) rfl #[.agg #[.slice A0_0 l0_0.length c0_0]] rfl mp_ ?_; (with_reducible refine (impl_IsValidStore.calls k _ _ l0_0 true _ ?side1 ?side2 A3.out).mono ?_); (case side1 => exact cq_ HR0_0.out HB.out); (case side2 => exact HC0_0.out); rintro e w22 ⟨rfl, hb⟩; refine ⟨_, rfl, ?_⟩; replace BK320 := bb_ BK320 hb; replace BK321 := bb_ BK321 hb; replace HB := hs_ HB hb; (try clear hb); (try clear hb2); (try clear hk); (try clear hi); have hcz23 := bc9_ BK321.out; have hfz23 := bf9_ BK321.out) | (go_at_call 52; (with_reducible refine (impl_IsValidTransaction.calls k a1_0 a1_1 a1_2 a1_3 a1_4 a1_5 a1_6 _ _ l1_7 _ _ l1_8 false _ ?side1 ?side2 ?side3 ?side4 A5.out).mono ?_); (case side1 => exact cq_ HR1_7.out HB.out); (case side2 => exact HC1_7.out); (case side3 => exact cq_ HR1_8.out HB.out); (case side4 => exact HC1_8.out); rintro e w24 ⟨rfl, hb⟩; replace BK320 := bb_ BK320 hb; replace BK321 := bb_ BK321 hb; replace HB := hs_ HB hb; (try clear hb); (try clear hb2); (try clear hk); (try clear hi)))
      go_ret; exact ⟨ew_, hq2_ HB.out GE320.out GE321.out⟩
  · replace c4 := Bool.eq_false_iff.mpr c4; subst c4; rw [if_neg nt_] at H; obtain rfl := Option.some.inj H
    go_enter Try.func44, Try.ntmps44
    go_wp2_with (first | ((with_reducible refine gate_dst (N := 2) rfl ?_); refine be_ 2 #[.slice A0_0 l0_0.length c0_0] 34 ?_; intro gb320 hg w25 hbox hb; have BK320 := Aside0.mk (hbox); have GW320 := wk_ hg HB; replace HB := hs_ HB hb; have GE320 := GW320; clear hb hbox hg) | ((with_reducible refine gate_dst (N := 3) rfl ?_); refine be_ 3 #[.int .i64 a1_0, .int .i64 a1_1, .int .i64 a1_2, .int .i64 a1_3, .int .i64 a1_4, .int .i64 a1_5, .int .i64 a1_6, .slice A1_7 l1_7.length c1_7, .slice A1_8 l1_8.length c1_8] 39 ?_; intro gb321 hg w26 hbox hb; have BK321 := Aside0.mk (hbox); have GW321 := wk_ hg HB; replace HB := hs_ HB hb; have GE321 := GW321; have NB320_321 := nk_ hg BK320; replace BK320 := bb_ BK320 hb; have NB321_320 := ny_ NB320_321; clear hb hbox hg; have hnb27 := NB320_321.out; have hnc27 := NB321_320.out; have hcz28_0 := bc1_ BK320.out; have hfz28_0 := blk_frozen BK320.out 0) | ((with_reducible refine gate_callee (f := 51) rfl ?_); refine goesL_ (some 6) rfl rfl Try.func51 (by kernel_rfl) rfl #[.agg #[.slice A0_0 l0_0.length c0_0]] rfl mp_ ?_; (with_reducible refine (impl_IsValidStore.calls k _ _ l0_0 false _ ?side1 ?side2 A3.out).mono ?_); (case side1 => exact cq_ HR0_0.out HB.out); (case side2 => exact HC0_0.out); rintro e w29 ⟨rfl, hb⟩; refine ⟨_, rfl, ?_⟩; replace BK320 := bb_ BK320 hb; replace BK321 := bb_ BK321 hb; replace HB := hs_ HB hb; (try clear hb); (try clear hb2); (try clear hk); (try clear hi)))
    go_ret; exact ⟨ew_, hq2_ HB.out GE320.out GE321.out⟩

-- NOT PRINTED: function 62 (impl_ReadMark_62)

-- NOT PRINTED: function 63 (impl_ReadMark_63)

-- NOT PRINTED: function 64 (impl_StaleReads_1)

/-! ### impl_StaleReads: function 32 -/
-- FLAGS ROUNDS
theorem stale_sc (b t : Nat) : ∀ (vs : List Value) (o : Nat) (w : World) (cs : Array Value), w.heap[b]? = some (.cells cs t (0, 0)) → ∃ cs' : Array Value, (w.setCells b o vs).heap[b]? = some (.cells cs' t (0, 0)) ∧ cs'.size = cs.size ∧ ∀ m, m ≤ o → cs'.toList.take m = cs.toList.take m
  | [], o, w, cs, h => ⟨cs, h, rfl, fun _ _ => rfl⟩
  | v :: r, o, w, cs, h => by
    obtain ⟨cs', h1, h2, h3⟩ := stale_sc b t r (o + 1) (w.setCell ⟨b, o, none⟩ v) (cs.setIfInBounds o v) (blk_set h o v); refine ⟨cs', h1, by rw [h2]; simp, fun m hm => ?_⟩; rw [h3 m (by omega), Array.toList_setIfInBounds, List.take_set_of_le hm]
theorem stale_below (b : Nat) (a : World) (hb : a.heap.size ≤ b) : ∀ (vs : List Value) (o : Nat) (w : World), Below a.heap.size a w → Below a.heap.size a (w.setCells b o vs)
  | [], _, _, h => h
  | v :: r, o, w, h => stale_below b a hb r (o + 1) _ (below_set h hb)
/-- What is left of a row when its end is cut off and overwritten. -/
theorem stale_cut {w w1 : World} {base g n cap : Nat} {ok : Nat → Prop} {xs : List S55} (h : Kd.R k55 55 w base ok (.slice (some ⟨g, 0, none⟩) n cap) xs) (i : Nat) (hi : i ≤ xs.length) (cs' : Array Value) (hh : ∀ cs, w.heap[g]? = some (.cells cs 55 (0, 0)) → w1.heap[g]? = some (.cells cs' 55 (0, 0)) ∧ cs'.size = cs.size ∧ ∀ m, m ≤ i * 2 → cs'.toList.take m = cs.toList.take m) :
    Kd.R k55 55 w1 base (fun _ => True) (.slice (some ⟨g, 0, none⟩) i cap) (xs.take i) := by
  obtain ⟨h0, inner, ⟨hl, hc⟩, hr⟩ := h; (rcases hc with ⟨he, _⟩ | ⟨g', cap', cur, he, hb, hg, hn, hm, hs, ht⟩)
  · cases he
  · cases he
    obtain ⟨e1, e2, e3⟩ := hh cur hg; (have hlt : (xs.take i).length = i := by rw [List.length_take]; omega); refine ⟨fun _ _ => trivial, inner.take (i * 2), ⟨?_, Or.inr ⟨g, cap, cs', by rw [hlt], hb, e1, by omega, hm, by rw [e2]; exact hs, ?_⟩⟩, ?_, fun j p hj => ?_⟩
    · rw [hlt, List.length_take, hl]; show min (i * 2) (xs.length * 2) = i * 2
      omega
    · rw [hlt]; show cs'.toList.take (i * 2) = inner.take (i * 2); rw [e3 _ (Nat.le_refl _), ← ht, List.take_take]
      congr 1
      show i * 2 = min (i * 2) (xs.length * 2)
      omega
    · rw [hlt, List.length_take, hl]; show min (i * 2) (xs.length * 2) = i * 2
      omega
    · have hji : j < i := by
        have := (List.getElem?_eq_some_iff.1 hj).1
        omega
      (have hx : xs[j]? = some p := by rw [List.getElem?_take_of_lt hji] at hj; exact hj); have hM := k55_openM (hr.2 j p hx)
      have e : ((inner.take (i * 2)).drop (j * 2)).take 2 = (inner.drop (j * 2)).take 2 := by
        rw [List.drop_take, List.take_take]
        congr 1
        omega
      show k55.M _ _ _ p (((inner.take (i * 2)).drop (j * 2)).take 2); have hM2 : (inner.drop (j * 2)).take 2 = [.int .i64 p.f0, .int .i64 p.f1] := hM; rw [e, hM2]; exact k55_mkM _ _ _ p
/-- The successor of the version that a mark tells. -/
def stale_suc (l : List (List S65)) (v : S55) : Int := (rd_T65 (rd_L6 l v.f0) (impl_FindVersion.frm (rd_L6 l v.f0) v.f1 0)).f4
def stale_ok (l : List (List S65)) (v : S55) : Prop := 0 ≤ v.f0 ∧ v.f0 < (l.length : Int) ∧ 0 ≤ impl_FindVersion.frm (rd_L6 l v.f0) v.f1 0
instance (l : List (List S65)) (v : S55) : Decidable (stale_ok l v) := by unfold stale_ok; exact inferInstance
set_option maxHeartbeats 2000000 in
set_option maxRecDepth 100000 in
/-- What the closure answers for a mark. -/
theorem stale_clo.told (v : S55) (gs : Nat) (A0 : Option Addr) (c0 : Nat) (l0 : List (List S65)) (w : World) (hr0 : Kd.C (Kd.slice 65 k65) w A0 l0.length l0) (hv0 : stale_ok l0 v) (hg : w.heap[gs]? = some (.cells #[.slice A0 l0.length c0] 34 (0, 0))) :
    Calls Try.prog 64 #[.agg #[.int .i64 v.f0, .int .i64 v.f1], .pointer (some ⟨gs, 0, none⟩)] w fun e w' => e = .returned (.bool (stale_suc l0 v == 1000)) ∧ Below w.heap.size w w' := by
  have hu := Try.underlying55; have hs := Try.underlying34; have hv := Try.underlying65; have hg0 : w.cell? ⟨gs, 0, none⟩ = some (.slice A0 l0.length c0) := (blk_cell hg 0).trans rfl; have hl : gs < w.heap.size := blk_lt hg; (have hg' : ∀ o, (w.alloc o).cell? ⟨gs, 0, none⟩ = some (.slice A0 l0.length c0) := fun o => (World.cell?_alloc_lt _ _ _ hl).trans hg0); have HR := Aside0.mk hr0; obtain ⟨hk0, hk1, hk2⟩ := hv0; have HK0 := Aside0.mk hk0; have HK1 := Aside0.mk hk1; have HK2 := Aside0.mk hk2; have HB := Aside0.mk (below_alloc (Below.refl w.heap.size w) (.cells #[.int .i64 v.f0, .int .i64 v.f1] 55)); clear hr0 hk0 hk1 hk2 hg hg0
  go_enter Try.func64, Try.ntmps64
  go_wp2_with (go_at_call 65; (with_reducible refine (impl_Store_find.told A0 c0 l0 v.f0 v.f1 _ ?s1 HK0.out HK1.out).mono ?_); (case s1 => exact Kd.C_below HR.out HB.out); rintro e w1 ⟨hb1, hd⟩; obtain ⟨hn, p, rfl, hp⟩ := hd.resolve_left (fun hn => absurd hn.1 (by have := HK2.out; omega)); clear hd; have HB1 := Aside0.mk (below_step HB.out hb1); obtain ⟨q0, q1, q2, q3, q4⟩ := hp; clear hb1 hn q0 q1 q2 q3)
  go_ret; exact ⟨rfl, HB1.out⟩
def stale_clo.f (l0_0 : List (List S65)) (a1_0 : Int) (a1_1 : Int) : Option Bool := if stale_ok l0_0 ⟨a1_0, a1_1⟩ then some (stale_suc l0_0 ⟨a1_0, a1_1⟩ == 1000) else none
theorem stale_clo.calls (A0_0 : Option Addr) (c0_0 : Nat) (l0_0 : List (List S65)) (a1_0 : Int) (a1_1 : Int) (r : Bool) (w : World) (hr0_0 : Kd.C (Kd.slice 65 k65) w A0_0 l0_0.length l0_0) (h : stale_clo.f l0_0 a1_0 a1_1 = some r) (gs : Nat) (hg : w.heap[gs]? = some (.cells #[.slice A0_0 l0_0.length c0_0] 34 (0, 0))) :
    Calls Try.prog 64 #[.agg #[.int .i64 a1_0, .int .i64 a1_1], .pointer (some ⟨gs, 0, none⟩)] w fun e w' => e = .returned (.bool r) ∧ Below w.heap.size w w' := by
  unfold stale_clo.f at h
  by_cases hk : stale_ok l0_0 ⟨a1_0, a1_1⟩
  · rw [if_pos hk] at h; obtain rfl := Option.some.inj h; exact stale_clo.told ⟨a1_0, a1_1⟩ gs A0_0 c0_0 l0_0 w hr0_0 hk hg
  · rw [if_neg hk] at h
    cases h
set_option maxHeartbeats 2000000 in
set_option maxRecDepth 100000 in
/-- The search, by what the closure answers at each world behind the first. -/
theorem stale_idx.told (fv : Array Value) (p : S55 → Bool) (A0 : Option Addr) (c0 : Nat) (l0 : List S55) (w : World) (hr0 : Kd.C k55 w A0 l0.length l0) (hc0 : l0.length ≤ c0)
    (hclo : ∀ j, j < l0.length → ∀ W, Below w.heap.size w W → Calls Try.prog 64 (#[.agg #[.int .i64 (rd_T55 l0 (j : Int)).f0, .int .i64 (rd_T55 l0 (j : Int)).f1]] ++ fv) W fun e w' => e = .returned (.bool (p (rd_T55 l0 (j : Int)))) ∧ Below W.heap.size W w') :
    Calls Try.prog 69 #[.slice A0 l0.length c0, .func (.func 64) #[] fv] w fun e w' => e = .returned (.int .i64 (impl_Store_readsExist.frm p l0 0)) ∧ Below w.heap.size w w' := by
  have hu := Try.underlying55; have hlen := hr0.2.1; have HR0 := Aside0.mk hr0; have HC := Aside0.mk hclo; clear hr0 hclo; obtain ⟨r, hr⟩ : ∃ r, r = impl_Store_readsExist.frm p l0 0 := ⟨_, rfl⟩; rw [← hr]; have HF := Aside0.mk hr.symm; clear hr
  go_enter Try.func69, Try.ntmps69
  go_wp2
  go_loopg [8] l0.length (fun kq v8 w' => ∃ (i : Nat), v8 = .int .i64 (i : Int) ∧ i ≤ l0.length ∧ Aside0 (impl_Store_readsExist.frm p l0 i = r) ∧ Aside0 (kq + i = l0.length) ∧ Aside0 (Below w.heap.size w w'))
  case atStart => exact ⟨0, rfl, Nat.zero_le _, HF, ⟨by omega⟩, ⟨Below.refl _ _⟩⟩
  case round =>
    clear HF; obtain ⟨i, rfl, hi, HF, HK, HB⟩ := hrel
    by_cases hlt : i < l0.length
    · obtain ⟨k1, rfl⟩ : ∃ m, gk = m + 1 := ⟨gk - 1, by have := HK.out; omega⟩; obtain ⟨ad, e_, hx0, hx1⟩ := at_T55 HR0.out (i : Int) (by omega) (by omega)
      cases e_
      replace hx0 := bl_ HB.out hx0; replace hx1 := bl_ HB.out hx1; simp only [Int.toNat_natCast] at hx0 hx1; have HCI := Aside0.mk (HC.out i hlt); (have hv : rd_T55 l0 (i : Int) = l0.getD i z55 := by unfold rd_T55; rw [Int.toNat_natCast]); have HV := Aside0.mk hv; clear hv
      cases hp : p (l0.getD i z55) with
      | true =>
        (have hb : p (rd_T55 l0 (i : Int)) = true := by rw [HV.out]; exact hp); have HP := Aside0.mk hp; clear hp
        go_wp2_with (go_at_call 64; (with_reducible refine (HCI.out _ HB.out).mono ?_); rintro e w1 ⟨rfl, hb1⟩; have HB2 := Aside0.mk (below_step HB.out hb1); clear hb1)
        go_ret; exact ⟨by rw [← HF.out, impl_Store_readsExist.frm_hit _ _ _ hlt HP.out]; rfl, HB2.out⟩
      | false =>
        (have hb : p (rd_T55 l0 (i : Int)) = false := by rw [HV.out]; exact hp); have HP := Aside0.mk hp; clear hp
        go_wp2_with (go_at_call 64; (with_reducible refine (HCI.out _ HB.out).mono ?_); rintro e w1 ⟨rfl, hb1⟩; have HB2 := Aside0.mk (below_step HB.out hb1); clear hb1)
        go_roundg k1
        case measure => have := HK.out; omega
        case rel => exact ⟨i + 1, by go_num, by omega, ⟨by rw [← HF.out, impl_Store_readsExist.frm_miss _ _ _ hlt HP.out]⟩, ⟨by have := HK.out; omega⟩, HB2⟩
    · go_wp2
      go_ret; exact ⟨by rw [← HF.out, impl_Store_readsExist.frm_end _ _ _ hlt]; rfl, HB.out⟩
def stale_idx.f (l0 : List S55) (l1_0 : List (List S65)) : Option Int := if (∀ j, j < l0.length → stale_ok l1_0 (l0.getD j z55)) then some (impl_Store_readsExist.frm (fun m => stale_suc l1_0 m == 1000) l0 0) else none
theorem stale_idx.calls (A0 : Option Addr) (c0 : Nat) (l0 : List S55) (A1_0 : Option Addr) (c1_0 : Nat) (l1_0 : List (List S65)) (r : Int) (w : World) (hr0 : Kd.C k55 w A0 l0.length l0) (hc0 : l0.length ≤ c0) (hr1_0 : Kd.C (Kd.slice 65 k65) w A1_0 l1_0.length l1_0) (h : stale_idx.f l0 l1_0 = some r) (gs : Nat) (hg : w.heap[gs]? = some (.cells #[.slice A1_0 l1_0.length c1_0] 34 (0, 0))) :
    Calls Try.prog 69 #[.slice A0 l0.length c0, .func (.func 64) #[] #[.pointer (some ⟨gs, 0, none⟩)]] w fun e w' => e = .returned (.int .i64 r) ∧ Below w.heap.size w w' := by
  unfold stale_idx.f at h
  by_cases hk : ∀ j, j < l0.length → stale_ok l1_0 (l0.getD j z55)
  · rw [if_pos hk] at h; obtain rfl := Option.some.inj h; refine stale_idx.told _ _ A0 c0 l0 w hr0 hc0 (fun j hj W hb => ?_); (have hv : rd_T55 l0 (j : Int) = l0.getD j z55 := by unfold rd_T55; rw [Int.toNat_natCast]); have k1 := hk j hj; rw [← hv] at k1; exact stale_clo.told _ gs A1_0 c1_0 l1_0 W (Kd.C_below hr1_0 hb) k1 (blk_below hg hb)
  · rw [if_neg hk] at h
    cases h
def stale_del.l0 : Nat → List (S55) → Int → Int → List (List (S65)) → Option (List (S55))
  | 0, _, _, _, _ => none
  | k + 1, x0, x5, x6, x326000 => if x6 < (x0.length : Int) then (if 0 ≤ x6 then ((stale_clo.f x326000 ((rd_T55 x0 x6).f0) ((rd_T55 x0 x6).f1)).bind fun t329 => (if t329 = true then (stale_del.l0 k x0 x5 (wrap64 (x6 + 1)) x326000) else (if 0 ≤ x5 then (if x5 < (x0.length : Int) then (stale_del.l0 k (x0.set (x5 : Int).toNat (⟨(rd_T55 x0 x6).f0, (rd_T55 x0 x6).f1⟩ : S55)) (wrap64 (x5 + 1)) (wrap64 (x6 + 1)) x326000) else (none)) else (none)))) else (none)) else (if 0 ≤ x5 then (if x5 < (x0.length : Int) then (some (x0.take x5.toNat)) else (none)) else (none))
def stale_del.f (k : Nat) (l0 : List (S55)) (l1_0 : List (List (S65))) : Option (List (S55)) := (stale_idx.f l0 l1_0).bind fun t326 => (if t326 = (-1) then (some l0) else (stale_del.l0 k l0 t326 (wrap64 (t326 + 1)) l1_0))
theorem stale_del.mono_l : ∀ k, (∀ y0 y1 y2 y3, LeO (stale_del.l0 k y0 y1 y2 y3) (stale_del.l0 (k + 1) y0 y1 y2 y3))
  | 0 => fun _ _ _ _ r h => by simp [stale_del.l0] at h
  | k + 1 => by
    have ih0 := stale_del.mono_l k
    · intro y0 y1 y2 y3; unfold stale_del.l0
      repeat' first
      | (with_reducible first | apply ih0 | exact LeO.refl _ | exact LeO.none _ | refine LeO.ite ?_ ?_ | refine LeO.bind ?_ (fun _ => ?_))
theorem stale_del.mono : ∀ a0 a1 k, LeO (stale_del.f k a0 a1) (stale_del.f (k + 1) a0 a1) := by
  intro a0 a1 k; have ih0 := stale_del.mono_l k; unfold stale_del.f
  repeat' first
      | (with_reducible first | apply ih0 | exact LeO.refl _ | exact LeO.none _ | refine LeO.ite ?_ ?_ | refine LeO.bind ?_ (fun _ => ?_))
set_option maxHeartbeats 8000000 in
set_option maxRecDepth 100000 in
theorem stale_del.calls (k : Nat) (P0_ : Nat → Prop) (u9000_ : Value) (l0 : List (S55)) (A1_0 : Option Addr) (c1_0 : Nat) (l1_0 : List (List (S65))) (r : List (S55)) (w0 w : World) (hB : Below w0.heap.size w0 w) (ho0 : Kd.R k55 55 w w0.heap.size P0_ u9000_ l0) (hr1_0 : Kd.C (Kd.slice 65 k65) w0 A1_0 l1_0.length l1_0) (gb325 : Nat) (hgs : w.heap[gb325]? = some (.cells #[.slice A1_0 l1_0.length c1_0] 34 (0, 0))) (h : stale_del.f k l0 l1_0 = some r) :
    Calls Try.prog 62 #[u9000_, .func (.func 64) #[] #[.pointer (some ⟨gb325, 0, none⟩)]] w fun e w' => ∃ v : Value, e = .returned v ∧ Kd.R k55 55 w' w0.heap.size (fun _ => True) v r ∧ Below w0.heap.size w0 w' := by
  have hu34 := Try.underlying34; have hu55 := Try.underlying55; have HO0 := Aside0.mk (show Kd.R k55 55 w w0.heap.size (fun k_ => (P0_ k_ ∨ w.heap.size ≤ k_)) u9000_ l0 from Kd.R_mono ho0 (fun k_ hk => (.inl hk))); have HR1_0 := Aside0.mk hr1_0; have BK325 := Aside0.mk hgs; clear hr1_0 hgs; have HK := Aside0.mk (Kept.refl w (fun k_ => P0_ k_)); have HW0 := Aside0.mk hB.size; have HB := Aside0.mk hB; clear hB; have H : ((stale_idx.f l0 l1_0).bind fun t326 => (if t326 = (-1) then (some l0) else (stale_del.l0 k l0 t326 (wrap64 (t326 + 1)) l1_0))) = some r := h; clear h; replace H := Option.bind_eq_some_iff.mp H; obtain ⟨t326, A30, H⟩ := H; have A3 := Aside0.mk A30; clear A30
  by_cases c4 : t326 = (-1)
  · rw [if_pos c4] at H; have c4b0 : (t326 == (-1)) = true := beq_iff_eq.mpr c4; have c4b1 : (t326 != (-1)) = false := bne_eq_false_iff_eq.mpr c4; clear c4; obtain rfl := Option.some.inj H; clear H; obtain ⟨Ao7, co7, eo7⟩ := Kd.R_slice HO0.out; subst eo7
    go_enter Try.func62, Try.ntmps62
    go_wp2_with (first | ((with_reducible refine gate_callee (f := 69) rfl ?_); refine goesL_ (some 10) rfl rfl Try.func69 (by kernel_rfl) rfl #[.slice Ao7 l0.length co7, .func (.func 64) #[] #[.pointer (some ⟨gb325, 0, none⟩)]] rfl mp_ ?_; (with_reducible refine (stale_idx.calls _ _ l0 A1_0 c1_0 l1_0 t326 _ ?side1 ?side2 ?side3 A3.out gb325 ?sideS).mono ?_); (case side1 => repeat (first | exact (Kd.R_reads' HO0.out).2.2 | (with_reducible refine Kd.C_alloc ?_ _) | (with_reducible refine Kd.C_drewN ?_ _) | (with_reducible refine Kd.C_drew ?_))); (case side2 => exact (Kd.R_reads' HO0.out).2.1); (case side3 => exact cq_ HR1_0.out HB.out); (case sideS => exact (bq_ BK325.out)); rintro e w8 ⟨rfl, hb⟩; refine ⟨_, rfl, ?_⟩; replace HO0 := Aside0.mk (Kd.R_below (pr_ HO0.out) hb); replace BK325 := bb_ BK325 hb; replace HK := Aside0.mk (Kept.below (S := (fun k_ => P0_ k_)) (by repeat (first | (with_reducible first | exact HK.out | apply Kept.alloc | apply Kept.drewN | apply Kept.drew | refine Kept.setCell ?_ (.inr GW325.out) _) | exact HK.out)) hb); replace HB := hs_ HB hb; (try clear hb); (try clear hb2); (try clear hk); (try clear hi)))
    go_ret; exact ⟨_, rfl, Kd.R_mono (pr_ HO0.out) (fun _ _ => trivial), hbw_ HB⟩
  · rw [if_neg c4] at H; have c4b0 : (t326 == (-1)) = false := beq_eq_false_iff_ne.mpr c4; have c4b1 : (t326 != (-1)) = true := bne_iff_ne.mpr c4; have H' := Aside0.mk H; clear H; obtain ⟨Ao7, co7, eo7⟩ := Kd.R_slice HO0.out; subst eo7
    go_enter Try.func62, Try.ntmps62
    go_wp2_with (first | ((with_reducible refine gate_callee (f := 69) rfl ?_); refine goesL_ (some 10) rfl rfl Try.func69 (by kernel_rfl) rfl #[.slice Ao7 l0.length co7, .func (.func 64) #[] #[.pointer (some ⟨gb325, 0, none⟩)]] rfl mp_ ?_; (with_reducible refine (stale_idx.calls _ _ l0 A1_0 c1_0 l1_0 t326 _ ?side1 ?side2 ?side3 A3.out gb325 ?sideS).mono ?_); (case side1 => repeat (first | exact (Kd.R_reads' HO0.out).2.2 | (with_reducible refine Kd.C_alloc ?_ _) | (with_reducible refine Kd.C_drewN ?_ _) | (with_reducible refine Kd.C_drew ?_))); (case side2 => exact (Kd.R_reads' HO0.out).2.1); (case side3 => exact cq_ HR1_0.out HB.out); (case sideS => exact (bq_ BK325.out)); rintro e w12 ⟨rfl, hb⟩; refine ⟨_, rfl, ?_⟩; replace HO0 := Aside0.mk (Kd.R_below (pr_ HO0.out) hb); replace BK325 := bb_ BK325 hb; replace HK := Aside0.mk (Kept.below (S := (fun k_ => P0_ k_)) (by repeat (first | (with_reducible first | exact HK.out | apply Kept.alloc | apply Kept.drewN | apply Kept.drew | refine Kept.setCell ?_ (.inr GW325.out) _) | exact HK.out)) hb); replace HB := hs_ HB hb; (try clear hb); (try clear hb2); (try clear hk); (try clear hi)))
    go_loopg [5, 6] k (fun kq v5 v6 w' => ∃ (x0_1 : List (S55)) (x5_1 : Int) (x6_1 : Int), v5 = .int .i64 x5_1 ∧ v6 = .int .i64 x6_1 ∧ Aside0 (stale_del.l0 kq x0_1 x5_1 x6_1 l1_0 = some r) ∧ Aside0 (kq ≤ k) ∧ Aside0 (Kd.R k55 55 w' w0.heap.size (fun k_ => (P0_ k_ ∨ w.heap.size ≤ k_)) (.slice Ao7 l0.length co7) x0_1) ∧ Aside0 (w'.heap[gb325]? = some (.cells #[(.slice A1_0 l1_0.length c1_0)] 34 (0, 0))) ∧ Aside0 (Kept w w' (fun k_ => P0_ k_)) ∧ Aside0 (Below w0.heap.size w0 w'))
    case atStart => exact ⟨(l0), (t326), (wrap64 (t326 + 1)), rs_, rs_, H', ⟨Nat.le_refl _⟩, ⟨pr_ HO0.out⟩, ⟨bq_ BK325.out⟩, ⟨by repeat (first | (with_reducible first | exact HK.out | apply Kept.alloc | apply Kept.drewN | apply Kept.drew | refine Kept.setCell ?_ (.inr GW325.out) _) | exact HK.out)⟩, ⟨hbw_ HB⟩⟩
    case round =>
      clear H'; (try clear c4b0); (try clear c4b1); (try clear hcz10_0); (try clear hcz6_0); (try clear hfz10_0); (try clear hfz6_0); obtain ⟨x0_1, x5_1, x6_1, rfl, rfl, HA, HK1, HO_0, BK325, HK, HB⟩ := hrel; have hl0_1 := (Kd.R_reads' HO_0.out).1; rw [hl0_1] at HO_0; (try simp only [hl0_1]); (try simp only [hl0_1] at BK325)
      cases gk with
      | zero => exact absurd HA.out (by simp [stale_del.l0])
      | succ k1 =>
        have H := HA.out; clear HA; simp only [stale_del.l0] at H
        by_cases c13 : x6_1 < (x0_1.length : Int)
        · rw [if_pos c13] at H; have c13b0 : decide (x6_1 < (x0_1.length : Int)) = true := decide_eq_true c13; clear c13
          by_cases c14 : 0 ≤ x6_1
          · rw [if_pos c14] at H; have c14b0 : decide (0 ≤ x6_1) = true := decide_eq_true c14; clear c14; replace H := Option.bind_eq_some_iff.mp H; obtain ⟨t329, A150, H⟩ := H; have A15 := Aside0.mk A150; clear A150
            by_cases c16 : t329 = true
            · subst c16; rw [if_pos rfl] at H; have H' := Aside0.mk H; clear H; have p327 : 0 ≤ (x6_1 : Int) := of_decide_eq_true as_; have q327 : x6_1 < (x0_1.length : Int) := of_decide_eq_true as_; obtain ⟨ad327, e327, hx327_0, hx327_1⟩ := at_T55 (Kd.R_reads' HO_0.out).2.2 x6_1 p327 q327
              cases e327
              replace p327 := eq_true p327; replace q327 := eq_true q327
              go_wp2_with (first | ((with_reducible refine gate_dst (N := 7) rfl ?_); refine be_ 7 #[.int .i64 0, .int .i64 0] 55 ?_; intro gb328 hg w17 hbox hb; replace HO_0 := Aside0.mk (Kd.R_below (Kd.R_elderB (pr_ HO_0.out) gb328 (Nat.le_of_eq hg.symm)) hb); have BK328 := Aside0.mk (hbox); have GW328 := Aside0.mk ((by rw [hg]; exact (by first | exact HK.out.1 | exact (show Kept w _ (fun k_ => P0_ k_) from by repeat (first | (with_reducible first | exact HK.out | apply Kept.alloc | apply Kept.drewN | apply Kept.drew | refine Kept.setCell ?_ (.inr GW325.out) _) | exact HK.out)).1) : w.heap.size ≤ gb328)); replace HK := Aside0.mk (Kept.below (S := (fun k_ => P0_ k_)) (by repeat (first | (with_reducible first | exact HK.out | apply Kept.alloc | apply Kept.drewN | apply Kept.drew | refine Kept.setCell ?_ (.inr GW325.out) _) | exact HK.out)) hb); have GE328 := Aside0.mk ((ws_ hg (hbw_ HB) : w0.heap.size ≤ gb328)); replace HB := hs_ HB hb; have NB325_328 := nk_ hg BK325; replace BK325 := bb_ BK325 hb; have NB328_325 := ny_ NB325_328; clear hb hbox hg; have hnb18 := NB328_325.out; have hnc18 := NB325_328.out; have hcz19 := bc2_ BK328.out; have hfz19 := bf2_ BK328.out; have hcz20_0 := bc1_ BK325.out; have hfz20_0 := blk_frozen BK325.out 0) | (go_at_call 64; (with_reducible refine (stale_clo.calls A1_0 c1_0 l1_0 ((rd_T55 x0_1 x6_1).f0) ((rd_T55 x0_1 x6_1).f1) true _ ?side1 A15.out gb325 ?sideS).mono ?_); (case side1 => exact Kd.C_below HR1_0.out (hbw_ HB)); (case sideS => exact bk1_ BK325.out NB325_328.out); rintro e w21 ⟨rfl, hb⟩; replace HO_0 := Aside0.mk (Kd.R_below (pr_ ((Kd.R_mono (Kd.R_far (p := ⟨gb328, 1, none⟩) (Kd.R_far (p := ⟨gb328, 0, none⟩) (Kd.R_mono HO_0.out (fun k_ hk => (⟨hk, hk.2⟩ : _ ∧ k_ ≠ gb328))) (fun _ hk => hk.2) (.int .i64 ((rd_T55 x0_1 x6_1).f0))) (fun _ hk => hk.2) (.int .i64 ((rd_T55 x0_1 x6_1).f1))) (fun _ h_ => h_.1)))) hb); replace BK325 := Aside0.mk (blk_below (g := gb325) (o := .cells #[.slice A1_0 l1_0.length c1_0] 34 (0, 0)) (bk1_ BK325.out NB325_328.out) hb); replace BK328 := Aside0.mk (blk_below (g := gb328) (o := .cells #[.int .i64 ((rd_T55 x0_1 x6_1).f0), .int .i64 ((rd_T55 x0_1 x6_1).f1)] 55 (0, 0)) (by (with_reducible repeat (first | refine blk_drewN ?_ _ | refine blk_drew ?_ | refine blk_alloc ?_ _)); refine blk_put (cs := #[.int .i64 ((rd_T55 x0_1 x6_1).f0), .int .i64 0]) ?_ 1 _ rfl; (with_reducible repeat (first | refine blk_drewN ?_ _ | refine blk_drew ?_ | refine blk_alloc ?_ _)); refine blk_put (cs := #[.int .i64 0, .int .i64 0]) ?_ 0 _ rfl; (with_reducible repeat (first | refine blk_drewN ?_ _ | refine blk_drew ?_ | refine blk_alloc ?_ _)); exact BK328.out) hb); replace HK := Aside0.mk (Kept.below (S := (fun k_ => P0_ k_)) (by repeat (first | (with_reducible first | exact HK.out | apply Kept.alloc | apply Kept.drewN | apply Kept.drew | refine Kept.setCell ?_ (.inr GW325.out) _ | refine Kept.setCell ?_ (.inr GW328.out) _) | exact HK.out)) hb); replace HB := hs_ HB hb; (try clear hb); (try clear hb2); (try clear hk); (try clear hi)))
              (try simp only [← hl0_1])
              go_roundg k1
              case measure => have := HK1.out; omega
              case rel => exact ⟨(x0_1), (x5_1), (wrap64 (x6_1 + 1)), rs_, rs_, H', ⟨by have := HK1.out; omega⟩, ⟨by (try simp only [hl0_1]); (with_reducible repeat (first | apply Kd.R_alloc | apply Kd.R_drewN | apply Kd.R_drew)); exact Kd.R_mono HO_0.out (fun _ hk => hk.1)⟩, ⟨by (try simp only [hl0_1]); (with_reducible repeat (first | refine blk_drewN ?_ _ | refine blk_drew ?_ | refine blk_alloc ?_ _)); exact BK325.out⟩, ⟨by repeat (first | (with_reducible first | exact HK.out | apply Kept.alloc | apply Kept.drewN | apply Kept.drew | refine Kept.setCell ?_ (.inr GW325.out) _ | refine Kept.setCell ?_ (.inr GW328.out) _) | exact HK.out)⟩, ⟨hbw_ HB⟩⟩
            · replace c16 := Bool.eq_false_iff.mpr c16; subst c16; rw [if_neg nt_] at H
              by_cases c22 : 0 ≤ x5_1
              · rw [if_pos c22] at H; have c22b0 : decide (0 ≤ x5_1) = true := decide_eq_true c22; clear c22
                by_cases c23 : x5_1 < (x0_1.length : Int)
                · rw [if_pos c23] at H; have c23b0 : decide (x5_1 < (x0_1.length : Int)) = true := decide_eq_true c23; clear c23; obtain ⟨y330, hy330⟩ : ∃ y_ : List (S55), y_ = (x0_1.set (x5_1 : Int).toNat (⟨(rd_T55 x0_1 x6_1).f0, (rd_T55 x0_1 x6_1).f1⟩ : S55)) := ⟨_, rfl⟩; (replace H : (stale_del.l0 k1 y330 (wrap64 (x5_1 + 1)) (wrap64 (x6_1 + 1)) l1_0) = some r := by first | (rw [hy330]; with_reducible exact H) | (have H2_ := (Option.bind_some _ _).symm.trans H; rw [hy330]; with_reducible exact H2_) | (have H2_ := (Option.bind_some _ _).symm.trans H; with_reducible exact H2_) | with_reducible exact H | (rw [hy330]; exact H) | exact H); have Ny330 := Aside0.mk hy330; clear hy330; have H' := Aside0.mk H; clear H; have p327 : 0 ≤ (x6_1 : Int) := of_decide_eq_true as_; have q327 : x6_1 < (x0_1.length : Int) := of_decide_eq_true as_; obtain ⟨ad327, e327, hx327_0, hx327_1⟩ := at_T55 (Kd.R_reads' HO_0.out).2.2 x6_1 p327 q327
                  cases e327
                  replace p327 := eq_true p327; replace q327 := eq_true q327
                  go_wp2_with (first | ((with_reducible refine gate_dst (N := 7) rfl ?_); refine be_ 7 #[.int .i64 0, .int .i64 0] 55 ?_; intro gb328 hg w25 hbox hb; replace HO_0 := Aside0.mk (Kd.R_below (Kd.R_elderB (pr_ HO_0.out) gb328 (Nat.le_of_eq hg.symm)) hb); have BK328 := Aside0.mk (hbox); have GW328 := Aside0.mk ((by rw [hg]; exact (by first | exact HK.out.1 | exact (show Kept w _ (fun k_ => P0_ k_) from by repeat (first | (with_reducible first | exact HK.out | apply Kept.alloc | apply Kept.drewN | apply Kept.drew | refine Kept.setCell ?_ (.inr GW325.out) _) | exact HK.out)).1) : w.heap.size ≤ gb328)); replace HK := Aside0.mk (Kept.below (S := (fun k_ => P0_ k_)) (by repeat (first | (with_reducible first | exact HK.out | apply Kept.alloc | apply Kept.drewN | apply Kept.drew | refine Kept.setCell ?_ (.inr GW325.out) _) | exact HK.out)) hb); have GE328 := Aside0.mk ((ws_ hg (hbw_ HB) : w0.heap.size ≤ gb328)); replace HB := hs_ HB hb; have NB325_328 := nk_ hg BK325; replace BK325 := bb_ BK325 hb; have NB328_325 := ny_ NB325_328; clear hb hbox hg; have hnb26 := NB328_325.out; have hnc26 := NB325_328.out; have hcz27 := bc2_ BK328.out; have hfz27 := bf2_ BK328.out; have hcz28_0 := bc1_ BK325.out; have hfz28_0 := blk_frozen BK325.out 0) | (go_at_call 64; (with_reducible refine (stale_clo.calls A1_0 c1_0 l1_0 ((rd_T55 x0_1 x6_1).f0) ((rd_T55 x0_1 x6_1).f1) false _ ?side1 A15.out gb325 ?sideS).mono ?_); (case side1 => exact Kd.C_below HR1_0.out (hbw_ HB)); (case sideS => exact bk1_ BK325.out NB325_328.out); rintro e w29 ⟨rfl, hb⟩; replace HO_0 := Aside0.mk (Kd.R_below (pr_ ((Kd.R_mono (Kd.R_far (p := ⟨gb328, 1, none⟩) (Kd.R_far (p := ⟨gb328, 0, none⟩) (Kd.R_mono HO_0.out (fun k_ hk => (⟨hk, hk.2⟩ : _ ∧ k_ ≠ gb328))) (fun _ hk => hk.2) (.int .i64 ((rd_T55 x0_1 x6_1).f0))) (fun _ hk => hk.2) (.int .i64 ((rd_T55 x0_1 x6_1).f1))) (fun _ h_ => h_.1)))) hb); replace BK325 := Aside0.mk (blk_below (g := gb325) (o := .cells #[.slice A1_0 l1_0.length c1_0] 34 (0, 0)) (bk1_ BK325.out NB325_328.out) hb); replace BK328 := Aside0.mk (blk_below (g := gb328) (o := .cells #[.int .i64 ((rd_T55 x0_1 x6_1).f0), .int .i64 ((rd_T55 x0_1 x6_1).f1)] 55 (0, 0)) (by (with_reducible repeat (first | refine blk_drewN ?_ _ | refine blk_drew ?_ | refine blk_alloc ?_ _)); refine blk_put (cs := #[.int .i64 ((rd_T55 x0_1 x6_1).f0), .int .i64 0]) ?_ 1 _ rfl; (with_reducible repeat (first | refine blk_drewN ?_ _ | refine blk_drew ?_ | refine blk_alloc ?_ _)); refine blk_put (cs := #[.int .i64 0, .int .i64 0]) ?_ 0 _ rfl; (with_reducible repeat (first | refine blk_drewN ?_ _ | refine blk_drew ?_ | refine blk_alloc ?_ _)); exact BK328.out) hb); replace HK := Aside0.mk (Kept.below (S := (fun k_ => P0_ k_)) (by repeat (first | (with_reducible first | exact HK.out | apply Kept.alloc | apply Kept.drewN | apply Kept.drew | refine Kept.setCell ?_ (.inr GW325.out) _ | refine Kept.setCell ?_ (.inr GW328.out) _) | exact HK.out)) hb); replace HB := hs_ HB hb; (try clear hb); (try clear hb2); (try clear hk); (try clear hi); have hcz30 := bc2_ BK328.out; have hfz30 := bf2_ BK328.out; have p24 : 0 ≤ (x5_1 : Int) := of_decide_eq_true as_; have q24 : (x5_1 : Int) < ((x0_1.length : Int) : Int) := of_decide_eq_true as_; obtain ⟨go24, co24, eo24, gb24, gl24, cl24, HG24⟩ := Kd.R_form HO_0.out (by omega); (first | cases eo24 | (injection eo24 with ea_ en_ ec_; (first | subst ea_ | (injection ea_ with ea_; subst ea_)); subst ec_; clear en_)); have GB24 := Aside0.mk gb24; have GG24 := Aside0.mk HG24; clear gb24 gl24 HG24; have HMgo24 := Aside0.mk (show (P0_ go24 ∨ w.heap.size ≤ go24) from (HO_0.out.1 _ rfl).1); (first | simp only [add_plain] at hx327_0 | skip); (first | simp only [add_plain] at hx327_1 | skip); obtain ⟨ce24, hcl24, hM24, hcc24, hfr24⟩ := Kd.R_elem HO_0.out z55 (x5_1 : Int) p24 q24; obtain rfl := k55_openM hM24; have hx24_0 : w29.cell? ⟨go24, (x5_1 : Int).toNat * 2, none⟩ = some (.int .i64 ((rd_T55 x0_1 x5_1).f0)) := hcc24 0 _ rfl; have hx24_1 : w29.cell? ⟨go24, (x5_1 : Int).toNat * 2 + 1, none⟩ = some (.int .i64 ((rd_T55 x0_1 x5_1).f1)) := hcc24 1 _ rfl; have hf24_0 : w29.frozen? ⟨go24, (x5_1 : Int).toNat * 2, none⟩ = false := hfr24 0; have hf24_1 : w29.frozen? ⟨go24, (x5_1 : Int).toNat * 2 + 1, none⟩ = false := hfr24 1; clear hcl24 hcc24 hfr24; (try clear hM24); replace p24 := eq_true p24; replace q24 := eq_true q24; have HX31 := Aside0.mk (show Kd.R k55 55 w29 w0.heap.size (fun k_ => (P0_ k_ ∨ w.heap.size ≤ k_) ∧ k_ ≠ gb328) (.slice (some ⟨go24, 0, none⟩) x0_1.length co7) x0_1 from (pr_ HO_0.out)); obtain ⟨ce31, hcl31, hM31, hcc31, hfr31⟩ := Kd.R_elem HX31.out z55 (x5_1 : Int) (of_decide_eq_true as_) (by have h_ : (x5_1 : Int) < ((x0_1.length : Int) : Int) := of_decide_eq_true as_; first | exact h_ | (have e_ := (Kd.R_reads' HO_0.out).1; omega) | simpa using h_); obtain rfl := k55_openM hM31; have HP31 := Kd.R_seg HX31.out (x5_1 : Int) (of_decide_eq_true as_) (by have h_ : (x5_1 : Int) < ((x0_1.length : Int) : Int) := of_decide_eq_true as_; first | exact h_ | (have e_ := (Kd.R_reads' HO_0.out).1; omega) | simpa using h_) (seg := [.int .i64 ((rd_T55 x0_1 x6_1).f0), .int .i64 ((rd_T55 x0_1 x6_1).f1)]) (j := 0) hcl31 hcc31 (show 2 ≤ 2 from by decide) (x' := (⟨(rd_T55 x0_1 x6_1).f0, (rd_T55 x0_1 x6_1).f1⟩ : S55)) (k55_mkM _ _ _ (⟨(rd_T55 x0_1 x6_1).f0, (rd_T55 x0_1 x6_1).f1⟩ : S55) ) (fun _ hk => hk); have hx31_0 := hcc31 0 _ rfl; (try simp only [show (k55).sz = 2 from rfl, Nat.mul_one, Nat.add_zero] at hx31_0); have hf31_0 := hfr31 0; (try simp only [show (k55).sz = 2 from rfl, Nat.mul_one, Nat.add_zero] at hf31_0); have hx31_1 := hcc31 1 _ rfl; (try simp only [show (k55).sz = 2 from rfl, Nat.mul_one, Nat.add_zero] at hx31_1); have hf31_1 := hfr31 1; (try simp only [show (k55).sz = 2 from rfl, Nat.mul_one, Nat.add_zero] at hf31_1); clear hcl31 hcc31 hfr31 hM31) | ((with_reducible refine gate_store (t := 55) (p := 33) rfl ?_); refine store_event (t := 55) (p := 33) (v := ?vo_w32) (w1 := ((w29.setCell ⟨go24, (x5_1 : Int).toNat * 2, none⟩ (.int .i64 ((rd_T55 x0_1 x6_1).f0))).setCell ⟨go24, (x5_1 : Int).toNat * 2 + 1, none⟩ (.int .i64 ((rd_T55 x0_1 x6_1).f1)))) ?hg ?ho ?hn ?hr ?_; (case ho => rfl); (case hg => rfl); (case hn => rfl); (case hr => first | (go_simp; done) | (go_simp; rfl)); intro w32 hw; have hg : w29.grownBy w32 (some go24) := (by rw [hw]; exact HP31.2); have hp_ : Kd.R k55 55 w32 w0.heap.size (fun k_ => (P0_ k_ ∨ w.heap.size ≤ k_) ∧ k_ ≠ gb328) (.slice (some ⟨go24, 0, none⟩) x0_1.length co7) y330 := (by rw [hw, Ny330.out]; exact HP31.1); clear HP31; replace BK325 := Aside0.mk (blk_grown (g := gb325) (o := .cells #[.slice A1_0 l1_0.length c1_0] 34 (0, 0)) (bq_ BK325.out) hg (Kd.R_ne HO_0.out BK325.out (by decide))); replace BK328 := Aside0.mk (blk_grown (g := gb328) (o := .cells #[.int .i64 ((rd_T55 x0_1 x6_1).f0), .int .i64 ((rd_T55 x0_1 x6_1).f1)] 55 (0, 0)) (bq_ BK328.out) hg (Kd.R_away HO_0.out (fun _ hk => hk.2))); replace HB := Aside0.mk ((by rw [hw]; exact below_set (below_set (HB.out) GB24.out) GB24.out : Below w0.heap.size w0 w32)); replace HK := Aside0.mk (Kept.of_grown (S := (fun k_ => P0_ k_)) hg (by repeat (first | (with_reducible first | exact HK.out | apply Kept.alloc | apply Kept.drewN | apply Kept.drew | refine Kept.setCell ?_ (.inr GW325.out) _ | refine Kept.setCell ?_ (.inr GW328.out) _) | exact HK.out)) (fun k_ e_ => (HO_0.out.1 k_ e_).1)); replace HO_0 := Aside0.mk (hp_); clear hg hw hp_))
                  (try simp only [← hl0_1])
                  go_roundg k1
                  case measure => have := HK1.out; omega
                  case rel => exact ⟨(y330), (wrap64 (x5_1 + 1)), (wrap64 (x6_1 + 1)), rs_, rs_, H', ⟨by have := HK1.out; omega⟩, ⟨by (try simp only [hl0_1]); (with_reducible repeat (first | apply Kd.R_alloc | apply Kd.R_drewN | apply Kd.R_drew)); exact Kd.R_mono HO_0.out (fun _ hk => hk.1)⟩, ⟨by (try simp only [hl0_1]); (with_reducible repeat (first | refine blk_drewN ?_ _ | refine blk_drew ?_ | refine blk_alloc ?_ _)); exact BK325.out⟩, ⟨by repeat (first | (with_reducible first | exact HK.out | apply Kept.alloc | apply Kept.drewN | apply Kept.drew | refine Kept.setCell ?_ (.inr GW325.out) _ | refine Kept.setCell ?_ (.inr GW328.out) _) | exact HK.out)⟩, ⟨hbw_ HB⟩⟩
                · rw [if_neg c23] at H; exact absurd H (by simp)
              · rw [if_neg c22] at H; exact absurd H (by simp)
          · rw [if_neg c14] at H; exact absurd H (by simp)
        · rw [if_neg c13] at H; have c13b0 : decide (x6_1 < (x0_1.length : Int)) = false := decide_eq_false c13; clear c13
          by_cases c40 : 0 ≤ x5_1
          · rw [if_pos c40] at H
            by_cases c41 : x5_1 < (x0_1.length : Int)
            · rw [if_pos c41] at H; obtain rfl := Option.some.inj H; clear H; obtain ⟨i, rfl⟩ : ∃ i : Nat, x5_1 = (i : Int) := ⟨x5_1.toNat, by omega⟩; (have hi : i < x0_1.length := by omega); obtain ⟨go, co, eo, gb, gl, cells, hcells⟩ := Kd.R_form HO_0.out (by omega)
              cases eo
              have hcap := (Kd.R_reads' HO_0.out).2.1
              have hsz : cells.size = co7 * 2 := by
                obtain ⟨_, inner, ⟨_, hc⟩, _⟩ := HO_0.out; (rcases hc with ⟨he, _⟩ | ⟨g', cap', cur, he, _, hg, _, _, hs, _⟩)
                · cases he
                · cases he
                  rw [hcells] at hg
                  cases hg
                  exact hs
              have hclear : ∀ ty, (Builtin.clear_ #[36] ty #[.slice (some ⟨go, i * 2, none⟩) (x0_1.length - i) (co7 - i)]).run Try.prog wr = .ok (.tuple #[]) (wr.setCells go (i * 2) (List.replicate ((x0_1.length - i) * 2) (.int .i64 0))) := by
                intro ty
                have hzc : (Builtin.zeroCells (Value.agg #[.int .i64 0, .int .i64 0]).cells (x0_1.length - i)).toList = List.replicate ((x0_1.length - i) * 2) (.int .i64 0) := by
                  apply List.ext_getElem
                  · simp [Builtin.zeroCells, Value.cells]
                  · intro q h1 h2; simp [Builtin.zeroCells, Value.cells]; (rcases Nat.mod_two_eq_zero_or_one q with h | h <;> simp [h])
                have hzv : ∀ w, (zeroValue 55).run Try.prog w = .ok (.agg #[.int .i64 0, .int .i64 0]) w := fun w => by
                  first | rfl | exact Kd.zero_run info55 w
                have hst := run_storeCells_cells (P := Try.prog) go (i * 2) (List.replicate ((x0_1.length - i) * 2) (.int .i64 0)) 0 wr (fun j hj => by rw [List.length_replicate] at hj; rw [blk_cell hcells]; simp; omega) (fun j hj => blk_frozen hcells _) (fun v hv' => by rw [List.eq_of_mem_replicate hv']; rfl); simp only [Nat.add_zero] at hst; obtain ⟨m, hm⟩ : ∃ m, x0_1.length - i = m + 1 := ⟨x0_1.length - i - 1, by omega⟩; rw [hm] at hzc hst ⊢; simp [Builtin.clear_, run_underlying Try.underlying36, hzv, hzc, hst]
              have HG := Aside0.mk hcells; have HRW := Aside0.mk HO_0.out; have GB := Aside0.mk gb; have HBW := Aside0.mk (hbw_ HB : Below w0.heap.size w0 wr); (have hi1 : (0 : Int) ≤ (i : Int) := by omega); (have hi2 : (i : Int) ≤ (x0_1.length : Int) := by omega); have d1 := decide_eq_true hi1; have d2 := decide_eq_true hi2; clear hcells gb gl hsz; (try simp only [hl0_1])
              go_wp2
              go_ret; obtain ⟨cs', e1, e2, e3⟩ := stale_sc go 55 (List.replicate ((x0_1.length - i) * 2) (.int .i64 0)) (i * 2) wr cells HG.out; exact ⟨_, rfl, by rw [Int.toNat_natCast]; exact stale_cut HRW.out i (by omega) cs' (fun cs hcs => by rw [HG.out] at hcs; cases hcs; exact ⟨e1, e2, e3⟩), stale_below go w0 GB.out _ _ _ HBW.out⟩
            · rw [if_neg c41] at H; exact absurd H (by simp)
          · rw [if_neg c40] at H; exact absurd H (by simp)
set_option maxHeartbeats 2000000 in
set_option maxRecDepth 100000 in
/-- slices.Clone: a row of its own. -/
theorem stale_clone (A0 : Option Addr) (c0 : Nat) (l0 : List S55) (w : World) (hr0 : Kd.C k55 w A0 l0.length l0) (hL : l0.length < 8796093022208) :
    Calls Try.prog 63 #[.slice A0 l0.length c0] w fun e w' => ∃ v : Value, e = .returned v ∧ Kd.R k55 55 w' w.heap.size (fun k_ => w.heap.size ≤ k_) v l0 ∧ Below w.heap.size w w' := by
  have hu := Try.underlying36; (have q36 : ∀ (w : World) (a : Option Addr) (n c n' c' : Nat), (binOp .eql 36 (.slice a n c) (.slice none n' c')).run Try.prog w = .ok (.bool a.isNone) w := fun w a n c n' c' => Lib.run_eql_slice_nil w _ _ a n c n' c' Try.underlying36); have HR := Aside0.mk hr0; have LM := Aside0.mk hL; have HB := Aside0.mk (Below.refl w.heap.size w)
  cases A0 with
  | none =>
    have h0 : l0 = [] := by
      cases l0 with
      | nil => rfl
      | cons x xs =>
        obtain ⟨ad, he, _⟩ := hr0.2.2 (by simp)
        cases he
    subst h0; clear hr0 hL
    go_enter Try.func63, Try.ntmps63
    go_wp2
    go_ret; exact ⟨_, rfl, Kd.R_nil _ _ _ _ _, hbw_ HB⟩
  | some ad =>
    clear hr0 hL
    go_enter Try.func63, Try.ntmps63
    go_wp2_with (first | ((with_reducible refine gate_dst (N := 5) rfl ?_); refine Kd.R_lit k55 _ 55 ?hg (N := 5) ?hd (xs := ([] : List S55)) (inner := []) (ok := fun _ => True) (okp := fun _ => True) ?hr ?hp (fun _ hk => hk) trivial (Below.refl _ _) (Nat.le_refl _) (by simp) ?_; (case hd => rfl); (case hg => rfl); (case hr => first | (go_simp; done) | (go_simp; rfl)); (case hp => exact (Reps.none _ _)); intro v515 w12 ho13 hb hg_ hnew_; clear hg_ hnew_; have HO516 := Aside0.mk (Kd.R_lower ho13 (below_size (hbw_ HB))); replace HB := hs_ HB hb; clear hb ho13) | ((with_reducible refine gate_builtin (b := .append) (xs := #[.tmp 5, .tmp 6]) rfl ?_); at_builtin; refine Kd.R_append_rows k55 (w0 := w) w.heap.size rfl (.tmp 5) (.tmp 6) 36 55 (.agg #[(.int .i64 0), (.int .i64 0)]) 16 rfl Try.underlying36 info55 rfl (by decide) (by omega) v515 [] l0 _ _ _ (fun _ => True) (fun _ => False) rfl rfl ?aO ?aR (fun _ _ h => h) (fun _ h => h.elim) ?aF ?aB ?aS ?aL ?_; (case aR => exact cq_ HR.out HB.out); (case aB => exact (hbw_ HB)); (case aF => exact (fun _ _ => trivial)); (case aO => exact (pr_ HO516.out)); (case aS => exact (below_size (hbw_ HB))); (case aL => have := LM.out; simp; omega); intro v518 w15 ho hb hg hat; replace HB := Aside0.mk hb; have HO1 := Aside0.mk ho; clear ho hb hg hat))
    go_ret; have ho := HO1.out; rw [List.nil_append] at ho; exact ⟨_, rfl, Kd.R_mono (Kd.R_bound (pr_ ho)) (fun k hk => hk.2.1), hbw_ HB⟩
def impl_StaleReads.f (k : Nat) (l0_0 : List (List S65)) (a1_0 : Int) (a1_1 : Int) (a1_2 : Int) (a1_3 : Int) (a1_4 : Int) (a1_5 : Int) (a1_6 : Int) (l1_7 : List S55) (l1_8 : List S76) : Option (List S55) :=
  (impl_ReadsExist.f k l0_0 a1_0 a1_1 a1_2 a1_3 a1_4 a1_5 a1_6 l1_7 l1_8).bind fun b => if b = true then (if l1_7.length < 8796093022208 then stale_del.f k l1_7 l0_0 else none) else some []
theorem impl_StaleReads.mono : ∀ a0 a1 a2 a3 a4 a5 a6 a7 a8 a9 k, LeO (impl_StaleReads.f k a0 a1 a2 a3 a4 a5 a6 a7 a8 a9) (impl_StaleReads.f (k + 1) a0 a1 a2 a3 a4 a5 a6 a7 a8 a9) := by
  intro a0 a1 a2 a3 a4 a5 a6 a7 a8 a9 k; unfold impl_StaleReads.f; exact LeO.bind (impl_ReadsExist.mono _ _ _ _ _ _ _ _ _ _ _) (fun _ => LeO.ite (LeO.ite (stale_del.mono _ _ _) (LeO.none _)) (LeO.refl _))
set_option maxHeartbeats 4000000 in
set_option maxRecDepth 100000 in
theorem impl_StaleReads.calls (k : Nat) (A0_0 : Option Addr) (c0_0 : Nat) (l0_0 : List (List S65)) (a1_0 : Int) (a1_1 : Int) (a1_2 : Int) (a1_3 : Int) (a1_4 : Int) (a1_5 : Int) (a1_6 : Int) (A1_7 : Option Addr) (c1_7 : Nat) (l1_7 : List S55) (A1_8 : Option Addr) (c1_8 : Nat) (l1_8 : List S76) (r : List S55) (w : World) (hr0_0 : Kd.C (Kd.slice 65 k65) w A0_0 l0_0.length l0_0) (hc0_0 : l0_0.length ≤ c0_0) (hr1_7 : Kd.C k55 w A1_7 l1_7.length l1_7) (hc1_7 : l1_7.length ≤ c1_7) (hr1_8 : Kd.C k76 w A1_8 l1_8.length l1_8) (hc1_8 : l1_8.length ≤ c1_8) (h : impl_StaleReads.f k l0_0 a1_0 a1_1 a1_2 a1_3 a1_4 a1_5 a1_6 l1_7 l1_8 = some r) :
    Calls Try.prog 32 #[.agg #[.slice A0_0 l0_0.length c0_0], .agg #[.int .i64 a1_0, .int .i64 a1_1, .int .i64 a1_2, .int .i64 a1_3, .int .i64 a1_4, .int .i64 a1_5, .int .i64 a1_6, .slice A1_7 l1_7.length c1_7, .slice A1_8 l1_8.length c1_8]] w fun e w' => ∃ v0_ : Value, e = .returned (v0_) ∧ Kd.R k55 55 w' w.heap.size (fun _ => True) v0_ r ∧ Below w.heap.size w w' := by
  have hu34 := Try.underlying34; have hu39 := Try.underlying39; have HR0 := Aside0.mk hr0_0; have HC0 := Aside0.mk hc0_0; have HR7 := Aside0.mk hr1_7; have HC7 := Aside0.mk hc1_7; have HR8 := Aside0.mk hr1_8; have HC8 := Aside0.mk hc1_8; clear hr0_0 hc0_0 hr1_7 hc1_7 hr1_8 hc1_8; have HB := Aside0.mk (Below.refl w.heap.size w); unfold impl_StaleReads.f at h; obtain ⟨b, hb0, h⟩ := Option.bind_eq_some_iff.1 h; have HE := Aside0.mk hb0; clear hb0
  by_cases c : b = true
  · subst c; rw [if_pos rfl] at h
    by_cases c2 : l1_7.length < 8796093022208
    · rw [if_pos c2] at h; have LM := Aside0.mk c2; have HD := Aside0.mk h; clear c2 h
      go_enter Try.func32, Try.ntmps32
      go_wp2_with (first | ((with_reducible refine gate_dst (N := 2) rfl ?_); refine be_ 2 #[.slice A0_0 l0_0.length c0_0] 34 ?_; intro gb1 hg w1 hbox hb; have BK1 := Aside0.mk hbox; have GE1 := wk_ hg HB; replace HB := hs_ HB hb; clear hb hbox hg; have hcz1 := bc1_ BK1.out) | ((with_reducible refine gate_dst (N := 3) rfl ?_); refine be_ 3 #[.int .i64 a1_0, .int .i64 a1_1, .int .i64 a1_2, .int .i64 a1_3, .int .i64 a1_4, .int .i64 a1_5, .int .i64 a1_6, .slice A1_7 l1_7.length c1_7, .slice A1_8 l1_8.length c1_8] 39 ?_; intro gb2 hg w2 hbox hb; have BK2 := Aside0.mk hbox; have GE2 := wk_ hg HB; replace BK1 := bb_ BK1 hb; replace HB := hs_ HB hb; clear hb hbox hg; have hcy1 := bc1_ BK1.out; have hcy2 := bc9_ BK2.out) | (go_at_call 44; (with_reducible refine (impl_ReadsExist.calls k _ _ l0_0 a1_0 a1_1 a1_2 a1_3 a1_4 a1_5 a1_6 _ _ l1_7 _ _ l1_8 true _ ?side1 ?side2 ?side3 ?side4 ?side5 ?side6 HE.out).mono ?_); (case side1 => exact cq_ HR0.out HB.out); (case side2 => exact HC0.out); (case side3 => exact cq_ HR7.out HB.out); (case side4 => exact HC7.out); (case side5 => exact cq_ HR8.out HB.out); (case side6 => exact HC8.out); rintro e w3 ⟨rfl, hb⟩; replace BK1 := bb_ BK1 hb; replace BK2 := bb_ BK2 hb; replace HB := hs_ HB hb; clear hb; have hcx2 := bc9_ BK2.out) | (go_at_call 63; (with_reducible refine (stale_clone _ _ l1_7 _ ?side1 LM.out).mono ?_); (case side1 => exact cq_ HR7.out HB.out); rintro e w4 ⟨v4, rfl, ho4, hb⟩; have HS4 := Aside0.mk (below_size (hbw_ HB : Below w.heap.size w _)); have HO4 := Aside0.mk (Kd.R_lower ho4 HS4.out); replace BK1 := bb_ BK1 hb; replace HB := hs_ HB hb; clear hb ho4) | (go_at_call 62; (with_reducible refine (stale_del.calls k (fun k_ => w3.heap.size ≤ k_) _ l1_7 A0_0 c0_0 l0_0 r w _ ?side1 ?side2 HR0.out gb1 ?side3 HD.out).mono ?_); (case side1 => exact (hbw_ HB)); (case side2 => exact pr_ HO4.out); (case side3 => exact bq_ BK1.out); rintro e w5 ⟨v5, rfl, ho5, hb⟩; have HO5 := Aside0.mk ho5; have HB5 := Aside0.mk hb; clear ho5 hb))
      go_ret; exact ⟨_, rfl, HO5.out, HB5.out⟩
    · rw [if_neg c2] at h
      cases h
  · replace c := Bool.eq_false_iff.mpr c; subst c; rw [if_neg (by decide)] at h; obtain rfl := Option.some.inj h; clear h
    go_enter Try.func32, Try.ntmps32
    go_wp2_with (first | ((with_reducible refine gate_dst (N := 2) rfl ?_); refine be_ 2 #[.slice A0_0 l0_0.length c0_0] 34 ?_; intro gb1 hg w1 hbox hb; have BK1 := Aside0.mk hbox; have GE1 := wk_ hg HB; replace HB := hs_ HB hb; clear hb hbox hg; have hcz1 := bc1_ BK1.out) | ((with_reducible refine gate_dst (N := 3) rfl ?_); refine be_ 3 #[.int .i64 a1_0, .int .i64 a1_1, .int .i64 a1_2, .int .i64 a1_3, .int .i64 a1_4, .int .i64 a1_5, .int .i64 a1_6, .slice A1_7 l1_7.length c1_7, .slice A1_8 l1_8.length c1_8] 39 ?_; intro gb2 hg w2 hbox hb; have BK2 := Aside0.mk hbox; have GE2 := wk_ hg HB; replace BK1 := bb_ BK1 hb; replace HB := hs_ HB hb; clear hb hbox hg; have hcy1 := bc1_ BK1.out; have hcy2 := bc9_ BK2.out) | (go_at_call 44; (with_reducible refine (impl_ReadsExist.calls k _ _ l0_0 a1_0 a1_1 a1_2 a1_3 a1_4 a1_5 a1_6 _ _ l1_7 _ _ l1_8 false _ ?side1 ?side2 ?side3 ?side4 ?side5 ?side6 HE.out).mono ?_); (case side1 => exact cq_ HR0.out HB.out); (case side2 => exact HC0.out); (case side3 => exact cq_ HR7.out HB.out); (case side4 => exact HC7.out); (case side5 => exact cq_ HR8.out HB.out); (case side6 => exact HC8.out); rintro e w3 ⟨rfl, hb⟩; replace BK1 := bb_ BK1 hb; replace BK2 := bb_ BK2 hb; replace HB := hs_ HB hb; clear hb; have hcx2 := bc9_ BK2.out))
    go_ret; exact ⟨_, rfl, Kd.R_nil _ _ _ _ _, hbw_ HB⟩


end Go.Proofs.Ytbcllflajakajaa.PFnExactStaleReads
