-- Printed by my own myprint.py out of the translation of the seat Ytbcllflajakajaa. Not trusted: Lean checks it.
import Derived.Test.YtbcllflajakajaaRows
import Derived.Test.YtbcllflajakajaaPFnExactStaleReadsx16
import Derived.Test.YtbcllflajakajaaPureFnExactStaleReads
import Derived.Test.YtbcllflajakajaaMOpen
import Derived.WalkKit
import Derived.ProofKit
import Derived.OpenShut
import Derived.ShutString
import Derived.ChangeOld
import Derived.Below
import Derived.SizedLaws
namespace Go.Proofs.Ytbcllflajakajaa.fnExactStaleReads
open Go.ChangeShapes Go.WideShapes Go.ChangeAt Go.RowKit Go.Deep Go.Proofs.YtbcllflajakajaaM Go.Proofs.YtbcllflajakajaaW.PrintWords Go.Proofs.Ytbcllflajakajaa.PFnExactStaleReads
open Go.ChangeMaps (open_string shut_string)
set_option linter.unusedVariables false
set_option linter.unusedSimpArgs false
theorem own : ownKnob Try.prog.godebug = none := by kernel_rfl
theorem laidOut : laidOutB Try.prog = true := by kernel_rfl
theorem open_agg_1 {H : Type} {enc : TypeId × Value → H} {P : Program} {w : World} {base : Nat} {spare : Nat → Bool} {held : Bool} {r : Reach} {b0 : Nat} {t : TypeId} {f0 : Field} {v : Value} {d : DataW H} {p : List MemPlace} (hs : P.underlying t = some (.struct #[f0])) (hone : oneCellFields P #[f0] = true) (hC : P.cellsOf t = 1)
    (hv : Value.okWide P w r b0 t v) (h : DataW.Trod enc P w base spare held t v d p) :
    ∃ (v0 : Value) (y0 : DataW H × List MemPlace) (n : Nat), v = .agg #[v0] ∧ DataW.trod enc P w base spare held n f0.type [v0] = some y0 := by
  obtain ⟨cs, rfl, hsz⟩ := okWide_struct hs hv
  obtain ⟨l⟩ := cs
  match l, hsz.trans hC with
  | [c0], _ =>
    obtain ⟨fuel, hf⟩ := h
    obtain ⟨xs, n, _, hx, _, hlen, hg⟩ := DataW.trod_struct hs hf
    obtain ⟨o0, k0⟩ := hone_of hone 0 f0 rfl
    match xs, hlen with
    | [y0], _ =>
      exact ⟨c0, y0, n, rfl, by simpa [Value.cells, o0, k0] using hg 0 f0 rfl⟩
theorem open_e109 {H : Type} {enc : TypeId × Value → H} {W : World} {base : Nat} {spare : Nat → Bool} {held : Bool} (m : Nat) (cs : List Value) (y : DataW H × List MemPlace) (h : DataW.trod enc Try.prog W base spare held m 109 cs = some y) : ∃ x : S109, k109.K W x cs := by
  obtain ⟨zs, hl, rfl⟩ := struct_ints Try.underlying109 (by kernel_rfl) (by kernel_rfl) (by kernel_rfl) h
  match zs, hl with
  | [z0, z1, z2, z3, z4], _ => exact ⟨⟨z0, z1, z2, z3, z4⟩, k109_mk W _⟩
theorem open_e95 {H : Type} {enc : TypeId × Value → H} {W : World} {base : Nat} {spare : Nat → Bool} {held : Bool} (m : Nat) (cs : List Value) (y : DataW H × List MemPlace) (h : DataW.trod enc Try.prog W base spare held m 95 cs = some y) : ∃ x : List (S109), ((Kd.slice 109 k109)).K W x cs :=
  slice_list k109 109 Try.underlying95 (by kernel_rfl) (fun m cs' y' h' => open_e109 m cs' y' h') h
theorem open_agg_9 {H : Type} {enc : TypeId × Value → H} {P : Program} {w : World} {base : Nat} {spare : Nat → Bool} {held : Bool} {r : Reach} {b0 : Nat} {t : TypeId} {f0 f1 f2 f3 f4 f5 f6 f7 f8 : Field} {v : Value} {d : DataW H} {p : List MemPlace} (hs : P.underlying t = some (.struct #[f0, f1, f2, f3, f4, f5, f6, f7, f8])) (hone : oneCellFields P #[f0, f1, f2, f3, f4, f5, f6, f7, f8] = true) (hC : P.cellsOf t = 9)
    (hv : Value.okWide P w r b0 t v) (h : DataW.Trod enc P w base spare held t v d p) :
    ∃ (v0 v1 v2 v3 v4 v5 v6 v7 v8 : Value) (y0 y1 y2 y3 y4 y5 y6 y7 y8 : DataW H × List MemPlace) (n : Nat), v = .agg #[v0, v1, v2, v3, v4, v5, v6, v7, v8] ∧ DataW.trod enc P w base spare held n f0.type [v0] = some y0 ∧ DataW.trod enc P w base spare held n f1.type [v1] = some y1 ∧ DataW.trod enc P w base spare held n f2.type [v2] = some y2 ∧ DataW.trod enc P w base spare held n f3.type [v3] = some y3 ∧ DataW.trod enc P w base spare held n f4.type [v4] = some y4 ∧ DataW.trod enc P w base spare held n f5.type [v5] = some y5 ∧ DataW.trod enc P w base spare held n f6.type [v6] = some y6 ∧ DataW.trod enc P w base spare held n f7.type [v7] = some y7 ∧ DataW.trod enc P w base spare held n f8.type [v8] = some y8 := by
  obtain ⟨cs, rfl, hsz⟩ := okWide_struct hs hv
  obtain ⟨l⟩ := cs
  match l, hsz.trans hC with
  | [c0, c1, c2, c3, c4, c5, c6, c7, c8], _ =>
    obtain ⟨fuel, hf⟩ := h
    obtain ⟨xs, n, _, hx, _, hlen, hg⟩ := DataW.trod_struct hs hf
    obtain ⟨o0, k0⟩ := hone_of hone 0 f0 rfl
    obtain ⟨o1, k1⟩ := hone_of hone 1 f1 rfl
    obtain ⟨o2, k2⟩ := hone_of hone 2 f2 rfl
    obtain ⟨o3, k3⟩ := hone_of hone 3 f3 rfl
    obtain ⟨o4, k4⟩ := hone_of hone 4 f4 rfl
    obtain ⟨o5, k5⟩ := hone_of hone 5 f5 rfl
    obtain ⟨o6, k6⟩ := hone_of hone 6 f6 rfl
    obtain ⟨o7, k7⟩ := hone_of hone 7 f7 rfl
    obtain ⟨o8, k8⟩ := hone_of hone 8 f8 rfl
    match xs, hlen with
    | [y0, y1, y2, y3, y4, y5, y6, y7, y8], _ =>
      exact ⟨c0, c1, c2, c3, c4, c5, c6, c7, c8, y0, y1, y2, y3, y4, y5, y6, y7, y8, n, rfl, by simpa [Value.cells, o0, k0] using hg 0 f0 rfl, by simpa [Value.cells, o1, k1] using hg 1 f1 rfl, by simpa [Value.cells, o2, k2] using hg 2 f2 rfl, by simpa [Value.cells, o3, k3] using hg 3 f3 rfl, by simpa [Value.cells, o4, k4] using hg 4 f4 rfl, by simpa [Value.cells, o5, k5] using hg 5 f5 rfl, by simpa [Value.cells, o6, k6] using hg 6 f6 rfl, by simpa [Value.cells, o7, k7] using hg 7 f7 rfl, by simpa [Value.cells, o8, k8] using hg 8 f8 rfl⟩
theorem open_e98 {H : Type} {enc : TypeId × Value → H} {W : World} {base : Nat} {spare : Nat → Bool} {held : Bool} (m : Nat) (cs : List Value) (y : DataW H × List MemPlace) (h : DataW.trod enc Try.prog W base spare held m 98 cs = some y) : ∃ x : S98, k98.K W x cs := by
  obtain ⟨zs, hl, rfl⟩ := struct_ints Try.underlying98 (by kernel_rfl) (by kernel_rfl) (by kernel_rfl) h
  match zs, hl with
  | [z0, z1], _ => exact ⟨⟨z0, z1⟩, k98_mk W _⟩
theorem open_e100 {H : Type} {enc : TypeId × Value → H} {W : World} {base : Nat} {spare : Nat → Bool} {held : Bool} (m : Nat) (cs : List Value) (y : DataW H × List MemPlace) (h : DataW.trod enc Try.prog W base spare held m 100 cs = some y) : ∃ x : S100, k100.K W x cs := by
  obtain ⟨zs, hl, rfl⟩ := struct_ints Try.underlying100 (by kernel_rfl) (by kernel_rfl) (by kernel_rfl) h
  match zs, hl with
  | [z0, z1], _ => exact ⟨⟨z0, z1⟩, k100_mk W _⟩
set_option maxRecDepth 100000 in
set_option maxHeartbeats 2000000 in
theorem lifted (os : Os) (started : os.Started) (H : Type) (enc : TypeId × Value → H) :
    ReturnsInHanded {} Try.checked os 8 .any (Rows.fnExactStaleReadsSpec.pre6 enc Try.prog Try.f8 Rows.fnExactStaleReadsRow.domain false) (Rows.fnExactStaleReadsSpec.post enc Try.prog Try.f8 false true false false) := by
  refine returnsInHanded_of_change_sized (C := Try.checked) own started (by kernel_rfl) Try.func8
    (ChangeSpec.witness6 (enc := enc) (C := Try.checked) false ⟨#[], #[.agg #[.slice none 0 0], .agg #[.int .i64 0, .int .i64 0, .int .i64 0, .int .i64 0, .int .i64 0, .int .i64 0, .int .i64 0, .slice none 0 0, .slice none 0 0]], []⟩ 8 (by kernel_rfl) (by kernel_rfl) (by kernel_rfl) (by kernel_rfl)) ?_
  intro W base args ds gs before hval0 hW hcnd hsz0 _
  have hsz : (DataW.weightsEach Try.prog (Try.f8.params.toList ++ Rows.fnExactStaleReadsSpec.plain.varTypes Try.prog) (ds ++ gs)).all (· ≤ reachBytes) = true := hsz0
  have hval : ∀ (j : Nat) t v, Try.f8.params[j]? = some t → args[j]? = some v → Value.okWide Try.prog W .any base t v := hval0
  have hW' := hW
  obtain ⟨p, q, hA0, hV, rfl, hfz, hnd⟩ := hW
  have hA : DataW.TrodAll enc Try.prog W 0 (fun _ => true) true Try.f8.params.toList args.toList ds p := hA0
  rw [Try.params8] at hA hval hsz
  obtain ⟨v0, vs0, d0, ds0, p0, q0, hargs, rfl, rfl, h0, r0⟩ := trodAll_cons hA
  obtain ⟨v1, vs1, d1, ds1, p1, q1, rfl, rfl, rfl, h1, r1⟩ := trodAll_cons r0
  obtain ⟨rfl, rfl, rfl⟩ := trodAll_nil r1
  obtain rfl : args = #[v0, v1] := by cases args; simp_all
  obtain ⟨rfl, rfl⟩ := trodVars_none hV
  have kk0 := h0
  have lt0 : ∀ x ∈ p0, x.block < W.heap.size := by obtain ⟨m, hm⟩ := kk0; exact DataW.trod_lt m _ _ _ hm
  obtain ⟨u0_0, y0_0, fu0, rfl, t0_0⟩ := open_agg_1 Try.underlying24 (by kernel_rfl) (by kernel_rfl) (hval 0 24 v0 rfl rfl) h0
  obtain ⟨l0_0, A0_0, c0_0, he0_0, hc0_0, hr0_0⟩ := slice_list (Kd.slice 109 k109) 95 Try.underlying22 (by kernel_rfl) (fun m cs' y' h' => open_e95 m cs' y' h') t0_0
  have g0_0 : u0_0 = .slice A0_0 l0_0.length c0_0 := by simpa using he0_0
  subst g0_0
  have kk1 := h1
  have lt1 : ∀ x ∈ p1, x.block < W.heap.size := by obtain ⟨m, hm⟩ := kk1; exact DataW.trod_lt m _ _ _ hm
  obtain ⟨u1_0, u1_1, u1_2, u1_3, u1_4, u1_5, u1_6, u1_7, u1_8, y1_0, y1_1, y1_2, y1_3, y1_4, y1_5, y1_6, y1_7, y1_8, fu1, rfl, t1_0, t1_1, t1_2, t1_3, t1_4, t1_5, t1_6, t1_7, t1_8⟩ := open_agg_9 Try.underlying28 (by kernel_rfl) (by kernel_rfl) (hval 1 28 v1 rfl rfl) h1
  obtain ⟨a1_0, e1_0, _⟩ := DataW.trod_int Try.underlying3 t1_0
  have g1_0 : u1_0 = .int .i64 a1_0 := by simpa using e1_0
  subst g1_0
  obtain ⟨a1_1, e1_1, _⟩ := DataW.trod_int Try.underlying3 t1_1
  have g1_1 : u1_1 = .int .i64 a1_1 := by simpa using e1_1
  subst g1_1
  obtain ⟨a1_2, e1_2, _⟩ := DataW.trod_int Try.underlying3 t1_2
  have g1_2 : u1_2 = .int .i64 a1_2 := by simpa using e1_2
  subst g1_2
  obtain ⟨a1_3, e1_3, _⟩ := DataW.trod_int Try.underlying3 t1_3
  have g1_3 : u1_3 = .int .i64 a1_3 := by simpa using e1_3
  subst g1_3
  obtain ⟨a1_4, e1_4, _⟩ := DataW.trod_int Try.underlying3 t1_4
  have g1_4 : u1_4 = .int .i64 a1_4 := by simpa using e1_4
  subst g1_4
  obtain ⟨a1_5, e1_5, _⟩ := DataW.trod_int Try.underlying3 t1_5
  have g1_5 : u1_5 = .int .i64 a1_5 := by simpa using e1_5
  subst g1_5
  obtain ⟨a1_6, e1_6, _⟩ := DataW.trod_int Try.underlying3 t1_6
  have g1_6 : u1_6 = .int .i64 a1_6 := by simpa using e1_6
  subst g1_6
  obtain ⟨l1_7, A1_7, c1_7, he1_7, hc1_7, hr1_7⟩ := slice_list k98 98 Try.underlying25 (by kernel_rfl) (fun m cs' y' h' => open_e98 m cs' y' h') t1_7
  have g1_7 : u1_7 = .slice A1_7 l1_7.length c1_7 := by simpa using he1_7
  subst g1_7
  obtain ⟨l1_8, A1_8, c1_8, he1_8, hc1_8, hr1_8⟩ := slice_list k100 100 Try.underlying26 (by kernel_rfl) (fun m cs' y' h' => open_e100 m cs' y' h') t1_8
  have g1_8 : u1_8 = .slice A1_8 l1_8.length c1_8 := by simpa using he1_8
  subst g1_8
  clear hA0 hval0 hsz0 hsz
  obtain ⟨k, hP⟩ := Pure.FnExactStaleReads l0_0 a1_0 a1_1 a1_2 a1_3 a1_4 a1_5 a1_6 l1_7 l1_8 (C_len hr0_0) (C_inner hr0_0) (C_len hr1_7) (C_len hr1_8)
  refine (PFnExactStaleReads.laws_FnExactStaleReads.calls k _ _ l0_0 a1_0 a1_1 a1_2 a1_3 a1_4 a1_5 a1_6 _ _ l1_7 _ _ l1_8 W hr0_0 hc0_0 hr1_7 hc1_7 hr1_8 hc1_8 hP).mono fun e W' hh => ?_
  obtain ⟨he, hbel⟩ := hh
  have bel : Below W.heap.size W W' := by first | exact hbel | exact hbel.below
  clear hbel hP
  subst he
  exact ⟨_, rfl, _, _, _, [], _, [], hW', trodAll_mk1 (shut_bool Try.underlying4 _), (trodAll_cons_mk (Below.trod laidOut (by kernel_rfl) (of_decide_eq_true (by kernel_rfl)) kk0 bel lt0) (trodAll_cons_mk (Below.trod laidOut (by kernel_rfl) (of_decide_eq_true (by kernel_rfl)) kk1 bel lt1) trodAll_mk0)), rfl, bel.frame _, fun h => by cases h⟩
theorem over : Rows.fnExactStaleReadsRow.holds Try.pinned (OpenSpec.ofChange Rows.fnExactStaleReadsSpec) :=
  OpenClaim.holds_of_wide 8 Try.f8 rfl rfl rfl rfl rfl rfl rfl ⟨rfl, rfl, rfl, rfl, rfl⟩ rfl rfl rfl rfl rfl (by kernel_rfl) Try.func8 (by kernel_rfl)
    (of_decide_eq_true (by kernel_rfl)) (by unfold Func.isWrapper; first | (rw [if_pos (by decide +kernel)]; kernel_rfl) | (rw [if_neg (by decide +kernel)]; exact ⟨rfl, rfl⟩))
    (fun os started H enc _ => lifted os started H enc)
theorem proved : Rows.FnExactStaleReadsSaid := over
#print axioms proved
end Go.Proofs.Ytbcllflajakajaa.fnExactStaleReads
namespace Go.Proofs.Ytbcllflajakajaa
/-- The row, under a short name, for the claim. -/
theorem fnExactStaleReads_holds : Rows.FnExactStaleReadsSaid := fnExactStaleReads.proved
end Go.Proofs.Ytbcllflajakajaa
