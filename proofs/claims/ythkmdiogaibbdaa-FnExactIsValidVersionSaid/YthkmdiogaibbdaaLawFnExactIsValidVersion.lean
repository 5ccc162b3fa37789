-- Printed by my own myprint.py out of the translation of the seat Ythkmdiogaibbdaa. Not trusted: Lean checks it.
import Derived.Test.YthkmdiogaibbdaaRows
import Derived.Test.YthkmdiogaibbdaaPFnExactIsValidVersionx1
import Derived.Test.YthkmdiogaibbdaaPureFnExactIsValidVersion
import Derived.Test.YthkmdiogaibbdaaMOpen
import Derived.WalkKit
import Derived.ProofKit
import Derived.OpenShut
import Derived.ShutString
import Derived.ChangeOld
import Derived.Below
import Derived.SizedLaws
namespace Go.Proofs.Ythkmdiogaibbdaa.fnExactIsValidVersion
open Go.ChangeShapes Go.WideShapes Go.ChangeAt Go.RowKit Go.Deep Go.Proofs.YthkmdiogaibbdaaM Go.Proofs.YthkmdiogaibbdaaW.PrintWords Go.Proofs.Ythkmdiogaibbdaa.PFnExactIsValidVersion
open Go.ChangeMaps (open_string shut_string)
set_option linter.unusedVariables false
set_option linter.unusedSimpArgs false
theorem own : ownKnob Try.prog.godebug = none := by kernel_rfl
theorem laidOut : laidOutB Try.prog = true := by kernel_rfl
theorem open_agg_5 {H : Type} {enc : TypeId × Value → H} {P : Program} {w : World} {base : Nat} {spare : Nat → Bool} {held : Bool} {r : Reach} {b0 : Nat} {t : TypeId} {f0 f1 f2 f3 f4 : Field} {v : Value} {d : DataW H} {p : List MemPlace} (hs : P.underlying t = some (.struct #[f0, f1, f2, f3, f4])) (hone : oneCellFields P #[f0, f1, f2, f3, f4] = true) (hC : P.cellsOf t = 5)
    (hv : Value.okWide P w r b0 t v) (h : DataW.Trod enc P w base spare held t v d p) :
    ∃ (v0 v1 v2 v3 v4 : Value) (y0 y1 y2 y3 y4 : DataW H × List MemPlace) (n : Nat), v = .agg #[v0, v1, v2, v3, v4] ∧ DataW.trod enc P w base spare held n f0.type [v0] = some y0 ∧ DataW.trod enc P w base spare held n f1.type [v1] = some y1 ∧ DataW.trod enc P w base spare held n f2.type [v2] = some y2 ∧ DataW.trod enc P w base spare held n f3.type [v3] = some y3 ∧ DataW.trod enc P w base spare held n f4.type [v4] = some y4 := by
  obtain ⟨cs, rfl, hsz⟩ := okWide_struct hs hv
  obtain ⟨l⟩ := cs
  match l, hsz.trans hC with
  | [c0, c1, c2, c3, c4], _ =>
    obtain ⟨fuel, hf⟩ := h
    obtain ⟨xs, n, _, hx, _, hlen, hg⟩ := DataW.trod_struct hs hf
    obtain ⟨o0, k0⟩ := hone_of hone 0 f0 rfl
    obtain ⟨o1, k1⟩ := hone_of hone 1 f1 rfl
    obtain ⟨o2, k2⟩ := hone_of hone 2 f2 rfl
    obtain ⟨o3, k3⟩ := hone_of hone 3 f3 rfl
    obtain ⟨o4, k4⟩ := hone_of hone 4 f4 rfl
    match xs, hlen with
    | [y0, y1, y2, y3, y4], _ =>
      exact ⟨c0, c1, c2, c3, c4, y0, y1, y2, y3, y4, n, rfl, by simpa [Value.cells, o0, k0] using hg 0 f0 rfl, by simpa [Value.cells, o1, k1] using hg 1 f1 rfl, by simpa [Value.cells, o2, k2] using hg 2 f2 rfl, by simpa [Value.cells, o3, k3] using hg 3 f3 rfl, by simpa [Value.cells, o4, k4] using hg 4 f4 rfl⟩
set_option maxRecDepth 100000 in
set_option maxHeartbeats 2000000 in
theorem lifted (os : Os) (started : os.Started) (H : Type) (enc : TypeId × Value → H) :
    ReturnsInHanded {} Try.checked os 12 .any (Rows.fnExactIsValidVersionSpec.pre6 enc Try.prog Try.f12 Rows.fnExactIsValidVersionRow.domain false) (Rows.fnExactIsValidVersionSpec.post enc Try.prog Try.f12 false true false false) := by
  refine returnsInHanded_of_change_sized (C := Try.checked) own started (by kernel_rfl) Try.func12
    (ChangeSpec.witness6 (enc := enc) (C := Try.checked) false ⟨#[], #[.agg #[.int .i64 0, .int .i64 0, .int .i64 0, .int .i64 0, .int .i64 0]], []⟩ 8 (by kernel_rfl) (by kernel_rfl) (by kernel_rfl) (by kernel_rfl)) ?_
  intro W base args ds gs before hval0 hW hcnd hsz0 _
  have hsz : (DataW.weightsEach Try.prog (Try.f12.params.toList ++ Rows.fnExactIsValidVersionSpec.plain.varTypes Try.prog) (ds ++ gs)).all (· ≤ reachBytes) = true := hsz0
  have hval : ∀ (j : Nat) t v, Try.f12.params[j]? = some t → args[j]? = some v → Value.okWide Try.prog W .any base t v := hval0
  have hW' := hW
  obtain ⟨p, q, hA0, hV, rfl, hfz, hnd⟩ := hW
  have hA : DataW.TrodAll enc Try.prog W 0 (fun _ => true) true Try.f12.params.toList args.toList ds p := hA0
  rw [Try.params12] at hA hval hsz
  obtain ⟨v0, vs0, d0, ds0, p0, q0, hargs, rfl, rfl, h0, r0⟩ := trodAll_cons hA
  obtain ⟨rfl, rfl, rfl⟩ := trodAll_nil r0
  obtain rfl : args = #[v0] := by cases args; simp_all
  obtain ⟨rfl, rfl⟩ := trodVars_none hV
  have kk0 := h0
  have lt0 : ∀ x ∈ p0, x.block < W.heap.size := by obtain ⟨m, hm⟩ := kk0; exact DataW.trod_lt m _ _ _ hm
  obtain ⟨u0_0, u0_1, u0_2, u0_3, u0_4, y0_0, y0_1, y0_2, y0_3, y0_4, fu0, rfl, t0_0, t0_1, t0_2, t0_3, t0_4⟩ := open_agg_5 Try.underlying34 (by kernel_rfl) (by kernel_rfl) (hval 0 34 v0 rfl rfl) h0
  obtain ⟨a0_0, e0_0, _⟩ := DataW.trod_int Try.underlying3 t0_0
  have g0_0 : u0_0 = .int .i64 a0_0 := by simpa using e0_0
  subst g0_0
  obtain ⟨a0_1, e0_1, _⟩ := DataW.trod_int Try.underlying3 t0_1
  have g0_1 : u0_1 = .int .i64 a0_1 := by simpa using e0_1
  subst g0_1
  obtain ⟨a0_2, e0_2, _⟩ := DataW.trod_int Try.underlying3 t0_2
  have g0_2 : u0_2 = .int .i64 a0_2 := by simpa using e0_2
  subst g0_2
  obtain ⟨a0_3, e0_3, _⟩ := DataW.trod_int Try.underlying3 t0_3
  have g0_3 : u0_3 = .int .i64 a0_3 := by simpa using e0_3
  subst g0_3
  obtain ⟨a0_4, e0_4, _⟩ := DataW.trod_int Try.underlying3 t0_4
  have g0_4 : u0_4 = .int .i64 a0_4 := by simpa using e0_4
  subst g0_4
  clear hA0 hval0 hsz0 hsz
  obtain ⟨k, hP⟩ := Pure.FnExactIsValidVersion a0_0 a0_1 a0_2 a0_3 a0_4 
  refine (PFnExactIsValidVersion.laws_FnExactIsValidVersion.calls k a0_0 a0_1 a0_2 a0_3 a0_4 true W  hP).mono fun e W' hh => ?_
  obtain ⟨he, hbel⟩ := hh
  have bel : Below W.heap.size W W' := by first | exact hbel | exact hbel.below
  clear hbel hP
  subst he
  exact ⟨_, rfl, _, _, _, [], _, [], hW', trodAll_mk1 (shut_bool Try.underlying4 _), (trodAll_cons_mk (Below.trod laidOut (by kernel_rfl) (of_decide_eq_true (by kernel_rfl)) kk0 bel lt0) trodAll_mk0), rfl, bel.frame _, fun h => by cases h⟩
theorem over : Rows.fnExactIsValidVersionRow.holds Try.pinned (OpenSpec.ofChange Rows.fnExactIsValidVersionSpec) :=
  OpenClaim.holds_of_wide 12 Try.f12 rfl rfl rfl rfl rfl rfl rfl ⟨rfl, rfl, rfl, rfl, rfl⟩ rfl rfl rfl rfl rfl (by kernel_rfl) Try.func12 (by kernel_rfl)
    (of_decide_eq_true (by kernel_rfl)) (by unfold Func.isWrapper; first | (rw [if_pos (by decide +kernel)]; kernel_rfl) | (rw [if_neg (by decide +kernel)]; exact ⟨rfl, rfl⟩))
    (fun os started H enc _ => lifted os started H enc)
theorem proved : Rows.FnExactIsValidVersionSaid := over
#print axioms proved
end Go.Proofs.Ythkmdiogaibbdaa.fnExactIsValidVersion
namespace Go.Proofs.Ythkmdiogaibbdaa
/-- The row, under a short name, for the claim. -/
theorem fnExactIsValidVersion_holds : Rows.FnExactIsValidVersionSaid := fnExactIsValidVersion.proved
end Go.Proofs.Ythkmdiogaibbdaa
