-- Printed by my own myprint.py out of the translation of the seat Ytcfibffdjgdoaaa. Not trusted: Lean checks it.
import Derived.Test.YtcfibffdjgdoaaaRows
import Derived.Test.YtcfibffdjgdoaaaPFnExactFindVersionx2
import Derived.Test.YtcfibffdjgdoaaaPureFnExactFindVersion
import Derived.Test.YtcfibffdjgdoaaaMOpen
import Derived.WalkKit
import Derived.ProofKit
import Derived.OpenShut
import Derived.ShutString
import Derived.ChangeOld
import Derived.Below
import Derived.SizedLaws
namespace Go.Proofs.Ytcfibffdjgdoaaa.fnExactFindVersion
open Go.ChangeShapes Go.WideShapes Go.ChangeAt Go.RowKit Go.Deep Go.Proofs.YtcfibffdjgdoaaaM Go.Proofs.YtcfibffdjgdoaaaW.PrintWords Go.Proofs.Ytcfibffdjgdoaaa.PFnExactFindVersion
open Go.ChangeMaps (open_string shut_string)
set_option linter.unusedVariables false
set_option linter.unusedSimpArgs false
theorem own : ownKnob Try.prog.godebug = none := by kernel_rfl
theorem laidOut : laidOutB Try.prog = true := by kernel_rfl
theorem open_e73 {H : Type} {enc : TypeId × Value → H} {W : World} {base : Nat} {spare : Nat → Bool} {held : Bool} (m : Nat) (cs : List Value) (y : DataW H × List MemPlace) (h : DataW.trod enc Try.prog W base spare held m 73 cs = some y) : ∃ x : S73, k73.K W x cs := by
  obtain ⟨zs, hl, rfl⟩ := struct_ints Try.underlying73 (by kernel_rfl) (by kernel_rfl) (by kernel_rfl) h
  match zs, hl with
  | [z0, z1, z2, z3, z4], _ => exact ⟨⟨z0, z1, z2, z3, z4⟩, k73_mk W _⟩
set_option maxRecDepth 100000 in
set_option maxHeartbeats 2000000 in
theorem lifted (os : Os) (started : os.Started) (H : Type) (enc : TypeId × Value → H) :
    ReturnsInHanded {} Try.checked os 3 .any (Rows.fnExactFindVersionSpec.pre6 enc Try.prog Try.f3 Rows.fnExactFindVersionRow.domain false) (Rows.fnExactFindVersionSpec.post enc Try.prog Try.f3 false true false false) := by
  refine returnsInHanded_of_change_sized (C := Try.checked) own started (by kernel_rfl) Try.func3
    (ChangeSpec.witness6 (enc := enc) (C := Try.checked) false ⟨#[], #[.slice none 0 0, .int .i64 0], []⟩ 8 (by kernel_rfl) (by kernel_rfl) (by kernel_rfl) (by kernel_rfl)) ?_
  intro W base args ds gs before hval0 hW hcnd hsz0 _
  have hsz : (DataW.weightsEach Try.prog (Try.f3.params.toList ++ Rows.fnExactFindVersionSpec.plain.varTypes Try.prog) (ds ++ gs)).all (· ≤ reachBytes) = true := hsz0
  have hval : ∀ (j : Nat) t v, Try.f3.params[j]? = some t → args[j]? = some v → Value.okWide Try.prog W .any base t v := hval0
  have hW' := hW
  obtain ⟨p, q, hA0, hV, rfl, hfz, hnd⟩ := hW
  have hA : DataW.TrodAll enc Try.prog W 0 (fun _ => true) true Try.f3.params.toList args.toList ds p := hA0
  rw [Try.params3] at hA hval hsz
  obtain ⟨v0, vs0, d0, ds0, p0, q0, hargs, rfl, rfl, h0, r0⟩ := trodAll_cons hA
  obtain ⟨v1, vs1, d1, ds1, p1, q1, rfl, rfl, rfl, h1, r1⟩ := trodAll_cons r0
  obtain ⟨rfl, rfl, rfl⟩ := trodAll_nil r1
  obtain rfl : args = #[v0, v1] := by cases args; simp_all
  obtain ⟨rfl, rfl⟩ := trodVars_none hV
  have kk0 := h0
  have lt0 : ∀ x ∈ p0, x.block < W.heap.size := by obtain ⟨m, hm⟩ := kk0; exact DataW.trod_lt m _ _ _ hm
  obtain ⟨xa0, xn0, xc0, rfl⟩ := okWide_slice Try.underlying22 (hval 0 22 v0 rfl rfl)
  obtain ⟨fu0, hf0⟩ := h0
  obtain ⟨l0, A0, c0, he0, hc0, hr0⟩ := slice_list k73 73 Try.underlying22 (by kernel_rfl) (fun m cs' y' h' => open_e73 m cs' y' h') hf0
  have he0' : Value.slice xa0 xn0 xc0 = .slice A0 l0.length c0 := by simpa [Value.cells] using he0
  injection he0' with ea0 en0 ec0
  subst ea0 en0 ec0
  obtain ⟨a1, rfl, rfl, rfl, w1⟩ := open_int Try.underlying3 (hval 1 3 v1 rfl rfl) h1
  clear hA0 hval0 hsz0 hsz
  obtain ⟨k, hP⟩ := Pure.FnExactFindVersion l0 a1 (C_len hr0) w1
  refine (PFnExactFindVersion.laws_FnExactFindVersion.calls k _ _ l0 a1 W hr0 hc0 hP).mono fun e W' hh => ?_
  obtain ⟨he, hbel⟩ := hh
  have bel : Below W.heap.size W W' := by first | exact hbel | exact hbel.below
  clear hbel hP
  subst he
  exact ⟨_, rfl, _, _, _, [], _, [], hW', trodAll_mk1 (shut_bool Try.underlying4 _), (trodAll_cons_mk (Below.trod laidOut (by kernel_rfl) (of_decide_eq_true (by kernel_rfl)) kk0 bel lt0) (trodAll_cons_mk (shut_int Try.underlying3 w1) trodAll_mk0)), rfl, bel.frame _, fun h => by cases h⟩
theorem over : Rows.fnExactFindVersionRow.holds Try.pinned (OpenSpec.ofChange Rows.fnExactFindVersionSpec) :=
  OpenClaim.holds_of_wide 3 Try.f3 rfl rfl rfl rfl rfl rfl rfl ⟨rfl, rfl, rfl, rfl, rfl⟩ rfl rfl rfl rfl rfl (by kernel_rfl) Try.func3 (by kernel_rfl)
    (of_decide_eq_true (by kernel_rfl)) (by unfold Func.isWrapper; first | (rw [if_pos (by decide +kernel)]; kernel_rfl) | (rw [if_neg (by decide +kernel)]; exact ⟨rfl, rfl⟩))
    (fun os started H enc _ => lifted os started H enc)
theorem proved : Rows.FnExactFindVersionSaid := over
#print axioms proved
end Go.Proofs.Ytcfibffdjgdoaaa.fnExactFindVersion
namespace Go.Proofs.Ytcfibffdjgdoaaa
/-- The row, under a short name, for the claim. -/
theorem fnExactFindVersion_holds : Rows.FnExactFindVersionSaid := fnExactFindVersion.proved
end Go.Proofs.Ytcfibffdjgdoaaa
