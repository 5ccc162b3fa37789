/- Arguments that are structs of whole numbers, slices of these, and slices of such slices, read into plain lists. No program stands in it. -/
import Derived.Test.YtbcllflajakajaaWSlimMore
import Derived.Deep.Slices
import Derived.Deep.Fields
import Derived.ChangeSame
import Derived.ChangeArms
import Derived.WideShapes
import Derived.DataReads
namespace Go.Proofs.YtbcllflajakajaaM
open Go Go.ChangeShapes Go.WideShapes Go.Deep Go.Proofs.YtbcllflajakajaaW.PrintWords
set_option linter.unusedVariables false
set_option linter.unusedSimpArgs false
section
variable {H : Type} {enc : TypeId × Value → H} {P : Program} {w : World} {base : Nat} {spare : Nat → Bool} {held : Bool}

/-- One field's own cell. -/
theorem field_cell {cs : List Value} (j : Nat) (h : j < cs.length) : (cs.drop j).take 1 = [cs[j]] := by
  rw [List.drop_eq_getElem_cons h]
  rfl
/-- A struct whose fields are ints: its cells are so many whole numbers. -/
theorem struct_ints {t : TypeId} {fs : Array Field} {n : Nat} {cs : List Value} {y : DataW H × List MemPlace} (hs : P.underlying t = some (.struct fs)) (hone : oneCellFields P fs = true) (hC : P.cellsOf t = fs.size)
    (hi : (List.range fs.size).all (fun i => match fs[i]? with | some f => (match P.underlying f.type with | some (.int .i64) => true | _ => false) | none => false) = true)
    (h : DataW.trod enc P w base spare held n t cs = some y) : ∃ zs : List Int, zs.length = fs.size ∧ cs = zs.map (Value.int .i64) := by
  obtain ⟨xs, m, _, _, hl, hx, hf⟩ := DataW.trod_struct hs h
  have hcl : cs.length = fs.size := hl.trans hC
  refine ⟨cs.map (fun v => match v with | .int _ z => z | _ => 0), by simpa using hcl, ?_⟩
  apply List.ext_getElem
  · simp
  · intro j h1 h2
    have hj : j < fs.size := by omega
    have hfj : fs[j]? = some fs[j] := Array.getElem?_eq_getElem hj
    obtain ⟨o, k⟩ := hone_of hone j _ hfj
    have hg := hf j _ hfj
    rw [o, k, field_cell j h1, List.getElem?_eq_getElem (by omega)] at hg
    have ht : P.underlying fs[j].type = some (.int .i64) := by
      have := List.all_eq_true.1 hi j (List.mem_range.2 hj)
      simp only [hfj] at this
      split at this
      · assumption
      · cases this
    obtain ⟨z, hz, _⟩ := DataW.trod_int ht hg
    have hz' : cs[j] = .int .i64 z := by simpa using hz
    simp [hz']

/-- A slice whose elements are read, read as a whole. -/
theorem slice_list {α : Type} (d : Kd α) (q : Nat) {t e : TypeId} {n : Nat} {cs : List Value} {y : DataW H × List MemPlace} (hs : P.underlying t = some (.slice e)) (hC : P.cellsOf e = d.sz)
    (hd : ∀ (m : Nat) (cs' : List Value) (y' : DataW H × List MemPlace), DataW.trod enc P w base spare held m e cs' = some y' → ∃ x : α, d.K w x cs')
    (h : DataW.trod enc P w base spare held n t cs = some y) : ∃ l : List α, (Kd.slice q d).K w l cs := by
  rcases open_slice hs h with ⟨rfl, _⟩ | ⟨a, len, cap, m, n', D, Pl, rfl, hb, hl, hm, hmm, _, hi⟩
  · exact ⟨[], none, 0, rfl, Nat.le_refl _, rfl, by simp, fun h0 => absurd h0 (by simp)⟩
  · have hlm : len ≤ m := by rw [hmm]; split <;> omega
    have hx : ∀ i : Fin len, ∃ x : α, ∃ c, d.K w x c ∧ c.length = d.sz ∧ ∀ j u, c[j]? = some u → w.cell? (a.add (i.val * d.sz + j)) = some u := by
      intro i
      obtain ⟨c, hc, ht⟩ := hi i.val (by omega)
      obtain ⟨x, hk⟩ := hd _ _ _ ht
      rw [hC] at hc
      obtain ⟨_, hcl, hat⟩ := World.cells?_some hc
      refine ⟨x, c, hk, hcl, fun j u hu => ?_⟩
      have hj : j < d.sz := by
        rcases Nat.lt_or_ge j d.sz with hj | hj
        · exact hj
        · rw [List.getElem?_eq_none (by omega)] at hu
          cases hu
      have := hat j hj
      rw [hu] at this
      rw [← Go.Deep.add_add]
      exact this
    have hX : ∃ X : Fin len → α, ∀ i : Fin len, ∃ c, d.K w (X i) c ∧ c.length = d.sz ∧ ∀ j u, c[j]? = some u → w.cell? (a.add (i.val * d.sz + j)) = some u :=
      ⟨fun i => Classical.choose (hx i), fun i => Classical.choose_spec (hx i)⟩
    obtain ⟨X, hX⟩ := hX
    refine ⟨List.ofFn X, some a, cap, by simp, by simpa using hl, by simp, ?_, fun h0 => ⟨a, rfl, fun j p hj => ?_⟩⟩
    · have : maxLen = 9223372036854775807 := rfl
      simp only [List.length_ofFn]
      omega
    · have hjl : j < len := by
        rcases Nat.lt_or_ge j len with h' | h'
        · exact h'
        · rw [List.getElem?_eq_none (by simpa using h')] at hj
          cases hj
      obtain ⟨c, hk, hcl, hat⟩ := hX ⟨j, hjl⟩
      rw [List.getElem?_eq_getElem (by simpa using hjl)] at hj
      have hp : p = X ⟨j, hjl⟩ := by simpa using (Option.some.inj hj).symm
      subst hp
      exact ⟨c, hcl, hk, fun i u hu => hat i u hu⟩
end
theorem C_len {α : Type} {d : Kd α} {w : World} {A : Option Addr} {n : Nat} {xs : List α} (h : Kd.C d w A n xs) : xs.length ≤ 9223372036854775807 := by
  have h1 := h.1
  have h2 := h.2.1
  omega
/-- The inner slices of a slice of slices are slices, too. -/
theorem C_inner {α : Type} {d : Kd α} {q : Nat} {w : World} {A : Option Addr} {n : Nat} {xs : List (List α)} (h : Kd.C (Kd.slice q d) w A n xs) : ∀ x ∈ xs, x.length ≤ 9223372036854775807 := by
  intro x hx
  obtain ⟨i, hi, rfl⟩ := List.mem_iff_getElem.1 hx
  have h0 : 0 < n := by have := h.1; omega
  obtain ⟨ad, _, hc⟩ := h.2.2 h0
  obtain ⟨c, _, ⟨A', c', _, _, hC⟩, _⟩ := hc i _ (List.getElem?_eq_getElem hi)
  exact C_len hC
end Go.Proofs.YtbcllflajakajaaM
