/- FormatState returns what the reference's returns. -/
import Derived.Test.YtfinkjmfhnnleaaDoorPFnExactFormatStatex2
import Derived.Test.YtfinkjmfhnnleaaDoorMEv
namespace Go.Proofs.YtfinkjmfhnnleaaDoor.Pure
open Go Go.RowKit Go.Proofs.YtfinkjmfhnnleaaDoor.PFnExactFormatState Go.Proofs.YtfinkjmfhnnleaaDoorW.PrintWords Go.Proofs.YtfinkjmfhnnleaaDoorW.PrintLast Go.Proofs.YtfinkjmfhnnleaaDoorW.PrintMore Go.Proofs.YtfinkjmfhnnleaaDoorM
set_option linter.unusedVariables false
set_option linter.unusedSimpArgs false

theorem spec_in (a b c : Int) : spec_l1In.f a b c = some (decide (b ≤ a ∧ a ≤ c)) := by
  unfold spec_l1In.f
  by_cases h : b ≤ a <;> simp [h]
theorem impl_in_ (a b c : Int) : impl_in.f a b c = some (decide (b ≤ a ∧ a ≤ c)) := by
  unfold impl_in.f
  by_cases h : b ≤ a <;> simp [h]
/-- A string of these bytes. -/
def bs (l : List UInt8) : ByteArray := ⟨l.toArray⟩
theorem bs_append (a b : List UInt8) : bs a ++ bs b = bs (a ++ b) := by
  apply ByteArray.ext
  simp [bs]
theorem bs_size (a : List UInt8) : (bs a).size = a.length := by simp [bs, ByteArray.size]
/-- The digits of a number, none of nought. -/
def dd (u : Nat) : List UInt8 := if u = 0 then [] else Go.Lib.decDigits u
theorem dd_step (u : Nat) (h : u ≠ 0) : dd u = dd (u / 10) ++ [UInt8.ofNat (48 + u % 10)] := by
  unfold dd
  rw [if_neg h]
  by_cases h10 : u < 10
  · rw [Go.Lib.decDigits_one h10, if_pos (by omega), Nat.mod_eq_of_lt h10]
    rfl
  · rw [if_neg (by omega)]
    conv => lhs; rw [Go.Lib.decDigits, dif_neg h10]
theorem tmod_abs (n : Int) : (n < 0 → n.tmod 10 = -((n.natAbs % 10 : Nat) : Int)) ∧ (0 ≤ n → n.tmod 10 = ((n.natAbs % 10 : Nat) : Int)) ∧ (n < 0 → n.tdiv 10 = -((n.natAbs / 10 : Nat) : Int)) ∧ (0 ≤ n → n.tdiv 10 = ((n.natAbs / 10 : Nat) : Int)) := by
  have p : ∀ u : Nat, ((u : Int)).tmod 10 = ((u % 10 : Nat) : Int) ∧ ((u : Int)).tdiv 10 = ((u / 10 : Nat) : Int) := fun u => ⟨rfl, rfl⟩
  refine ⟨fun h => ?_, fun h => ?_, fun h => ?_, fun h => ?_⟩
  · have e : n = -(n.natAbs : Int) := by omega
    rw [e, Int.neg_tmod, (p _).1, Int.natAbs_neg, Int.natAbs_natCast]
  · have e : n = (n.natAbs : Int) := by omega
    rw [e, (p _).1, Int.natAbs_natCast]
  · have e : n = -(n.natAbs : Int) := by omega
    rw [e, Int.neg_tdiv, (p _).2, Int.natAbs_neg, Int.natAbs_natCast]
  · have e : n = (n.natAbs : Int) := by omega
    rw [e, (p _).2, Int.natAbs_natCast]
theorem fi_loop (neg : Bool) (m : Nat) : ∀ (n : Int), -9223372036854775808 ≤ n → n ≤ 9223372036854775807 → n.natAbs < 10 ^ m → ∀ l : List UInt8, l.length + m ≤ 30 →
    Ev (fun k => spec_FormatInt.l0 k n (bs l) neg) (bs ((if neg = true then [45] else []) ++ dd n.natAbs ++ l)) := by
  have zero : ∀ l : List UInt8, l.length ≤ 30 → Ev (fun k => spec_FormatInt.l0 k 0 (bs l) neg) (bs ((if neg = true then [45] else []) ++ dd 0 ++ l)) := by
    intro l hl
    refine Ev.step (fun k => spec_FormatInt.l0.eq_2 ..) (ev_pos rfl (ev_ite (fun h => ?_) (fun h => ?_)))
    · rw [if_pos h]
      refine ev_pos (by rw [bs_size]; omega) (ev_eq (Ev.now _) ?_)
      exact bs_append [45] l
    · rw [if_neg h]
      exact Ev.now _
  induction m with
  | zero =>
    intro n h0 h1 hm l hl
    obtain rfl : n = 0 := by omega
    exact zero l (by omega)
  | succ m ih =>
    intro n h0 h1 hm l hl
    by_cases hn : n = 0
    · subst hn
      exact zero l (by omega)
    · obtain ⟨t1, t2, t3, t4⟩ := tmod_abs n
      have ha : n.natAbs ≠ 0 := by omega
      have hd : (n.tdiv 10).natAbs = n.natAbs / 10 := by
        by_cases h : n < 0
        · rw [t3 h]; omega
        · rw [t4 (by omega)]; omega
      have hlt : n.natAbs / 10 < 10 ^ m := by
        rw [Nat.pow_succ] at hm
        omega
      have hw : wrap64 (n.tdiv 10) = n.tdiv 10 := w64 (by omega) (by omega)
      have hx := ih (n.tdiv 10) (by omega) (by omega) (by rw [hd]; exact hlt) (UInt8.ofNat (48 + n.natAbs % 10) :: l) (by simp; omega)
      rw [hd] at hx
      have er : bs ((if neg = true then [45] else []) ++ dd (n.natAbs / 10) ++ (UInt8.ofNat (48 + n.natAbs % 10) :: l)) = bs ((if neg = true then [45] else []) ++ dd n.natAbs ++ l) := by
        rw [dd_step n.natAbs ha]
        simp
      have hx := ev_eq hx er
      have es : ∀ c : Int, c = ((48 + n.natAbs % 10 : Nat) : Int) → strOfNums [c] ++ bs l = bs (UInt8.ofNat (48 + n.natAbs % 10) :: l) := by
        intro c hc
        subst hc
        exact bs_append [UInt8.ofNat (48 + n.natAbs % 10)] l
      refine Ev.step (fun k => spec_FormatInt.l0.eq_2 ..) (ev_neg hn (ev_ite (fun h => ?_) (fun h => ?_)))
      · have hneg : n < 0 := by
          by_cases h' : n < 0
          · exact h'
          · rw [t2 (by omega)] at h; omega
        have ec : (wrap64 (48 + wrap64 (-(n.tmod 10)))) % 256 = ((48 + n.natAbs % 10 : Nat) : Int) := by
          rw [t1 hneg, w64 (n := - -((n.natAbs % 10 : Nat) : Int)) (by omega) (by omega), w64 (by omega) (by omega)]
          omega
        refine ev_bindo rfl (ev_pos (by rw [strOfNums_size, bs_size]; simp; omega) ?_)
        rw [es _ ec, hw]
        exact hx
      · have hpos : n.tmod 10 = ((n.natAbs % 10 : Nat) : Int) := by
          by_cases h' : 0 ≤ n
          · exact t2 h'
          · have h10 := t1 (by omega)
            rw [h10] at h ⊢
            omega
        have ec : (wrap64 (48 + (n.tmod 10))) % 256 = ((48 + n.natAbs % 10 : Nat) : Int) := by
          rw [hpos, w64 (by omega) (by omega)]
          omega
        refine ev_bindo rfl (ev_pos (by rw [strOfNums_size, bs_size]; simp; omega) ?_)
        rw [es _ ec, hw]
        exact hx
theorem spec_fi (n : Int) (h0 : -9223372036854775808 ≤ n) (h1 : n ≤ 9223372036854775807) : Ev (fun k => spec_FormatInt.f k n) (bs (Go.Lib.itoa n)) := by
  unfold spec_FormatInt.f
  by_cases hn : n = 0
  · subst hn
    refine ev_pos rfl (ev_eq (Ev.now _) ?_)
    have : Go.Lib.itoa 0 = [48] := by
      unfold Go.Lib.itoa
      rw [if_neg (by omega)]
      exact Go.Lib.decDigits_one (by decide)
    rw [this]
    rfl
  · refine ev_neg hn (ev_eq (fi_loop (decide (n < 0)) 19 n h0 h1 (by omega) [] (by simp)) ?_)
    unfold Go.Lib.itoa dd
    rw [if_neg (show ¬ n.natAbs = 0 by omega)]
    by_cases h : n < 0
    · rw [if_pos (decide_eq_true h), if_pos h]
      simp
    · rw [if_neg (by simpa using h), if_neg h, show n.natAbs = n.toNat by omega]
      simp
theorem impl_fi (n : Int) (h0 : -9223372036854775808 ≤ n) (h1 : n ≤ 9223372036854775807) : strconv_Itoa.f n = some (bs (Go.Lib.itoa n)) := by
  unfold strconv_Itoa.f
  rw [if_pos ⟨h0, h1⟩]
  rfl
/-- What a value is written as. -/
def vb (n : Int) : List UInt8 := if n = -1 then [45] else Go.Lib.itoa n
theorem itoa_len (n : Int) (h0 : 0 ≤ n) (h1 : n ≤ 99) : (Go.Lib.itoa n).length ≤ 2 := by
  unfold Go.Lib.itoa
  rw [if_neg (by omega)]
  by_cases h : n.toNat < 10
  · rw [Go.Lib.decDigits_one h]
    simp
  · rw [Go.Lib.decDigits_two h (by omega)]
    simp
theorem vb_len (n : Int) (h0 : -1 ≤ n) (h1 : n ≤ 99) : (vb n).length ≤ 2 := by
  unfold vb
  split
  · simp
  · exact itoa_len n (by omega) h1
theorem impl_fi' (n : Int) (h0 : -9223372036854775808 ≤ n) (h1 : n ≤ 9223372036854775807) : impl_FormatInt.f n = some (bs (Go.Lib.itoa n)) := by
  unfold impl_FormatInt.f
  rw [impl_fi n h0 h1]
  rfl
theorem spec_val (n : Int) (h0 : -1 ≤ n) (h1 : n ≤ 99) : Ev (fun k => spec_l3Value.f k n) (bs (vb n)) := by
  unfold spec_l3Value.f vb
  by_cases h : n = -1
  · rw [if_pos h]
    exact ev_pos h (Ev.now _)
  · rw [if_neg h]
    exact ev_neg h (Ev.bind (spec_fi n (by omega) (by omega)) (Ev.now _))
theorem impl_val (n : Int) (h0 : -1 ≤ n) (h1 : n ≤ 99) : impl_formatValue.f n = some (bs (vb n)) := by
  unfold impl_formatValue.f vb
  by_cases h : n = -1
  · rw [if_pos h, if_pos h]
    rfl
  · rw [if_neg h, if_neg h, impl_fi' n (by omega) (by omega)]
    rfl
theorem join_snoc (xs : List (List UInt8)) (x sep : List UInt8) (h : xs ≠ []) : Go.Lib.join (xs ++ [x]) sep = Go.Lib.join xs sep ++ sep ++ x := by
  cases xs with
  | nil => exact absurd rfl h
  | cons y r =>
    rw [List.cons_append, Go.Lib.join_cons, Go.Lib.join_cons]
    simp [Go.Lib.joinTail]
theorem rd_i (l : List Int) (i : Nat) : rd l (i : Int) = l.getD i 0 := by unfold rd; rw [Int.toNat_natCast]
theorem take_next (l : List Int) (i : Nat) (h : i < l.length) : l.take (i + 1) = l.take i ++ [l.getD i 0] := by
  rw [List.take_add_one, List.getElem?_eq_getElem h, List.getD_eq_getElem?_getD, List.getElem?_eq_getElem h]
  rfl
theorem to_ints (l : List Int) (hl : l.length ≤ 1048576) : Ev (fun k => laws_toIntS.f k l) l := by
  unfold laws_toIntS.f
  have h : ∀ d i, i + d = l.length → Ev (fun k => laws_toIntS.l0 k l (l.take i ++ List.replicate d 0) (i : Int)) l := by
    intro d
    induction d with
    | zero =>
      intro i hi
      refine Ev.step (fun k => laws_toIntS.l0.eq_2 ..) (ev_neg (by omega) (ev_eq (Ev.now _) ?_))
      simp [List.take_of_length_le (show l.length ≤ i by omega)]
    | succ d ih =>
      intro i hi
      have hil : i < l.length := by omega
      refine Ev.step (fun k => laws_toIntS.l0.eq_2 ..) (ev_pos (by omega) (ev_pos (by omega) (ev_pos (by simp; omega) ?_)))
      rw [up i (by omega), rd_i, Int.toNat_natCast]
      have e : (l.take i ++ List.replicate (d + 1) 0).set i (l.getD i 0) = l.take (i + 1) ++ List.replicate d 0 := by
        rw [List.set_append_right _ _ (by simp; omega), List.length_take, show i - min i l.length = 0 by omega, List.replicate_succ, List.set_cons_zero, take_next l i hil]
        simp
      rw [e]
      exact ih (i + 1) (by omega)
  refine ev_pos (by omega) (ev_pos (by rw [Int.toNat_natCast]; omega) ?_)
  rw [Int.toNat_natCast]
  have := h l.length 0 (by omega)
  simpa using this
theorem eq_ints (a : List Int) (hl : a.length ≤ 9223372036854775806) : Ev (fun k => laws_eqIntS.f k a a) true := by
  unfold laws_eqIntS.f
  refine ev_pos rfl ?_
  have h : ∀ d i, i + d = a.length → Ev (fun k => laws_eqIntS.l0 k a a (i : Int)) true := by
    intro d
    induction d with
    | zero =>
      intro i hi
      exact Ev.step (fun k => laws_eqIntS.l0.eq_2 ..) (ev_neg (by omega) (Ev.now _))
    | succ d ih =>
      intro i hi
      refine Ev.step (fun k => laws_eqIntS.l0.eq_2 ..) (ev_pos (by omega) (ev_pos (by omega) (ev_pos (by omega) (ev_pos rfl ?_))))
      rw [up i (by omega)]
      exact ih (i + 1) (by omega)
  exact h a.length 0 (by omega)
/-- A state's text up to place i. -/
def fsS (l : List Int) (i : Nat) : List UInt8 := Go.Lib.join ((l.take i).map vb) [32]
def okF (l : List Int) (i : Nat) : Prop := ∀ j, i ≤ j → j < l.length → -1 ≤ l.getD j 0 ∧ l.getD j 0 ≤ 99
theorem fs_zero (l : List Int) (h : 0 < l.length) : fsS l 1 = vb (l.getD 0 0) := by
  unfold fsS
  rw [take_next l 0 h]
  exact Go.Lib.join_one _ _
theorem fs_next (l : List Int) (i : Nat) (h : i < l.length) (h0 : 0 < i) : fsS l (i + 1) = fsS l i ++ [32] ++ vb (l.getD i 0) := by
  unfold fsS
  rw [take_next l i h, List.map_append]
  refine join_snoc _ _ _ ?_
  intro e
  have := congrArg List.length e
  rw [List.length_map, List.length_take, List.length_nil] at this
  omega
theorem fs_len (l : List Int) (i : Nat) (h : i ≤ l.length) (hk : ∀ j, j < i → -1 ≤ l.getD j 0 ∧ l.getD j 0 ≤ 99) : (fsS l i).length ≤ 3 * i := by
  induction i with
  | zero => simp [fsS, Go.Lib.join_nil]
  | succ i ih =>
    have h1 := hk i (by omega)
    have h2 := vb_len _ h1.1 h1.2
    by_cases h0 : i = 0
    · subst h0
      rw [fs_zero l (by omega)]
      omega
    · rw [fs_next l i (by omega) (by omega)]
      have := ih (by omega) (fun j hj => hk j (by omega))
      simp only [List.length_append, List.length_singleton]
      omega
theorem spec_fs (l : List Int) (hl : l.length ≤ 1048576) (r : List UInt8) : ∀ d i, i + d = l.length → (∀ j, j < i → -1 ≤ l.getD j 0 ∧ l.getD j 0 ≤ 99) → (okF l i → r = fsS l l.length) → (¬ okF l i → r = []) → Ev (fun k => spec_FormatState.l0 k l (bs (fsS l i)) (i : Int)) (bs r) := by
  intro d
  induction d with
  | zero =>
    intro i hi hk h1 _
    obtain rfl : i = l.length := by omega
    rw [h1 (fun j h2 h3 => by omega)]
    exact Ev.step (fun k => spec_FormatState.l0.eq_2 ..) (ev_neg (by omega) (Ev.now _))
  | succ d ih =>
    intro i hi hk h1 h2
    refine Ev.step (fun k => spec_FormatState.l0.eq_2 ..) (ev_pos (by omega) (ev_pos (by omega) ?_))
    rw [rd_i, up i (by omega)]
    simp only [spec_in, Option.bind_some]
    by_cases hv : -1 ≤ l.getD i 0 ∧ l.getD i 0 ≤ 99
    · have hk' : ∀ j, j < i + 1 → -1 ≤ l.getD j 0 ∧ l.getD j 0 ≤ 99 := fun j hj => by
        by_cases e : j = i
        · subst e; exact hv
        · exact hk j (by omega)
      have next := ih (i + 1) (by omega) hk' (fun h => h1 (fun j h3 h4 => by
        by_cases e : j = i
        · subst e; exact hv
        · exact h j (by omega) h4)) (fun h => h2 (fun h' => h (fun j h3 h4 => h' j (by omega) h4)))
      have hs := fs_len l i (by omega) hk
      have hv2 := vb_len _ hv.1 hv.2
      refine ev_pos (decide_eq_true hv) ?_
      by_cases h0 : i = 0
      · subst h0
        refine ev_neg (by omega) (Ev.bind (spec_val _ hv.1 hv.2) (ev_pos (by rw [bs_size, bs_size]; omega) ?_))
        rw [fs_zero l (by omega)] at next
        exact next
      · refine ev_pos (by omega) (ev_pos (by rw [bs_size]; omega) (Ev.bind (spec_val _ hv.1 hv.2) (ev_pos ?_ ?_)))
        · rw [ByteArray.size_append, bs_size, bs_size]
          show (fsS l i).length + 1 + (vb (l.getD i 0)).length ≤ _
          omega
        · rw [fs_next l i (by omega) (by omega)] at next
          have e : bs (fsS l i) ++ (⟨#[32]⟩ : ByteArray) ++ bs (vb (l.getD i 0)) = bs (fsS l i ++ [32] ++ vb (l.getD i 0)) := by
            rw [← bs_append, ← bs_append]
            rfl
          rw [e]
          exact next
    · refine ev_neg (by simpa using hv) ?_
      rw [h2 (fun h => hv (h i (by omega) (by omega)))]
      exact Ev.now _
theorem impl_fs (l : List Int) (hl : l.length ≤ 1048576) (r : List UInt8) : ∀ d i, i + d = l.length → (∀ j, j < i → -1 ≤ l.getD j 0 ∧ l.getD j 0 ≤ 99) → (okF l i → r = fsS l l.length) → (¬ okF l i → r = []) → Ev (fun k => impl_FormatState.l0 k ((l.take i).map (fun n => bs (vb n))) l (l.length : Int) (i : Int)) (bs r) := by
  intro d
  induction d with
  | zero =>
    intro i hi hk h1 _
    obtain rfl : i = l.length := by omega
    rw [h1 (fun j h2 h3 => by omega)]
    have hs := fs_len l l.length (by omega) hk
    refine Ev.step (fun k => impl_FormatState.l0.eq_2 ..) (ev_neg (by omega) (ev_bindo ?_ (Ev.now _)))
    unfold strings_Join.f
    have e : ((l.take l.length).map (fun n => bs (vb n))).map (·.data.toList) = (l.take l.length).map vb := by
      rw [List.map_map]
      refine List.map_congr_left (fun n _ => ?_)
      simp [bs]
    rw [e, show ((⟨#[32]⟩ : ByteArray).data.toList) = [32] from rfl]
    have h3 : (Go.Lib.join ((l.take l.length).map vb) [32]) = fsS l l.length := rfl
    rw [h3, if_pos (by simp; omega)]
    rfl
  | succ d ih =>
    intro i hi hk h1 h2
    refine Ev.step (fun k => impl_FormatState.l0.eq_2 ..) (ev_pos (by omega) (ev_pos (by omega) (ev_pos (by omega) ?_)))
    rw [rd_i, up i (by omega)]
    unfold impl_isValue.f
    simp only [impl_in_, Option.bind_some]
    by_cases hv : -1 ≤ l.getD i 0 ∧ l.getD i 0 ≤ 99
    · have hk' : ∀ j, j < i + 1 → -1 ≤ l.getD j 0 ∧ l.getD j 0 ≤ 99 := fun j hj => by
        by_cases e : j = i
        · subst e; exact hv
        · exact hk j (by omega)
      have next := ih (i + 1) (by omega) hk' (fun h => h1 (fun j h3 h4 => by
        by_cases e : j = i
        · subst e; exact hv
        · exact h j (by omega) h4)) (fun h => h2 (fun h' => h (fun j h3 h4 => h' j (by omega) h4)))
      rw [take_next l i (by omega), List.map_append] at next
      exact ev_pos (decide_eq_true hv) (ev_bindo (impl_val _ hv.1 hv.2) (ev_pos (by simp; omega) next))
    · refine ev_neg (by simpa using hv) ?_
      rw [h2 (fun h => hv (h i (by omega) (by omega)))]
      exact Ev.now _
theorem FnExactFormatState : laws_FnExactFormatState.Pure := by
  intro l _ _ _
  refine Ev.rounds (g := fun k => laws_FnExactFormatState.f k l) ?_
  refine ev_ite (fun _ => Ev.now _) (fun h => ?_)
  have hl : l.length ≤ 1048576 := by omega
  have ht := to_ints l hl
  classical
  obtain ⟨r, h1, h2⟩ : ∃ r, (okF l 0 → r = fsS l l.length) ∧ (¬ okF l 0 → r = []) := by
    by_cases h : okF l 0
    · exact ⟨_, fun _ => rfl, fun h' => absurd h h'⟩
    · exact ⟨_, fun h' => absurd h' h, fun _ => rfl⟩
  have g1 : Ev (fun k => spec_FormatState.f k l) (bs r) := spec_fs l hl r l.length 0 (by omega) (fun j hj => by omega) h1 h2
  have g2 : Ev (fun k => impl_FormatState.f k l) (bs r) := impl_fs l hl r l.length 0 (by omega) (fun j hj => by omega) h1 h2
  exact Ev.bind ht (Ev.bind g1 (Ev.bind ht (Ev.bind g2 (ev_pos rfl (Ev.bind ht (Ev.bind (eq_ints l (by omega)) (ev_pos rfl (Ev.now _))))))))

end Go.Proofs.YtfinkjmfhnnleaaDoor.Pure
