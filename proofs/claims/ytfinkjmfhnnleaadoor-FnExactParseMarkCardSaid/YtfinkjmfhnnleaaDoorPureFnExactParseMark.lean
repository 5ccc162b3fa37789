/- ParseMark returns what the reference's returns. -/
import Derived.Test.YtfinkjmfhnnleaaDoorPFnExactParseMarkx2
import Derived.Test.YtfinkjmfhnnleaaDoorMEv
namespace Go.Proofs.YtfinkjmfhnnleaaDoor.Pure
open Go Go.RowKit Go.Proofs.YtfinkjmfhnnleaaDoor.PFnExactParseMark Go.Proofs.YtfinkjmfhnnleaaDoorW.PrintWords Go.Proofs.YtfinkjmfhnnleaaDoorW.PrintLast Go.Proofs.YtfinkjmfhnnleaaDoorW.PrintMore Go.Proofs.YtfinkjmfhnnleaaDoorM
set_option linter.unusedVariables false
set_option linter.unusedSimpArgs false

theorem spec_in (a b c : Int) : spec_l1In.f a b c = some (decide (b ≤ a ∧ a ≤ c)) := by
  unfold spec_l1In.f
  by_cases h : b ≤ a <;> simp [h]
theorem impl_in_ (a b c : Int) : impl_in.f a b c = some (decide (b ≤ a ∧ a ≤ c)) := by
  unfold impl_in.f
  by_cases h : b ≤ a <;> simp [h]
/-- A string of these bytes. -/
def bs (l : List UInt8) : ByteArray := ⟨l.toArray⟩
theorem bs_append (a b : List UInt8) : bs a ++ bs b = bs (a ++ b) := by
  apply ByteArray.ext
  simp [bs]
theorem bs_size (a : List UInt8) : (bs a).size = a.length := by simp [bs, ByteArray.size]
/-- The digits of a number, none of nought. -/
def dd (u : Nat) : List UInt8 := if u = 0 then [] else Go.Lib.decDigits u
theorem dd_step (u : Nat) (h : u ≠ 0) : dd u = dd (u / 10) ++ [UInt8.ofNat (48 + u % 10)] := by
  unfold dd
  rw [if_neg h]
  by_cases h10 : u < 10
  · rw [Go.Lib.decDigits_one h10, if_pos (by omega), Nat.mod_eq_of_lt h10]
    rfl
  · rw [if_neg (by omega)]
    conv => lhs; rw [Go.Lib.decDigits, dif_neg h10]
theorem tmod_abs (n : Int) : (n < 0 → n.tmod 10 = -((n.natAbs % 10 : Nat) : Int)) ∧ (0 ≤ n → n.tmod 10 = ((n.natAbs % 10 : Nat) : Int)) ∧ (n < 0 → n.tdiv 10 = -((n.natAbs / 10 : Nat) : Int)) ∧ (0 ≤ n → n.tdiv 10 = ((n.natAbs / 10 : Nat) : Int)) := by
  have p : ∀ u : Nat, ((u : Int)).tmod 10 = ((u % 10 : Nat) : Int) ∧ ((u : Int)).tdiv 10 = ((u / 10 : Nat) : Int) := fun u => ⟨rfl, rfl⟩
  refine ⟨fun h => ?_, fun h => ?_, fun h => ?_, fun h => ?_⟩
  · have e : n = -(n.natAbs : Int) := by omega
    rw [e, Int.neg_tmod, (p _).1, Int.natAbs_neg, Int.natAbs_natCast]
  · have e : n = (n.natAbs : Int) := by omega
    rw [e, (p _).1, Int.natAbs_natCast]
  · have e : n = -(n.natAbs : Int) := by omega
    rw [e, Int.neg_tdiv, (p _).2, Int.natAbs_neg, Int.natAbs_natCast]
  · have e : n = (n.natAbs : Int) := by omega
    rw [e, (p _).2, Int.natAbs_natCast]
theorem fi_loop (neg : Bool) (m : Nat) : ∀ (n : Int), -9223372036854775808 ≤ n → n ≤ 9223372036854775807 → n.natAbs < 10 ^ m → ∀ l : List UInt8, l.length + m ≤ 30 →
    Ev (fun k => spec_FormatInt.l0 k n (bs l) neg) (bs ((if neg = true then [45] else []) ++ dd n.natAbs ++ l)) := by
  have zero : ∀ l : List UInt8, l.length ≤ 30 → Ev (fun k => spec_FormatInt.l0 k 0 (bs l) neg) (bs ((if neg = true then [45] else []) ++ dd 0 ++ l)) := by
    intro l hl
    refine Ev.step (fun k => spec_FormatInt.l0.eq_2 ..) (ev_pos rfl (ev_ite (fun h => ?_) (fun h => ?_)))
    · rw [if_pos h]
      refine ev_pos (by rw [bs_size]; omega) (ev_eq (Ev.now _) ?_)
      exact bs_append [45] l
    · rw [if_neg h]
      exact Ev.now _
  induction m with
  | zero =>
    intro n h0 h1 hm l hl
    obtain rfl : n = 0 := by omega
    exact zero l (by omega)
  | succ m ih =>
    intro n h0 h1 hm l hl
    by_cases hn : n = 0
    · subst hn
      exact zero l (by omega)
    · obtain ⟨t1, t2, t3, t4⟩ := tmod_abs n
      have ha : n.natAbs ≠ 0 := by omega
      have hd : (n.tdiv 10).natAbs = n.natAbs / 10 := by
        by_cases h : n < 0
        · rw [t3 h]; omega
        · rw [t4 (by omega)]; omega
      have hlt : n.natAbs / 10 < 10 ^ m := by
        rw [Nat.pow_succ] at hm
        omega
      have hw : wrap64 (n.tdiv 10) = n.tdiv 10 := w64 (by omega) (by omega)
      have hx := ih (n.tdiv 10) (by omega) (by omega) (by rw [hd]; exact hlt) (UInt8.ofNat (48 + n.natAbs % 10) :: l) (by simp; omega)
      rw [hd] at hx
      have er : bs ((if neg = true then [45] else []) ++ dd (n.natAbs / 10) ++ (UInt8.ofNat (48 + n.natAbs % 10) :: l)) = bs ((if neg = true then [45] else []) ++ dd n.natAbs ++ l) := by
        rw [dd_step n.natAbs ha]
        simp
      have hx := ev_eq hx er
      have es : ∀ c : Int, c = ((48 + n.natAbs % 10 : Nat) : Int) → strOfNums [c] ++ bs l = bs (UInt8.ofNat (48 + n.natAbs % 10) :: l) := by
        intro c hc
        subst hc
        exact bs_append [UInt8.ofNat (48 + n.natAbs % 10)] l
      refine Ev.step (fun k => spec_FormatInt.l0.eq_2 ..) (ev_neg hn (ev_ite (fun h => ?_) (fun h => ?_)))
      · have hneg : n < 0 := by
          by_cases h' : n < 0
          · exact h'
          · rw [t2 (by omega)] at h; omega
        have ec : (wrap64 (48 + wrap64 (-(n.tmod 10)))) % 256 = ((48 + n.natAbs % 10 : Nat) : Int) := by
          rw [t1 hneg, w64 (n := - -((n.natAbs % 10 : Nat) : Int)) (by omega) (by omega), w64 (by omega) (by omega)]
          omega
        refine ev_bindo rfl (ev_pos (by rw [strOfNums_size, bs_size]; simp; omega) ?_)
        rw [es _ ec, hw]
        exact hx
      · have hpos : n.tmod 10 = ((n.natAbs % 10 : Nat) : Int) := by
          by_cases h' : 0 ≤ n
          · exact t2 h'
          · have h10 := t1 (by omega)
            rw [h10] at h ⊢
            omega
        have ec : (wrap64 (48 + (n.tmod 10))) % 256 = ((48 + n.natAbs % 10 : Nat) : Int) := by
          rw [hpos, w64 (by omega) (by omega)]
          omega
        refine ev_bindo rfl (ev_pos (by rw [strOfNums_size, bs_size]; simp; omega) ?_)
        rw [es _ ec, hw]
        exact hx
theorem spec_fi (n : Int) (h0 : -9223372036854775808 ≤ n) (h1 : n ≤ 9223372036854775807) : Ev (fun k => spec_FormatInt.f k n) (bs (Go.Lib.itoa n)) := by
  unfold spec_FormatInt.f
  by_cases hn : n = 0
  · subst hn
    refine ev_pos rfl (ev_eq (Ev.now _) ?_)
    have : Go.Lib.itoa 0 = [48] := by
      unfold Go.Lib.itoa
      rw [if_neg (by omega)]
      exact Go.Lib.decDigits_one (by decide)
    rw [this]
    rfl
  · refine ev_neg hn (ev_eq (fi_loop (decide (n < 0)) 19 n h0 h1 (by omega) [] (by simp)) ?_)
    unfold Go.Lib.itoa dd
    rw [if_neg (show ¬ n.natAbs = 0 by omega)]
    by_cases h : n < 0
    · rw [if_pos (decide_eq_true h), if_pos h]
      simp
    · rw [if_neg (by simpa using h), if_neg h, show n.natAbs = n.toNat by omega]
      simp
theorem impl_fi (n : Int) (h0 : -9223372036854775808 ≤ n) (h1 : n ≤ 9223372036854775807) : strconv_Itoa.f n = some (bs (Go.Lib.itoa n)) := by
  unfold strconv_Itoa.f
  rw [if_pos ⟨h0, h1⟩]
  rfl
theorem impl_fi0 (n : Int) (h0 : -9223372036854775808 ≤ n) (h1 : n ≤ 9223372036854775807) : impl_FormatInt.f n = some (bs (Go.Lib.itoa n)) := by
  unfold impl_FormatInt.f
  rw [impl_fi n h0 h1]
  rfl
/-- What a mark is written as. -/
def fmOf (n : Int) : List UInt8 := if 0 ≤ n ∧ n ≤ 1000 then (if n = 1000 then [105, 110, 102] else Go.Lib.itoa n) else []
theorem impl_fm (n : Int) : impl_FormatMark.f n = some (bs (fmOf n)) := by
  unfold impl_FormatMark.f impl_IsMark.f fmOf
  simp only [impl_in_, Option.bind_some]
  by_cases h : 0 ≤ n ∧ n ≤ 1000
  · rw [if_pos (decide_eq_true h), if_pos h]
    by_cases h2 : n = 1000
    · rw [if_pos h2, if_pos h2]
      rfl
    · rw [if_neg h2, if_neg h2, impl_fi0 n (by omega) (by omega)]
      rfl
  · rw [if_neg (by simpa using h), if_neg h]
    rfl
theorem decDigits_len (m : Nat) : ∀ u, u < 10 ^ (m + 1) → (Go.Lib.decDigits u).length ≤ m + 1 := by
  induction m with
  | zero =>
    intro u hu
    rw [Go.Lib.decDigits_one (by omega)]
    simp
  | succ m ih =>
    intro u hu
    by_cases h : u < 10
    · rw [Go.Lib.decDigits_one h]
      simp
    · rw [Go.Lib.decDigits, dif_neg h]
      have := ih (u / 10) (by rw [Nat.pow_succ] at hu; omega)
      simp only [List.length_append, List.length_singleton]
      omega
/-- One byte read. -/
def stp (p : Nat × Nat) (b : UInt8) : Nat × Nat := if 48 ≤ b.toNat ∧ b.toNat ≤ 57 then (p.1 * 10 + (b.toNat - 48), p.2 + 1) else p
/-- The digits' number and how many they are. -/
def pvL (l : List UInt8) : Nat × Nat := l.foldl stp (0, 0)
theorem pv_snoc (l : List UInt8) (b : UInt8) : pvL (l ++ [b]) = stp (pvL l) b := by
  unfold pvL
  rw [List.foldl_append]
  rfl
theorem stp_bd (p : Nat × Nat) (b : UInt8) (h : p.1 < 10 ^ p.2) : (stp p b).1 < 10 ^ (stp p b).2 ∧ (stp p b).2 ≤ p.2 + 1 := by
  unfold stp
  split
  · refine ⟨?_, Nat.le_refl _⟩
    show p.1 * 10 + (b.toNat - 48) < 10 ^ (p.2 + 1)
    rw [Nat.pow_succ]
    omega
  · exact ⟨h, Nat.le_succ _⟩
theorem pv_bd0 (l : List UInt8) : ∀ p : Nat × Nat, p.1 < 10 ^ p.2 → (l.foldl stp p).1 < 10 ^ (l.foldl stp p).2 ∧ (l.foldl stp p).2 ≤ p.2 + l.length := by
  induction l with
  | nil => intro p h; exact ⟨h, Nat.le_refl _⟩
  | cons b l ih =>
    intro p h
    obtain ⟨h1, h2⟩ := stp_bd p b h
    obtain ⟨h3, h4⟩ := ih _ h1
    refine ⟨h3, ?_⟩
    show (l.foldl stp (stp p b)).2 ≤ p.2 + (l.length + 1)
    omega
theorem pv_bd (l : List UInt8) : (pvL l).1 < 10 ^ (pvL l).2 ∧ (pvL l).2 ≤ l.length := by
  have := pv_bd0 l (0, 0) (by decide)
  unfold pvL
  exact ⟨this.1, by have := this.2; omega⟩
theorem ofNat_dig (d : Nat) (h : d < 10) : (UInt8.ofNat (48 + d)).toNat = 48 + d := by
  rw [UInt8.toNat_ofNat']
  omega
theorem stp_dig (p : Nat × Nat) (d : Nat) (h : d < 10) : stp p (UInt8.ofNat (48 + d)) = (p.1 * 10 + d, p.2 + 1) := by
  unfold stp
  rw [ofNat_dig d h, if_pos (by omega), show 48 + d - 48 = d by omega]
theorem pv_dd (u : Nat) : pvL (Go.Lib.decDigits u) = (u, (Go.Lib.decDigits u).length) := by
  induction u using Nat.strongRecOn with
  | ind u ih =>
    by_cases h : u < 10
    · rw [Go.Lib.decDigits_one h]
      have := stp_dig (0, 0) u h
      show stp (0, 0) (UInt8.ofNat (48 + u)) = _
      rw [this]
      simp
    · rw [Go.Lib.decDigits, dif_neg h, pv_snoc, ih (u / 10) (by omega), stp_dig _ _ (by omega)]
      simp only [List.length_append, List.length_singleton]
      congr 1
      omega
theorem decFrom_append (a b : List UInt8) : ∀ acc, Go.Lib.decFrom acc (a ++ b) = (Go.Lib.decFrom acc a).bind (fun x => Go.Lib.decFrom x b) := by
  induction a with
  | nil => intro acc; rfl
  | cons c a ih =>
    intro acc
    show (match Go.Lib.digitVal c with | some d => Go.Lib.decFrom (acc * 10 + d) (a ++ b) | none => none) = (match Go.Lib.digitVal c with | some d => Go.Lib.decFrom (acc * 10 + d) a | none => none).bind (fun x => Go.Lib.decFrom x b)
    cases Go.Lib.digitVal c with
    | none => rfl
    | some d => exact ih _
theorem digitVal_dig (d : Nat) (h : d < 10) : Go.Lib.digitVal (UInt8.ofNat (48 + d)) = some d := by
  unfold Go.Lib.digitVal
  rw [ofNat_dig d h, if_pos (by omega), show 48 + d - 48 = d by omega]
theorem decFrom_dd (u : Nat) : Go.Lib.decFrom 0 (Go.Lib.decDigits u) = some u := by
  induction u using Nat.strongRecOn with
  | ind u ih =>
    by_cases h : u < 10
    · rw [Go.Lib.decDigits_one h]
      unfold Go.Lib.decFrom
      rw [digitVal_dig u h]
      simp [Go.Lib.decFrom]
    · rw [Go.Lib.decDigits, dif_neg h, decFrom_append, ih (u / 10) (by omega), Option.bind_some]
      unfold Go.Lib.decFrom
      rw [digitVal_dig _ (by omega)]
      simp only [Go.Lib.decFrom]
      congr 1
      omega
theorem dd_head (u : Nat) : ∃ b r, Go.Lib.decDigits u = b :: r ∧ 48 ≤ b.toNat := by
  induction u using Nat.strongRecOn with
  | ind u ih =>
    by_cases h : u < 10
    · exact ⟨_, _, Go.Lib.decDigits_one h, by rw [ofNat_dig u h]; omega⟩
    · obtain ⟨b, r, e, hb⟩ := ih (u / 10) (by omega)
      refine ⟨b, r ++ [UInt8.ofNat (48 + u % 10)], ?_, hb⟩
      rw [Go.Lib.decDigits, dif_neg h, e]
      rfl
theorem decNat_dd (u : Nat) : Go.Lib.decNat (Go.Lib.decDigits u) = some u := by
  unfold Go.Lib.decNat
  obtain ⟨b, r, e, _⟩ := dd_head u
  rw [if_neg (by rw [e]; simp), decFrom_dd]
theorem itoa_10 (n : Int) (h0 : -999999999 ≤ n) (h1 : n ≤ 999999999) : (Go.Lib.itoa n).length ≤ 10 := by
  unfold Go.Lib.itoa
  split
  · have := decDigits_len 8 n.natAbs (by omega)
    simp only [List.length_cons]
    omega
  · have := decDigits_len 8 n.toNat (by omega)
    omega
theorem atoi_itoa (n : Int) : Go.Lib.atoi (Go.Lib.itoa n) = some n := by
  unfold Go.Lib.itoa
  by_cases h : n < 0
  · rw [if_pos h]
    unfold Go.Lib.atoi
    simp only [beq_self_eq_true, if_true, decNat_dd, Option.map_some]
    congr 1
    omega
  · rw [if_neg h]
    obtain ⟨b, r, e, hb⟩ := dd_head n.toNat
    have hd := decNat_dd n.toNat
    rw [e] at hd ⊢
    unfold Go.Lib.atoi
    have h1 : ¬ b = 45 := fun h => by subst h; exact absurd hb (by decide)
    have h2 : ¬ b = 43 := fun h => by subst h; exact absurd hb (by decide)
    simp only [beq_iff_eq, h1, h2, if_false, hd, Option.map_some]
    congr 1
    omega
theorem atoiAll_itoa (n : Int) (h0 : -999999999 ≤ n) (h1 : n ≤ 999999999) : Go.Lib.atoiAll (Go.Lib.itoa n) = .ok n := by
  rw [Go.Lib.atoiAll_short _ (by have := itoa_10 n h0 h1; omega), atoi_itoa]
  rfl
/-- What the reference reckons. -/
def pm (L : List UInt8) : Int := if L.head? = some 45 then -((pvL (L.take 11)).1 : Int) else ((pvL (L.take 11)).1 : Int)
def piOf (L : List UInt8) : Int × Bool := if (pvL (L.take 11)).2 ≤ 9 ∧ L.length ≤ 10 ∧ Go.Lib.itoa (pm L) = L then (pm L, true) else (0, false)
theorem pm_itoa (n : Int) (h0 : -999999999 ≤ n) (h1 : n ≤ 999999999) : pm (Go.Lib.itoa n) = n ∧ (pvL ((Go.Lib.itoa n).take 11)).2 ≤ 9 := by
  have hl := itoa_10 n h0 h1
  unfold pm
  rw [List.take_of_length_le (by omega)]
  unfold Go.Lib.itoa at hl ⊢
  by_cases h : n < 0
  · rw [if_pos h] at hl ⊢
    have e : pvL (45 :: Go.Lib.decDigits n.natAbs) = pvL (Go.Lib.decDigits n.natAbs) := rfl
    have hd := decDigits_len 8 n.natAbs (by omega)
    rw [e, pv_dd, if_pos (show (45 :: Go.Lib.decDigits n.natAbs).head? = some 45 from rfl)]
    exact ⟨by omega, hd⟩
  · rw [if_neg h] at hl ⊢
    obtain ⟨b, r, e, hb⟩ := dd_head n.toNat
    have hd := decDigits_len 8 n.toNat (by omega)
    rw [pv_dd, if_neg (by rw [e]; intro h; have := Option.some.inj h; subst this; exact absurd hb (by decide))]
    exact ⟨by omega, hd⟩
theorem pi_itoa (n : Int) (h0 : -999999999 ≤ n) (h1 : n ≤ 999999999) : piOf (Go.Lib.itoa n) = (n, true) := by
  obtain ⟨h2, h3⟩ := pm_itoa n h0 h1
  unfold piOf
  rw [if_pos ⟨h3, itoa_10 n h0 h1, by rw [h2]⟩, h2]
theorem pm_bd (L : List UInt8) (h : (pvL (L.take 11)).2 ≤ 9) : -999999999 ≤ pm L ∧ pm L ≤ 999999999 := by
  have hb := (pv_bd (L.take 11)).1
  have h2 : 10 ^ (pvL (L.take 11)).2 ≤ 10 ^ 9 := Nat.pow_le_pow_right (by decide) h
  unfold pm
  split <;> omega
theorem pi_no (L : List UInt8) (h : ∀ n : Int, -999999999 ≤ n → n ≤ 999999999 → L ≠ Go.Lib.itoa n) : piOf L = (0, false) := by
  unfold piOf
  rw [if_neg]
  rintro ⟨h1, _, h3⟩
  obtain ⟨h4, h5⟩ := pm_bd L h1
  exact h _ h4 h5 h3.symm
theorem bt_at (s : ByteArray) (i : Nat) (h : i < s.data.toList.length) : bt s (i : Int) = ((s.data.toList[i]).toNat : Int) := by
  have hs : i < s.size := by
    have : s.data.toList.length = s.size := Array.length_toList
    omega
  unfold bt
  rw [dif_pos (by rw [Int.toNat_natCast]; exact hs)]
  rfl
theorem impl_pi (s : ByteArray) (hs : s.size ≤ 1048576) : impl_ParseInt.f s = some (piOf s.data.toList) := by
  unfold impl_ParseInt.f
  rw [if_pos (by omega)]
  by_cases hx : ∃ n : Int, -999999999 ≤ n ∧ n ≤ 999999999 ∧ s.data.toList = Go.Lib.itoa n
  · obtain ⟨n, h0, h1, e⟩ := hx
    rw [e, atoiAll_itoa n h0 h1, pi_itoa n h0 h1]
    show impl_ParseInt.g s n = _
    unfold impl_ParseInt.g
    rw [impl_in_, Option.bind_some, if_pos (decide_eq_true ⟨h0, h1⟩), impl_fi n (by omega) (by omega), Option.bind_some, if_pos]
    rw [Go.Lib.toList_data, Go.Lib.toList_data, e]
    simp [bs]
  · have hno : ∀ n : Int, -999999999 ≤ n → n ≤ 999999999 → s.data.toList ≠ Go.Lib.itoa n := fun n h0 h1 e => hx ⟨n, h0, h1, e⟩
    rw [pi_no _ hno]
    cases hv : Go.Lib.atoiAll s.data.toList with
    | ok v =>
      show impl_ParseInt.g s v = _
      unfold impl_ParseInt.g
      rw [impl_in_, Option.bind_some]
      by_cases hr : -999999999 ≤ v ∧ v ≤ 999999999
      · rw [if_pos (decide_eq_true hr), impl_fi v (by omega) (by omega), Option.bind_some, if_neg]
        rw [Go.Lib.toList_data, Go.Lib.toList_data]
        intro e
        refine hno v hr.1 hr.2 ?_
        rw [← e]
        simp [bs]
      · rw [if_neg (by simpa using hr)]
    | «syntax» => rfl
    | range => rfl
theorem spec_pi (s : ByteArray) (hs : s.size ≤ 1048576) : Ev (fun k => spec_ParseInt.f k s) (piOf s.data.toList) := by
  obtain ⟨L, hL⟩ : ∃ L, s.data.toList = L := ⟨_, rfl⟩
  have hlen : L.length = s.size := by rw [← hL]; exact Array.length_toList
  have hbt : ∀ i (h : i < L.length), bt s (i : Int) = ((L[i]).toNat : Int) := by
    subst hL
    exact fun i h => bt_at s i h
  have hst : s.toList = L := by rw [Go.Lib.toList_data]; exact hL
  rw [hL]
  have hbd := pv_bd (L.take 11)
  have hc11 : (pvL (L.take 11)).2 ≤ 11 := by
    have : (L.take 11).length ≤ 11 := by simp; omega
    omega
  have hv11 : (pvL (L.take 11)).1 < 100000000000 := by
    have : 10 ^ (pvL (L.take 11)).2 ≤ 10 ^ 11 := Nat.pow_le_pow_right (by decide) hc11
    omega
  have last : ∀ neg : Bool, neg = decide (L.head? = some 45) → Ev (fun k => spec_ParseInt.j2 k s ((pvL (L.take 11)).1 : Int) ((pvL (L.take 11)).2 : Int) neg) (piOf L) := by
    intro neg hneg
    have core : ∀ m : Int, m = pm L → Ev (fun k => if ((pvL (L.take 11)).2 : Int) > 9 then (some ((0 : Int), false)) else (if (s.size : Int) > 10 then (some (0, false)) else ((spec_FormatInt.f k m).bind fun t107 => (if t107.toList = s.toList then (some (m, true)) else (some (0, false)))))) (piOf L) := by
      intro m hm
      subst hm
      unfold piOf
      refine ev_ite (fun h => ?_) (fun h => ev_ite (fun h2 => ?_) (fun h2 => ?_))
      · rw [if_neg (fun h' => by omega)]
        exact Ev.now _
      · rw [if_neg (fun h' => by omega)]
        exact Ev.now _
      · have hb := pm_bd L (by omega)
        refine Ev.bind (spec_fi _ (by omega) (by omega)) (ev_ite (fun h3 => ?_) (fun h3 => ?_))
        · have hcond : Go.Lib.itoa (pm L) = L := by
            rw [Go.Lib.toList_data, hst] at h3
            simpa [bs] using h3
          rw [if_pos ⟨by omega, by omega, hcond⟩]
          exact Ev.now _
        · rw [if_neg]
          · exact Ev.now _
          · rintro ⟨_, _, h6⟩
            refine h3 ?_
            rw [Go.Lib.toList_data, hst]
            conv => rhs; rw [← h6]
            simp [bs]
    refine Ev.step (fun k => spec_ParseInt.j2.eq_2 ..) (ev_ite (fun h => ?_) (fun h => ?_))
    · have h4 : L.head? = some 45 := by rw [hneg] at h; exact of_decide_eq_true h
      exact core (wrap64 (-((pvL (L.take 11)).1 : Int))) (by unfold pm; rw [if_pos h4, w64 (by omega) (by omega)])
    · have h4 : ¬ L.head? = some 45 := by rw [hneg] at h; exact fun h' => h (decide_eq_true h')
      exact core _ (by unfold pm; rw [if_neg h4])
  have tail : ∀ i : Int, Ev (fun k => spec_ParseInt.j1 k s ((pvL (L.take 11)).1 : Int) ((pvL (L.take 11)).2 : Int) i false) (piOf L) := by
    intro i
    refine Ev.step (fun k => spec_ParseInt.j1.eq_2 ..) (ev_neg (by simp) (ev_ite (fun h => ?_) (fun h => ?_)))
    · refine ev_pos (by omega) (last _ ?_)
      have h0 : 0 < L.length := by omega
      have hb := hbt 0 h0
      rw [show ((0 : Nat) : Int) = 0 from rfl] at hb
      rw [hb]
      cases L with
      | nil => simp at h0
      | cons b r =>
        show (((b.toNat : Nat) : Int) == 45) = decide (some b = some 45)
        rw [Bool.eq_iff_iff, beq_iff_eq, decide_eq_true_eq, Option.some.injEq]
        constructor
        · intro h; exact UInt8.toNat_inj.1 (show b.toNat = (45 : UInt8).toNat from by have : (45 : UInt8).toNat = 45 := rfl; omega)
        · intro h; subst h; rfl
    · refine last _ ?_
      have : L = [] := List.eq_nil_of_length_eq_zero (by omega)
      rw [this]
      rfl
  have loop : ∀ d i : Nat, i + d = min L.length 11 → Ev (fun k => spec_ParseInt.l0 k s ((pvL (L.take i)).1 : Int) ((pvL (L.take i)).2 : Int) (i : Int)) (piOf L) := by
    intro d
    induction d with
    | zero =>
      intro i hi
      have et : L.take i = L.take 11 := by
        by_cases h : L.length ≤ 11
        · rw [List.take_of_length_le (by omega), List.take_of_length_le h]
        · rw [show i = 11 by omega]
      rw [et]
      refine Ev.step (fun k => spec_ParseInt.l0.eq_2 ..) (ev_ite (fun h => ?_) (fun h => tail _))
      rw [decide_eq_false (by omega)]
      exact tail _
    | succ d ih =>
      intro i hi
      have hil : i < L.length := by omega
      have next := ih (i + 1) (by omega)
      rw [List.take_add_one, List.getElem?_eq_getElem hil, show (some L[i]).toList = [L[i]] from rfl, pv_snoc] at next
      have hbi := pv_bd (L.take i)
      have hci : (pvL (L.take i)).2 ≤ 11 := by
        have : (L.take i).length ≤ 11 := by simp; omega
        omega
      have hvi : (pvL (L.take i)).1 < 100000000000 := by
        have : 10 ^ (pvL (L.take i)).2 ≤ 10 ^ 11 := Nat.pow_le_pow_right (by decide) hci
        omega
      refine Ev.step (fun k => spec_ParseInt.l0.eq_2 ..) (ev_pos (by omega) ?_)
      rw [decide_eq_true (by omega)]
      refine Ev.step (fun k => spec_ParseInt.j1.eq_2 ..) (ev_pos rfl (ev_pos (by omega) (ev_pos (by omega) ?_)))
      rw [hbt i hil, up i (by omega)]
      unfold stp at next
      by_cases h : 48 ≤ (L[i]).toNat ∧ (L[i]).toNat ≤ 57
      · rw [if_pos h] at next
        refine ev_pos (by omega) (ev_pos (by omega) ?_)
        have e1 : wrap64 (wrap64 (((pvL (L.take i)).1 : Int) * 10) + (((L[i]).toNat : Int) - 48) % 256) = (((pvL (L.take i)).1 * 10 + ((L[i]).toNat - 48) : Nat) : Int) := by
          rw [w64 (n := ((pvL (L.take i)).1 : Int) * 10) (by omega) (by omega), w64 (by omega) (by omega)]
          omega
        have e2 : wrap64 (((pvL (L.take i)).2 : Int) + 1) = (((pvL (L.take i)).2 + 1 : Nat) : Int) := by
          rw [w64 (by omega) (by omega)]
          omega
        rw [e1, e2]
        exact next
      · rw [if_neg h] at next
        refine ev_ite (fun h1 => ev_neg (by omega) next) (fun h1 => next)
  unfold spec_ParseInt.f
  exact loop (min L.length 11) 0 (by omega)
theorem pi_true (L : List UInt8) (h : (piOf L).2 = true) : Go.Lib.itoa (piOf L).1 = L ∧ -999999999 ≤ (piOf L).1 ∧ (piOf L).1 ≤ 999999999 := by
  unfold piOf at h ⊢
  by_cases hc : (pvL (L.take 11)).2 ≤ 9 ∧ L.length ≤ 10 ∧ Go.Lib.itoa (pm L) = L
  · rw [if_pos hc] at h ⊢
    exact ⟨hc.2.2, pm_bd L hc.1⟩
  · rw [if_neg hc] at h
    cases h
theorem pi_false (L : List UInt8) (h : (piOf L).2 = false) : (piOf L).1 = 0 := by
  unfold piOf at h ⊢
  by_cases hc : (pvL (L.take 11)).2 ≤ 9 ∧ L.length ≤ 10 ∧ Go.Lib.itoa (pm L) = L
  · rw [if_pos hc] at h
    cases h
  · rw [if_neg hc]
theorem itoa_zero : Go.Lib.itoa 0 = [48] := by
  unfold Go.Lib.itoa
  rw [if_neg (by omega)]
  exact Go.Lib.decDigits_one (by decide)
theorem bs_list (l : List UInt8) : (bs l).toList = l := by
  rw [Go.Lib.toList_data]
  simp [bs]
/-- The mark of a text. -/
def pmkOf (L : List UInt8) : Int × Bool := if L = [105, 110, 102] then (1000, true) else if (piOf L).2 = true ∧ 0 ≤ (piOf L).1 ∧ (piOf L).1 ≤ 999 then ((piOf L).1, true) else (0, false)
theorem spec_pmk (s : ByteArray) (hs : s.size ≤ 1048576) : Ev (fun k => spec_ParseMark.f k s) (pmkOf s.toList) := by
  have hsp := spec_pi s hs
  rw [← Go.Lib.toList_data] at hsp
  unfold spec_ParseMark.f pmkOf
  refine ev_ite (fun h => ?_) (fun h => ?_)
  · rw [if_pos h]
    exact Ev.now _
  · rw [if_neg h]
    refine Ev.bind hsp ?_
    simp only [spec_in, Option.bind_some]
    refine ev_ite (fun h1 => ev_ite (fun h2 => ?_) (fun h2 => ?_)) (fun h1 => ?_)
    · have h3 := of_decide_eq_true h2
      rw [if_pos ⟨h1, h3.1, h3.2⟩]
      exact Ev.now _
    · rw [if_neg (fun h4 => h2 (decide_eq_true ⟨h4.2.1, h4.2.2⟩))]
      exact Ev.now _
    · rw [if_neg (fun h4 => h1 h4.1)]
      exact Ev.now _
theorem impl_pmk (s : ByteArray) (hs : s.size ≤ 1048576) : impl_ParseMark.f s = some (pmkOf s.toList) := by
  have hsp := impl_pi s hs
  rw [← Go.Lib.toList_data] at hsp
  obtain ⟨L, hL⟩ : ∃ L, s.toList = L := ⟨_, rfl⟩
  unfold impl_ParseMark.f pmkOf
  rw [hsp, Option.bind_some, hL]
  by_cases h : L = [105, 110, 102]
  · rw [if_pos h, if_pos h, if_neg (by rw [h]; simp), impl_fm, Option.bind_some, if_pos]
    rw [bs_list, h]
    rfl
  · rw [if_neg h, if_neg h]
    by_cases h0 : L = []
    · rw [if_pos h0, if_neg]
      rintro ⟨h1, _, _⟩
      have := (pi_true L h1).1
      rw [h0] at this
      have hl := congrArg List.length this
      obtain ⟨b, r, e, _⟩ := dd_head (piOf ([] : List UInt8)).1.toNat
      unfold Go.Lib.itoa at this
      split at this
      · cases this
      · rw [e] at this; cases this
    · rw [if_neg h0, impl_fm, Option.bind_some, bs_list]
      by_cases h1 : (piOf L).2 = true
      · obtain ⟨e, h2, h3⟩ := pi_true L h1
        by_cases h4 : 0 ≤ (piOf L).1 ∧ (piOf L).1 ≤ 999
        · have hf : fmOf (piOf L).1 = L := by
            unfold fmOf
            rw [if_pos (by omega), if_neg (by omega)]
            exact e
          have hc : (piOf L).2 = true ∧ 0 ≤ (piOf L).1 ∧ (piOf L).1 ≤ 999 := ⟨h1, h4.1, h4.2⟩
          rw [if_pos hf, if_pos hc]
        · have hf : ¬ fmOf (piOf L).1 = L := by
            intro h6
            unfold fmOf at h6
            split at h6
            · split at h6
              · exact h h6.symm
              · omega
            · exact h0 h6.symm
          have hc : ¬ ((piOf L).2 = true ∧ 0 ≤ (piOf L).1 ∧ (piOf L).1 ≤ 999) := fun h5 => h4 h5.2
          rw [if_neg hf, if_neg hc]
      · have h1' : (piOf L).2 = false := Bool.eq_false_iff.2 h1
        have h2 := pi_false L h1'
        have hc : ¬ ((piOf L).2 = true ∧ 0 ≤ (piOf L).1 ∧ (piOf L).1 ≤ 999) := fun h5 => h1 h5.1
        have hf : ¬ fmOf (piOf L).1 = L := by
         rw [h2]
         intro h6
         have h7 : fmOf 0 = [48] := by
           unfold fmOf
           rw [if_pos (by omega), if_neg (by omega), itoa_zero]
         rw [h7] at h6
         have h8 := pi_itoa 0 (by omega) (by omega)
         rw [itoa_zero, h6] at h8
         rw [h8] at h1
         exact h1 rfl
        rw [if_neg hf, if_neg hc]
theorem FnExactParseMark : laws_FnExactParseMark.Pure := by
  intro s _
  refine Ev.rounds (g := fun k => laws_FnExactParseMark.f k s) ?_
  refine ev_ite (fun _ => Ev.now _) (fun h => ?_)
  exact Ev.bind (spec_pmk s (by omega)) (ev_bindo (impl_pmk s (by omega)) (ev_pos rfl (ev_neg (by simp) (Ev.now _))))

end Go.Proofs.YtfinkjmfhnnleaaDoor.Pure
