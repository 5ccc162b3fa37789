/- an encoded number is decoded again, whatever follows, and no other string is accepted. -/
import Derived.Test.YtacdaekigoldaaaDoorPFnIntegerEncodingsx5
import Derived.Test.YtacdaekigoldaaaDoorMEv
import Derived.Lib.Bytes
namespace Go.Proofs.YtacdaekigoldaaaDoor.Pure
open Go Go.RowKit Go.Proofs.YtacdaekigoldaaaDoor.PFnIntegerEncodings Go.Proofs.YtacdaekigoldaaaDoorW.PrintWords Go.Proofs.YtacdaekigoldaaaDoorW.PrintLast Go.Proofs.YtacdaekigoldaaaDoorW.PrintMore Go.Proofs.YtacdaekigoldaaaDoorM
set_option linter.unusedVariables false
set_option linter.unusedSimpArgs false

theorem impl_in_ (a b c : Int) : impl_in.f a b c = some (decide (b ≤ a ∧ a ≤ c)) := by
  unfold impl_in.f
  by_cases h : b ≤ a <;> simp [h]
/-- A string of these bytes. -/
def bs (l : List UInt8) : ByteArray := ⟨l.toArray⟩
theorem bs_append (a b : List UInt8) : bs a ++ bs b = bs (a ++ b) := by
  apply ByteArray.ext
  simp [bs]
theorem bs_size (a : List UInt8) : (bs a).size = a.length := by simp [bs, ByteArray.size]
/-- The digits of a number, none of nought. -/
def dd (u : Nat) : List UInt8 := if u = 0 then [] else Go.Lib.decDigits u
theorem dd_step (u : Nat) (h : u ≠ 0) : dd u = dd (u / 10) ++ [UInt8.ofNat (48 + u % 10)] := by
  unfold dd
  rw [if_neg h]
  by_cases h10 : u < 10
  · rw [Go.Lib.decDigits_one h10, if_pos (by omega), Nat.mod_eq_of_lt h10]
    rfl
  · rw [if_neg (by omega)]
    conv => lhs; rw [Go.Lib.decDigits, dif_neg h10]
theorem tmod_abs (n : Int) : (n < 0 → n.tmod 10 = -((n.natAbs % 10 : Nat) : Int)) ∧ (0 ≤ n → n.tmod 10 = ((n.natAbs % 10 : Nat) : Int)) ∧ (n < 0 → n.tdiv 10 = -((n.natAbs / 10 : Nat) : Int)) ∧ (0 ≤ n → n.tdiv 10 = ((n.natAbs / 10 : Nat) : Int)) := by
  have p : ∀ u : Nat, ((u : Int)).tmod 10 = ((u % 10 : Nat) : Int) ∧ ((u : Int)).tdiv 10 = ((u / 10 : Nat) : Int) := fun u => ⟨rfl, rfl⟩
  refine ⟨fun h => ?_, fun h => ?_, fun h => ?_, fun h => ?_⟩
  · have e : n = -(n.natAbs : Int) := by omega
    rw [e, Int.neg_tmod, (p _).1, Int.natAbs_neg, Int.natAbs_natCast]
  · have e : n = (n.natAbs : Int) := by omega
    rw [e, (p _).1, Int.natAbs_natCast]
  · have e : n = -(n.natAbs : Int) := by omega
    rw [e, Int.neg_tdiv, (p _).2, Int.natAbs_neg, Int.natAbs_natCast]
  · have e : n = (n.natAbs : Int) := by omega
    rw [e, (p _).2, Int.natAbs_natCast]
theorem fi_loop (neg : Bool) (m : Nat) : ∀ (n : Int), -9223372036854775808 ≤ n → n ≤ 9223372036854775807 → n.natAbs < 10 ^ m → ∀ l : List UInt8, l.length + m ≤ 30 →
    Ev (fun k => spec_FormatInt.l0 k n (bs l) neg) (bs ((if neg = true then [45] else []) ++ dd n.natAbs ++ l)) := by
  have zero : ∀ l : List UInt8, l.length ≤ 30 → Ev (fun k => spec_FormatInt.l0 k 0 (bs l) neg) (bs ((if neg = true then [45] else []) ++ dd 0 ++ l)) := by
    intro l hl
    refine Ev.step (fun k => spec_FormatInt.l0.eq_2 ..) (ev_pos rfl (ev_ite (fun h => ?_) (fun h => ?_)))
    · rw [if_pos h]
      refine ev_pos (by rw [bs_size]; omega) (ev_eq (Ev.now _) ?_)
      exact bs_append [45] l
    · rw [if_neg h]
      exact Ev.now _
  induction m with
  | zero =>
    intro n h0 h1 hm l hl
    obtain rfl : n = 0 := by omega
    exact zero l (by omega)
  | succ m ih =>
    intro n h0 h1 hm l hl
    by_cases hn : n = 0
    · subst hn
      exact zero l (by omega)
    · obtain ⟨t1, t2, t3, t4⟩ := tmod_abs n
      have ha : n.natAbs ≠ 0 := by omega
      have hd : (n.tdiv 10).natAbs = n.natAbs / 10 := by
        by_cases h : n < 0
        · rw [t3 h]; omega
        · rw [t4 (by omega)]; omega
      have hlt : n.natAbs / 10 < 10 ^ m := by
        rw [Nat.pow_succ] at hm
        omega
      have hw : wrap64 (n.tdiv 10) = n.tdiv 10 := w64 (by omega) (by omega)
      have hx := ih (n.tdiv 10) (by omega) (by omega) (by rw [hd]; exact hlt) (UInt8.ofNat (48 + n.natAbs % 10) :: l) (by simp; omega)
      rw [hd] at hx
      have er : bs ((if neg = true then [45] else []) ++ dd (n.natAbs / 10) ++ (UInt8.ofNat (48 + n.natAbs % 10) :: l)) = bs ((if neg = true then [45] else []) ++ dd n.natAbs ++ l) := by
        rw [dd_step n.natAbs ha]
        simp
      have hx := ev_eq hx er
      have es : ∀ c : Int, c = ((48 + n.natAbs % 10 : Nat) : Int) → strOfNums [c] ++ bs l = bs (UInt8.ofNat (48 + n.natAbs % 10) :: l) := by
        intro c hc
        subst hc
        exact bs_append [UInt8.ofNat (48 + n.natAbs % 10)] l
      refine Ev.step (fun k => spec_FormatInt.l0.eq_2 ..) (ev_neg hn (ev_ite (fun h => ?_) (fun h => ?_)))
      · have hneg : n < 0 := by
          by_cases h' : n < 0
          · exact h'
          · rw [t2 (by omega)] at h; omega
        have ec : (wrap64 (48 + wrap64 (-(n.tmod 10)))) % 256 = ((48 + n.natAbs % 10 : Nat) : Int) := by
          rw [t1 hneg, w64 (n := - -((n.natAbs % 10 : Nat) : Int)) (by omega) (by omega), w64 (by omega) (by omega)]
          omega
        refine ev_bindo rfl (ev_pos (by rw [strOfNums_size, bs_size]; simp; omega) ?_)
        rw [es _ ec, hw]
        exact hx
      · have hpos : n.tmod 10 = ((n.natAbs % 10 : Nat) : Int) := by
          by_cases h' : 0 ≤ n
          · exact t2 h'
          · have h10 := t1 (by omega)
            rw [h10] at h ⊢
            omega
        have ec : (wrap64 (48 + (n.tmod 10))) % 256 = ((48 + n.natAbs % 10 : Nat) : Int) := by
          rw [hpos, w64 (by omega) (by omega)]
          omega
        refine ev_bindo rfl (ev_pos (by rw [strOfNums_size, bs_size]; simp; omega) ?_)
        rw [es _ ec, hw]
        exact hx
theorem spec_fi (n : Int) (h0 : -9223372036854775808 ≤ n) (h1 : n ≤ 9223372036854775807) : Ev (fun k => spec_FormatInt.f k n) (bs (Go.Lib.itoa n)) := by
  unfold spec_FormatInt.f
  by_cases hn : n = 0
  · subst hn
    refine ev_pos rfl (ev_eq (Ev.now _) ?_)
    have : Go.Lib.itoa 0 = [48] := by
      unfold Go.Lib.itoa
      rw [if_neg (by omega)]
      exact Go.Lib.decDigits_one (by decide)
    rw [this]
    rfl
  · refine ev_neg hn (ev_eq (fi_loop (decide (n < 0)) 19 n h0 h1 (by omega) [] (by simp)) ?_)
    unfold Go.Lib.itoa dd
    rw [if_neg (show ¬ n.natAbs = 0 by omega)]
    by_cases h : n < 0
    · rw [if_pos (decide_eq_true h), if_pos h]
      simp
    · rw [if_neg (by simpa using h), if_neg h, show n.natAbs = n.toNat by omega]
      simp
theorem impl_fi (n : Int) (h0 : -9223372036854775808 ≤ n) (h1 : n ≤ 9223372036854775807) : strconv_Itoa.f n = some (bs (Go.Lib.itoa n)) := by
  unfold strconv_Itoa.f
  rw [if_pos ⟨h0, h1⟩]
  rfl
theorem decDigits_len (m : Nat) : ∀ u, u < 10 ^ (m + 1) → (Go.Lib.decDigits u).length ≤ m + 1 := by
  induction m with
  | zero =>
    intro u hu
    rw [Go.Lib.decDigits_one (by omega)]
    simp
  | succ m ih =>
    intro u hu
    by_cases h : u < 10
    · rw [Go.Lib.decDigits_one h]
      simp
    · rw [Go.Lib.decDigits, dif_neg h]
      have := ih (u / 10) (by rw [Nat.pow_succ] at hu; omega)
      simp only [List.length_append, List.length_singleton]
      omega
/-- One byte read. -/
def stp (p : Nat × Nat) (b : UInt8) : Nat × Nat := if 48 ≤ b.toNat ∧ b.toNat ≤ 57 then (p.1 * 10 + (b.toNat - 48), p.2 + 1) else p
/-- The digits' number and how many they are. -/
def pvL (l : List UInt8) : Nat × Nat := l.foldl stp (0, 0)
theorem pv_snoc (l : List UInt8) (b : UInt8) : pvL (l ++ [b]) = stp (pvL l) b := by
  unfold pvL
  rw [List.foldl_append]
  rfl
theorem stp_bd (p : Nat × Nat) (b : UInt8) (h : p.1 < 10 ^ p.2) : (stp p b).1 < 10 ^ (stp p b).2 ∧ (stp p b).2 ≤ p.2 + 1 := by
  unfold stp
  split
  · refine ⟨?_, Nat.le_refl _⟩
    show p.1 * 10 + (b.toNat - 48) < 10 ^ (p.2 + 1)
    rw [Nat.pow_succ]
    omega
  · exact ⟨h, Nat.le_succ _⟩
theorem pv_bd0 (l : List UInt8) : ∀ p : Nat × Nat, p.1 < 10 ^ p.2 → (l.foldl stp p).1 < 10 ^ (l.foldl stp p).2 ∧ (l.foldl stp p).2 ≤ p.2 + l.length := by
  induction l with
  | nil => intro p h; exact ⟨h, Nat.le_refl _⟩
  | cons b l ih =>
    intro p h
    obtain ⟨h1, h2⟩ := stp_bd p b h
    obtain ⟨h3, h4⟩ := ih _ h1
    refine ⟨h3, ?_⟩
    show (l.foldl stp (stp p b)).2 ≤ p.2 + (l.length + 1)
    omega
theorem pv_bd (l : List UInt8) : (pvL l).1 < 10 ^ (pvL l).2 ∧ (pvL l).2 ≤ l.length := by
  have := pv_bd0 l (0, 0) (by decide)
  unfold pvL
  exact ⟨this.1, by have := this.2; omega⟩
theorem ofNat_dig (d : Nat) (h : d < 10) : (UInt8.ofNat (48 + d)).toNat = 48 + d := by
  rw [UInt8.toNat_ofNat']
  omega
theorem stp_dig (p : Nat × Nat) (d : Nat) (h : d < 10) : stp p (UInt8.ofNat (48 + d)) = (p.1 * 10 + d, p.2 + 1) := by
  unfold stp
  rw [ofNat_dig d h, if_pos (by omega), show 48 + d - 48 = d by omega]
theorem pv_dd (u : Nat) : pvL (Go.Lib.decDigits u) = (u, (Go.Lib.decDigits u).length) := by
  induction u using Nat.strongRecOn with
  | ind u ih =>
    by_cases h : u < 10
    · rw [Go.Lib.decDigits_one h]
      have := stp_dig (0, 0) u h
      show stp (0, 0) (UInt8.ofNat (48 + u)) = _
      rw [this]
      simp
    · rw [Go.Lib.decDigits, dif_neg h, pv_snoc, ih (u / 10) (by omega), stp_dig _ _ (by omega)]
      simp only [List.length_append, List.length_singleton]
      congr 1
      omega
theorem decFrom_append (a b : List UInt8) : ∀ acc, Go.Lib.decFrom acc (a ++ b) = (Go.Lib.decFrom acc a).bind (fun x => Go.Lib.decFrom x b) := by
  induction a with
  | nil => intro acc; rfl
  | cons c a ih =>
    intro acc
    show (match Go.Lib.digitVal c with | some d => Go.Lib.decFrom (acc * 10 + d) (a ++ b) | none => none) = (match Go.Lib.digitVal c with | some d => Go.Lib.decFrom (acc * 10 + d) a | none => none).bind (fun x => Go.Lib.decFrom x b)
    cases Go.Lib.digitVal c with
    | none => rfl
    | some d => exact ih _
theorem digitVal_dig (d : Nat) (h : d < 10) : Go.Lib.digitVal (UInt8.ofNat (48 + d)) = some d := by
  unfold Go.Lib.digitVal
  rw [ofNat_dig d h, if_pos (by omega), show 48 + d - 48 = d by omega]
theorem decFrom_dd (u : Nat) : Go.Lib.decFrom 0 (Go.Lib.decDigits u) = some u := by
  induction u using Nat.strongRecOn with
  | ind u ih =>
    by_cases h : u < 10
    · rw [Go.Lib.decDigits_one h]
      unfold Go.Lib.decFrom
      rw [digitVal_dig u h]
      simp [Go.Lib.decFrom]
    · rw [Go.Lib.decDigits, dif_neg h, decFrom_append, ih (u / 10) (by omega), Option.bind_some]
      unfold Go.Lib.decFrom
      rw [digitVal_dig _ (by omega)]
      simp only [Go.Lib.decFrom]
      congr 1
      omega
theorem dd_head (u : Nat) : ∃ b r, Go.Lib.decDigits u = b :: r ∧ 48 ≤ b.toNat := by
  induction u using Nat.strongRecOn with
  | ind u ih =>
    by_cases h : u < 10
    · exact ⟨_, _, Go.Lib.decDigits_one h, by rw [ofNat_dig u h]; omega⟩
    · obtain ⟨b, r, e, hb⟩ := ih (u / 10) (by omega)
      refine ⟨b, r ++ [UInt8.ofNat (48 + u % 10)], ?_, hb⟩
      rw [Go.Lib.decDigits, dif_neg h, e]
      rfl
theorem decNat_dd (u : Nat) : Go.Lib.decNat (Go.Lib.decDigits u) = some u := by
  unfold Go.Lib.decNat
  obtain ⟨b, r, e, _⟩ := dd_head u
  rw [if_neg (by rw [e]; simp), decFrom_dd]
theorem itoa_10 (n : Int) (h0 : -999999999 ≤ n) (h1 : n ≤ 999999999) : (Go.Lib.itoa n).length ≤ 10 := by
  unfold Go.Lib.itoa
  split
  · have := decDigits_len 8 n.natAbs (by omega)
    simp only [List.length_cons]
    omega
  · have := decDigits_len 8 n.toNat (by omega)
    omega
theorem atoi_itoa (n : Int) : Go.Lib.atoi (Go.Lib.itoa n) = some n := by
  unfold Go.Lib.itoa
  by_cases h : n < 0
  · rw [if_pos h]
    unfold Go.Lib.atoi
    simp only [beq_self_eq_true, if_true, decNat_dd, Option.map_some]
    congr 1
    omega
  · rw [if_neg h]
    obtain ⟨b, r, e, hb⟩ := dd_head n.toNat
    have hd := decNat_dd n.toNat
    rw [e] at hd ⊢
    unfold Go.Lib.atoi
    have h1 : ¬ b = 45 := fun h => by subst h; exact absurd hb (by decide)
    have h2 : ¬ b = 43 := fun h => by subst h; exact absurd hb (by decide)
    simp only [beq_iff_eq, h1, h2, if_false, hd, Option.map_some]
    congr 1
    omega
theorem atoiAll_itoa (n : Int) (h0 : -999999999 ≤ n) (h1 : n ≤ 999999999) : Go.Lib.atoiAll (Go.Lib.itoa n) = .ok n := by
  rw [Go.Lib.atoiAll_short _ (by have := itoa_10 n h0 h1; omega), atoi_itoa]
  rfl
/-- What the reference reckons. -/
def pm (L : List UInt8) : Int := if L.head? = some 45 then -((pvL (L.take 11)).1 : Int) else ((pvL (L.take 11)).1 : Int)
def piOf (L : List UInt8) : Int × Bool := if (pvL (L.take 11)).2 ≤ 9 ∧ L.length ≤ 10 ∧ Go.Lib.itoa (pm L) = L then (pm L, true) else (0, false)
theorem pm_itoa (n : Int) (h0 : -999999999 ≤ n) (h1 : n ≤ 999999999) : pm (Go.Lib.itoa n) = n ∧ (pvL ((Go.Lib.itoa n).take 11)).2 ≤ 9 := by
  have hl := itoa_10 n h0 h1
  unfold pm
  rw [List.take_of_length_le (by omega)]
  unfold Go.Lib.itoa at hl ⊢
  by_cases h : n < 0
  · rw [if_pos h] at hl ⊢
    have e : pvL (45 :: Go.Lib.decDigits n.natAbs) = pvL (Go.Lib.decDigits n.natAbs) := rfl
    have hd := decDigits_len 8 n.natAbs (by omega)
    rw [e, pv_dd, if_pos (show (45 :: Go.Lib.decDigits n.natAbs).head? = some 45 from rfl)]
    exact ⟨by omega, hd⟩
  · rw [if_neg h] at hl ⊢
    obtain ⟨b, r, e, hb⟩ := dd_head n.toNat
    have hd := decDigits_len 8 n.toNat (by omega)
    rw [pv_dd, if_neg (by rw [e]; intro h; have := Option.some.inj h; subst this; exact absurd hb (by decide))]
    exact ⟨by omega, hd⟩
theorem pi_itoa (n : Int) (h0 : -999999999 ≤ n) (h1 : n ≤ 999999999) : piOf (Go.Lib.itoa n) = (n, true) := by
  obtain ⟨h2, h3⟩ := pm_itoa n h0 h1
  unfold piOf
  rw [if_pos ⟨h3, itoa_10 n h0 h1, by rw [h2]⟩, h2]
theorem pm_bd (L : List UInt8) (h : (pvL (L.take 11)).2 ≤ 9) : -999999999 ≤ pm L ∧ pm L ≤ 999999999 := by
  have hb := (pv_bd (L.take 11)).1
  have h2 : 10 ^ (pvL (L.take 11)).2 ≤ 10 ^ 9 := Nat.pow_le_pow_right (by decide) h
  unfold pm
  split <;> omega
theorem pi_no (L : List UInt8) (h : ∀ n : Int, -999999999 ≤ n → n ≤ 999999999 → L ≠ Go.Lib.itoa n) : piOf L = (0, false) := by
  unfold piOf
  rw [if_neg]
  rintro ⟨h1, _, h3⟩
  obtain ⟨h4, h5⟩ := pm_bd L h1
  exact h _ h4 h5 h3.symm
theorem bt_at (s : ByteArray) (i : Nat) (h : i < s.data.toList.length) : bt s (i : Int) = ((s.data.toList[i]).toNat : Int) := by
  have hs : i < s.size := by
    have : s.data.toList.length = s.size := Array.length_toList
    omega
  unfold bt
  rw [dif_pos (by rw [Int.toNat_natCast]; exact hs)]
  rfl
theorem impl_pi (s : ByteArray) (hs : s.size ≤ 1048576) : impl_ParseInt.f s = some (piOf s.data.toList) := by
  unfold impl_ParseInt.f
  rw [if_pos (by omega)]
  by_cases hx : ∃ n : Int, -999999999 ≤ n ∧ n ≤ 999999999 ∧ s.data.toList = Go.Lib.itoa n
  · obtain ⟨n, h0, h1, e⟩ := hx
    rw [e, atoiAll_itoa n h0 h1, pi_itoa n h0 h1]
    show impl_ParseInt.g s n = _
    unfold impl_ParseInt.g
    rw [impl_in_, Option.bind_some, if_pos (decide_eq_true ⟨h0, h1⟩), impl_fi n (by omega) (by omega), Option.bind_some, if_pos]
    rw [Go.Lib.toList_data, Go.Lib.toList_data, e]
    simp [bs]
  · have hno : ∀ n : Int, -999999999 ≤ n → n ≤ 999999999 → s.data.toList ≠ Go.Lib.itoa n := fun n h0 h1 e => hx ⟨n, h0, h1, e⟩
    rw [pi_no _ hno]
    cases hv : Go.Lib.atoiAll s.data.toList with
    | ok v =>
      show impl_ParseInt.g s v = _
      unfold impl_ParseInt.g
      rw [impl_in_, Option.bind_some]
      by_cases hr : -999999999 ≤ v ∧ v ≤ 999999999
      · rw [if_pos (decide_eq_true hr), impl_fi v (by omega) (by omega), Option.bind_some, if_neg]
        rw [Go.Lib.toList_data, Go.Lib.toList_data]
        intro e
        refine hno v hr.1 hr.2 ?_
        rw [← e]
        simp [bs]
      · rw [if_neg (by simpa using hr)]
    | «syntax» => rfl
    | range => rfl
theorem i64_and255 (n : Int) : Go.bits .and .i64 n 255 = n % 256 := by
  have h255 : (BitVec.ofInt 64 255).toNat = 2 ^ 8 - 1 := by decide
  have key : (BitVec.ofInt 64 n &&& BitVec.ofInt 64 255).toNat = (n % ((2 ^ 64 : Nat) : Int)).toNat % 2 ^ 8 := by
    rw [BitVec.toNat_and, BitVec.toNat_ofInt, h255, Nat.and_two_pow_sub_one_eq_mod]
  show IntKind.i64.wrap ((BitVec.ofInt 64 n &&& BitVec.ofInt 64 255).toNat : Nat) = n % 256
  rw [key, IntKind.wrap_i64]
  omega
/-- A reader's place stands in its text. -/
def Cur (l : List Int) (p : Int) : Prop := 0 ≤ p ∧ p ≤ (l.length : Int)
theorem byte_ok (l : List Int) (hl : l.length ≤ 140737488351232) (p s : Int) (hp : Cur l p) : ∃ b q t, spec_l1Byte.f l p s = some (b, q, t) ∧ 0 ≤ b ∧ b ≤ 255 ∧ Cur l q := by
  unfold spec_l1Byte.f
  simp only [i64_and255]
  by_cases h : p < (l.length : Int)
  · rw [if_pos h, if_pos hp.1]
    exact ⟨_, _, _, rfl, by omega, by omega, by rw [w64 (by have := hp.1; omega) (by omega)]; exact ⟨by have := hp.1; omega, by omega⟩⟩
  · rw [if_neg h]
    exact ⟨_, _, _, rfl, by omega, by omega, hp⟩
theorem tmod_bd {b a : Int} (h0 : 0 ≤ b) (h : 0 < a) : 0 ≤ Int.tmod b a ∧ Int.tmod b a < a := by
  rw [Int.tmod_eq_emod_of_nonneg h0]
  exact ⟨Int.emod_nonneg _ (by omega), Int.emod_lt_of_pos _ h⟩
theorem below_ok (l : List Int) (hl : l.length ≤ 140737488351232) (p s : Int) (hp : Cur l p) (a : Int) (h0 : 0 < a) (h1 : a ≤ 4294967296) : ∃ b q t, spec_l1Below.f l p s a = some (b, q, t) ∧ 0 ≤ b ∧ b < a ∧ Cur l q := by
  unfold spec_l1Below.f
  rw [if_neg (by omega)]
  by_cases h : a ≤ 256
  · rw [if_pos h]
    obtain ⟨b, q, t, e, b0, b1, hq⟩ := byte_ok l hl p s hp
    rw [e, Option.bind_some, if_neg (by omega)]
    have := tmod_bd b0 h0
    exact ⟨_, _, _, rfl, this.1, this.2, hq⟩
  · rw [if_neg h]
    obtain ⟨b, q, t, e, b0, b1, hq⟩ := byte_ok l hl p s hp
    obtain ⟨c, q2, t2, e2, c0, c1, hq2⟩ := byte_ok l hl q t hq
    obtain ⟨d, q3, t3, e3, d0, d1, hq3⟩ := byte_ok l hl q2 t2 hq2
    obtain ⟨f, q4, t4, e4, f0, f1, hq4⟩ := byte_ok l hl q3 t3 hq3
    rw [e, Option.bind_some, e2, Option.bind_some, e3, Option.bind_some, e4, Option.bind_some, if_neg (by omega)]
    have hw : wrap64 ((wrap64 ((wrap64 ((wrap64 (b * 16777216)) + (wrap64 (c * 65536)))) + (wrap64 (d * 256)))) + f) = b * 16777216 + c * 65536 + d * 256 + f := by
      rw [w64 (n := b * 16777216) (by omega) (by omega), w64 (n := c * 65536) (by omega) (by omega), w64 (n := d * 256) (by omega) (by omega), w64 (n := b * 16777216 + c * 65536) (by omega) (by omega), w64 (n := b * 16777216 + c * 65536 + d * 256) (by omega) (by omega), w64 (by omega) (by omega)]
    have hz : 0 ≤ b * 16777216 + c * 65536 + d * 256 + f := by omega
    have := tmod_bd hz h0
    exact ⟨_, _, _, rfl, by show 0 ≤ Int.tmod (wrap64 _) a; rw [hw]; exact this.1, by show Int.tmod (wrap64 _) a < a; rw [hw]; exact this.2, hq4⟩
theorem pick_ok (l : List Int) (hl : l.length ≤ 140737488351232) (p s : Int) (hp : Cur l p) (m : List Int) (h0 : 0 < m.length) (h1 : m.length ≤ 1000) : ∃ b q t, spec_l1PickInt.f l p s m = some (b, q, t) ∧ b ∈ m ∧ Cur l q := by
  unfold spec_l1PickInt.f
  obtain ⟨b, q, t, e, b0, b1, hq⟩ := below_ok l hl p s hp (m.length : Int) (by omega) (by omega)
  rw [e, Option.bind_some, if_pos b0, if_pos b1]
  refine ⟨_, _, _, rfl, ?_, hq⟩
  show rd m b ∈ m
  unfold rd
  have hb : b.toNat < m.length := by omega
  rw [show m.getD b.toNat _ = m[b.toNat] from by simp [List.getD, hb]]
  exact List.getElem_mem hb
theorem wrap_bd (x : Int) : -9223372036854775808 ≤ wrap64 x ∧ wrap64 x ≤ 9223372036854775807 := by unfold wrap64; omega
theorem num_ok (l : List Int) (hl : l.length ≤ 140737488351232) (p s : Int) (hp : Cur l p) : ∃ b q t, spec_l1Num.f l p s = some (b, q, t) ∧ -9223372036854775808 ≤ b ∧ b ≤ 9223372036854775807 ∧ Cur l q := by
  unfold spec_l1Num.f
  obtain ⟨b, q, t, e, b0, b1, hq⟩ := below_ok l hl p s hp 8 (by omega) (by omega)
  rw [e, Option.bind_some]
  show ∃ c q' t', (if b = 0 then _ else _) = some (c, q', t') ∧ _
  by_cases h : b = 0
  · rw [if_pos h]
    obtain ⟨c, q2, t2, e2, hm, hq2⟩ := pick_ok l hl q t hq ([(-1), 0, 127, 128, 255, 256, 16383, 16384, 65535, 65536, 562949953421311, 562949953421312, 999999999, 1000000000, (-999999999), 9223372036854775807, (-9223372036854775808)] : List Int) (by decide) (by decide)
    rw [e2, Option.bind_some]
    refine ⟨_, _, _, rfl, ?_, ?_, hq2⟩ <;> simp only [List.mem_cons, List.not_mem_nil, or_false] at hm <;> show _ ≤ _ <;> omega
  · rw [if_neg h]
    by_cases h : b = 1
    · rw [if_pos h]
      obtain ⟨c, q2, t2, e2, c0, c1, hq2⟩ := below_ok l hl q t hq 1000000000 (by omega) (by omega)
      obtain ⟨d, q3, t3, e3, d0, d1, hq3⟩ := below_ok l hl q2 t2 hq2 1000000000 (by omega) (by omega)
      rw [e2, Option.bind_some, e3, Option.bind_some]
      exact ⟨_, _, _, rfl, (wrap_bd _).1, (wrap_bd _).2, hq3⟩
    · rw [if_neg h]
      by_cases h : b = 2
      · rw [if_pos h]
        obtain ⟨c, q2, t2, e2, c0, c1, hq2⟩ := below_ok l hl q t hq 100000 (by omega) (by omega)
        rw [e2, Option.bind_some]
        exact ⟨_, _, _, rfl, (wrap_bd _).1, (wrap_bd _).2, hq2⟩
      · rw [if_neg h]
        obtain ⟨c, q2, t2, e2, c0, c1, hq2⟩ := below_ok l hl q t hq 70000 (by omega) (by omega)
        rw [e2, Option.bind_some]
        exact ⟨_, _, _, rfl, by show _ ≤ c; omega, by show c ≤ _; omega, hq2⟩
theorem new_loop (l : List Int) (d : Nat) : ∀ (i : Nat) (x : Int), i + d = min l.length 4000 → ∃ t, Ev (fun k => spec_l1New.l0 k l x (i : Int)) (l, 0, t) := by
  induction d with
  | zero =>
    intro i x hi
    by_cases h : (i : Int) < (l.length : Int)
    · exact ⟨_, Ev.step (fun k => spec_l1New.l0.eq_2 ..) (ev_pos h (ev_neg (by omega) (Ev.now _)))⟩
    · exact ⟨_, Ev.step (fun k => spec_l1New.l0.eq_2 ..) (ev_neg h (Ev.now _))⟩
  | succ d ih =>
    intro i x hi
    obtain ⟨t, ht⟩ := ih (i + 1) (Go.bits .and .i64 (wrap64 ((wrap64 ((wrap64 (x * 131)) + (wrap64 (rd l (i : Int))))) + 7)) 1073741823) (by omega)
    refine ⟨t, Ev.step (fun k => spec_l1New.l0.eq_2 ..) (ev_pos (by omega) (ev_pos (by omega) (ev_pos (by omega) ?_)))⟩
    rw [w64 (n := (i : Int) + 1) (by omega) (by omega)]
    exact ht
theorem new_ok (l : List Int) : ∃ t, Ev (fun k => spec_l1New.f k l) (l, 0, t) := new_loop l (min l.length 4000) 0 _ (by omega)
theorem cur0 (l : List Int) : Cur l 0 := ⟨Int.le_refl _, Int.natCast_nonneg _⟩
theorem text_loop (l : List Int) (hl : l.length ≤ 140737488351232) (st : Int) (d : Nat) : ∀ (acc : List Int) (p s : Int), Cur l p → acc.length + d ≤ 1000000 →
    ∃ a q t, Ev (fun k => spec_l1Text.l0 k acc st (d : Int) l p s) (strOfNums a, q, t) ∧ a.length = acc.length + d ∧ Cur l q := by
  induction d with
  | zero =>
    intro acc p s hp ha
    exact ⟨acc, p, s, Ev.step (fun k => spec_l1Text.l0.eq_2 ..) (ev_neg (by omega) (Ev.now _)), by omega, hp⟩
  | succ d ih =>
    intro acc p s hp ha
    obtain ⟨b, q, t, e, b0, b1, hq⟩ := byte_ok l hl p s hp
    have go : ∀ x : Int, ∃ a q' t', Ev (fun k => spec_l1Text.l0 k (acc ++ [x]) st (wrap64 (((d + 1 : Nat) : Int) - 1)) l q t) (strOfNums a, q', t') ∧ a.length = acc.length + (d + 1) ∧ Cur l q' := by
      intro x
      obtain ⟨a, q', t', h1, h2, h3⟩ := ih (acc ++ [x]) q t hq (by simp; omega)
      refine ⟨a, q', t', ?_, by rw [h2]; simp; omega, h3⟩
      rw [w64 (by omega) (by omega), show ((d + 1 : Nat) : Int) - 1 = (d : Int) by omega]
      exact h1
    by_cases h1 : st = 1
    · obtain ⟨a, q', t', g1, g2, g3⟩ := go ((Int.tmod b 2) % 256)
      exact ⟨a, q', t', Ev.step (fun k => spec_l1Text.l0.eq_2 ..) (ev_pos (by omega) (ev_bindo e (ev_pos h1 (ev_neg (by omega) (ev_pos (by omega) g1))))), g2, g3⟩
    · by_cases h2 : st = 2
      · obtain ⟨a, q', t', g1, g2, g3⟩ := go ((wrap64 (97 + (Int.tmod b 4))) % 256)
        exact ⟨a, q', t', Ev.step (fun k => spec_l1Text.l0.eq_2 ..) (ev_pos (by omega) (ev_bindo e (ev_neg h1 (ev_pos h2 (ev_pos (by omega) g1))))), g2, g3⟩
      · obtain ⟨a, q', t', g1, g2, g3⟩ := go (b % 256)
        exact ⟨a, q', t', Ev.step (fun k => spec_l1Text.l0.eq_2 ..) (ev_pos (by omega) (ev_bindo e (ev_neg h1 (ev_neg h2 (ev_pos (by omega) g1))))), g2, g3⟩
theorem text_ok (l : List Int) (hl : l.length ≤ 140737488351232) (p s : Int) (hp : Cur l p) (m : Int) (h0 : 0 ≤ m) (h1 : m ≤ 1000) :
    ∃ a q t, Ev (fun k => spec_l1Text.f k l p s m) (strOfNums a, q, t) ∧ (a.length : Int) ≤ m ∧ Cur l q := by
  obtain ⟨b, q, t, e, b0, b1, hq⟩ := below_ok l hl p s hp 4 (by omega) (by omega)
  obtain ⟨c, q2, t2, e2, c0, c1, hq2⟩ := below_ok l hl q t hq (wrap64 (m + 1)) (by rw [w64 (by omega) (by omega)]; omega) (by rw [w64 (by omega) (by omega)]; omega)
  rw [w64 (by omega) (by omega)] at c1
  obtain ⟨a, q3, t3, h3, h4, hq3⟩ := text_loop l hl b c.toNat [] q2 t2 hq2 (by simp; omega)
  rw [Int.toNat_of_nonneg c0] at h3
  exact ⟨a, q3, t3, ev_bindo e (ev_bindo e2 h3), by rw [h4]; simp; omega, hq3⟩
/-- 128 to the power i. -/
def p7 : Nat → Int
  | 0 => 1
  | d + 1 => p7 d * 128
/-- The number that the low seven bits of the d bytes from i on say, the lowest first. -/
def valr (s : ByteArray) : Nat → Int → Int
  | 0, _ => 0
  | d + 1, i => bt s i % 128 + 128 * valr s d (i + 1)
/-- The d bytes from i on. -/
def lst (s : ByteArray) : Nat → Int → List Int
  | 0, _ => []
  | d + 1, i => bt s i :: lst s d (i + 1)
/-- A number's bytes, d more than one at the most. -/
def encd : Nat → Int → List Int
  | 0, n => [n]
  | d + 1, n => if n < 128 then [n] else (128 + n % 128) :: encd d (n / 128)
theorem p7_pos (d : Nat) : 0 < p7 d := by
  induction d with
  | zero => exact Int.one_pos
  | succ d ih => show 0 < p7 d * 128; omega
theorem valr_bd (s : ByteArray) (d : Nat) : ∀ i, 0 ≤ valr s d i ∧ valr s d i < p7 d := by
  induction d with
  | zero => intro i; exact ⟨Int.le_refl _, Int.one_pos⟩
  | succ d ih =>
    intro i
    have h := ih (i + 1)
    have hb := bt_range s i
    show 0 ≤ bt s i % 128 + 128 * valr s d (i + 1) ∧ bt s i % 128 + 128 * valr s d (i + 1) < p7 d * 128
    omega
theorem valr_snoc (s : ByteArray) (d : Nat) : ∀ i : Int, valr s (d + 1) i = valr s d i + (bt s (i + d) % 128) * p7 d := by
  induction d with
  | zero => intro i; simp [valr, p7]
  | succ d ih =>
    intro i
    have h := ih (i + 1)
    show bt s i % 128 + 128 * valr s (d + 1) (i + 1) = (bt s i % 128 + 128 * valr s d (i + 1)) + (bt s (i + ((d + 1 : Nat) : Int)) % 128) * (p7 d * 128)
    rw [h, show i + ((d + 1 : Nat) : Int) = i + 1 + (d : Int) by omega, ← Int.mul_assoc]
    omega
theorem lst_len (s : ByteArray) (d : Nat) : ∀ i, (lst s d i).length = d := by
  induction d with
  | zero => intro i; rfl
  | succ d ih => intro i; simp [lst, ih]
/-- Nothing set: the highest byte says nothing. -/
theorem valr_zero (s : ByteArray) (d : Nat) : ∀ i : Int, valr s (d + 1) i = 0 → bt s (i + d) % 128 = 0 := by
  intro i h
  rw [valr_snoc] at h
  have h1 := (valr_bd s d i).1
  have h2 := p7_pos d
  have h3 : 0 ≤ bt s (i + d) % 128 := by omega
  rcases Int.lt_or_le 0 (bt s (i + d) % 128) with h4 | h4
  · have := Int.mul_pos h4 h2
    omega
  · omega
/-- These d bytes are a number's own. -/
def Own (s : ByteArray) (d : Nat) (i : Int) : Prop := (∀ j : Nat, j + 1 < d → 128 ≤ bt s (i + j)) ∧ bt s (i + d - 1) < 128 ∧ (d = 1 ∨ bt s (i + d - 1) ≠ 0)
theorem enc_own (s : ByteArray) (m : Nat) : ∀ (e : Nat) (i : Int), m ≤ e → (encd e (valr s (m + 1) i) = lst s (m + 1) i ↔ Own s (m + 1) i) := by
  induction m with
  | zero =>
    intro e i he
    have hb := bt_range s i
    have h1 : valr s 1 i = bt s i % 128 := by simp [valr]
    have h2 : encd e (bt s i % 128) = [bt s i % 128] := by
      cases e with
      | zero => rfl
      | succ e => simp only [encd]; rw [if_pos (by omega)]
    rw [h1, h2]
    simp only [lst, Own, Nat.zero_add, true_or, and_true, List.cons.injEq]
    rw [show i + ((1 : Nat) : Int) - 1 = i by omega]
    constructor
    · intro h; exact ⟨fun j hj => by omega, by omega⟩
    · intro h; omega
  | succ m ih =>
    intro e i he
    obtain ⟨e, rfl⟩ : ∃ x, e = x + 1 := ⟨e - 1, by omega⟩
    have hb := bt_range s i
    have hv := valr_bd s (m + 1) (i + 1)
    have hvd : valr s (m + 1 + 1) i = bt s i % 128 + 128 * valr s (m + 1) (i + 1) := rfl
    have hld : lst s (m + 1 + 1) i = bt s i :: lst s (m + 1) (i + 1) := rfl
    have hlast : i + 1 + ((m + 1 : Nat) : Int) - 1 = i + ((m + 1 + 1 : Nat) : Int) - 1 := by omega
    by_cases h0 : valr s (m + 1) (i + 1) = 0
    · have h1 := valr_zero s m (i + 1) h0
      have hb2 := bt_range s (i + 1 + m)
      rw [hvd, h0, hld]
      have h2 : encd (e + 1) (bt s i % 128 + 128 * 0) = [bt s i % 128] := by
        simp only [encd]
        rw [if_pos (by omega)]
        simp
      rw [h2]
      constructor
      · intro h
        have := congrArg List.length h
        simp [lst_len] at this
      · rintro ⟨_, h3, h4⟩
        rw [show i + ((m + 1 + 1 : Nat) : Int) - 1 = i + 1 + m by omega] at h3 h4
        rcases h4 with h4 | h4 <;> omega
    · rw [hvd, hld]
      have h2 : encd (e + 1) (bt s i % 128 + 128 * valr s (m + 1) (i + 1)) = (128 + bt s i % 128) :: encd e (valr s (m + 1) (i + 1)) := by
        simp only [encd]
        rw [if_neg (by omega)]
        congr 1
        · omega
        · congr 1
          omega
      rw [h2, List.cons.injEq, ih e (i + 1) (by omega)]
      constructor
      · rintro ⟨h3, h4, h5, h6⟩
        refine ⟨?_, by rw [← hlast]; exact h5, .inr ?_⟩
        · intro j hj
          cases j with
          | zero => simp; omega
          | succ j =>
            have := h4 j (by omega)
            rwa [show i + 1 + (j : Int) = i + ((j + 1 : Nat) : Int) by omega] at this
        · rw [← hlast]
          rcases h6 with h6 | h6
          · obtain rfl : m = 0 := by omega
            intro h7
            apply h0
            simp [valr, show i + 1 + ((0 + 1 : Nat) : Int) - 1 = i + 1 by omega] at h7 ⊢
            omega
          · exact h6
      · rintro ⟨h3, h4, h5⟩
        have h6 := h3 0 (by omega)
        refine ⟨by simp at h6; omega, ?_, by rw [hlast]; exact h4, ?_⟩
        · intro j hj
          have := h3 (j + 1) (by omega)
          rwa [show i + ((j + 1 : Nat) : Int) = i + 1 + (j : Int) by omega] at this
        · rw [hlast]
          rcases h5 with h5 | h5
          · omega
          · exact .inr h5
theorem shl7 (i : Nat) (hi : i ≤ 6) (x : Int) (h0 : 0 ≤ x) (h1 : x < 128) : shl .i64 x (wrap64 (7 * (i : Int))) = x * p7 i := by
  match i, hi with
  | 0, _ =>
    have e : (2 : Int) ^ min (wrap64 (7 * ((0 : Nat) : Int))).toNat IntKind.i64.bits = 1 := by decide +kernel
    have e2 : p7 0 = 1 := by decide
    unfold shl
    rw [e, e2]
    exact wi64 (by omega) (by omega)
  | 1, _ =>
    have e : (2 : Int) ^ min (wrap64 (7 * ((1 : Nat) : Int))).toNat IntKind.i64.bits = 128 := by decide +kernel
    have e2 : p7 1 = 128 := by decide
    unfold shl
    rw [e, e2]
    exact wi64 (by omega) (by omega)
  | 2, _ =>
    have e : (2 : Int) ^ min (wrap64 (7 * ((2 : Nat) : Int))).toNat IntKind.i64.bits = 16384 := by decide +kernel
    have e2 : p7 2 = 16384 := by decide
    unfold shl
    rw [e, e2]
    exact wi64 (by omega) (by omega)
  | 3, _ =>
    have e : (2 : Int) ^ min (wrap64 (7 * ((3 : Nat) : Int))).toNat IntKind.i64.bits = 2097152 := by decide +kernel
    have e2 : p7 3 = 2097152 := by decide
    unfold shl
    rw [e, e2]
    exact wi64 (by omega) (by omega)
  | 4, _ =>
    have e : (2 : Int) ^ min (wrap64 (7 * ((4 : Nat) : Int))).toNat IntKind.i64.bits = 268435456 := by decide +kernel
    have e2 : p7 4 = 268435456 := by decide
    unfold shl
    rw [e, e2]
    exact wi64 (by omega) (by omega)
  | 5, _ =>
    have e : (2 : Int) ^ min (wrap64 (7 * ((5 : Nat) : Int))).toNat IntKind.i64.bits = 34359738368 := by decide +kernel
    have e2 : p7 5 = 34359738368 := by decide
    unfold shl
    rw [e, e2]
    exact wi64 (by omega) (by omega)
  | 6, _ =>
    have e : (2 : Int) ^ min (wrap64 (7 * ((6 : Nat) : Int))).toNat IntKind.i64.bits = 4398046511104 := by decide +kernel
    have e2 : p7 6 = 4398046511104 := by decide
    unfold shl
    rw [e, e2]
    exact wi64 (by omega) (by omega)
theorem or_swap (x y : Int) (h0 : 0 ≤ x) (h1 : x < 2 ^ 62) (h2 : 0 ≤ y) (h3 : y < 2 ^ 62) : Go.bits .or .i64 x y = Go.bits .or .i64 y x := by
  obtain ⟨a, rfl⟩ := Int.eq_ofNat_of_zero_le h0
  obtain ⟨b, rfl⟩ := Int.eq_ofNat_of_zero_le h2
  have ha : a < 2 ^ 62 := by omega
  have hb : b < 2 ^ 62 := by omega
  rw [(bits_nat .i64 62 (by decide) wraps_i64 a b ha hb).2, (bits_nat .i64 62 (by decide) wraps_i64 b a hb ha).2, Nat.or_comm]
theorem or7 (i : Nat) (hi : i ≤ 6) (n y : Int) (h0 : 0 ≤ n) (h1 : n < p7 i) (h2 : 0 ≤ y) (h3 : y < 128) : Go.bits .or .i64 n (y * p7 i) = n + y * p7 i := by
  match i, hi with
  | 0, _ => replace h1 : n < 1 := h1; show Go.bits .or .i64 n (y * 1) = n + y * 1; rw [or_swap _ _ (by omega) (by omega) (by omega) (by omega), or_add 0 _ _ (by omega) (by omega) (by omega) (by omega) (by omega) (by omega)]; omega
  | 1, _ => replace h1 : n < 128 := h1; show Go.bits .or .i64 n (y * 128) = n + y * 128; rw [or_swap _ _ (by omega) (by omega) (by omega) (by omega), or_add 7 _ _ (by omega) (by omega) (by omega) (by omega) (by omega) (by omega)]; omega
  | 2, _ => replace h1 : n < 16384 := h1; show Go.bits .or .i64 n (y * 16384) = n + y * 16384; rw [or_swap _ _ (by omega) (by omega) (by omega) (by omega), or_add 14 _ _ (by omega) (by omega) (by omega) (by omega) (by omega) (by omega)]; omega
  | 3, _ => replace h1 : n < 2097152 := h1; show Go.bits .or .i64 n (y * 2097152) = n + y * 2097152; rw [or_swap _ _ (by omega) (by omega) (by omega) (by omega), or_add 21 _ _ (by omega) (by omega) (by omega) (by omega) (by omega) (by omega)]; omega
  | 4, _ => replace h1 : n < 268435456 := h1; show Go.bits .or .i64 n (y * 268435456) = n + y * 268435456; rw [or_swap _ _ (by omega) (by omega) (by omega) (by omega), or_add 28 _ _ (by omega) (by omega) (by omega) (by omega) (by omega) (by omega)]; omega
  | 5, _ => replace h1 : n < 34359738368 := h1; show Go.bits .or .i64 n (y * 34359738368) = n + y * 34359738368; rw [or_swap _ _ (by omega) (by omega) (by omega) (by omega), or_add 35 _ _ (by omega) (by omega) (by omega) (by omega) (by omega) (by omega)]; omega
  | 6, _ => replace h1 : n < 4398046511104 := h1; show Go.bits .or .i64 n (y * 4398046511104) = n + y * 4398046511104; rw [or_swap _ _ (by omega) (by omega) (by omega) (by omega), or_add 42 _ _ (by omega) (by omega) (by omega) (by omega) (by omega) (by omega)]; omega
theorem and127 (x : Int) (h0 : 0 ≤ x) (h1 : x < 256) : Go.bits .and .u8 x 127 = x % 128 := bits_mask .u8 8 (by decide) wraps_u8 7 (by decide) x h0 (by omega)
theorem bytes_inj {a b : List Int} (ha : ∀ x ∈ a, 0 ≤ x ∧ x < 256) (hb : ∀ x ∈ b, 0 ≤ x ∧ x < 256) (h : strOfNums a = strOfNums b) : a = b := by
  have h1 : (strOfNums a).data.toList = (strOfNums b).data.toList := by rw [h]
  rw [strOfNums_data, strOfNums_data] at h1
  clear h
  induction a generalizing b with
  | nil => cases b with
    | nil => rfl
    | cons y b => simp at h1
  | cons x a ih => cases b with
    | nil => simp at h1
    | cons y b =>
      simp only [List.map_cons, List.cons.injEq] at h1
      have hx := ha x (by simp)
      have hy := hb y (by simp)
      have h2 := congrArg UInt8.toNat h1.1
      simp only [UInt8.toNat_ofNat'] at h2
      rw [ih (fun z hz => ha z (by simp [hz])) (fun z hz => hb z (by simp [hz])) h1.2]
      congr 1
      omega
theorem lst_byte (s : ByteArray) (d : Nat) : ∀ i, ∀ x ∈ lst s d i, 0 ≤ x ∧ x < 256 := by
  induction d with
  | zero => intro i x hx; simp [lst] at hx
  | succ d ih =>
    intro i x hx
    simp only [lst, List.mem_cons] at hx
    rcases hx with rfl | hx
    · have := bt_range s i; omega
    · exact ih _ x hx
theorem encd_byte (d : Nat) : ∀ n, 0 ≤ n → n < 128 * p7 d → ∀ x ∈ encd d n, 0 ≤ x ∧ x < 256 := by
  induction d with
  | zero =>
    intro n h0 h1 x hx
    simp only [encd, List.mem_singleton] at hx
    have : n < 128 := by simpa [p7] using h1
    omega
  | succ d ih =>
    intro n h0 h1 x hx
    have h2 : n < 128 * (p7 d * 128) := h1
    simp only [encd] at hx
    split at hx
    · simp only [List.mem_singleton] at hx
      omega
    · simp only [List.mem_cons] at hx
      rcases hx with rfl | hx
      · omega
      · exact ih (n / 128) (by omega) (by omega) x hx
theorem lst_take (s : ByteArray) (m : Nat) (hm : m ≤ s.size) : s.extract 0 m = strOfNums (lst s m 0) := by
  have h : ∀ d i : Nat, i + d ≤ s.size → (s.extract i (i + d)).data.toList = (strOfNums (lst s d i)).data.toList := by
    intro d
    induction d with
    | zero => intro i hi; simp [lst, strOfNums, ByteArray.data_extract]
    | succ d ih =>
      intro i hi
      have h1 := ih (i + 1) (by omega)
      rw [strOfNums_data] at h1 ⊢
      simp only [lst, List.map_cons]
      rw [show ((i : Nat) : Int) + 1 = ((i + 1 : Nat) : Int) by omega, ← h1]
      have h2 : bt s (i : Int) = ((s.data[i]'(by have : s.data.size = s.size := rfl; omega)).toNat : Int) := by
        unfold bt
        rw [dif_pos (by simp; omega)]
        rfl
      rw [h2]
      simp only [ByteArray.data_extract, Array.toList_extract]
      rw [show i + (d + 1) = i + 1 + d by omega]
      simp only [List.extract_eq_take_drop, Int.toNat_natCast, UInt8.ofNat_toNat]
      rw [show i + 1 + d - i = d + 1 by omega, show i + 1 + d - (i + 1) = d by omega, List.drop_eq_getElem_cons (by rw [Array.length_toList]; have : s.data.size = s.size := rfl; omega), List.take_succ_cons]
      rfl
  have := h m 0 (by omega)
  rw [Nat.zero_add] at this
  exact ByteArray.ext (Array.toList_inj.1 this)
theorem and127_wrap (b : Int) (h0 : 0 ≤ b) (h1 : b ≤ 255) : wrap64 (Go.bits .and .u8 b 127) = b % 128 := by
  rw [and127 b h0 (by omega)]
  exact w64 (by omega) (by omega)
/-- What one more byte makes of the number. -/
theorem bits_step (s : ByteArray) (i : Nat) (hi : i ≤ 6) : Go.bits .or .i64 (valr s i 0) (shl .i64 (wrap64 (Go.bits .and .u8 (bt s (i : Int)) 127)) (wrap64 (7 * (i : Int)))) = valr s (i + 1) 0 := by
  have hb := bt_range s (i : Int)
  have hv := valr_bd s i 0
  rw [and127_wrap _ hb.1 hb.2, shl7 i hi _ (by omega) (by omega), or7 i hi _ _ hv.1 hv.2 (by omega) (by omega)]
  have := valr_snoc s i 0
  rw [Int.zero_add] at this
  exact this.symm
/-- One round of the program's loop. -/
theorem impl_round (s : ByteArray) (i : Nat) (hi : i ≤ 6) (hs : (i : Int) < (s.size : Int)) : ∀ r, Ev (fun k => if (bt s (i : Int)) < 128 then (if (i : Int) > 0 then (if (bt s (i : Int)) = 0 then (some ((0 : Int), (0 : Int))) else (some (valr s (i + 1) 0, ((i + 1 : Nat) : Int)))) else (some (valr s (i + 1) 0, ((i + 1 : Nat) : Int)))) else (impl_DecodeVarint.l0 k s (valr s (i + 1) 0) ((i + 1 : Nat) : Int))) r →
    Ev (fun k => impl_DecodeVarint.l0 k s (valr s i 0) (i : Int)) r := by
  intro r h
  have e4 : wrap64 ((i : Int) + 1) = ((i + 1 : Nat) : Int) := w64 (by omega) (by omega)
  have e5 : 0 ≤ wrap64 (7 * (i : Int)) := by rw [w64 (by omega) (by omega)]; omega
  have e6 : decide ((i : Int) < 7) = true := decide_eq_true (by omega)
  have e7 : (0 : Int) ≤ (i : Int) := by omega
  have e3 := bits_step s i hi
  refine Ev.step (fun k => impl_DecodeVarint.l0.eq_2 ..) ?_
  refine ev_pos hs ?_
  refine Ev.step (fun k => impl_DecodeVarint.j1.eq_2 ..) ?_
  refine ev_pos e6 ?_
  refine ev_pos e7 ?_
  refine ev_pos hs ?_
  refine ev_pos e5 ?_
  rw [e3, e4]
  exact h
theorem p7_6 : 128 * p7 6 = 562949953421312 := by decide
theorem p7_le (d : Nat) (h : d ≤ 7) : p7 d ≤ 562949953421312 := by
  match d, h with
  | 0, _ => decide
  | 1, _ => decide
  | 2, _ => decide
  | 3, _ => decide
  | 4, _ => decide
  | 5, _ => decide
  | 6, _ => decide
  | 7, _ => decide
/-- A number's low d bytes, the highest first. -/
def be : Nat → Int → List Int
  | 0, _ => []
  | d + 1, n => be d (n / 256) ++ [n % 256]
/-- A number without its low d bytes. -/
def dv : Nat → Int → Int
  | 0, n => n
  | d + 1, n => dv d (n / 256)
theorem be_len (d : Nat) : ∀ n, (be d n).length = d := by
  induction d with
  | zero => intro n; rfl
  | succ d ih => intro n; simp [be, ih]
theorem str_app (a b : List Int) : strOfNums (a ++ b) = strOfNums a ++ strOfNums b := by
  apply ByteArray.ext
  simp [strOfNums, ByteArray.data_append]
theorem str_nil : (⟨#[]⟩ : ByteArray) = strOfNums [] := rfl
theorem spec_loop (w : Int) (hw : w ≤ 7) (d : Nat) : ∀ (i n : Int) (l : List Int), 0 ≤ i → i + d = w → 0 ≤ n → n ≤ 9223372036854775807 → l.length ≤ i.toNat →
    Ev (fun k => spec_EncodeFixed.l0 k n w (strOfNums l) i) (if dv d n > 0 then strOfNums [] else strOfNums (be d n ++ l)) := by
  induction d with
  | zero =>
    intro i n l h0 h1 h2 h3 h4
    refine Ev.step (fun k => spec_EncodeFixed.l0.eq_2 ..) (ev_neg (by omega) ?_)
    show Ev _ (if n > 0 then strOfNums [] else strOfNums l)
    refine ev_ite (fun h => ?_) (fun h => ?_)
    · rw [if_pos h]
      exact Ev.now _
    · rw [if_neg h]
      exact Ev.now _
  | succ d ih =>
    intro i n l h0 h1 h2 h3 h4
    refine Ev.step (fun k => spec_EncodeFixed.l0.eq_2 ..) (ev_pos (by omega) (ev_bindo rfl (ev_pos ?_ ?_)))
    · rw [strOfNums_size, strOfNums_size]; simp; omega
    · have e1 : Int.tdiv n 256 = n / 256 := Int.tdiv_eq_ediv_of_nonneg h2
      have e2 : Int.tmod n 256 = n % 256 := Int.tmod_eq_emod_of_nonneg h2
      have e3 : n % 256 % 256 = n % 256 := by omega
      rw [e1, e2, e3, w64 (by omega) (by omega), w64 (n := i + 1) (by omega) (by omega), ← str_app]
      have := ih (i + 1) (n / 256) ([n % 256] ++ l) (by omega) (by omega) (by omega) (by omega) (by simp; omega)
      rw [← List.append_assoc] at this
      exact this
theorem impl_loop (d : Nat) : ∀ (n : Int) (a b : List Int), a.length = d → d ≤ 7 →
    Ev (fun k => impl_EncodeFixed.l0 k n (a ++ b) ((d : Int) - 1)) (strOfNums (be d n ++ b)) := by
  induction d with
  | zero =>
    intro n a b h1 h2
    refine Ev.step (fun k => impl_EncodeFixed.l0.eq_2 ..) (ev_neg (by omega) ?_)
    rw [List.eq_nil_of_length_eq_zero h1]
    exact Ev.now _
  | succ d ih =>
    intro n a b h1 h2
    refine Ev.step (fun k => impl_EncodeFixed.l0.eq_2 ..) (ev_pos (by omega) (ev_pos (by omega) (ev_pos (by simp [h1]; omega) ?_)))
    have e1 : ((d + 1 : Nat) : Int) - 1 = (d : Int) := by omega
    have e2 : ((d : Int)).toNat = d := by omega
    obtain ⟨a', x, rfl⟩ : ∃ a' x, a = a' ++ [x] := ⟨a.dropLast, a.getLast (by intro h; simp [h] at h1), (List.dropLast_concat_getLast _).symm⟩
    have h3 : a'.length = d := by simpa using h1
    have e3 : ((a' ++ [x]) ++ b).set d (n % 256) = a' ++ ([n % 256] ++ b) := by
      rw [List.append_assoc, List.set_append_right _ _ (by omega), h3, Nat.sub_self]
      rfl
    rw [e1, e2, e3, w64 (by omega) (by omega)]
    have := ih (n / 256) a' ([n % 256] ++ b) h3 (by omega)
    refine ev_eq this ?_
    simp only [be, List.append_assoc]
theorem dv_shl (d : Nat) (h1 : 1 ≤ d) (h2 : d ≤ 7) (n : Int) : dv d n > 0 ↔ ¬ n ≤ wrap64 ((shl .i64 1 (wrap64 (8 * (d : Int)))) - 1) := by
  match d, h1, h2 with
  | 1, _, _ => rw [show wrap64 ((shl .i64 1 (wrap64 (8 * ((1 : Nat) : Int)))) - 1) = 255 by decide +kernel]; simp only [dv]; omega
  | 2, _, _ => rw [show wrap64 ((shl .i64 1 (wrap64 (8 * ((2 : Nat) : Int)))) - 1) = 65535 by decide +kernel]; simp only [dv]; omega
  | 3, _, _ => rw [show wrap64 ((shl .i64 1 (wrap64 (8 * ((3 : Nat) : Int)))) - 1) = 16777215 by decide +kernel]; simp only [dv]; omega
  | 4, _, _ => rw [show wrap64 ((shl .i64 1 (wrap64 (8 * ((4 : Nat) : Int)))) - 1) = 4294967295 by decide +kernel]; simp only [dv]; omega
  | 5, _, _ => rw [show wrap64 ((shl .i64 1 (wrap64 (8 * ((5 : Nat) : Int)))) - 1) = 1099511627775 by decide +kernel]; simp only [dv]; omega
  | 6, _, _ => rw [show wrap64 ((shl .i64 1 (wrap64 (8 * ((6 : Nat) : Int)))) - 1) = 281474976710655 by decide +kernel]; simp only [dv]; omega
  | 7, _, _ => rw [show wrap64 ((shl .i64 1 (wrap64 (8 * ((7 : Nat) : Int)))) - 1) = 72057594037927935 by decide +kernel]; simp only [dv]; omega
/-- What both give. -/
def fixedOf (n w : Int) : ByteArray := if 1 ≤ w ∧ w ≤ 7 ∧ 0 ≤ n ∧ ¬ dv w.toNat n > 0 then strOfNums (be w.toNat n) else strOfNums []
theorem spec_fixed (n w : Int) (hn : n ≤ 9223372036854775807) : Ev (fun k => spec_EncodeFixed.f k n w) (fixedOf n w) := by
  unfold spec_EncodeFixed.f spec_l1In.f fixedOf
  by_cases h1 : 1 ≤ w
  · by_cases h2 : w ≤ 7
    · simp only [ge_iff_le, h1, h2, if_true, decide_true, Option.bind_some, true_and]
      refine Ev.step (fun k => spec_EncodeFixed.j0.eq_2 ..) ?_
      by_cases h3 : n < 0
      · refine ev_pos (by simp [h3]) ?_
        rw [if_neg (by omega)]
        exact Ev.now _
      · refine ev_neg (by simp [h3]) ?_
        have := spec_loop w h2 w.toNat 0 n [] (by omega) (by omega) (by omega) hn (by simp)
        refine ev_eq this ?_
        by_cases h4 : dv w.toNat n > 0
        · rw [if_pos h4, if_neg (by simp [h4])]
        · rw [if_neg h4, if_pos ⟨by omega, h4⟩, List.append_nil]
    · simp only [ge_iff_le, h1, h2, if_true, decide_false, Bool.false_eq_true, if_false, Option.bind_some, false_and, and_false]
      exact Ev.step (fun k => spec_EncodeFixed.j0.eq_2 ..) (ev_pos rfl (Ev.now _))
  · simp only [ge_iff_le, h1, if_false, Bool.false_eq_true, Option.bind_some, false_and]
    exact Ev.step (fun k => spec_EncodeFixed.j0.eq_2 ..) (ev_pos rfl (Ev.now _))
theorem impl_fixed (n w : Int) (hn : n ≤ 9223372036854775807) : Ev (fun k => impl_EncodeFixed.f k n w) (fixedOf n w) := by
  unfold impl_EncodeFixed.f impl_in.f fixedOf
  by_cases h1 : 1 ≤ w
  · by_cases h2 : w ≤ 7
    · simp only [h1, h2, if_true, decide_true, Option.bind_some, true_and]
      refine ev_pos (by rw [w64 (by omega) (by omega)]; omega) ?_
      have hd := dv_shl w.toNat (by omega) (by omega) n
      rw [show ((w.toNat : Nat) : Int) = w by omega] at hd
      by_cases h3 : 0 ≤ n
      · by_cases h4 : n ≤ wrap64 ((shl .i64 1 (wrap64 (8 * w))) - 1)
        · simp only [h3, h4, if_true, decide_true, Option.bind_some, true_and, Bool.not_true]
          have h5 : ¬ dv w.toNat n > 0 := fun h => hd.1 h h4
          refine Ev.step (fun k => impl_EncodeFixed.j0.eq_2 ..) (ev_neg (by simp) (ev_pos (by omega) (ev_pos (by omega) ?_)))
          rw [if_pos h5, w64 (by omega) (by omega)]
          have := impl_loop w.toNat n (List.replicate w.toNat 0) [] (by simp) (by omega)
          rw [List.append_nil, List.append_nil, show ((w.toNat : Nat) : Int) = w by omega] at this
          exact this
        · simp only [h3, h4, if_true, decide_false, Option.bind_some, true_and, Bool.not_false]
          have h5 : dv w.toNat n > 0 := hd.2 h4
          rw [if_neg (fun h => h h5)]
          exact Ev.step (fun k => impl_EncodeFixed.j0.eq_2 ..) (ev_pos rfl (Ev.now _))
      · simp only [h3, if_false, Option.bind_some, Bool.not_false, false_and]
        exact Ev.step (fun k => impl_EncodeFixed.j0.eq_2 ..) (ev_pos rfl (Ev.now _))
    · simp only [h1, h2, if_true, decide_false, Bool.false_eq_true, if_false, Option.bind_some, false_and, and_false]
      exact Ev.step (fun k => impl_EncodeFixed.j0.eq_2 ..) (ev_pos rfl (Ev.now _))
  · simp only [h1, if_false, Bool.false_eq_true, Option.bind_some, false_and]
    exact Ev.step (fun k => impl_EncodeFixed.j0.eq_2 ..) (ev_pos rfl (Ev.now _))
theorem or128 (x : Int) (h0 : 0 ≤ x) (h1 : x < 256) : Go.bits .or .u8 x 128 = 128 + x % 128 := by
  rw [u8_or x 128 h0 (by omega) (by omega) (by omega)]
  have hd : ∀ a : Nat, a < 256 → a ||| 128 = 128 + a % 128 := by decide +kernel
  have := hd x.toNat (by omega)
  show ((x.toNat ||| 128 : Nat) : Int) = _
  rw [this]
  omega
theorem and15 (x : Int) (h0 : 0 ≤ x) (h1 : x < 256) : Go.bits .and .u8 x 15 = x % 16 := bits_mask .u8 8 (by decide) wraps_u8 4 (by decide) x h0 (by omega)
theorem or_hex (a b : Int) (ha : 0 ≤ a) (ha1 : a < 16) (hb : 0 ≤ b) (hb1 : b < 16) : Go.bits .or .i64 (wrap64 (a * 16)) b = a * 16 + b := by
  rw [w64 (by omega) (by omega)]
  exact or_add 4 (a * 16) b (by omega) (by omega) (by omega) hb (by omega) (by omega)
theorem impl_enc (d : Nat) : ∀ (n : Int) (l : List Int), 0 ≤ n → n < 128 * p7 d → n ≤ 9223372036854775807 → l.length + d ≤ 1000 →
    Ev (fun k => impl_EncodeVarint.l0 k n l) (strOfNums (l ++ encd d n)) := by
  induction d with
  | zero =>
    intro n l h0 h1 h2 h3
    have h4 : n < 128 := by simpa [p7] using h1
    refine Ev.step (fun k => impl_EncodeVarint.l0.eq_2 ..) (ev_neg (by omega) (ev_pos (by omega) ?_))
    rw [show n % 256 = n by omega]
    exact Ev.now _
  | succ d ih =>
    intro n l h0 h1 h2 h3
    have h4 : n < 128 * (p7 d * 128) := h1
    by_cases hn : n < 128
    · refine Ev.step (fun k => impl_EncodeVarint.l0.eq_2 ..) (ev_neg (by omega) (ev_pos (by omega) ?_))
      rw [show n % 256 = n by omega]
      simp only [encd]
      rw [if_pos hn]
      exact Ev.now _
    · refine Ev.step (fun k => impl_EncodeVarint.l0.eq_2 ..) (ev_pos (by omega) (ev_pos (by omega) ?_))
      rw [or128 (n % 256) (by omega) (by omega), show (n % 256) % 128 = n % 128 by omega]
      have := ih (n / 128) (l ++ [128 + n % 128]) (by omega) (by omega) (by omega) (by simp; omega)
      simp only [encd]
      rw [if_neg hn]
      rw [List.append_assoc] at this
      exact this
/-- What the program makes of a number. -/
def vOf (n : Int) : List Int := if 0 ≤ n ∧ n ≤ 562949953421311 then encd 6 n else []
theorem impl_vint (n : Int) : Ev (fun k => impl_EncodeVarint.f k n) (strOfNums (vOf n)) := by
  unfold impl_EncodeVarint.f vOf
  refine ev_bindo (impl_in_ _ _ _) ?_
  by_cases h : 0 ≤ n ∧ n ≤ 562949953421311
  · rw [if_pos h]
    exact ev_pos (decide_eq_true h) (impl_enc 6 n [] h.1 (by rw [p7_6]; omega) (by omega) (by simp))
  · rw [if_neg h]
    exact ev_neg (by simpa using h) (Ev.now _)
theorem val_enc (s : ByteArray) (e : Nat) : ∀ (n i : Int), 0 ≤ n → n < 128 * p7 e → lst s (encd e n).length i = encd e n →
    valr s (encd e n).length i = n ∧ Own s (encd e n).length i := by
  have one : ∀ n i : Int, 0 ≤ n → n < 128 → lst s 1 i = [n] → valr s 1 i = n ∧ Own s 1 i := by
    intro n i h0 h1 h
    have hb : bt s i = n := by simpa [lst] using h
    refine ⟨by simp only [valr]; omega, ?_⟩
    unfold Own
    rw [show i + ((1 : Nat) : Int) - 1 = i by omega]
    exact ⟨fun j hj => by omega, by omega, .inl rfl⟩
  induction e with
  | zero =>
    intro n i h0 h1 h
    exact one n i h0 (by simpa [p7] using h1) h
  | succ e ih =>
    intro n i h0 h1 h
    have h4 : n < 128 * (p7 e * 128) := h1
    by_cases hn : n < 128
    · have e1 : encd (e + 1) n = [n] := by simp only [encd]; rw [if_pos hn]
      rw [e1] at h ⊢
      exact one n i h0 hn h
    · have e1 : encd (e + 1) n = (128 + n % 128) :: encd e (n / 128) := by simp only [encd]; rw [if_neg hn]
      rw [e1] at h ⊢
      rw [List.length_cons] at h ⊢
      have h5 : bt s i :: lst s (encd e (n / 128)).length (i + 1) = (128 + n % 128) :: encd e (n / 128) := h
      rw [List.cons.injEq] at h5
      obtain ⟨h6, h7⟩ := h5
      obtain ⟨h8, h9, h10, h11⟩ := ih (n / 128) (i + 1) (by omega) (by omega) h7
      obtain ⟨m, hm⟩ : ∃ m, (encd e (n / 128)).length = m := ⟨_, rfl⟩
      rw [hm] at h8 h9 h10 h11 ⊢
      have hlast : i + ((m + 1 : Nat) : Int) - 1 = i + 1 + (m : Int) - 1 := by omega
      refine ⟨?_, ?_, ?_, ?_⟩
      · show bt s i % 128 + 128 * valr s m (i + 1) = n
        omega
      · intro j hj
        cases j with
        | zero => rw [show i + ((0 : Nat) : Int) = i by omega]; omega
        | succ j =>
          have := h9 j (by omega)
          rwa [show i + ((j + 1 : Nat) : Int) = i + 1 + (j : Int) by omega]
      · rw [hlast]; exact h10
      · refine .inr ?_
        rw [hlast]
        rcases h11 with h11 | h11
        · subst h11
          rw [show i + 1 + ((1 : Nat) : Int) - 1 = i + 1 by omega]
          have : bt s (i + 1) % 128 + 128 * 0 = n / 128 := h8
          omega
        · exact h11
theorem dec_at (s : ByteArray) (m : Nat) (hm : m ≤ 6) (hs : m < s.size) (ho : Own s (m + 1) 0) (d : Nat) : ∀ i : Nat, i + d = m → Ev (fun k => impl_DecodeVarint.l0 k s (valr s i 0) (i : Int)) (valr s (m + 1) 0, ((m + 1 : Nat) : Int)) := by
  obtain ⟨h1, h2, h3⟩ := ho
  rw [show (0 : Int) + ((m + 1 : Nat) : Int) - 1 = (m : Int) by omega] at h2 h3
  induction d with
  | zero =>
    intro i hi
    obtain rfl : i = m := by omega
    refine impl_round s i hm (by omega) _ (ev_pos h2 ?_)
    by_cases h4 : (i : Int) > 0
    · refine ev_pos h4 (ev_neg ?_ (Ev.now _))
      rcases h3 with h3 | h3
      · omega
      · exact h3
    · exact ev_neg h4 (Ev.now _)
  | succ d ih =>
    intro i hi
    have := h1 i (by omega)
    rw [Int.zero_add] at this
    exact impl_round s i (by omega) (by omega) _ (ev_neg (by omega) (ih (i + 1) (by omega)))
theorem dec_any (s : ByteArray) (d : Nat) : ∀ i : Nat, i + d = 7 → ∃ r, Ev (fun k => impl_DecodeVarint.l0 k s (valr s i 0) (i : Int)) r := by
  induction d with
  | zero =>
    intro i hi
    refine ⟨(0, 0), Ev.step (fun k => impl_DecodeVarint.l0.eq_2 ..) ?_⟩
    by_cases hs : (i : Int) < (s.size : Int)
    · exact ev_pos hs (Ev.step (fun k => impl_DecodeVarint.j1.eq_2 ..) (ev_neg (by simp; omega) (Ev.now _)))
    · exact ev_neg hs (Ev.step (fun k => impl_DecodeVarint.j1.eq_2 ..) (ev_neg (by simp) (Ev.now _)))
  | succ d ih =>
    intro i hi
    by_cases hs : (i : Int) < (s.size : Int)
    · by_cases h1 : bt s (i : Int) < 128
      · by_cases h3 : (i : Int) > 0
        · by_cases h4 : bt s (i : Int) = 0
          · exact ⟨_, impl_round s i (by omega) hs _ (ev_pos h1 (ev_pos h3 (ev_pos h4 (Ev.now _))))⟩
          · exact ⟨_, impl_round s i (by omega) hs _ (ev_pos h1 (ev_pos h3 (ev_neg h4 (Ev.now _))))⟩
        · exact ⟨_, impl_round s i (by omega) hs _ (ev_pos h1 (ev_neg h3 (Ev.now _)))⟩
      · obtain ⟨r, hr⟩ := ih (i + 1) (by omega)
        exact ⟨r, impl_round s i (by omega) hs _ (ev_neg h1 hr)⟩
    · exact ⟨(0, 0), Ev.step (fun k => impl_DecodeVarint.l0.eq_2 ..) (ev_neg hs (Ev.step (fun k => impl_DecodeVarint.j1.eq_2 ..) (ev_neg (by simp) (Ev.now _))))⟩
theorem bt_mid (p a : List Int) (x : Int) (h0 : 0 ≤ x) (h1 : x < 256) (t : ByteArray) : bt (strOfNums (p ++ x :: a) ++ t) ((p.length : Nat) : Int) = x := by
  have hd : (strOfNums (p ++ x :: a) ++ t).data.toList = p.map (fun n => n.toNat.toUInt8) ++ (x.toNat.toUInt8 :: (a.map (fun n => n.toNat.toUInt8) ++ t.data.toList)) := by
    rw [ByteArray.data_append, Array.toList_append, strOfNums_data]
    simp
  rw [bt_at _ _ (by rw [hd]; simp)]
  have : (strOfNums (p ++ x :: a) ++ t).data.toList[p.length]'(by rw [hd]; simp) = x.toNat.toUInt8 := by
    simp only [hd]
    rw [List.getElem_append_right (by simp)]
    simp
  rw [this, UInt8.toNat_ofNat']
  omega
theorem lst_str (t : ByteArray) (a : List Int) : ∀ p : List Int, (∀ x ∈ a, 0 ≤ x ∧ x < 256) → lst (strOfNums (p ++ a) ++ t) a.length ((p.length : Nat) : Int) = a := by
  induction a with
  | nil => intro p _; rfl
  | cons x a ih =>
    intro p h
    have hx := h x (by simp)
    have := ih (p ++ [x]) (fun y hy => h y (by simp [hy]))
    show bt _ _ :: lst _ a.length _ = _
    rw [bt_mid p a x hx.1 hx.2 t]
    congr 1
    rw [List.append_assoc] at this
    have e : ((p.length : Nat) : Int) + 1 = (((p ++ [x]).length : Nat) : Int) := by simp
    rw [e]
    exact this
theorem lst_str0 (t : ByteArray) (a : List Int) (h : ∀ x ∈ a, 0 ≤ x ∧ x < 256) : lst (strOfNums a ++ t) a.length 0 = a := lst_str t a [] h
theorem encd_len (e : Nat) : ∀ n, 1 ≤ (encd e n).length ∧ (encd e n).length ≤ e + 1 := by
  induction e with
  | zero => intro n; exact ⟨Nat.le_refl _, Nat.le_refl _⟩
  | succ e ih =>
    intro n
    have := ih (n / 128)
    simp only [encd]
    split
    · simp
    · simp only [List.length_cons]; omega
theorem nums_emp {a : List Int} (h : a ≠ []) : ¬ (strOfNums a).toList = [] := by
  rw [Go.Lib.toList_data, strOfNums_data]
  simpa using h
theorem nums_nil : (strOfNums []).toList = ([] : List UInt8) := by rw [Go.Lib.toList_data, strOfNums_data]; rfl
theorem size_app (a b : ByteArray) : (a ++ b).size = a.size + b.size := by
  rw [ByteArray.size_append]
/-- The number read back. -/
theorem back (n : Int) (h0 : 0 ≤ n) (h1 : n ≤ 562949953421311) (t : ByteArray) : Ev (fun k => impl_DecodeVarint.f k (strOfNums (encd 6 n) ++ t)) (n, ((encd 6 n).length : Int)) := by
  have hb : n < 128 * p7 6 := by rw [p7_6]; omega
  have hl := encd_len 6 n
  have hs : lst (strOfNums (encd 6 n) ++ t) (encd 6 n).length 0 = encd 6 n := lst_str0 t _ (encd_byte 6 n h0 hb)
  obtain ⟨h2, h3⟩ := val_enc _ 6 n 0 h0 hb hs
  have hsz : (strOfNums (encd 6 n) ++ t).size = (encd 6 n).length + t.size := by rw [size_app, strOfNums_size]
  obtain ⟨m, hm⟩ : ∃ m, (encd 6 n).length = m + 1 := ⟨(encd 6 n).length - 1, by omega⟩
  rw [hm] at h2 h3 hsz ⊢
  have := dec_at (strOfNums (encd 6 n) ++ t) m (by omega) (by omega) h3 m 0 (by omega)
  rw [h2] at this
  exact this
/-- 256 to the power i. -/
def p8 : Nat → Int
  | 0 => 1
  | d + 1 => p8 d * 256
theorem dv_lt (d : Nat) : ∀ n, 0 ≤ n → ¬ dv d n > 0 → n < p8 d := by
  induction d with
  | zero => intro n h0 h; have : ¬ n > 0 := h; show n < 1; omega
  | succ d ih =>
    intro n h0 h
    have := ih (n / 256) (by omega) h
    show n < p8 d * 256
    omega
theorem p8_le (d : Nat) (h : d ≤ 7) : p8 d ≤ 72057594037927936 := by
  match d, h with
  | 0, _ => decide
  | 1, _ => decide
  | 2, _ => decide
  | 3, _ => decide
  | 4, _ => decide
  | 5, _ => decide
  | 6, _ => decide
  | 7, _ => decide
theorem dv_succ (d : Nat) : ∀ n, dv (d + 1) n = dv d n / 256 := by
  induction d with
  | zero => intro n; rfl
  | succ d ih => intro n; exact ih (n / 256)
theorem dv_nn (d : Nat) : ∀ n, 0 ≤ n → 0 ≤ dv d n ∧ dv d n ≤ n := by
  induction d with
  | zero => intro n h; exact ⟨h, Int.le_refl _⟩
  | succ d ih =>
    intro n h
    have := ih (n / 256) (by omega)
    show 0 ≤ dv d (n / 256) ∧ dv d (n / 256) ≤ n
    omega
theorem lst_snoc (s : ByteArray) (d : Nat) : ∀ i : Int, lst s (d + 1) i = lst s d i ++ [bt s (i + d)] := by
  induction d with
  | zero => intro i; simp [lst]
  | succ d ih =>
    intro i
    show bt s i :: lst s (d + 1) (i + 1) = (bt s i :: lst s d (i + 1)) ++ [bt s (i + ((d + 1 : Nat) : Int))]
    rw [ih (i + 1), show i + 1 + (d : Int) = i + ((d + 1 : Nat) : Int) by omega]
    rfl
theorem be_at (s : ByteArray) (d : Nat) : ∀ n : Int, lst s d 0 = be d n → ∀ j e : Nat, j + e + 1 = d → bt s (j : Int) = dv e n % 256 := by
  induction d with
  | zero => intro n _ j e h; omega
  | succ d ih =>
    intro n h j e hj
    rw [lst_snoc] at h
    simp only [be] at h
    obtain ⟨h1, h2⟩ := List.append_inj' h rfl
    rw [List.cons.injEq, Int.zero_add] at h2
    cases e with
    | zero =>
      obtain rfl : j = d := by omega
      exact h2.1
    | succ e => exact ih (n / 256) h1 j e (by omega)
theorem fix_at (s : ByteArray) (n : Int) (h0 : 0 ≤ n) (w : Nat) (hw : w ≤ 7) (hs : w ≤ s.size) (hn : ¬ dv w n > 0) (hl : lst s w 0 = be w n) (d : Nat) : ∀ i : Nat, i + d = w →
    Ev (fun k => impl_DecodeFixed.l0 k s (dv d n) (w : Int) (i : Int)) (n, true) := by
  have hlt := dv_lt w n h0 hn
  have hp := p8_le w hw
  induction d with
  | zero =>
    intro i hi
    exact Ev.step (fun k => impl_DecodeFixed.l0.eq_2 ..) (ev_neg (by omega) (Ev.now _))
  | succ d ih =>
    intro i hi
    have g1 : (i : Int) < (w : Int) := by omega
    have g2 : 0 ≤ (i : Int) := by omega
    have g3 : (i : Int) < (s.size : Int) := by omega
    have g4 := ih (i + 1) (by omega)
    have hb := be_at s w n hl i d (by omega)
    have hd := dv_succ d n
    have hnn := dv_nn d n h0
    have e1 : wrap64 (bt s (i : Int)) = bt s (i : Int) := w64 (by omega) (by omega)
    have e2 : wrap64 (dv (d + 1) n * 256) = dv (d + 1) n * 256 := w64 (by omega) (by omega)
    have e4 : wrap64 ((i : Int) + 1) = ((i + 1 : Nat) : Int) := by rw [w64 (by omega) (by omega)]; omega
    have e5 : Go.bits .or .i64 (dv (d + 1) n * 256) (bt s (i : Int)) = dv d n := by
      rw [or_add 8 _ _ (by omega) (by omega) (by omega) (by omega) (by omega) (by omega)]
      omega
    refine Ev.step (fun k => impl_DecodeFixed.l0.eq_2 ..) (ev_pos g1 (ev_pos g2 (ev_pos g3 ?_)))
    rw [e1, e2, e5, e4]
    exact g4
theorem fix_any (s : ByteArray) (w : Int) (hw : w ≤ 7) (hs : w ≤ (s.size : Int)) (d : Nat) : ∀ (i n : Int), 0 ≤ i → i + d = w → ∃ r, Ev (fun k => impl_DecodeFixed.l0 k s n w i) r := by
  induction d with
  | zero =>
    intro i n h0 h1
    exact ⟨_, Ev.step (fun k => impl_DecodeFixed.l0.eq_2 ..) (ev_neg (by omega) (Ev.now _))⟩
  | succ d ih =>
    intro i n h0 h1
    obtain ⟨r, hr⟩ := ih (i + 1) (Go.bits .or .i64 (wrap64 (n * 256)) (wrap64 (bt s i))) (by omega) (by omega)
    refine ⟨r, Ev.step (fun k => impl_DecodeFixed.l0.eq_2 ..) (ev_pos (by omega) (ev_pos h0 (ev_pos (by omega) ?_)))⟩
    rw [w64 (n := i + 1) (by omega) (by omega)]
    exact hr
theorem fixed_any (s : ByteArray) (w : Int) : ∃ r, Ev (fun k => impl_DecodeFixed.f k s w) r := by
  unfold impl_DecodeFixed.f
  by_cases h : 1 ≤ w ∧ w ≤ 7
  · by_cases h3 : (s.size : Int) < w
    · exact ⟨_, ev_bindo (impl_in_ _ _ _) (ev_pos (decide_eq_true h) (Ev.step (fun k => impl_DecodeFixed.j0.eq_2 ..) (ev_pos (decide_eq_true h3) (Ev.now _))))⟩
    · obtain ⟨r, hr⟩ := fix_any s w h.2 (by omega) w.toNat 0 0 (Int.le_refl _) (by omega)
      exact ⟨r, ev_bindo (impl_in_ _ _ _) (ev_pos (decide_eq_true h) (Ev.step (fun k => impl_DecodeFixed.j0.eq_2 ..) (ev_neg (by simpa using h3) hr)))⟩
  · exact ⟨_, ev_bindo (impl_in_ _ _ _) (ev_neg (by simpa using h) (Ev.step (fun k => impl_DecodeFixed.j0.eq_2 ..) (ev_pos rfl (Ev.now _))))⟩
theorem be_byte (d : Nat) : ∀ n, ∀ x ∈ be d n, 0 ≤ x ∧ x < 256 := by
  induction d with
  | zero => intro n x hx; simp [be] at hx
  | succ d ih =>
    intro n x hx
    simp only [be, List.mem_append, List.mem_singleton] at hx
    rcases hx with hx | rfl
    · exact ih _ x hx
    · omega
theorem fixed_back (n w : Int) (h1 : 1 ≤ w) (h7 : w ≤ 7) (h0 : 0 ≤ n) (hn : ¬ dv w.toNat n > 0) (t : ByteArray) : Ev (fun k => impl_DecodeFixed.f k (strOfNums (be w.toNat n) ++ t) w) (n, true) := by
  have hs : (strOfNums (be w.toNat n) ++ t).size = w.toNat + t.size := by rw [size_app, strOfNums_size, be_len]
  have hl := lst_str0 t (be w.toNat n) (be_byte _ n)
  rw [be_len] at hl
  have hz := dv_nn w.toNat n h0
  have := fix_at _ n h0 w.toNat (by omega) (by omega) hn hl w.toNat 0 (by omega)
  rw [show dv w.toNat n = 0 by omega, show ((w.toNat : Nat) : Int) = w by omega] at this
  unfold impl_DecodeFixed.f
  refine ev_bindo (impl_in_ _ _ _) (ev_pos (decide_eq_true ⟨h1, h7⟩) (Ev.step (fun k => impl_DecodeFixed.j0.eq_2 ..) (ev_neg ?_ this)))
  rw [hs]
  simp
  omega
/-- A digit of sixteen. -/
def hd (x : Int) : Int := bt (⟨#[48, 49, 50, 51, 52, 53, 54, 55, 56, 57, 97, 98, 99, 100, 101, 102]⟩ : ByteArray) x
/-- The digits of the d bytes from i on. -/
def hxl (s : ByteArray) : Nat → Int → List Int
  | 0, _ => []
  | d + 1, i => hd (bt s i / 16) :: hd (bt s i % 16) :: hxl s d (i + 1)
theorem hxl_len (s : ByteArray) (d : Nat) : ∀ i, (hxl s d i).length = 2 * d := by
  induction d with
  | zero => intro i; rfl
  | succ d ih => intro i; simp only [hxl, List.length_cons, ih]; omega
theorem hxl_byte (s : ByteArray) (d : Nat) : ∀ i, ∀ x ∈ hxl s d i, 0 ≤ x ∧ x < 256 := by
  induction d with
  | zero => intro i x hx; simp [hxl] at hx
  | succ d ih =>
    intro i x hx
    simp only [hxl, List.mem_cons] at hx
    rcases hx with rfl | rfl | hx
    · have := bt_range (⟨#[48, 49, 50, 51, 52, 53, 54, 55, 56, 57, 97, 98, 99, 100, 101, 102]⟩ : ByteArray) (bt s i / 16); unfold hd; omega
    · have := bt_range (⟨#[48, 49, 50, 51, 52, 53, 54, 55, 56, 57, 97, 98, 99, 100, 101, 102]⟩ : ByteArray) (bt s i % 16); unfold hd; omega
    · exact ih _ x hx
theorem eh_at (s : ByteArray) (hs : s.size ≤ 1048576) (d : Nat) : ∀ (i : Nat) (acc : List Int), i + d = s.size → acc.length ≤ 2 * i →
    Ev (fun k => impl_EncodeHex.l0 k s acc (s.size : Int) (i : Int)) (strOfNums (acc ++ hxl s d (i : Int))) := by
  induction d with
  | zero =>
    intro i acc hi ha
    refine Ev.step (fun k => impl_EncodeHex.l0.eq_2 ..) (ev_neg (by omega) ?_)
    rw [show acc ++ hxl s 0 (i : Int) = acc from List.append_nil acc]
    exact Ev.now _
  | succ d ih =>
    intro i acc hi ha
    obtain ⟨hb0, hb1⟩ := bt_range s (i : Int)
    have e3 : Go.bits .and .u8 (bt s (i : Int)) 15 = bt s (i : Int) % 16 := and15 _ hb0 (by omega)
    have := ih (i + 1) (acc ++ [hd (bt s (i : Int) / 16), hd (bt s (i : Int) % 16)]) (by omega) (by simp; omega)
    refine Ev.step (fun k => impl_EncodeHex.l0.eq_2 ..) (ev_pos (by omega) (ev_pos (by omega) (ev_pos (by omega) ?_)))
    rw [e3]
    refine ev_pos (by omega) (ev_pos (by omega) (ev_pos (by omega) (ev_pos (by omega) (ev_bindo rfl (ev_pos (by simp; omega) ?_)))))
    rw [show wrap64 ((i : Int) + 1) = ((i + 1 : Nat) : Int) from w64 (by omega) (by omega)]
    rw [List.append_assoc] at this
    exact this
theorem hex_enc (s : ByteArray) (hs : s.size ≤ 1048576) : Ev (fun k => impl_EncodeHex.f k s) (strOfNums (hxl s s.size 0)) := by
  unfold impl_EncodeHex.f
  rw [w64 (n := 2 * (s.size : Int)) (by omega) (by omega)]
  exact ev_pos (by omega) (ev_pos (by omega) (eh_at s hs s.size 0 [] (by omega) (by simp)))
set_option maxRecDepth 100000 in
theorem ix_dec : ∀ v : Nat, v < 16 → Lib.indexByte (⟨#[48, 49, 50, 51, 52, 53, 54, 55, 56, 57, 97, 98, 99, 100, 101, 102]⟩ : ByteArray).data.toList (hd (v : Int)).toNat.toUInt8 = (v : Int) := by decide
theorem ix_hd (v : Int) (h0 : 0 ≤ v) (h1 : v < 16) : strings_IndexByte.f (⟨#[48, 49, 50, 51, 52, 53, 54, 55, 56, 57, 97, 98, 99, 100, 101, 102]⟩ : ByteArray) (hd v) = some v := by
  obtain ⟨n, rfl⟩ := Int.eq_ofNat_of_zero_le h0
  unfold strings_IndexByte.f
  rw [ix_dec n (by omega)]
theorem dh_at (s h : ByteArray) (hs : s.size ≤ 1048576) (hz : h.size = 2 * s.size) (d : Nat) : ∀ (i : Nat) (acc : List Int), i + d = s.size → acc.length ≤ i → lst h (2 * d) (2 * (i : Int)) = hxl s d (i : Int) →
    Ev (fun k => impl_DecodeHex.l0 k h acc (2 * (i : Int))) (strOfNums (acc ++ lst s d (i : Int)), true) := by
  induction d with
  | zero =>
    intro i acc hi ha hl
    refine Ev.step (fun k => impl_DecodeHex.l0.eq_2 ..) (ev_neg (by omega) ?_)
    rw [show acc ++ lst s 0 (i : Int) = acc from List.append_nil acc]
    exact Ev.now _
  | succ d ih =>
    intro i acc hi ha hl
    obtain ⟨hb0, hb1⟩ := bt_range s (i : Int)
    have hl2 : bt h (2 * (i : Int)) :: bt h (2 * (i : Int) + 1) :: lst h (2 * d) (2 * (i : Int) + 1 + 1) = hd (bt s (i : Int) / 16) :: hd (bt s (i : Int) % 16) :: hxl s d ((i : Int) + 1) := hl
    rw [List.cons.injEq, List.cons.injEq] at hl2
    obtain ⟨g1, g2, g3⟩ := hl2
    have e1 : wrap64 (2 * (i : Int) + 1) = 2 * (i : Int) + 1 := w64 (by omega) (by omega)
    have e2 : wrap64 (2 * (i : Int) + 2) = 2 * ((i + 1 : Nat) : Int) := by rw [w64 (by omega) (by omega)]; omega
    refine Ev.step (fun k => impl_DecodeHex.l0.eq_2 ..) (ev_pos (by omega) (ev_pos (by omega) ?_))
    rw [e1, e2, g1, g2]
    refine ev_bindo (ix_hd _ (by omega) (by omega)) (ev_pos (by omega) (ev_pos (by omega) (ev_bindo (ix_hd _ (by omega) (by omega)) (ev_neg (by omega) (ev_neg (by omega) (ev_pos (by omega) ?_))))))
    rw [or_hex _ _ (by omega) (by omega) (by omega) (by omega), show (bt s (i : Int) / 16 * 16 + bt s (i : Int) % 16) % 256 = bt s (i : Int) by omega]
    have := ih (i + 1) (acc ++ [bt s (i : Int)]) (by omega) (by simp; omega) (by
      rw [show 2 * ((i + 1 : Nat) : Int) = 2 * (i : Int) + 1 + 1 by omega, show ((i + 1 : Nat) : Int) = (i : Int) + 1 by omega]
      exact g3)
    rw [List.append_assoc] at this
    exact this
theorem str_all (s : ByteArray) : strOfNums (lst s s.size 0) = s := by
  rw [← lst_take s s.size (Nat.le_refl _)]
  apply ByteArray.ext
  rw [ByteArray.data_extract]
  exact Array.extract_size
theorem hex_back (s : ByteArray) (hs : s.size ≤ 1048576) : Ev (fun k => impl_DecodeHex.f k (strOfNums (hxl s s.size 0))) (s, true) := by
  have hz : (strOfNums (hxl s s.size 0)).size = 2 * s.size := by rw [strOfNums_size, hxl_len]
  have hl := lst_str0 (⟨#[]⟩ : ByteArray) (hxl s s.size 0) (hxl_byte s _ _)
  rw [hxl_len, show strOfNums (hxl s s.size 0) ++ (⟨#[]⟩ : ByteArray) = strOfNums (hxl s s.size 0) from by apply ByteArray.ext; simp [ByteArray.data_append]] at hl
  have := dh_at s _ hs hz s.size 0 [] (by omega) (by simp) hl
  rw [List.nil_append, show ((0 : Nat) : Int) = 0 from rfl, str_all] at this
  unfold impl_DecodeHex.f
  rw [hz, w64 (n := ((2 * s.size : Nat) : Int) / 2) (by omega) (by omega)]
  exact ev_pos (by omega) (ev_pos (by omega) (ev_pos (by omega) this))
theorem last (t : ByteArray) (ht : t.size ≤ 1000) (w : Int) (h0 : -9223372036854775808 ≤ w) (h1 : w ≤ 9223372036854775807) : Ev (fun k => laws_FnIntegerEncodings.j1 k t w false) true := by
  have hf : impl_FormatInt.f w = some (bs (Go.Lib.itoa w)) := by
    unfold impl_FormatInt.f
    rw [impl_fi w h0 h1]
    rfl
  have hsz : (bs (Go.Lib.itoa w)).size ≤ 1048576 := by
    rw [bs_size]
    unfold Go.Lib.itoa
    split
    · have := decDigits_len 18 w.natAbs (by omega)
      simp only [List.length_cons]
      omega
    · have := decDigits_len 18 w.toNat (by omega)
      omega
  refine Ev.step (fun k => laws_FnIntegerEncodings.j1.eq_2 ..) (ev_neg (by simp) (Ev.bind (hex_enc t (by omega)) (Ev.bind (hex_back t (by omega)) (ev_bindo hf (ev_bindo (impl_pi _ hsz) (ev_pos rfl (ev_pos rfl (ev_pos ?_ (Ev.bind (spec_fi w h0 h1) (ev_pos rfl ?_))))))))))
  · rw [strOfNums_size, hxl_len, w64 (by omega) (by omega)]
    omega
  · have e : (bs (Go.Lib.itoa w)).data.toList = Go.Lib.itoa w := by simp [bs]
    rw [e]
    by_cases hr : -999999999 ≤ w ∧ w ≤ 999999999
    · rw [pi_itoa w hr.1 hr.2]
      refine ev_pos rfl (ev_pos rfl (ev_pos (by omega) (ev_eq (Ev.now _) ?_)))
      show (true == decide (w < 1000000000)) = true
      rw [decide_eq_true (by omega)]
      rfl
    · rw [pi_no _ (fun n g0 g1 he => by
        have h := congrArg Go.Lib.atoi he
        rw [atoi_itoa, atoi_itoa] at h
        have := Option.some.inj h
        omega)]
      refine ev_neg (by simp) (ev_ite (fun h => ev_eq (Ev.now _) ?_) (fun h => Ev.now _))
      show (false == decide (w < 1000000000)) = true
      rw [decide_eq_false (by omega)]
      rfl
theorem middle (l : List Int) (hl : l.length ≤ 140737488351232) (t : ByteArray) (ht : t.size ≤ 1000) : Ev (fun k => laws_FnIntegerEncodings.j0 k l t false) true := by
  obtain ⟨s0, hnew⟩ := new_ok l
  obtain ⟨n, q, s1, en, n0, n1, hq⟩ := num_ok l hl 0 s0 (cur0 l)
  obtain ⟨b, q2, s2, eb, b0, b1, hq2⟩ := below_ok l hl q s1 hq 10 (by omega) (by omega)
  have hdraw : Ev (fun k => spec_DrawEncodeFixed.f k l) (n, wrap64 (b - 1)) := by
    unfold spec_DrawEncodeFixed.f
    exact Ev.bind hnew (ev_bindo en (ev_bindo eb (Ev.now _)))
  rw [w64 (by omega) (by omega)] at hdraw
  obtain ⟨w, hw⟩ : ∃ w, b - 1 = w := ⟨_, rfl⟩
  rw [hw] at hdraw
  refine Ev.step (fun k => laws_FnIntegerEncodings.j0.eq_2 ..) (ev_neg (by simp) (Ev.bind hdraw (Ev.bind (impl_fixed n w n1) ?_)))
  have hs := spec_fixed n w n1
  by_cases hc : 1 ≤ w ∧ w ≤ 7 ∧ 0 ≤ n ∧ ¬ dv w.toNat n > 0
  · have e : fixedOf n w = strOfNums (be w.toNat n) := by unfold fixedOf; rw [if_pos hc]
    rw [e] at hs
    show Ev (fun k => if (fixedOf n w).size + t.size ≤ 9223372036854775807 then _ else _) true
    rw [e]
    have hne : ¬ (strOfNums (be w.toNat n)).toList = [] := nums_emp (by intro h; have := congrArg List.length h; rw [be_len] at this; simp at this; omega)
    refine ev_pos (by rw [strOfNums_size, be_len]; omega) (Ev.bind (fixed_back n w hc.1 hc.2.1 hc.2.2.1 hc.2.2.2 t) (ev_neg hne (ev_pos rfl (ev_pos rfl (ev_pos ?_ (Ev.bind hs ?_))))))
    · rw [strOfNums_size, be_len]
      omega
    · rw [show (((strOfNums (be w.toNat n)).toList != ([] : List UInt8)) != ((strOfNums (be w.toNat n)).toList != ([] : List UInt8))) = false from by simp]
      exact last t ht n n0 n1
  · have e : fixedOf n w = strOfNums [] := by unfold fixedOf; rw [if_neg hc]
    rw [e] at hs
    show Ev (fun k => if (fixedOf n w).size + t.size ≤ 9223372036854775807 then _ else _) true
    rw [e]
    obtain ⟨r, hr⟩ := fixed_any (strOfNums [] ++ t) w
    refine ev_pos (by rw [strOfNums_size]; simp; omega) (Ev.bind hr (ev_pos nums_nil (Ev.bind hs (Ev.congr (fun k => by rw [bne_self_eq_false]) ?_))))
    exact last t ht n n0 n1
theorem FnIntegerEncodings : laws_FnIntegerEncodings.Pure := by
  intro l _ hl _
  refine Ev.rounds (g := fun k => laws_FnIntegerEncodings.f k l) ?_
  refine ev_bindo rfl ?_
  refine ev_ite (fun _ => Ev.now _) (fun _ => ?_)
  obtain ⟨s0, hnew⟩ := new_ok l
  obtain ⟨n, q, s1, en, n0, n1, hq⟩ := num_ok l (by omega) 0 s0 (cur0 l)
  obtain ⟨a, q2, s2, et, ha, hq2⟩ := text_ok l (by omega) 0 s0 (cur0 l) 40 (by omega) (by omega)
  have d1 : Ev (fun k => spec_DrawEncodeVarint.f k l) n := by
    unfold spec_DrawEncodeVarint.f
    exact Ev.bind hnew (ev_bindo en (Ev.now _))
  have d2 : Ev (fun k => spec_DrawEncodeHex.f k l) (strOfNums a) := by
    unfold spec_DrawEncodeHex.f
    exact Ev.bind hnew (Ev.bind et (Ev.now _))
  have hz : (strOfNums a).size ≤ 1000 := by rw [strOfNums_size]; omega
  refine Ev.bind d1 (Ev.bind d2 (Ev.bind (impl_vint n) ?_))
  have next := middle l (by omega) (strOfNums a) hz
  by_cases hc : 0 ≤ n ∧ n ≤ 562949953421311
  · rw [show vOf n = encd 6 n from if_pos hc]
    have hlen := encd_len 6 n
    have hne : ¬ (strOfNums (encd 6 n)).toList = [] := nums_emp (by intro h; rw [h] at hlen; simp at hlen)
    refine ev_pos (by rw [strOfNums_size]; omega) (Ev.bind (back n hc.1 hc.2 _) (ev_pos hc.1 (ev_neg ?_ (ev_neg hne (ev_pos rfl ?_)))))
    · rw [decide_eq_true hc.2]
      simpa using hne
    · rw [show ((((encd 6 n).length : Nat) : Int) != ((strOfNums (encd 6 n)).size : Int)) = false from by rw [strOfNums_size]; simp]
      exact next
  · rw [show vOf n = [] from if_neg hc]
    obtain ⟨r, hr⟩ := dec_any (strOfNums [] ++ strOfNums a) 7 0 (by omega)
    refine ev_pos (by rw [strOfNums_size]; simp; omega) (Ev.bind (a := r) hr ?_)
    refine ev_ite (fun h => ev_neg ?_ (ev_pos nums_nil next)) (fun h => ev_neg ?_ (ev_pos nums_nil next))
    · rw [decide_eq_false (by omega)]
      simp [Go.Lib.toList_data, strOfNums_data]
    · simp [Go.Lib.toList_data, strOfNums_data]

end Go.Proofs.YtacdaekigoldaaaDoor.Pure
