/- DecodeVarint of the program and of the reference answer alike for every string. No condition. -/
import Derived.Test.YthkmdiogaibbdaaPFnExactDecodeVarintx1
import Derived.Test.YthkmdiogaibbdaaMEv
import Derived.Lib.Bytes
namespace Go.Proofs.Ythkmdiogaibbdaa.Pure
open Go Go.RowKit Go.Proofs.Ythkmdiogaibbdaa.PFnExactDecodeVarint Go.Proofs.YthkmdiogaibbdaaW.PrintWords Go.Proofs.YthkmdiogaibbdaaW.PrintLast Go.Proofs.YthkmdiogaibbdaaW.PrintMore Go.Proofs.YthkmdiogaibbdaaM
set_option linter.unusedVariables false
set_option linter.unusedSimpArgs false

/-- 128 to the power i. -/
def p7 : Nat → Int
  | 0 => 1
  | d + 1 => p7 d * 128
/-- The number that the low seven bits of the d bytes from i on say, the lowest first. -/
def valr (s : ByteArray) : Nat → Int → Int
  | 0, _ => 0
  | d + 1, i => bt s i % 128 + 128 * valr s d (i + 1)
/-- The d bytes from i on. -/
def lst (s : ByteArray) : Nat → Int → List Int
  | 0, _ => []
  | d + 1, i => bt s i :: lst s d (i + 1)
/-- A number's bytes, d more than one at the most. -/
def encd : Nat → Int → List Int
  | 0, n => [n]
  | d + 1, n => if n < 128 then [n] else (128 + n % 128) :: encd d (n / 128)
theorem p7_pos (d : Nat) : 0 < p7 d := by
  induction d with
  | zero => exact Int.one_pos
  | succ d ih => show 0 < p7 d * 128; omega
theorem valr_bd (s : ByteArray) (d : Nat) : ∀ i, 0 ≤ valr s d i ∧ valr s d i < p7 d := by
  induction d with
  | zero => intro i; exact ⟨Int.le_refl _, Int.one_pos⟩
  | succ d ih =>
    intro i
    have h := ih (i + 1)
    have hb := bt_range s i
    show 0 ≤ bt s i % 128 + 128 * valr s d (i + 1) ∧ bt s i % 128 + 128 * valr s d (i + 1) < p7 d * 128
    omega
theorem valr_snoc (s : ByteArray) (d : Nat) : ∀ i : Int, valr s (d + 1) i = valr s d i + (bt s (i + d) % 128) * p7 d := by
  induction d with
  | zero => intro i; simp [valr, p7]
  | succ d ih =>
    intro i
    have h := ih (i + 1)
    show bt s i % 128 + 128 * valr s (d + 1) (i + 1) = (bt s i % 128 + 128 * valr s d (i + 1)) + (bt s (i + ((d + 1 : Nat) : Int)) % 128) * (p7 d * 128)
    rw [h, show i + ((d + 1 : Nat) : Int) = i + 1 + (d : Int) by omega, ← Int.mul_assoc]
    omega
theorem lst_len (s : ByteArray) (d : Nat) : ∀ i, (lst s d i).length = d := by
  induction d with
  | zero => intro i; rfl
  | succ d ih => intro i; simp [lst, ih]
/-- Nothing set: the highest byte says nothing. -/
theorem valr_zero (s : ByteArray) (d : Nat) : ∀ i : Int, valr s (d + 1) i = 0 → bt s (i + d) % 128 = 0 := by
  intro i h
  rw [valr_snoc] at h
  have h1 := (valr_bd s d i).1
  have h2 := p7_pos d
  have h3 : 0 ≤ bt s (i + d) % 128 := by omega
  rcases Int.lt_or_le 0 (bt s (i + d) % 128) with h4 | h4
  · have := Int.mul_pos h4 h2
    omega
  · omega
/-- These d bytes are a number's own. -/
def Own (s : ByteArray) (d : Nat) (i : Int) : Prop := (∀ j : Nat, j + 1 < d → 128 ≤ bt s (i + j)) ∧ bt s (i + d - 1) < 128 ∧ (d = 1 ∨ bt s (i + d - 1) ≠ 0)
theorem enc_own (s : ByteArray) (m : Nat) : ∀ (e : Nat) (i : Int), m ≤ e → (encd e (valr s (m + 1) i) = lst s (m + 1) i ↔ Own s (m + 1) i) := by
  induction m with
  | zero =>
    intro e i he
    have hb := bt_range s i
    have h1 : valr s 1 i = bt s i % 128 := by simp [valr]
    have h2 : encd e (bt s i % 128) = [bt s i % 128] := by
      cases e with
      | zero => rfl
      | succ e => simp only [encd]; rw [if_pos (by omega)]
    rw [h1, h2]
    simp only [lst, Own, Nat.zero_add, true_or, and_true, List.cons.injEq]
    rw [show i + ((1 : Nat) : Int) - 1 = i by omega]
    constructor
    · intro h; exact ⟨fun j hj => by omega, by omega⟩
    · intro h; omega
  | succ m ih =>
    intro e i he
    obtain ⟨e, rfl⟩ : ∃ x, e = x + 1 := ⟨e - 1, by omega⟩
    have hb := bt_range s i
    have hv := valr_bd s (m + 1) (i + 1)
    have hvd : valr s (m + 1 + 1) i = bt s i % 128 + 128 * valr s (m + 1) (i + 1) := rfl
    have hld : lst s (m + 1 + 1) i = bt s i :: lst s (m + 1) (i + 1) := rfl
    have hlast : i + 1 + ((m + 1 : Nat) : Int) - 1 = i + ((m + 1 + 1 : Nat) : Int) - 1 := by omega
    by_cases h0 : valr s (m + 1) (i + 1) = 0
    · have h1 := valr_zero s m (i + 1) h0
      have hb2 := bt_range s (i + 1 + m)
      rw [hvd, h0, hld]
      have h2 : encd (e + 1) (bt s i % 128 + 128 * 0) = [bt s i % 128] := by
        simp only [encd]
        rw [if_pos (by omega)]
        simp
      rw [h2]
      constructor
      · intro h
        have := congrArg List.length h
        simp [lst_len] at this
      · rintro ⟨_, h3, h4⟩
        rw [show i + ((m + 1 + 1 : Nat) : Int) - 1 = i + 1 + m by omega] at h3 h4
        rcases h4 with h4 | h4 <;> omega
    · rw [hvd, hld]
      have h2 : encd (e + 1) (bt s i % 128 + 128 * valr s (m + 1) (i + 1)) = (128 + bt s i % 128) :: encd e (valr s (m + 1) (i + 1)) := by
        simp only [encd]
        rw [if_neg (by omega)]
        congr 1
        · omega
        · congr 1
          omega
      rw [h2, List.cons.injEq, ih e (i + 1) (by omega)]
      constructor
      · rintro ⟨h3, h4, h5, h6⟩
        refine ⟨?_, by rw [← hlast]; exact h5, .inr ?_⟩
        · intro j hj
          cases j with
          | zero => simp; omega
          | succ j =>
            have := h4 j (by omega)
            rwa [show i + 1 + (j : Int) = i + ((j + 1 : Nat) : Int) by omega] at this
        · rw [← hlast]
          rcases h6 with h6 | h6
          · obtain rfl : m = 0 := by omega
            intro h7
            apply h0
            simp [valr, show i + 1 + ((0 + 1 : Nat) : Int) - 1 = i + 1 by omega] at h7 ⊢
            omega
          · exact h6
      · rintro ⟨h3, h4, h5⟩
        have h6 := h3 0 (by omega)
        refine ⟨by simp at h6; omega, ?_, by rw [hlast]; exact h4, ?_⟩
        · intro j hj
          have := h3 (j + 1) (by omega)
          rwa [show i + ((j + 1 : Nat) : Int) = i + 1 + (j : Int) by omega] at this
        · rw [hlast]
          rcases h5 with h5 | h5
          · omega
          · exact .inr h5
theorem shl7 (i : Nat) (hi : i ≤ 6) (x : Int) (h0 : 0 ≤ x) (h1 : x < 128) : shl .i64 x (wrap64 (7 * (i : Int))) = x * p7 i := by
  match i, hi with
  | 0, _ =>
    have e : (2 : Int) ^ min (wrap64 (7 * ((0 : Nat) : Int))).toNat IntKind.i64.bits = 1 := by decide +kernel
    have e2 : p7 0 = 1 := by decide
    unfold shl
    rw [e, e2]
    exact wi64 (by omega) (by omega)
  | 1, _ =>
    have e : (2 : Int) ^ min (wrap64 (7 * ((1 : Nat) : Int))).toNat IntKind.i64.bits = 128 := by decide +kernel
    have e2 : p7 1 = 128 := by decide
    unfold shl
    rw [e, e2]
    exact wi64 (by omega) (by omega)
  | 2, _ =>
    have e : (2 : Int) ^ min (wrap64 (7 * ((2 : Nat) : Int))).toNat IntKind.i64.bits = 16384 := by decide +kernel
    have e2 : p7 2 = 16384 := by decide
    unfold shl
    rw [e, e2]
    exact wi64 (by omega) (by omega)
  | 3, _ =>
    have e : (2 : Int) ^ min (wrap64 (7 * ((3 : Nat) : Int))).toNat IntKind.i64.bits = 2097152 := by decide +kernel
    have e2 : p7 3 = 2097152 := by decide
    unfold shl
    rw [e, e2]
    exact wi64 (by omega) (by omega)
  | 4, _ =>
    have e : (2 : Int) ^ min (wrap64 (7 * ((4 : Nat) : Int))).toNat IntKind.i64.bits = 268435456 := by decide +kernel
    have e2 : p7 4 = 268435456 := by decide
    unfold shl
    rw [e, e2]
    exact wi64 (by omega) (by omega)
  | 5, _ =>
    have e : (2 : Int) ^ min (wrap64 (7 * ((5 : Nat) : Int))).toNat IntKind.i64.bits = 34359738368 := by decide +kernel
    have e2 : p7 5 = 34359738368 := by decide
    unfold shl
    rw [e, e2]
    exact wi64 (by omega) (by omega)
  | 6, _ =>
    have e : (2 : Int) ^ min (wrap64 (7 * ((6 : Nat) : Int))).toNat IntKind.i64.bits = 4398046511104 := by decide +kernel
    have e2 : p7 6 = 4398046511104 := by decide
    unfold shl
    rw [e, e2]
    exact wi64 (by omega) (by omega)
theorem or_swap (x y : Int) (h0 : 0 ≤ x) (h1 : x < 2 ^ 62) (h2 : 0 ≤ y) (h3 : y < 2 ^ 62) : Go.bits .or .i64 x y = Go.bits .or .i64 y x := by
  obtain ⟨a, rfl⟩ := Int.eq_ofNat_of_zero_le h0
  obtain ⟨b, rfl⟩ := Int.eq_ofNat_of_zero_le h2
  have ha : a < 2 ^ 62 := by omega
  have hb : b < 2 ^ 62 := by omega
  rw [(bits_nat .i64 62 (by decide) wraps_i64 a b ha hb).2, (bits_nat .i64 62 (by decide) wraps_i64 b a hb ha).2, Nat.or_comm]
theorem or7 (i : Nat) (hi : i ≤ 6) (n y : Int) (h0 : 0 ≤ n) (h1 : n < p7 i) (h2 : 0 ≤ y) (h3 : y < 128) : Go.bits .or .i64 n (y * p7 i) = n + y * p7 i := by
  match i, hi with
  | 0, _ => replace h1 : n < 1 := h1; show Go.bits .or .i64 n (y * 1) = n + y * 1; rw [or_swap _ _ (by omega) (by omega) (by omega) (by omega), or_add 0 _ _ (by omega) (by omega) (by omega) (by omega) (by omega) (by omega)]; omega
  | 1, _ => replace h1 : n < 128 := h1; show Go.bits .or .i64 n (y * 128) = n + y * 128; rw [or_swap _ _ (by omega) (by omega) (by omega) (by omega), or_add 7 _ _ (by omega) (by omega) (by omega) (by omega) (by omega) (by omega)]; omega
  | 2, _ => replace h1 : n < 16384 := h1; show Go.bits .or .i64 n (y * 16384) = n + y * 16384; rw [or_swap _ _ (by omega) (by omega) (by omega) (by omega), or_add 14 _ _ (by omega) (by omega) (by omega) (by omega) (by omega) (by omega)]; omega
  | 3, _ => replace h1 : n < 2097152 := h1; show Go.bits .or .i64 n (y * 2097152) = n + y * 2097152; rw [or_swap _ _ (by omega) (by omega) (by omega) (by omega), or_add 21 _ _ (by omega) (by omega) (by omega) (by omega) (by omega) (by omega)]; omega
  | 4, _ => replace h1 : n < 268435456 := h1; show Go.bits .or .i64 n (y * 268435456) = n + y * 268435456; rw [or_swap _ _ (by omega) (by omega) (by omega) (by omega), or_add 28 _ _ (by omega) (by omega) (by omega) (by omega) (by omega) (by omega)]; omega
  | 5, _ => replace h1 : n < 34359738368 := h1; show Go.bits .or .i64 n (y * 34359738368) = n + y * 34359738368; rw [or_swap _ _ (by omega) (by omega) (by omega) (by omega), or_add 35 _ _ (by omega) (by omega) (by omega) (by omega) (by omega) (by omega)]; omega
  | 6, _ => replace h1 : n < 4398046511104 := h1; show Go.bits .or .i64 n (y * 4398046511104) = n + y * 4398046511104; rw [or_swap _ _ (by omega) (by omega) (by omega) (by omega), or_add 42 _ _ (by omega) (by omega) (by omega) (by omega) (by omega) (by omega)]; omega
theorem and127 (x : Int) (h0 : 0 ≤ x) (h1 : x < 256) : Go.bits .and .u8 x 127 = x % 128 := bits_mask .u8 8 (by decide) wraps_u8 7 (by decide) x h0 (by omega)
theorem bytes_inj {a b : List Int} (ha : ∀ x ∈ a, 0 ≤ x ∧ x < 256) (hb : ∀ x ∈ b, 0 ≤ x ∧ x < 256) (h : strOfNums a = strOfNums b) : a = b := by
  have h1 : (strOfNums a).data.toList = (strOfNums b).data.toList := by rw [h]
  rw [strOfNums_data, strOfNums_data] at h1
  clear h
  induction a generalizing b with
  | nil => cases b with
    | nil => rfl
    | cons y b => simp at h1
  | cons x a ih => cases b with
    | nil => simp at h1
    | cons y b =>
      simp only [List.map_cons, List.cons.injEq] at h1
      have hx := ha x (by simp)
      have hy := hb y (by simp)
      have h2 := congrArg UInt8.toNat h1.1
      simp only [UInt8.toNat_ofNat'] at h2
      rw [ih (fun z hz => ha z (by simp [hz])) (fun z hz => hb z (by simp [hz])) h1.2]
      congr 1
      omega
theorem lst_byte (s : ByteArray) (d : Nat) : ∀ i, ∀ x ∈ lst s d i, 0 ≤ x ∧ x < 256 := by
  induction d with
  | zero => intro i x hx; simp [lst] at hx
  | succ d ih =>
    intro i x hx
    simp only [lst, List.mem_cons] at hx
    rcases hx with rfl | hx
    · have := bt_range s i; omega
    · exact ih _ x hx
theorem encd_byte (d : Nat) : ∀ n, 0 ≤ n → n < 128 * p7 d → ∀ x ∈ encd d n, 0 ≤ x ∧ x < 256 := by
  induction d with
  | zero =>
    intro n h0 h1 x hx
    simp only [encd, List.mem_singleton] at hx
    have : n < 128 := by simpa [p7] using h1
    omega
  | succ d ih =>
    intro n h0 h1 x hx
    have h2 : n < 128 * (p7 d * 128) := h1
    simp only [encd] at hx
    split at hx
    · simp only [List.mem_singleton] at hx
      omega
    · simp only [List.mem_cons] at hx
      rcases hx with rfl | hx
      · omega
      · exact ih (n / 128) (by omega) (by omega) x hx
theorem lst_take (s : ByteArray) (m : Nat) (hm : m ≤ s.size) : s.extract 0 m = strOfNums (lst s m 0) := by
  have h : ∀ d i : Nat, i + d ≤ s.size → (s.extract i (i + d)).data.toList = (strOfNums (lst s d i)).data.toList := by
    intro d
    induction d with
    | zero => intro i hi; simp [lst, strOfNums, ByteArray.data_extract]
    | succ d ih =>
      intro i hi
      have h1 := ih (i + 1) (by omega)
      rw [strOfNums_data] at h1 ⊢
      simp only [lst, List.map_cons]
      rw [show ((i : Nat) : Int) + 1 = ((i + 1 : Nat) : Int) by omega, ← h1]
      have h2 : bt s (i : Int) = ((s.data[i]'(by have : s.data.size = s.size := rfl; omega)).toNat : Int) := by
        unfold bt
        rw [dif_pos (by simp; omega)]
        rfl
      rw [h2]
      simp only [ByteArray.data_extract, Array.toList_extract]
      rw [show i + (d + 1) = i + 1 + d by omega]
      simp only [List.extract_eq_take_drop, Int.toNat_natCast, UInt8.ofNat_toNat]
      rw [show i + 1 + d - i = d + 1 by omega, show i + 1 + d - (i + 1) = d by omega, List.drop_eq_getElem_cons (by rw [Array.length_toList]; have : s.data.size = s.size := rfl; omega), List.take_succ_cons]
      rfl
  have := h m 0 (by omega)
  rw [Nat.zero_add] at this
  exact ByteArray.ext (Array.toList_inj.1 this)
theorem spec_enc (d : Nat) : ∀ (n : Int) (l : List Int), 0 ≤ n → n < 128 * p7 d → n ≤ 9223372036854775807 → l.length + d ≤ 1000 →
    Ev (fun k => spec_EncodeVarint.l0 k n l) (strOfNums (l ++ encd d n)) := by
  induction d with
  | zero =>
    intro n l h0 h1 h2 h3
    have h4 : n < 128 := by simpa [p7] using h1
    refine Ev.step (fun k => spec_EncodeVarint.l0.eq_2 ..) (ev_neg (by omega) (ev_pos (by omega) ?_))
    rw [show n % 256 = n by omega]
    exact Ev.now _
  | succ d ih =>
    intro n l h0 h1 h2 h3
    have h4 : n < 128 * (p7 d * 128) := h1
    by_cases hn : n < 128
    · refine Ev.step (fun k => spec_EncodeVarint.l0.eq_2 ..) (ev_neg (by omega) (ev_pos (by omega) ?_))
      rw [show n % 256 = n by omega]
      simp only [encd]
      rw [if_pos hn]
      exact Ev.now _
    · refine Ev.step (fun k => spec_EncodeVarint.l0.eq_2 ..) (ev_pos (by omega) (ev_pos (by omega) ?_))
      have e1 : Int.tdiv n 128 = n / 128 := Int.tdiv_eq_ediv_of_nonneg h0
      have e2 : Int.tmod n 128 = n % 128 := Int.tmod_eq_emod_of_nonneg h0
      have e3 : wrap64 (128 + n % 128) = 128 + n % 128 := w64 (by omega) (by omega)
      have e4 : (128 + n % 128) % 256 = 128 + n % 128 := by omega
      rw [e1, e2, e3, e4, w64 (by omega) (by omega)]
      have := ih (n / 128) (l ++ [128 + n % 128]) (by omega) (by omega) (by omega) (by simp; omega)
      simp only [encd]
      rw [if_neg hn]
      rw [List.append_assoc] at this
      exact this
theorem p7_6 : 128 * p7 6 = 562949953421312 := by decide
theorem spec_encode (n : Int) (h0 : 0 ≤ n) (h1 : n ≤ 562949953421311) : Ev (fun k => spec_EncodeVarint.f k n) (strOfNums (encd 6 n)) := by
  unfold spec_EncodeVarint.f spec_l1In.f
  simp only [ge_iff_le, h0, h1, if_true, decide_true, Option.bind_some]
  have := spec_enc 6 n [] h0 (by rw [p7_6]; omega) (by omega) (by simp)
  exact this
theorem p7_le (d : Nat) (h : d ≤ 7) : p7 d ≤ 562949953421312 := by
  match d, h with
  | 0, _ => decide
  | 1, _ => decide
  | 2, _ => decide
  | 3, _ => decide
  | 4, _ => decide
  | 5, _ => decide
  | 6, _ => decide
  | 7, _ => decide
/-- The inner loop: the bytes from the highest down. -/
theorem spec_inner (s : ByteArray) (m : Nat) (hm : m + 1 ≤ 7) (hs : m + 1 ≤ s.size) {r : Int × Int}
    (h : Ev (fun k => (spec_EncodeVarint.f k (valr s (m + 1) 0)).bind fun t => (if 0 ≤ ((m + 1 : Nat) : Int) then (if ((m + 1 : Nat) : Int) ≤ (s.size : Int) then (if t.toList = (s.extract 0 (((m + 1 : Nat) : Int)).toNat).toList then (some (valr s (m + 1) 0, ((m + 1 : Nat) : Int))) else (spec_DecodeVarint.l0 k s (wrap64 (((m + 1 : Nat) : Int) + 1)))) else none) else none)) r) :
    ∀ d i : Nat, d + i = m + 1 → Ev (fun k => spec_DecodeVarint.l1 k s ((m + 1 : Nat) : Int) (valr s d (i : Int)) ((i : Int) - 1)) r := by
  intro d i
  induction i generalizing d with
  | zero =>
    intro hd
    obtain rfl : d = m + 1 := by omega
    exact Ev.step (fun k => spec_DecodeVarint.l1.eq_2 ..) (ev_neg (by omega) h)
  | succ i ih =>
    intro hd
    have hv := valr_bd s d ((i + 1 : Nat) : Int)
    have hp := p7_le d (by omega)
    have hb := bt_range s (i : Int)
    have hv' := valr_bd s (d + 1) (i : Int)
    have hp' := p7_le (d + 1) (by omega)
    have hd1 : valr s (d + 1) (i : Int) = bt s i % 128 + 128 * valr s d ((i : Int) + 1) := rfl
    have e0 : ((i + 1 : Nat) : Int) - 1 = (i : Int) := by omega
    have e1 : wrap64 (bt s (i : Int)) = bt s (i : Int) := w64 (by omega) (by omega)
    have e2 : Int.tmod (bt s (i : Int)) 128 = bt s (i : Int) % 128 := Int.tmod_eq_emod_of_nonneg hb.1
    rw [e0]
    refine Ev.step (fun k => spec_DecodeVarint.l1.eq_2 ..) (ev_pos (by omega) (ev_pos (by omega) (ev_pos (by omega) ?_)))
    rw [show ((i : Int) + 1) = ((i + 1 : Nat) : Int) by omega] at hd1
    rw [e1, e2, w64 (n := valr s d ((i + 1 : Nat) : Int) * 128) (by omega) (by omega), w64 (n := (i : Int) - 1) (by omega) (by omega), show valr s d ((i + 1 : Nat) : Int) * 128 + bt s i % 128 = valr s (d + 1) (i : Int) by omega, w64 (by omega) (by omega)]
    exact ih (d + 1) (by omega)
/-- One length tried: either it is the number's own, or the next is tried. -/
theorem spec_try (s : ByteArray) (m : Nat) (hm : m + 1 ≤ 7) (hs : m + 1 ≤ s.size) {r : Int × Int}
    (hyes : Own s (m + 1) 0 → r = (valr s (m + 1) 0, ((m + 1 : Nat) : Int))) (hno : ¬ Own s (m + 1) 0 → Ev (fun k => spec_DecodeVarint.l0 k s ((m + 1 + 1 : Nat) : Int)) r) :
    Ev (fun k => spec_DecodeVarint.l0 k s ((m + 1 : Nat) : Int)) r := by
  have hv := valr_bd s (m + 1) 0
  have hp := p7_le (m + 1) hm
  refine Ev.step (fun k => spec_DecodeVarint.l0.eq_2 ..) (ev_pos (by omega) (Ev.step (fun k => spec_DecodeVarint.j1.eq_2 ..) (ev_pos (by simp; omega) ?_)))
  rw [w64 (n := ((m + 1 : Nat) : Int) - 1) (by omega) (by omega)]
  refine spec_inner s m hm hs ?_ 0 (m + 1) (by omega)
  refine Ev.bind (spec_encode _ hv.1 (by omega)) (ev_pos (by omega) (ev_pos (by omega) ?_))
  have key : (strOfNums (encd 6 (valr s (m + 1) 0))).toList = (s.extract 0 (((m + 1 : Nat) : Int)).toNat).toList ↔ Own s (m + 1) 0 := by
    rw [Int.toNat_natCast, lst_take s (m + 1) hs, ← enc_own s m 6 0 (by omega)]
    constructor
    · intro h
      have h1 : strOfNums (encd 6 (valr s (m + 1) 0)) = strOfNums (lst s (m + 1) 0) := by
        rw [Lib.strOfNums_toList, Lib.strOfNums_toList] at h
        exact ByteArray.ext (Array.toList_inj.1 h)
      exact bytes_inj (encd_byte 6 _ hv.1 (by rw [p7_6]; omega)) (lst_byte s _ _) h1
    · intro h; rw [h]
  by_cases ho : Own s (m + 1) 0
  · refine ev_pos (key.2 ho) ?_
    rw [hyes ho]
    exact Ev.now _
  · refine ev_neg (fun h => ho (key.1 h)) ?_
    rw [w64 (by omega) (by omega)]
    exact hno ho
theorem spec_end (s : ByteArray) (m : Nat) (h : ¬ (m + 1 ≤ 7 ∧ m + 1 ≤ s.size)) : Ev (fun k => spec_DecodeVarint.l0 k s ((m + 1 : Nat) : Int)) (0, 0) := by
  by_cases h7 : m + 1 ≤ 7
  · refine Ev.step (fun k => spec_DecodeVarint.l0.eq_2 ..) (ev_pos (by omega) (Ev.step (fun k => spec_DecodeVarint.j1.eq_2 ..) (ev_neg (by simp; omega) (Ev.now _))))
  · refine Ev.step (fun k => spec_DecodeVarint.l0.eq_2 ..) (ev_neg (by omega) (Ev.step (fun k => spec_DecodeVarint.j1.eq_2 ..) (ev_neg (by simp) (Ev.now _))))
/-- A low byte ahead of the last: no longer length is a number's own. -/
theorem spec_none (s : ByteArray) (i : Nat) (hb : bt s (i : Int) < 128) (d : Nat) : ∀ m, i < m → m + d = 7 → Ev (fun k => spec_DecodeVarint.l0 k s ((m + 1 : Nat) : Int)) (0, 0) := by
  induction d with
  | zero => intro m h1 h2; exact spec_end s m (by omega)
  | succ d ih =>
    intro m h1 h2
    by_cases hs : m + 1 ≤ s.size
    · refine spec_try s m (by omega) hs (fun ho => ?_) (fun _ => ih (m + 1) (by omega) (by omega))
      have := ho.1 i (by omega)
      simp at this
      omega
    · exact spec_end s m (by omega)
theorem and127_wrap (b : Int) (h0 : 0 ≤ b) (h1 : b ≤ 255) : wrap64 (Go.bits .and .u8 b 127) = b % 128 := by
  rw [and127 b h0 (by omega)]
  exact w64 (by omega) (by omega)
/-- What one more byte makes of the number. -/
theorem bits_step (s : ByteArray) (i : Nat) (hi : i ≤ 6) : Go.bits .or .i64 (valr s i 0) (shl .i64 (wrap64 (Go.bits .and .u8 (bt s (i : Int)) 127)) (wrap64 (7 * (i : Int)))) = valr s (i + 1) 0 := by
  have hb := bt_range s (i : Int)
  have hv := valr_bd s i 0
  rw [and127_wrap _ hb.1 hb.2, shl7 i hi _ (by omega) (by omega), or7 i hi _ _ hv.1 hv.2 (by omega) (by omega)]
  have := valr_snoc s i 0
  rw [Int.zero_add] at this
  exact this.symm
/-- One round of the program's loop. -/
theorem impl_round (s : ByteArray) (i : Nat) (hi : i ≤ 6) (hs : (i : Int) < (s.size : Int)) : ∀ r, Ev (fun k => if (bt s (i : Int)) < 128 then (if (i : Int) > 0 then (if (bt s (i : Int)) = 0 then (some ((0 : Int), (0 : Int))) else (some (valr s (i + 1) 0, ((i + 1 : Nat) : Int)))) else (some (valr s (i + 1) 0, ((i + 1 : Nat) : Int)))) else (impl_DecodeVarint.l0 k s (valr s (i + 1) 0) ((i + 1 : Nat) : Int))) r →
    Ev (fun k => impl_DecodeVarint.l0 k s (valr s i 0) (i : Int)) r := by
  intro r h
  have e4 : wrap64 ((i : Int) + 1) = ((i + 1 : Nat) : Int) := w64 (by omega) (by omega)
  have e5 : 0 ≤ wrap64 (7 * (i : Int)) := by rw [w64 (by omega) (by omega)]; omega
  have e6 : decide ((i : Int) < 7) = true := decide_eq_true (by omega)
  have e7 : (0 : Int) ≤ (i : Int) := by omega
  have e3 := bits_step s i hi
  refine Ev.step (fun k => impl_DecodeVarint.l0.eq_2 ..) ?_
  refine ev_pos hs ?_
  refine Ev.step (fun k => impl_DecodeVarint.j1.eq_2 ..) ?_
  refine ev_pos e6 ?_
  refine ev_pos e7 ?_
  refine ev_pos hs ?_
  refine ev_pos e5 ?_
  rw [e3, e4]
  exact h
theorem both (s : ByteArray) (d : Nat) : ∀ i : Nat, i + d = 7 → (∀ j : Nat, j < i → 128 ≤ bt s j) →
    ∃ r, Ev (fun k => spec_DecodeVarint.l0 k s ((i + 1 : Nat) : Int)) r ∧ Ev (fun k => impl_DecodeVarint.l0 k s (valr s i 0) (i : Int)) r := by
  induction d with
  | zero =>
    intro i hi hj
    refine ⟨(0, 0), spec_end s i (by omega), Ev.step (fun k => impl_DecodeVarint.l0.eq_2 ..) ?_⟩
    by_cases hs : (i : Int) < (s.size : Int)
    · exact ev_pos hs (Ev.step (fun k => impl_DecodeVarint.j1.eq_2 ..) (ev_neg (by simp; omega) (Ev.now _)))
    · exact ev_neg hs (Ev.step (fun k => impl_DecodeVarint.j1.eq_2 ..) (ev_neg (by simp) (Ev.now _)))
  | succ d ih =>
    intro i hi hj
    by_cases hs : (i : Int) < (s.size : Int)
    · have hb := bt_range s (i : Int)
      have hv := valr_bd s i 0
      have hp := p7_le i (by omega)
      have hown : Own s (i + 1) 0 ↔ bt s (i : Int) < 128 ∧ (i = 0 ∨ bt s (i : Int) ≠ 0) := by
        unfold Own
        rw [show (0 : Int) + ((i + 1 : Nat) : Int) - 1 = (i : Int) by omega]
        constructor
        · rintro ⟨_, h1, h2⟩
          exact ⟨h1, h2.imp (fun h => by omega) id⟩
        · rintro ⟨h1, h2⟩
          exact ⟨fun j hj' => by rw [Int.zero_add]; exact hj j (by omega), h1, h2.imp (fun h => by omega) id⟩
      have himpl := impl_round s i (by omega) hs
      by_cases h1 : bt s (i : Int) < 128
      · by_cases h2 : i = 0 ∨ bt s (i : Int) ≠ 0
        · refine ⟨(valr s (i + 1) 0, ((i + 1 : Nat) : Int)), spec_try s i (by omega) (by omega) (fun _ => rfl) (fun h => absurd (hown.2 ⟨h1, h2⟩) h), himpl _ (ev_pos h1 ?_)⟩
          by_cases h3 : (i : Int) > 0
          · refine ev_pos h3 (ev_neg ?_ (Ev.now _))
            rcases h2 with h2 | h2
            · omega
            · exact h2
          · exact ev_neg h3 (Ev.now _)
        · refine ⟨(0, 0), spec_try s i (by omega) (by omega) (fun h => absurd (hown.1 h).2 h2) (fun _ => spec_none s i h1 d (i + 1) (by omega) (by omega)), himpl _ (ev_pos h1 (ev_pos (by omega) (ev_pos (by omega) (Ev.now _))))⟩
      · obtain ⟨r, hr, hq⟩ := ih (i + 1) (by omega) (fun j hj' => by
          by_cases he : j = i
          · subst he; omega
          · exact hj j (by omega))
        exact ⟨r, spec_try s i (by omega) (by omega) (fun h => absurd (hown.1 h).1 h1) (fun _ => hr), himpl _ (ev_neg h1 hq)⟩
    · refine ⟨(0, 0), spec_end s i (by omega), Ev.step (fun k => impl_DecodeVarint.l0.eq_2 ..) (ev_neg hs (Ev.step (fun k => impl_DecodeVarint.j1.eq_2 ..) (ev_neg (by simp) (Ev.now _))))⟩
theorem FnExactDecodeVarint : laws_FnExactDecodeVarint.Pure := by
  intro s hs
  obtain ⟨r, hr, hq⟩ := both s 7 0 (by omega) (fun j hj => by omega)
  refine Ev.rounds (g := fun k => laws_FnExactDecodeVarint.f k s) ?_
  unfold laws_FnExactDecodeVarint.f
  by_cases hb : (s.size : Int) > 1048576
  · exact ev_pos hb (Ev.now _)
  · refine ev_neg hb (Ev.bind (a := r) ?_ (Ev.bind (a := r) ?_ (ev_pos rfl (ev_pos rfl (Ev.now _)))))
    · exact hr
    · exact hq

end Go.Proofs.Ythkmdiogaibbdaa.Pure
