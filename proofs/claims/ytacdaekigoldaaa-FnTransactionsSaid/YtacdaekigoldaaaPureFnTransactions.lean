/- a new transaction is valid and has an open window, and equality compares all fields. -/
import Derived.Test.YtacdaekigoldaaaPFnTransactionsx19
import Derived.Test.YtacdaekigoldaaaMEv
namespace Go.Proofs.Ytacdaekigoldaaa.Pure
open Go Go.RowKit Go.Proofs.Ytacdaekigoldaaa.PFnTransactions Go.Proofs.YtacdaekigoldaaaW.PrintWords Go.Proofs.YtacdaekigoldaaaW.PrintLast Go.Proofs.YtacdaekigoldaaaW.PrintMore Go.Proofs.YtacdaekigoldaaaM
set_option linter.unusedVariables false
set_option linter.unusedSimpArgs false

theorem spec_in (a b c : Int) : spec_l1In.f a b c = some (decide (b ≤ a ∧ a ≤ c)) := by
  unfold spec_l1In.f
  by_cases h : b ≤ a <;> simp [h]
theorem impl_in_ (a b c : Int) : impl_in.f a b c = some (decide (b ≤ a ∧ a ≤ c)) := by
  unfold impl_in.f
  by_cases h : b ≤ a <;> simp [h]
theorem i64_and255 (n : Int) : Go.bits .and .i64 n 255 = n % 256 := by
  have h255 : (BitVec.ofInt 64 255).toNat = 2 ^ 8 - 1 := by decide
  have key : (BitVec.ofInt 64 n &&& BitVec.ofInt 64 255).toNat = (n % ((2 ^ 64 : Nat) : Int)).toNat % 2 ^ 8 := by
    rw [BitVec.toNat_and, BitVec.toNat_ofInt, h255, Nat.and_two_pow_sub_one_eq_mod]
  show IntKind.i64.wrap ((BitVec.ofInt 64 n &&& BitVec.ofInt 64 255).toNat : Nat) = n % 256
  rw [key, IntKind.wrap_i64]
  omega
/-- A reader's place stands in its text. -/
def Cur (l : List Int) (p : Int) : Prop := 0 ≤ p ∧ p ≤ (l.length : Int)
theorem byte_ok (l : List Int) (hl : l.length ≤ 140737488351232) (p s : Int) (hp : Cur l p) : ∃ b q t, spec_l1Byte.f l p s = some (b, q, t) ∧ 0 ≤ b ∧ b ≤ 255 ∧ Cur l q := by
  unfold spec_l1Byte.f
  simp only [i64_and255]
  by_cases h : p < (l.length : Int)
  · rw [if_pos h, if_pos hp.1]
    exact ⟨_, _, _, rfl, by omega, by omega, by rw [w64 (by have := hp.1; omega) (by omega)]; exact ⟨by have := hp.1; omega, by omega⟩⟩
  · rw [if_neg h]
    exact ⟨_, _, _, rfl, by omega, by omega, hp⟩
theorem tmod_bd {b a : Int} (h0 : 0 ≤ b) (h : 0 < a) : 0 ≤ Int.tmod b a ∧ Int.tmod b a < a := by
  rw [Int.tmod_eq_emod_of_nonneg h0]
  exact ⟨Int.emod_nonneg _ (by omega), Int.emod_lt_of_pos _ h⟩
theorem below_ok (l : List Int) (hl : l.length ≤ 140737488351232) (p s : Int) (hp : Cur l p) (a : Int) (h0 : 0 < a) (h1 : a ≤ 4294967296) : ∃ b q t, spec_l1Below.f l p s a = some (b, q, t) ∧ 0 ≤ b ∧ b < a ∧ Cur l q := by
  unfold spec_l1Below.f
  rw [if_neg (by omega)]
  by_cases h : a ≤ 256
  · rw [if_pos h]
    obtain ⟨b, q, t, e, b0, b1, hq⟩ := byte_ok l hl p s hp
    rw [e, Option.bind_some, if_neg (by omega)]
    have := tmod_bd b0 h0
    exact ⟨_, _, _, rfl, this.1, this.2, hq⟩
  · rw [if_neg h]
    obtain ⟨b, q, t, e, b0, b1, hq⟩ := byte_ok l hl p s hp
    obtain ⟨c, q2, t2, e2, c0, c1, hq2⟩ := byte_ok l hl q t hq
    obtain ⟨d, q3, t3, e3, d0, d1, hq3⟩ := byte_ok l hl q2 t2 hq2
    obtain ⟨f, q4, t4, e4, f0, f1, hq4⟩ := byte_ok l hl q3 t3 hq3
    rw [e, Option.bind_some, e2, Option.bind_some, e3, Option.bind_some, e4, Option.bind_some, if_neg (by omega)]
    have hw : wrap64 ((wrap64 ((wrap64 ((wrap64 (b * 16777216)) + (wrap64 (c * 65536)))) + (wrap64 (d * 256)))) + f) = b * 16777216 + c * 65536 + d * 256 + f := by
      rw [w64 (n := b * 16777216) (by omega) (by omega), w64 (n := c * 65536) (by omega) (by omega), w64 (n := d * 256) (by omega) (by omega), w64 (n := b * 16777216 + c * 65536) (by omega) (by omega), w64 (n := b * 16777216 + c * 65536 + d * 256) (by omega) (by omega), w64 (by omega) (by omega)]
    have hz : 0 ≤ b * 16777216 + c * 65536 + d * 256 + f := by omega
    have := tmod_bd hz h0
    exact ⟨_, _, _, rfl, by show 0 ≤ Int.tmod (wrap64 _) a; rw [hw]; exact this.1, by show Int.tmod (wrap64 _) a < a; rw [hw]; exact this.2, hq4⟩
theorem pick_ok (l : List Int) (hl : l.length ≤ 140737488351232) (p s : Int) (hp : Cur l p) (m : List Int) (h0 : 0 < m.length) (h1 : m.length ≤ 1000) : ∃ b q t, spec_l1PickInt.f l p s m = some (b, q, t) ∧ b ∈ m ∧ Cur l q := by
  unfold spec_l1PickInt.f
  obtain ⟨b, q, t, e, b0, b1, hq⟩ := below_ok l hl p s hp (m.length : Int) (by omega) (by omega)
  rw [e, Option.bind_some, if_pos b0, if_pos b1]
  refine ⟨_, _, _, rfl, ?_, hq⟩
  show rd m b ∈ m
  unfold rd
  have hb : b.toNat < m.length := by omega
  rw [show m.getD b.toNat _ = m[b.toNat] from by simp [List.getD, hb]]
  exact List.getElem_mem hb
theorem wrap_bd (x : Int) : -9223372036854775808 ≤ wrap64 x ∧ wrap64 x ≤ 9223372036854775807 := by unfold wrap64; omega
theorem new_loop (l : List Int) (d : Nat) : ∀ (i : Nat) (x : Int), i + d = min l.length 4000 → ∃ t, Ev (fun k => spec_l1New.l0 k l x (i : Int)) (l, 0, t) := by
  induction d with
  | zero =>
    intro i x hi
    by_cases h : (i : Int) < (l.length : Int)
    · exact ⟨_, Ev.step (fun k => spec_l1New.l0.eq_2 ..) (ev_pos h (ev_neg (by omega) (Ev.now _)))⟩
    · exact ⟨_, Ev.step (fun k => spec_l1New.l0.eq_2 ..) (ev_neg h (Ev.now _))⟩
  | succ d ih =>
    intro i x hi
    obtain ⟨t, ht⟩ := ih (i + 1) (Go.bits .and .i64 (wrap64 ((wrap64 ((wrap64 (x * 131)) + (wrap64 (rd l (i : Int))))) + 7)) 1073741823) (by omega)
    refine ⟨t, Ev.step (fun k => spec_l1New.l0.eq_2 ..) (ev_pos (by omega) (ev_pos (by omega) (ev_pos (by omega) ?_)))⟩
    rw [w64 (n := (i : Int) + 1) (by omega) (by omega)]
    exact ht
theorem new_ok (l : List Int) : ∃ t, Ev (fun k => spec_l1New.f k l) (l, 0, t) := new_loop l (min l.length 4000) 0 _ (by omega)
theorem cur0 (l : List Int) : Cur l 0 := ⟨Int.le_refl _, Int.natCast_nonneg _⟩
theorem chain_draw (l : List Int) (hl : l.length ≤ 140737488351232) (d : Nat) : ∀ (x : List S77) (st p s : Int), 0 < x.length → x.length + d ≤ 1000 → Cur l p →
    ∃ m q t, Ev (fun k => spec_l3Chain.l0 k x st (d : Int) l p s) (m, q, t) ∧ 0 < m.length ∧ m.length ≤ x.length + d ∧ Cur l q := by
  induction d with
  | zero =>
    intro x st p s h0 h1 hp
    exact ⟨x, p, s, Ev.step (fun k => spec_l3Chain.l0.eq_2 ..) (ev_neg (by omega) (Ev.now _)), h0, by omega, hp⟩
  | succ d ih =>
    intro x st p s h0 h1 hp
    have e0 : wrap64 ((x.length : Int) - 1) = (x.length : Int) - 1 := w64 (by omega) (by omega)
    obtain ⟨b1, q1, s1, e1, _, _, hq1⟩ := below_ok l hl p s hp 3 (by omega) (by omega)
    obtain ⟨b2, q2, s2, e2, _, _, hq2⟩ := below_ok l hl q1 s1 hq1 2 (by omega) (by omega)
    obtain ⟨b3, q3, s3, e3, _, _, hq3⟩ := below_ok l hl q2 s2 hq2 4 (by omega) (by omega)
    obtain ⟨b4, q4, s4, e4, _, _, hq4⟩ := below_ok l hl q3 s3 hq3 9 (by omega) (by omega)
    obtain ⟨b5, q5, s5, e5, _, hq5⟩ := pick_ok l hl q4 s4 hq4 ([(-1), 0, 5, 7, 42, 99] : List Int) (by decide) (by decide)
    have key : ∀ (y : List S77) (st' : Int), y.length = x.length + 1 → ∃ m q t, Ev (fun k => spec_l3Chain.l0 k y st' (wrap64 (((d + 1 : Nat) : Int) - 1)) l q5 s5) (m, q, t) ∧ 0 < m.length ∧ m.length ≤ x.length + (d + 1) ∧ Cur l q := by
      intro y st' hy
      obtain ⟨m, q, t, g1, g2, g3, g4⟩ := ih y st' q5 s5 (by omega) (by omega) hq5
      refine ⟨m, q, t, ?_, g2, by omega, g4⟩
      rw [w64 (by omega) (by omega), show ((d + 1 : Nat) : Int) - 1 = (d : Int) by omega]
      exact g1
    have go : ∀ (m : List S77) (q t : Int) (y : List S77) (z : S77) (st' : Int), True := fun _ _ _ _ _ _ => trivial
    refine (fun (H : ∃ r : List S77 × Int × Int, Ev (fun k => spec_l3Chain.l0 k x st ((d + 1 : Nat) : Int) l p s) r ∧ 0 < r.1.length ∧ r.1.length ≤ x.length + (d + 1) ∧ Cur l r.2.1) => ⟨H.choose.1, H.choose.2.1, H.choose.2.2, H.choose_spec.1, H.choose_spec.2.1, H.choose_spec.2.2.1, H.choose_spec.2.2.2⟩) ?_
    have fin : ∀ (g : Nat → Option (List S77 × Int × Int)) (y : List S77) (st' : Int), y.length = x.length + 1 → (∀ r, Ev (fun k => spec_l3Chain.l0 k y st' (wrap64 (((d + 1 : Nat) : Int) - 1)) l q5 s5) r → Ev g r) → ∃ r : List S77 × Int × Int, Ev g r ∧ 0 < r.1.length ∧ r.1.length ≤ x.length + (d + 1) ∧ Cur l r.2.1 := by
      intro g y st' hy h
      obtain ⟨m, q, t, g1, g2, g3, g4⟩ := key y st' hy
      exact ⟨(m, q, t), h _ g1, g2, g3, g4⟩
    refine fin _ _ _ ?_ (fun r h => Ev.step (fun k => spec_l3Chain.l0.eq_2 ..) (ev_pos (by omega) (ev_pos (by rw [e0]; omega) (ev_pos (by rw [e0]; omega) (ev_bindo e1 (ev_bindo rfl (ev_bindo e2 (ev_bindo e3 (ev_bindo rfl (ev_bindo e4 (ev_bindo e5 (ev_pos (by simp; omega) h))))))))))))
    simp
theorem chain_whole (l : List Int) (hl : l.length ≤ 140737488351232) (p s : Int) (hp : Cur l p) : ∃ m q t, Ev (fun k => spec_l3Chain.f k l p s) (m, q, t) ∧ m.length ≤ 100 ∧ Cur l q := by
  obtain ⟨b0, q0, s0, e0, c0, c1, hq0⟩ := below_ok l hl p s hp 5 (by omega) (by omega)
  obtain ⟨m, q, t, h1, h2, h3, hq⟩ := chain_draw l hl b0.toNat ([(⟨0, (-1), 0, 0, 1000⟩ : S77)] : List S77) 0 q0 s0 (by simp) (by simp; omega) hq0
  rw [Int.toNat_of_nonneg c0] at h1
  refine ⟨m, q, t, ?_, by simp only [List.length_singleton] at h3; omega, hq⟩
  unfold spec_l3Chain.f
  exact ev_bindo e0 h1
theorem store_draw (l : List Int) (hl : l.length ≤ 140737488351232) (d : Nat) : ∀ (i : Nat) (p s : Int) (acc : List (List S77)), i + d = 6 → acc.length = i → (∀ x ∈ acc, x.length ≤ 100) → Cur l p →
    ∃ m q t, Ev (fun k => spec_l4Store.l0 k (i : Int) l p s acc) (m, q, t) ∧ m.length = 6 ∧ (∀ x ∈ m, x.length ≤ 100) ∧ Cur l q := by
  induction d with
  | zero =>
    intro i p s acc hi ha hx hp
    exact ⟨acc, p, s, Ev.step (fun k => spec_l4Store.l0.eq_2 ..) (ev_neg (by omega) (Ev.now _)), by omega, hx, hp⟩
  | succ d ih =>
    intro i p s acc hi ha hx hp
    obtain ⟨c, q, t, h1, h2, hq⟩ := chain_whole l hl p s hp
    obtain ⟨m, q2, t2, g1, g2, g3, g4⟩ := ih (i + 1) q t (acc ++ [c]) (by omega) (by simp; omega) (by
      intro x hx'
      rw [List.mem_append, List.mem_singleton] at hx'
      rcases hx' with h | h
      · exact hx x h
      · rw [h]; exact h2) hq
    refine ⟨m, q2, t2, Ev.step (fun k => spec_l4Store.l0.eq_2 ..) (ev_pos (by omega) (Ev.bind h1 (ev_pos (by omega) ?_))), g2, g3, g4⟩
    rw [up i (by omega)]
    exact g1
theorem dn (d : Nat) (h : d < 1000) : wrap64 (((d + 1 : Nat) : Int) - 1) = (d : Int) := by rw [w64 (by omega) (by omega)]; omega
theorem once_ok (l : List Int) (hl : l.length ≤ 140737488351232) (p s : Int) (hp : Cur l p) (a : Int) (h0 : 0 < a) (h1 : a ≤ 4294967296) : ∃ b q t, spec_l1Once.f l p s a = some (b, q, t) ∧ Cur l q := by
  obtain ⟨b, q, t, e, _, _, hq⟩ := below_ok l hl p s hp a h0 h1
  exact ⟨_, q, t, by unfold spec_l1Once.f; rw [e]; rfl, hq⟩
theorem before_ok (a b c d : Int) : ∃ r, spec_l5Before.f a b c d = some r := by
  unfold spec_l5Before.f
  by_cases h : a < c
  · exact ⟨_, by rw [if_pos h]⟩
  · by_cases g : a = c
    · exact ⟨_, by rw [if_neg h, if_pos g]⟩
    · exact ⟨_, by rw [if_neg h, if_neg g]⟩
theorem rdl_len (st : List (List S77)) (h : ∀ x ∈ st, x.length ≤ 100) (b : Int) : (rd_L6 st b).length ≤ 100 := by
  unfold rd_L6
  rw [List.getD_eq_getElem?_getD]
  cases hq : st[b.toNat]? with
  | none => simp
  | some y => simpa using h y (List.mem_of_getElem? hq)
theorem putr_loop (x : List S47) (hx : x.length ≤ 1000) (a b : Int) (d : Nat) : ∀ i : Nat, i + d = x.length → ∃ m, Ev (fun k => spec_l5PutRead.l0 k x (i : Int) a b) m ∧ m.length ≤ x.length + 1 := by
  induction d with
  | zero =>
    intro i hi
    refine ⟨_, Ev.step (fun k => spec_l5PutRead.l0.eq_2 ..) (ev_neg (by omega) (ev_bindo rfl (ev_pos (by omega) (ev_pos (by omega) (ev_bindo rfl (ev_pos (by simp; omega) (ev_bindo rfl (ev_bindo rfl (ev_pos (by simp; omega) (ev_bindo rfl (ev_bindo rfl (ev_pos (by simp; omega) (Ev.now _))))))))))))), ?_⟩
    simp; omega
  | succ d ih =>
    intro i hi
    obtain ⟨m, hm, hm2⟩ := ih (i + 1) (by omega)
    obtain ⟨c, hc⟩ := before_ok (rd_T47 x (i : Int)).f0 (rd_T47 x (i : Int)).f1 a b
    by_cases h : c = true
    · refine ⟨m, Ev.step (fun k => spec_l5PutRead.l0.eq_2 ..) (ev_pos (by omega) (ev_pos (by omega) (ev_bindo hc (ev_pos h ?_)))), hm2⟩
      rw [up i (by omega)]
      exact hm
    · by_cases g : (((rd_T47 x (i : Int)).f0) == a && (((rd_T47 x (i : Int)).f1) == b)) = true
      · exact ⟨_, Ev.step (fun k => spec_l5PutRead.l0.eq_2 ..) (ev_pos (by omega) (ev_pos (by omega) (ev_bindo hc (ev_neg h (ev_pos g (ev_bindo rfl (ev_pos (by simp; omega) (Ev.now _)))))))), by simp⟩
      · refine ⟨_, Ev.step (fun k => spec_l5PutRead.l0.eq_2 ..) (ev_pos (by omega) (ev_pos (by omega) (ev_bindo hc (ev_neg h (ev_neg g (ev_bindo rfl (ev_pos (by omega) (ev_bindo rfl (ev_pos (by simp; omega) (ev_bindo rfl (ev_bindo rfl (ev_pos (by simp; omega) (ev_bindo rfl (ev_bindo rfl (ev_pos (by simp; omega) (Ev.now _)))))))))))))))), ?_⟩
        simp; omega
theorem putw_loop (x : List S58) (hx : x.length ≤ 1000) (a b : Int) (d : Nat) : ∀ i : Nat, i + d = x.length → ∃ m, Ev (fun k => spec_l5PutWrite.l0 k x (i : Int) a b) m ∧ m.length ≤ x.length + 1 := by
  induction d with
  | zero =>
    intro i hi
    refine ⟨_, Ev.step (fun k => spec_l5PutWrite.l0.eq_2 ..) (ev_neg (by omega) (ev_bindo rfl (ev_pos (by omega) (ev_pos (by omega) (ev_bindo rfl (ev_pos (by simp; omega) (ev_bindo rfl (ev_bindo rfl (ev_pos (by simp; omega) (ev_bindo rfl (ev_bindo rfl (ev_pos (by simp; omega) (Ev.now _))))))))))))), ?_⟩
    simp; omega
  | succ d ih =>
    intro i hi
    obtain ⟨m, hm, hm2⟩ := ih (i + 1) (by omega)
    have hu := up i (by omega)
    by_cases h : (rd_T58 x (i : Int)).f0 < a
    · refine ⟨m, Ev.step (fun k => spec_l5PutWrite.l0.eq_2 ..) (ev_pos (by omega) (ev_pos (by omega) (ev_pos h ?_))), hm2⟩
      rw [hu]
      exact hm
    · by_cases g : (rd_T58 x (i : Int)).f0 = a
      · refine ⟨_, Ev.step (fun k => spec_l5PutWrite.l0.eq_2 ..) (ev_pos (by omega) (ev_pos (by omega) (ev_neg h (ev_bindo rfl (ev_pos (by omega) (ev_bindo rfl (ev_pos (by simp; omega) (ev_bindo rfl (ev_bindo rfl (ev_pos (by simp; omega) (ev_bindo rfl (ev_pos g (ev_pos (by rw [hu]; omega) (ev_pos (by rw [hu]; omega) (ev_bindo rfl (ev_pos (by rw [hu]; simp; omega) (Ev.now _))))))))))))))))), ?_⟩
        rw [hu]
        simp; omega
      · refine ⟨_, Ev.step (fun k => spec_l5PutWrite.l0.eq_2 ..) (ev_pos (by omega) (ev_pos (by omega) (ev_neg h (ev_bindo rfl (ev_pos (by omega) (ev_bindo rfl (ev_pos (by simp; omega) (ev_bindo rfl (ev_bindo rfl (ev_pos (by simp; omega) (ev_bindo rfl (ev_neg g (ev_bindo rfl (ev_pos (by simp; omega) (Ev.now _))))))))))))))), ?_⟩
        simp; omega
theorem putr_ok (x : List S47) (hx : x.length ≤ 1000) (a b : Int) : ∃ m, Ev (fun k => spec_l5PutRead.f k x a b) m ∧ m.length ≤ x.length + 1 := putr_loop x hx a b x.length 0 (by omega)
theorem putw_ok (x : List S58) (hx : x.length ≤ 1000) (a b : Int) : ∃ m, Ev (fun k => spec_l5PutWrite.f k x a b) m ∧ m.length ≤ x.length + 1 := putw_loop x hx a b x.length 0 (by omega)
theorem on_l1 (l : List Int) (hl : l.length ≤ 140737488351232) (a0 a1 a2 a3 a4 a5 a6 : Int) (rs : List S47) (d : Nat) : ∀ (ws : List S58) (p s : Int), ws.length + d ≤ 100 → Cur l p →
    ∃ m q t, Ev (fun k => spec_l5On.l1 k (d : Int) l p s a0 a1 a2 a3 a4 a5 a6 rs ws) (a0, a1, a2, a3, a4, a5, a6, rs, m, q, t) ∧ m.length ≤ ws.length + d ∧ Cur l q := by
  induction d with
  | zero =>
    intro ws p s h0 hp
    exact ⟨ws, p, s, Ev.step (fun k => spec_l5On.l1.eq_2 ..) (ev_neg (by omega) (Ev.now _)), by omega, hp⟩
  | succ d ih =>
    intro ws p s h0 hp
    obtain ⟨b1, q1, s1, e1, _, _, hq1⟩ := below_ok l hl p s hp 6 (by omega) (by omega)
    obtain ⟨b2, q2, s2, e2, _, hq2⟩ := pick_ok l hl q1 s1 hq1 ([(-1), 0, 7, 50, 99] : List Int) (by decide) (by decide)
    obtain ⟨y, e3, hy⟩ := putw_ok ws (by omega) b1 b2
    obtain ⟨m, q, t, g1, g2, g3⟩ := ih y q2 s2 (by omega) hq2
    refine ⟨m, q, t, Ev.step (fun k => spec_l5On.l1.eq_2 ..) (ev_pos (by omega) (ev_bindo e1 (ev_bindo e2 (Ev.bind e3 ?_)))), by omega, g3⟩
    rw [dn d (by omega)]
    exact g1
theorem on_l0 (l : List Int) (hl : l.length ≤ 140737488351232) (st : List (List S77)) (hs : ∀ x ∈ st, x.length ≤ 100) (a0 a1 a2 a3 a5 a6 : Int) (d : Nat) : ∀ (a4 : Int) (rs : List S47) (p s : Int), rs.length + d ≤ 100 → Cur l p →
    ∃ a4' rs' ws' q t, Ev (fun k => spec_l5On.l0 k (d : Int) l p s st a0 a1 a2 a3 a4 a5 a6 rs) (a0, a1, a2, a3, a4', a5, a6, rs', ws', q, t) ∧ rs'.length ≤ rs.length + d ∧ ws'.length ≤ 3 ∧ Cur l q := by
  induction d with
  | zero =>
    intro a4 rs p s h0 hp
    obtain ⟨b, q, t, e, b0, b1, hq⟩ := below_ok l hl p s hp 3 (by omega) (by omega)
    obtain ⟨m, q2, t2, g1, g2, g3⟩ := on_l1 l hl a0 a1 a2 a3 a4 a5 a6 rs b.toNat ([] : List S58) q t (by simp; omega) hq
    rw [Int.toNat_of_nonneg b0] at g1
    simp only [List.length_nil] at g2
    exact ⟨a4, rs, m, q2, t2, Ev.step (fun k => spec_l5On.l0.eq_2 ..) (ev_neg (by omega) (ev_bindo e g1)), by omega, by omega, g3⟩
  | succ d ih =>
    intro a4 rs p s h0 hp
    obtain ⟨b, q, t, e, b0, b1, hq⟩ := below_ok l hl p s hp 6 (by omega) (by omega)
    by_cases h : b < (st.length : Int)
    · by_cases g : ((rd_L6 st b).length : Int) > 0
      · have hb := rdl_len st hs b
        obtain ⟨i, q2, t2, e2, i0, i1, hq2⟩ := below_ok l hl q t hq ((rd_L6 st b).length : Int) (by omega) (by omega)
        obtain ⟨y, e3, hy⟩ := putr_ok rs (by omega) b (rd_T77 (rd_L6 st b) i).f2
        obtain ⟨c, r', w', q3, t3, g1, g2, g3, g4⟩ := ih (mx a4 (rd_T77 (rd_L6 st b) i).f2) y q2 t2 (by omega) hq2
        refine ⟨c, r', w', q3, t3, Ev.step (fun k => spec_l5On.l0.eq_2 ..) (ev_pos (by omega) (ev_bindo e (ev_pos h (ev_pos b0 (Ev.step (fun k => spec_l5On.j1.eq_2 ..) (ev_pos (decide_eq_true g) (ev_pos b0 (ev_pos h (ev_bindo e2 (ev_pos i0 (ev_pos i1 (Ev.bind e3 ?_)))))))))))), by omega, g3, g4⟩
        rw [dn d (by omega)]
        exact g1
      · obtain ⟨c, r', w', q3, t3, g1, g2, g3, g4⟩ := ih a4 rs q t (by omega) hq
        refine ⟨c, r', w', q3, t3, Ev.step (fun k => spec_l5On.l0.eq_2 ..) (ev_pos (by omega) (ev_bindo e (ev_pos h (ev_pos b0 (Ev.step (fun k => spec_l5On.j1.eq_2 ..) (ev_neg (by rw [decide_eq_false g]; simp) ?_)))))), by omega, g3, g4⟩
        rw [dn d (by omega)]
        exact g1
    · obtain ⟨c, r', w', q3, t3, g1, g2, g3, g4⟩ := ih a4 rs q t (by omega) hq
      refine ⟨c, r', w', q3, t3, Ev.step (fun k => spec_l5On.l0.eq_2 ..) (ev_pos (by omega) (ev_bindo e (ev_neg h (Ev.step (fun k => spec_l5On.j1.eq_2 ..) (ev_neg (by simp) ?_))))), by omega, g3, g4⟩
      rw [dn d (by omega)]
      exact g1
theorem on_ok (l : List Int) (hl : l.length ≤ 140737488351232) (st : List (List S77)) (hs : ∀ x ∈ st, x.length ≤ 100) (p s : Int) (hp : Cur l p) : ∃ a0 a1 a2 a3 a4 a5 a6 rs ws q t, Ev (fun k => spec_l5On.f k l p s st) (a0, a1, a2, a3, a4, a5, a6, rs, ws, q, t) ∧ rs.length ≤ 4 ∧ ws.length ≤ 3 ∧ Cur l q := by
  obtain ⟨b1, q1, s1, e1, _, _, hq1⟩ := below_ok l hl p s hp 6 (by omega) (by omega)
  obtain ⟨b2, q2, s2, e2, _, _, hq2⟩ := below_ok l hl q1 s1 hq1 4 (by omega) (by omega)
  obtain ⟨b3, q3, s3, e3, _, _, hq3⟩ := below_ok l hl q2 s2 hq2 8 (by omega) (by omega)
  obtain ⟨b4, q4, s4, e4, c0, c1, hq4⟩ := below_ok l hl q3 s3 hq3 4 (by omega) (by omega)
  obtain ⟨c, r', w', q, t, g1, g2, g3, g4⟩ := on_l0 l hl st hs (wrap64 (1 + b1)) (wrap64 (1 + b2)) 1 b3 1000 0 b4.toNat 0 ([] : List S47) q4 s4 (by simp; omega) hq4
  rw [Int.toNat_of_nonneg c0] at g1
  simp only [List.length_nil] at g2
  refine ⟨wrap64 (1 + b1), wrap64 (1 + b2), 1, b3, c, 1000, 0, r', w', q, t, ?_, by omega, g3, g4⟩
  unfold spec_l5On.f
  exact ev_bindo e1 (ev_bindo e2 (ev_bindo e3 (ev_bindo e4 g1)))
/-- A transaction is drawn: its rows are short. -/
theorem any5_ok (l : List Int) (hl : l.length ≤ 140737488351232) (p s : Int) (hp : Cur l p) : ∃ a0 a1 a2 a3 a4 a5 a6 rs ws q t, Ev (fun k => spec_l5Any.f k l p s) (a0, a1, a2, a3, a4, a5, a6, rs, ws, q, t) ∧ rs.length ≤ 5 ∧ ws.length ≤ 4 ∧ Cur l q := by
  obtain ⟨m, q0, t0, h1, h2, h3, hq0⟩ := store_draw l hl 6 0 p s [] (by omega) rfl (by simp) hp
  have hs : Ev (fun k => spec_l4Store.f k l p s) (m, q0, t0) := h1
  obtain ⟨a0, a1, a2, a3, a4, a5, a6, rs, ws, q1, t1, ho, hr, hw, hq1⟩ := on_ok l hl m h3 q0 t0 hq0
  obtain ⟨c, q2, t2, e2, c0, c1, hq2⟩ := below_ok l hl q1 t1 hq1 16 (by omega) (by omega)
  unfold spec_l5Any.f
  by_cases n0 : c = 0
  · obtain ⟨b, q3, t3, e3, _, hq3⟩ := pick_ok l hl q2 t2 hq2 ([0, 9, 10] : List Int) (by decide) (by decide)
    exact ⟨_, _, _, _, _, _, _, _, _, _, _, Ev.bind hs (Ev.bind ho (ev_bindo e2 (ev_pos n0 (ev_bindo e3 (Ev.now _))))), by show rs.length ≤ 5; omega, by show ws.length ≤ 4; omega, hq3⟩
  by_cases n1 : c = 1
  · obtain ⟨b, q3, t3, e3, _, hq3⟩ := pick_ok l hl q2 t2 hq2 ([0, 5] : List Int) (by decide) (by decide)
    exact ⟨_, _, _, _, _, _, _, _, _, _, _, Ev.bind hs (Ev.bind ho (ev_bindo e2 (ev_neg n0 (ev_pos n1 (ev_bindo e3 (Ev.now _)))))), by show rs.length ≤ 5; omega, by show ws.length ≤ 4; omega, hq3⟩
  by_cases n2 : c = 2
  · obtain ⟨b, q3, t3, e3, _, _, hq3⟩ := below_ok l hl q2 t2 hq2 5 (by omega) (by omega)
    obtain ⟨b4, q4, t4, e4, _, _, hq4⟩ := below_ok l hl q3 t3 hq3 3 (by omega) (by omega)
    exact ⟨_, _, _, _, _, _, _, _, _, _, _, Ev.bind hs (Ev.bind ho (ev_bindo e2 (ev_neg n0 (ev_neg n1 (ev_pos n2 (ev_bindo e3 (ev_bindo e4 (Ev.now _)))))))), by show rs.length ≤ 5; omega, by show ws.length ≤ 4; omega, hq4⟩
  by_cases n3 : c = 3
  · obtain ⟨b, q3, t3, e3, _, hq3⟩ := pick_ok l hl q2 t2 hq2 ([(-1), 999, 1000] : List Int) (by decide) (by decide)
    obtain ⟨b4, q4, t4, e4, _, hq4⟩ := pick_ok l hl q3 t3 hq3 ([0, 1, 1000, 1001] : List Int) (by decide) (by decide)
    exact ⟨_, _, _, _, _, _, _, _, _, _, _, Ev.bind hs (Ev.bind ho (ev_bindo e2 (ev_neg n0 (ev_neg n1 (ev_neg n2 (ev_pos n3 (ev_bindo e3 (ev_bindo e4 (Ev.now _))))))))), by show rs.length ≤ 5; omega, by show ws.length ≤ 4; omega, hq4⟩
  by_cases n4 : c = 4
  · obtain ⟨b, q3, t3, e3, _, _, hq3⟩ := below_ok l hl q2 t2 hq2 7 (by omega) (by omega)
    obtain ⟨b4, q4, t4, e4, _, hq4⟩ := pick_ok l hl q3 t3 hq3 ([(-1), 0, 3, 1000] : List Int) (by decide) (by decide)
    exact ⟨_, _, _, _, _, _, _, _, _, _, _, Ev.bind hs (Ev.bind ho (ev_bindo e2 (ev_neg n0 (ev_neg n1 (ev_neg n2 (ev_neg n3 (ev_pos n4 (ev_bindo e3 (ev_bindo e4 (ev_pos (by show rs.length < _; omega) (Ev.now _))))))))))), by show (rs ++ _).length ≤ 5; simp; omega, by show ws.length ≤ 4; omega, hq4⟩
  by_cases n5 : c = 5
  · obtain ⟨b, q3, t3, e3, _, _, hq3⟩ := below_ok l hl q2 t2 hq2 7 (by omega) (by omega)
    obtain ⟨b4, q4, t4, e4, _, hq4⟩ := pick_ok l hl q3 t3 hq3 ([(-2), 100, 0] : List Int) (by decide) (by decide)
    exact ⟨_, _, _, _, _, _, _, _, _, _, _, Ev.bind hs (Ev.bind ho (ev_bindo e2 (ev_neg n0 (ev_neg n1 (ev_neg n2 (ev_neg n3 (ev_neg n4 (ev_pos n5 (ev_bindo e3 (ev_bindo e4 (ev_pos (by show ws.length < _; omega) (Ev.now _)))))))))))), by show rs.length ≤ 5; omega, by show (ws ++ _).length ≤ 4; simp; omega, hq4⟩
  exact ⟨_, _, _, _, _, _, _, _, _, _, _, Ev.bind hs (Ev.bind ho (ev_bindo e2 (ev_neg n0 (ev_neg n1 (ev_neg n2 (ev_neg n3 (ev_neg n4 (ev_neg n5 (Ev.now _))))))))), by show rs.length ≤ 5; omega, by show ws.length ≤ 4; omega, hq2⟩
theorem equal_draw (l : List Int) (hl : l.length ≤ 140737488351232) : ∃ a0 a1 a2 a3 a4 a5 a6 r1 w1 b0 b1 b2 b3 b4 b5 b6 r2 w2, Ev (fun k => spec_DrawEqualTransactions.f k l) (a0, a1, a2, a3, a4, a5, a6, r1, w1, b0, b1, b2, b3, b4, b5, b6, r2, w2) ∧ r1.length ≤ 5 ∧ w1.length ≤ 4 ∧ r2.length ≤ 5 ∧ w2.length ≤ 4 := by
  obtain ⟨s0, hnew⟩ := new_ok l
  obtain ⟨a0, a1, a2, a3, a4, a5, a6, r1, w1, q, t, h1, h2, h3, hq⟩ := any5_ok l hl 0 s0 (cur0 l)
  obtain ⟨b, q2, t2, e2, hq2⟩ := once_ok l hl q t hq 2 (by omega) (by omega)
  unfold spec_DrawEqualTransactions.f
  by_cases h : b = true
  · refine ⟨_, _, _, _, _, _, _, _, _, _, _, _, _, _, _, _, _, _, Ev.bind hnew (Ev.bind h1 (ev_bindo e2 (ev_pos h (ev_bindo (a := (a0, a1, a2, a3, a4, a5, a6, [] ++ r1, [] ++ w1)) ?_ (Ev.now _))))), h2, h3, ?_, ?_⟩
    · unfold spec_l5Copy.f
      simp only [Option.bind_some]
      rw [if_pos (by simp; omega), if_pos (by simp; omega)]
    · show ([] ++ r1).length ≤ 5; simpa using h2
    · show ([] ++ w1).length ≤ 4; simpa using h3
  · obtain ⟨b0, b1, b2, b3, b4, b5, b6, r2, w2, q3, t3, g1, g2, g3, _⟩ := any5_ok l hl q2 t2 hq2
    exact ⟨_, _, _, _, _, _, _, _, _, _, _, _, _, _, _, _, _, _, Ev.bind hnew (Ev.bind h1 (ev_bindo e2 (ev_neg h (Ev.bind g1 (Ev.now _))))), h2, h3, g2, g3⟩
theorem new_draw (l : List Int) (hl : l.length ≤ 140737488351232) : ∃ a b c, Ev (fun k => spec_DrawNewTransaction.f k l) (a, b, c) := by
  obtain ⟨s0, hnew⟩ := new_ok l
  obtain ⟨a, q, t, e1, _, hq⟩ := pick_ok l hl 0 s0 (cur0 l) ([1, 3, 9, 0, 10] : List Int) (by decide) (by decide)
  obtain ⟨b, q2, t2, e2, _, hq2⟩ := pick_ok l hl q t hq ([1, 2, 3, 4, 0, 5] : List Int) (by decide) (by decide)
  obtain ⟨c, q3, t3, e3, _, hq3⟩ := pick_ok l hl q2 t2 hq2 ([0, 5, 999, 1000, (-1)] : List Int) (by decide) (by decide)
  refine ⟨a, b, c, ?_⟩
  unfold spec_DrawNewTransaction.f
  exact Ev.bind hnew (ev_bindo e1 (ev_bindo e2 (ev_bindo e3 (Ev.now _))))
/-- One mark lies before another. -/
def Bef (a b c d : Int) : Prop := a < c ∨ a = c ∧ b < d
instance (a b c d : Int) : Decidable (Bef a b c d) := by unfold Bef; exact inferInstance
theorem rdr (l : List S47) (i : Nat) : rd_T47 l (i : Int) = l.getD i z47 := by unfold rd_T47; rw [Int.toNat_natCast]
theorem rdw (l : List S58) (i : Nat) : rd_T58 l (i : Int) = l.getD i z58 := by unfold rd_T58; rw [Int.toNat_natCast]
def ROk (l : List S47) (j : Nat) : Prop := (0 ≤ (l.getD j z47).f0 ∧ (l.getD j z47).f0 ≤ 5) ∧ (0 ≤ (l.getD j z47).f1 ∧ (l.getD j z47).f1 ≤ 999) ∧ (0 < j → Bef (l.getD (j - 1) z47).f0 (l.getD (j - 1) z47).f1 (l.getD j z47).f0 (l.getD j z47).f1)
instance (l : List S47) : DecidablePred (ROk l) := fun j => by unfold ROk; exact inferInstance
def WOk (l : List S58) (j : Nat) : Prop := (0 ≤ (l.getD j z58).f0 ∧ (l.getD j z58).f0 ≤ 5) ∧ (-1 ≤ (l.getD j z58).f1 ∧ (l.getD j z58).f1 ≤ 99) ∧ (0 < j → (l.getD (j - 1) z58).f0 < (l.getD j z58).f0)
instance (l : List S58) : DecidablePred (WOk l) := fun j => by unfold WOk; exact inferInstance
def Hd (a0 a1 a2 a3 a4 a5 a6 : Int) : Prop := (1 ≤ a0 ∧ a0 ≤ 9) ∧ (1 ≤ a1 ∧ a1 ≤ 4) ∧ (1 ≤ a2 ∧ a2 ≤ 3) ∧ (0 ≤ a3 ∧ a3 ≤ 999) ∧ (0 ≤ a4 ∧ a4 ≤ 999) ∧ (1 ≤ a5 ∧ a5 ≤ 1000) ∧ (a2 = 2 → 1 ≤ a6 ∧ a6 ≤ 999) ∧ (a2 ≠ 2 → a6 = 0)
instance (a0 a1 a2 a3 a4 a5 a6 : Int) : Decidable (Hd a0 a1 a2 a3 a4 a5 a6) := by unfold Hd; exact inferInstance
/-- What a right transaction is. -/
def vt (a0 a1 a2 a3 a4 a5 a6 : Int) (rs : List S47) (ws : List S58) : Bool :=
  decide (∀ j, j < rs.length → ROk rs j) && (decide (∀ j, j < ws.length → WOk ws j) && (decide (Hd a0 a1 a2 a3 a4 a5 a6) && decide (rs.length ≤ 60)))
theorem spec_bef (a b c d : Int) : spec_l5Before.f a b c d = some (decide (Bef a b c d)) := by
  unfold spec_l5Before.f
  by_cases hb : Bef a b c d
  · rw [decide_eq_true hb]
    rcases hb with h | ⟨h, h2⟩
    · rw [if_pos h]
    · rw [if_neg (by omega), if_pos h, decide_eq_true h2]
  · rw [decide_eq_false hb]
    have h1 : ¬ a < c := fun h => hb (Or.inl h)
    rw [if_neg h1]
    by_cases h : a = c
    · rw [if_pos h, decide_eq_false (fun h2 => hb (Or.inr ⟨h, h2⟩))]
    · rw [if_neg h]
theorem spec_hd (a0 a1 a2 a3 a4 a5 a6 : Int) (rs : List S47) (ws : List S58) (b : Bool) (hb : b = !decide ((1 ≤ a0 ∧ a0 ≤ 9) ∧ (1 ≤ a1 ∧ a1 ≤ 4) ∧ (0 ≤ a3 ∧ a3 ≤ 999))) :
    Ev (fun k => spec_IsValidTransaction.j4 k b a0 a1 a2 a3 a4 a5 a6 rs ws) (decide (Hd a0 a1 a2 a3 a4 a5 a6) && decide (rs.length ≤ 60)) := by
  have hno : ¬ Hd a0 a1 a2 a3 a4 a5 a6 → Ev (fun _ : Nat => some false) (decide (Hd a0 a1 a2 a3 a4 a5 a6) && decide (rs.length ≤ 60)) := fun h => by
    rw [decide_eq_false h]; exact Ev.now _
  refine Ev.step (fun k => spec_IsValidTransaction.j4.eq_2 ..) ?_
  simp only [spec_in, Option.bind_some]
  have hB : b = true ↔ ¬ ((1 ≤ a0 ∧ a0 ≤ 9) ∧ (1 ≤ a1 ∧ a1 ≤ 4) ∧ (0 ≤ a3 ∧ a3 ≤ 999)) := by
    rw [hb, Bool.not_eq_true', decide_eq_false_iff_not]
  have hC : ((a2 == 2) == (decide (a6 > 0))) = true ↔ (a2 = 2 ↔ a6 > 0) := by
    rw [beq_iff_eq, Bool.eq_iff_iff, beq_iff_eq, decide_eq_true_eq]
  refine ev_ite (fun h0 => hno ?_) (fun h0 => ev_ite (fun h1 => ev_ite (fun h2 => ev_ite (fun h3 => ev_ite (fun h4 => ev_ite (fun h5 => ?_) (fun h5 => hno ?_)) (fun h4 => hno ?_)) (fun h3 => hno ?_)) (fun h2 => hno ?_)) (fun h1 => hno ?_))
  all_goals
    simp only [hB, hC, decide_eq_true_eq] at *
    clear hno hb hB hC
  case refine_2 =>
    rw [decide_eq_true (show Hd a0 a1 a2 a3 a4 a5 a6 by unfold Hd; omega), Bool.true_and]
    refine ev_eq (Ev.now _) ?_
    rw [decide_eq_decide]
    omega
  all_goals
    unfold Hd
    omega
theorem spec_ws (a0 a1 a2 a3 a4 a5 a6 : Int) (rs : List S47) (ws : List S58) (hw : ws.length ≤ 9223372036854775806) :
    Ev (fun k => spec_IsValidTransaction.l1 k 0 a0 a1 a2 a3 a4 a5 a6 rs ws) (decide (∀ j, j < ws.length → WOk ws j) && (decide (Hd a0 a1 a2 a3 a4 a5 a6) && decide (rs.length ≤ 60))) := by
  have hno : ∀ i, Ev (fun k => spec_IsValidTransaction.j3 k i true a0 a1 a2 a3 a4 a5 a6 rs ws) false := fun i => Ev.step (fun k => spec_IsValidTransaction.j3.eq_2 ..) (ev_pos rfl (Ev.now _))
  have hgo : ∀ i : Nat, i < ws.length → ∀ r, Ev (fun k => spec_IsValidTransaction.l1 k ((i + 1 : Nat) : Int) a0 a1 a2 a3 a4 a5 a6 rs ws) r → Ev (fun k => spec_IsValidTransaction.j3 k (i : Int) false a0 a1 a2 a3 a4 a5 a6 rs ws) r := by
    intro i hi r h
    refine Ev.step (fun k => spec_IsValidTransaction.j3.eq_2 ..) (ev_neg (by simp) ?_)
    rw [up i (by omega)]
    exact h
  refine all_loop0 (g := fun k i => spec_IsValidTransaction.l1 k i a0 a1 a2 a3 a4 a5 a6 rs ws) ws.length (WOk ws) ?_ ?_ ?_
  · refine Ev.step (fun k => spec_IsValidTransaction.l1.eq_2 ..) (ev_neg (by omega) ?_)
    simp only [spec_in, Option.bind_some]
    refine ev_ite (fun h1 => ev_ite (fun h2 => ?_) (fun h2 => ?_)) (fun h1 => ?_)
    · refine spec_hd a0 a1 a2 a3 a4 a5 a6 rs ws _ ?_
      simp only [decide_eq_true_eq] at h1 h2
      congr 1
      rw [decide_eq_decide]
      exact ⟨fun h => ⟨h1, h2, h⟩, fun h => h.2.2⟩
    · refine spec_hd a0 a1 a2 a3 a4 a5 a6 rs ws _ ?_
      simp only [decide_eq_true_eq] at h1 h2
      symm
      rw [Bool.not_eq_true', decide_eq_false_iff_not]
      exact fun h => h2 h.2.1
    · refine spec_hd a0 a1 a2 a3 a4 a5 a6 rs ws _ ?_
      simp only [decide_eq_true_eq] at h1
      symm
      rw [Bool.not_eq_true', decide_eq_false_iff_not]
      exact fun h => h1 h.1
  · intro i hi hp r h
    refine Ev.step (fun k => spec_IsValidTransaction.l1.eq_2 ..) (ev_pos (by omega) (ev_pos (by omega) ?_))
    simp only [spec_in, Option.bind_some, rdw]
    refine ev_pos (decide_eq_true hp.1) (ev_pos (decide_eq_true hp.2.1) (ev_ite (fun h0 => ?_) (fun h0 => hgo i hi r h)))
    rw [down i (by omega) (by omega), rdw]
    refine ev_pos (by omega) (ev_pos (by omega) ?_)
    have := hp.2.2 (by omega)
    rw [decide_eq_false (by omega)]
    exact hgo i hi r h
  · intro i hi hp
    refine Ev.step (fun k => spec_IsValidTransaction.l1.eq_2 ..) (ev_pos (by omega) (ev_pos (by omega) ?_))
    simp only [spec_in, Option.bind_some, rdw]
    refine ev_ite (fun h1 => ev_ite (fun h2 => ev_ite (fun h0 => ?_) (fun h0 => ?_)) (fun _ => hno _)) (fun _ => hno _)
    · rw [down i (by omega) (by omega), rdw]
      refine ev_pos (by omega) (ev_pos (by omega) ?_)
      rw [decide_eq_true (?_ : (ws.getD (i - 1) z58).f0 ≥ (ws.getD i z58).f0)]
      · exact hno _
      · rcases Int.lt_or_le (ws.getD (i - 1) z58).f0 (ws.getD i z58).f0 with h3 | h3
        · exact absurd ⟨of_decide_eq_true h1, of_decide_eq_true h2, fun _ => h3⟩ hp
        · exact h3
    · exact absurd ⟨of_decide_eq_true h1, of_decide_eq_true h2, fun h => absurd h (by omega)⟩ hp
theorem spec_vt (a0 a1 a2 a3 a4 a5 a6 : Int) (rs : List S47) (ws : List S58) (hr : rs.length ≤ 9223372036854775806) (hw : ws.length ≤ 9223372036854775806) :
    Ev (fun k => spec_IsValidTransaction.f k a0 a1 a2 a3 a4 a5 a6 rs ws) (vt a0 a1 a2 a3 a4 a5 a6 rs ws) := by
  unfold spec_IsValidTransaction.f vt
  have hno : ∀ i, Ev (fun k => spec_IsValidTransaction.j1 k i true a0 a1 a2 a3 a4 a5 a6 rs ws) false := fun i => Ev.step (fun k => spec_IsValidTransaction.j1.eq_2 ..) (ev_pos rfl (Ev.now _))
  have hgo : ∀ i : Nat, i < rs.length → ∀ r, Ev (fun k => spec_IsValidTransaction.l0 k ((i + 1 : Nat) : Int) a0 a1 a2 a3 a4 a5 a6 rs ws) r → Ev (fun k => spec_IsValidTransaction.j1 k (i : Int) false a0 a1 a2 a3 a4 a5 a6 rs ws) r := by
    intro i hi r h
    refine Ev.step (fun k => spec_IsValidTransaction.j1.eq_2 ..) (ev_neg (by simp) ?_)
    rw [up i (by omega)]
    exact h
  refine all_loop0 (g := fun k i => spec_IsValidTransaction.l0 k i a0 a1 a2 a3 a4 a5 a6 rs ws) rs.length (ROk rs) ?_ ?_ ?_
  · exact Ev.step (fun k => spec_IsValidTransaction.l0.eq_2 ..) (ev_neg (by omega) (spec_ws a0 a1 a2 a3 a4 a5 a6 rs ws hw))
  · intro i hi hp r h
    refine Ev.step (fun k => spec_IsValidTransaction.l0.eq_2 ..) (ev_pos (by omega) (ev_pos (by omega) ?_))
    simp only [spec_in, Option.bind_some, rdr]
    refine ev_pos (decide_eq_true hp.1) (ev_pos (decide_eq_true hp.2.1) (ev_ite (fun h0 => ?_) (fun h0 => hgo i hi r h)))
    rw [down i (by omega) (by omega), rdr]
    refine ev_pos (by omega) (ev_pos (by omega) ?_)
    simp only [spec_bef, Option.bind_some]
    rw [decide_eq_true (hp.2.2 (by omega))]
    exact hgo i hi r h
  · intro i hi hp
    refine Ev.step (fun k => spec_IsValidTransaction.l0.eq_2 ..) (ev_pos (by omega) (ev_pos (by omega) ?_))
    simp only [spec_in, Option.bind_some, rdr]
    refine ev_ite (fun h1 => ev_ite (fun h2 => ev_ite (fun h0 => ?_) (fun h0 => ?_)) (fun _ => hno _)) (fun _ => hno _)
    · rw [down i (by omega) (by omega), rdr]
      refine ev_pos (by omega) (ev_pos (by omega) ?_)
      simp only [spec_bef, Option.bind_some]
      rw [decide_eq_false (fun h3 => hp ⟨of_decide_eq_true h1, of_decide_eq_true h2, fun _ => h3⟩)]
      exact hno _
    · exact absurd ⟨of_decide_eq_true h1, of_decide_eq_true h2, fun h => absurd h (by omega)⟩ hp
/-- How one number stands to another. -/
def cmpv (a b : Int) : Int := if a < b then -1 else if a > b then 1 else 0
theorem cmp_ev (a b : Int) : cmp_Compare_int.f a b = some (cmpv a b) := by
  unfold cmp_Compare_int.f cmp_isNaN_int.f cmpv
  simp only [Option.bind_some, bne_self_eq_false, Bool.false_eq_true, if_false]
  by_cases h : a < b
  · simp [h]
  · by_cases h2 : a > b <;> simp [h, h2]
def cmpM (a b c d : Int) : Int := if cmpv a c = 0 then cmpv b d else cmpv a c
theorem impl_cmpM (a b c d : Int) : Ev (fun k => impl_compareMarks.f k a b c d) (cmpM a b c d) := by
  unfold impl_compareMarks.f
  simp only [cmp_ev, Option.bind_some]
  refine Ev.bind (a := cmpM a b c d) ?_ (Ev.now _)
  unfold cmp_Or_int.f cmpM
  refine Ev.step (fun k => cmp_Or_int.l0.eq_2 ..) (ev_pos (by simp) (ev_pos (by omega) (ev_pos (by simp) ?_)))
  refine ev_ite (fun h => ?_) (fun h => ?_)
  · have h' : cmpv a c = 0 := h
    rw [if_pos h', w64 (by omega) (by omega)]
    refine Ev.step (fun k => cmp_Or_int.l0.eq_2 ..) (ev_pos (by simp) (ev_pos (by omega) (ev_pos (by simp) ?_)))
    refine ev_ite (fun h2 => ?_) (fun h2 => ?_)
    · have h2' : cmpv b d = 0 := h2
      rw [h2', w64 (by omega) (by omega)]
      exact Ev.step (fun k => cmp_Or_int.l0.eq_2 ..) (ev_neg (by simp) (Ev.now _))
    · exact Ev.now _
  · have h' : ¬ cmpv a c = 0 := h
    rw [if_neg h']
    exact Ev.now _
theorem cmpM_bef (a b c d : Int) : cmpM a b c d ≥ 0 ↔ ¬ Bef a b c d := by
  unfold cmpM cmpv Bef
  by_cases h1 : a < c
  · simp [h1]
  · by_cases h2 : a > c
    · simp [h1, h2]; omega
    · have : a = c := by omega
      subst this
      by_cases h3 : b < d
      · simp [h3]
      · by_cases h4 : b > d <;> simp [h3, h4]
theorem impl_rs (l : List S47) (hl : l.length ≤ 9223372036854775806) : Ev (fun k => impl_areReads.f k l) (decide (∀ j, j < l.length → ROk l j) && decide (l.length ≤ 60)) := by
  unfold impl_areReads.f
  refine all_loop0 (g := fun k i => impl_areReads.l0 k l l (l.length : Int) i) l.length (ROk l) ?_ ?_ ?_
  · refine Ev.step (fun k => impl_areReads.l0.eq_2 ..) (ev_neg (by omega) (ev_eq (Ev.now _) ?_))
    rw [decide_eq_decide]
    omega
  · intro i hi hp r h
    refine Ev.step (fun k => impl_areReads.l0.eq_2 ..) (ev_pos (by omega) (ev_pos (by omega) (ev_pos (by omega) ?_)))
    simp only [impl_isKey.f, impl_in_, Option.bind_some, rdr]
    rw [up i (by omega)]
    refine ev_pos (decide_eq_true hp.1) (ev_pos (decide_eq_true hp.2.1) (ev_ite (fun h0 => ?_) (fun h0 => h)))
    rw [down i (by omega) (by omega), rdr]
    refine ev_pos (by omega) (ev_pos (by omega) (Ev.bind (impl_cmpM _ _ _ _) (ev_neg ?_ h)))
    rw [cmpM_bef]
    exact fun h2 => h2 (hp.2.2 (by omega))
  · intro i hi hp
    refine Ev.step (fun k => impl_areReads.l0.eq_2 ..) (ev_pos (by omega) (ev_pos (by omega) (ev_pos (by omega) ?_)))
    simp only [impl_isKey.f, impl_in_, Option.bind_some, rdr]
    rw [up i (by omega)]
    refine ev_ite (fun h1 => ev_ite (fun h2 => ev_ite (fun h0 => ?_) (fun h0 => ?_)) (fun _ => Ev.now _)) (fun _ => Ev.now _)
    · rw [down i (by omega) (by omega), rdr]
      refine ev_pos (by omega) (ev_pos (by omega) (Ev.bind (impl_cmpM _ _ _ _) (ev_pos ?_ (Ev.now _))))
      rw [cmpM_bef]
      exact fun h3 => hp ⟨of_decide_eq_true h1, of_decide_eq_true h2, fun _ => h3⟩
    · exact absurd ⟨of_decide_eq_true h1, of_decide_eq_true h2, fun h => absurd h (by omega)⟩ hp
theorem impl_ws (l : List S58) (hl : l.length ≤ 9223372036854775806) : Ev (fun k => impl_areWrites.f k l) (decide (∀ j, j < l.length → WOk l j) && true) := by
  unfold impl_areWrites.f
  refine all_loop0 (g := fun k i => impl_areWrites.l0 k l l (l.length : Int) i) l.length (WOk l) ?_ ?_ ?_
  · exact Ev.step (fun k => impl_areWrites.l0.eq_2 ..) (ev_neg (by omega) (Ev.now _))
  · intro i hi hp r h
    refine Ev.step (fun k => impl_areWrites.l0.eq_2 ..) (ev_pos (by omega) (ev_pos (by omega) (ev_pos (by omega) ?_)))
    simp only [impl_isKey.f, impl_isValue.f, impl_in_, Option.bind_some, rdw]
    rw [up i (by omega)]
    refine ev_pos (decide_eq_true hp.1) (ev_pos (decide_eq_true hp.2.1) (ev_ite (fun h0 => ?_) (fun h0 => h)))
    rw [down i (by omega) (by omega), rdw]
    have := hp.2.2 (by omega)
    exact ev_pos (by omega) (ev_pos (by omega) (ev_neg (by omega) h))
  · intro i hi hp
    refine Ev.step (fun k => impl_areWrites.l0.eq_2 ..) (ev_pos (by omega) (ev_pos (by omega) (ev_pos (by omega) ?_)))
    simp only [impl_isKey.f, impl_isValue.f, impl_in_, Option.bind_some, rdw]
    rw [up i (by omega)]
    refine ev_ite (fun h1 => ev_ite (fun h2 => ev_ite (fun h0 => ?_) (fun h0 => ?_)) (fun _ => Ev.now _)) (fun _ => Ev.now _)
    · rw [down i (by omega) (by omega), rdw]
      refine ev_pos (by omega) (ev_pos (by omega) (ev_pos ?_ (Ev.now _)))
      rcases Int.lt_or_le (l.getD (i - 1) z58).f0 (l.getD i z58).f0 with h3 | h3
      · exact absurd ⟨of_decide_eq_true h1, of_decide_eq_true h2, fun _ => h3⟩ hp
      · exact h3
    · exact absurd ⟨of_decide_eq_true h1, of_decide_eq_true h2, fun h => absurd h (by omega)⟩ hp
theorem impl_vt (a0 a1 a2 a3 a4 a5 a6 : Int) (rs : List S47) (ws : List S58) (hr : rs.length ≤ 9223372036854775806) (hw : ws.length ≤ 9223372036854775806) :
    Ev (fun k => impl_IsValidTransaction.f k a0 a1 a2 a3 a4 a5 a6 rs ws) (vt a0 a1 a2 a3 a4 a5 a6 rs ws) := by
  have h1 : ∀ b : Bool, Ev (fun k => impl_IsValidTransaction.j1 k b a0 a1 a2 a3 a4 a5 a6 rs ws) (!b && ((decide (∀ j, j < rs.length → ROk rs j) && decide (rs.length ≤ 60)) && (decide (∀ j, j < ws.length → WOk ws j) && true))) := by
    intro b
    refine Ev.step (fun k => impl_IsValidTransaction.j1.eq_2 ..) (ev_ite (fun h => ?_) (fun h => ?_))
    · rw [h]; exact Ev.now _
    · rw [Bool.not_eq_true] at h
      rw [h]
      refine Ev.bind (impl_rs rs hr) (ev_ite (fun g => ?_) (fun g => ?_))
      · rw [g]
        exact Ev.bind (impl_ws ws hw) (ev_eq (Ev.now _) (by simp))
      · rw [Bool.not_eq_true] at g
        rw [g]
        exact ev_eq (Ev.now _) (by simp)
  have h0 : ∀ b : Bool, Ev (fun k => impl_IsValidTransaction.j0 k b a0 a1 a2 a3 a4 a5 a6 rs ws) (!b && (decide ((a2 = 2 → 1 ≤ a6 ∧ a6 ≤ 999) ∧ (a2 ≠ 2 → a6 = 0)) && ((decide (∀ j, j < rs.length → ROk rs j) && decide (rs.length ≤ 60)) && (decide (∀ j, j < ws.length → WOk ws j) && true)))) := by
    intro b
    refine Ev.step (fun k => impl_IsValidTransaction.j0.eq_2 ..) (ev_ite (fun h => ?_) (fun h => ?_))
    · rw [h]; exact Ev.now _
    · rw [Bool.not_eq_true] at h
      rw [h]
      simp only [impl_IsStamp.f, impl_in_, Option.bind_some]
      refine ev_ite (fun g => ev_ite (fun g2 => ?_) (fun g2 => ?_)) (fun g => ?_)
      · refine ev_eq (h1 false) ?_
        rw [decide_eq_true (show (a2 = 2 → 1 ≤ a6 ∧ a6 ≤ 999) ∧ (a2 ≠ 2 → a6 = 0) from ⟨fun _ => of_decide_eq_true g2, fun h => absurd g h⟩)]
        simp
      · refine ev_eq (h1 true) ?_
        rw [decide_eq_false (show ¬ ((a2 = 2 → 1 ≤ a6 ∧ a6 ≤ 999) ∧ (a2 ≠ 2 → a6 = 0)) from fun h => g2 (decide_eq_true (h.1 g)))]
        simp
      · refine ev_eq (h1 _) ?_
        by_cases e : a6 = 0
        · rw [decide_eq_true (show (a2 = 2 → 1 ≤ a6 ∧ a6 ≤ 999) ∧ (a2 ≠ 2 → a6 = 0) from ⟨fun h => absurd h g, fun _ => e⟩)]
          simp [e]
        · rw [decide_eq_false (show ¬ ((a2 = 2 → 1 ≤ a6 ∧ a6 ≤ 999) ∧ (a2 ≠ 2 → a6 = 0)) from fun h => e (h.2 g))]
          simp [e]
  unfold impl_IsValidTransaction.f
  simp only [impl_isID.f, impl_isScheme.f, impl_in_, Option.bind_some]
  have key : ∀ (p : Prop) [Decidable p] (b : Bool), (b = !decide p) → (Hd a0 a1 a2 a3 a4 a5 a6 ↔ p ∧ ((a2 = 2 → 1 ≤ a6 ∧ a6 ≤ 999) ∧ (a2 ≠ 2 → a6 = 0))) → (!b && (decide ((a2 = 2 → 1 ≤ a6 ∧ a6 ≤ 999) ∧ (a2 ≠ 2 → a6 = 0)) && ((decide (∀ j, j < rs.length → ROk rs j) && decide (rs.length ≤ 60)) && (decide (∀ j, j < ws.length → WOk ws j) && true)))) = vt a0 a1 a2 a3 a4 a5 a6 rs ws := by
    intro p _ b hb hp
    unfold vt
    rw [show decide (Hd a0 a1 a2 a3 a4 a5 a6) = (decide p && decide ((a2 = 2 → 1 ≤ a6 ∧ a6 ≤ 999) ∧ (a2 ≠ 2 → a6 = 0))) by rw [← Bool.decide_and, decide_eq_decide]; exact hp, hb, Bool.not_not, Bool.and_true]
    generalize decide (∀ j, j < rs.length → ROk rs j) = x1
    generalize decide (rs.length ≤ 60) = x2
    generalize decide (∀ j, j < ws.length → WOk ws j) = x3
    generalize decide ((a2 = 2 → 1 ≤ a6 ∧ a6 ≤ 999) ∧ (a2 ≠ 2 → a6 = 0)) = x4
    generalize decide p = x5
    cases x1 <;> cases x2 <;> cases x3 <;> cases x4 <;> cases x5 <;> rfl
  refine ev_ite (fun g0 => ev_ite (fun g1 => ev_ite (fun g2 => ev_ite (fun g3 => ev_ite (fun g4 => ?_) (fun g4 => ?_)) (fun g3 => ?_)) (fun g2 => ?_)) (fun g1 => ?_)) (fun g0 => ?_)
  · simp only [decide_eq_true_eq] at g0 g1 g2 g3 g4
    exact ev_eq (h0 _) (key (1 ≤ a5 ∧ a5 ≤ 1000) _ rfl (by unfold Hd; exact ⟨fun h => ⟨h.2.2.2.2.2.1, h.2.2.2.2.2.2⟩, fun h => ⟨g0, g1, g2, g3, g4, h.1, h.2⟩⟩))
  all_goals
    simp only [decide_eq_true_eq] at *
    refine ev_eq (h0 true) (key False _ rfl ?_)
    unfold Hd
    simp only [false_and, iff_false]
  · exact fun h => g4 h.2.2.2.2.1
  · exact fun h => g3 h.2.2.2.1
  · exact fun h => g2 h.2.2.1
  · exact fun h => g1 h.2.1
  · exact fun h => g0 h.1
theorem IsReadOnly_both (a0 a1 a2 a3 a4 a5 a6 : Int) (rs : List S47) (ws : List S58) (hr : rs.length ≤ 9223372036854775806) (hw : ws.length ≤ 9223372036854775806) :
    ∃ r, Ev (fun k => spec_IsReadOnly.f k a0 a1 a2 a3 a4 a5 a6 rs ws) r ∧ Ev (fun k => impl_IsReadOnly.f k a0 a1 a2 a3 a4 a5 a6 rs ws) r := by
  unfold spec_IsReadOnly.f impl_IsReadOnly.f
  by_cases h : vt a0 a1 a2 a3 a4 a5 a6 rs ws = true
  · exact ⟨_, Ev.bind (spec_vt a0 a1 a2 a3 a4 a5 a6 rs ws hr hw) (ev_pos h (Ev.now _)), Ev.bind (impl_vt a0 a1 a2 a3 a4 a5 a6 rs ws hr hw) (ev_pos h (Ev.now _))⟩
  · exact ⟨_, Ev.bind (spec_vt a0 a1 a2 a3 a4 a5 a6 rs ws hr hw) (ev_neg h (Ev.now _)), Ev.bind (impl_vt a0 a1 a2 a3 a4 a5 a6 rs ws hr hw) (ev_neg h (Ev.now _))⟩
/-- Two differ, in the loops' own words. -/
def nr (u v : S47) : Bool := !(u.f0 == v.f0) || (!(u.f1 == v.f1))
theorem rdn_r (l : List S47) (i : Nat) : rd_T47 l (i : Int) = l.getD i z47 := by unfold rd_T47; rw [Int.toNat_natCast]
def allr (a b : List S47) : Bool := decide (∀ j, j < a.length → ¬ nr (a.getD j z47) (b.getD j z47) = true)
theorem impl_r (a b : List S47) (ha : a.length ≤ 9223372036854775806) : Ev (fun k => impl_ReadMark.f k a b) (if a.length = b.length then (allr a b && true) else false) := by
  unfold impl_ReadMark.f
  refine ev_ite (fun h => ?_) (fun h => ?_)
  · rw [if_pos (by omega)]
    refine all_loop0 (g := fun k i => impl_ReadMark.l0 k a b (a.length : Int) i) a.length _ ?_ ?_ ?_
    · exact Ev.step (fun k => impl_ReadMark.l0.eq_2 ..) (ev_neg (by omega) (Ev.now _))
    · intro i hi hp r hr
      refine Ev.step (fun k => impl_ReadMark.l0.eq_2 ..) (ev_pos (by omega) (ev_pos (by omega) (ev_pos (by omega) (ev_pos (by omega) ?_))))
      rw [rdn_r, rdn_r, up i (by omega)]
      exact ev_neg hp hr
    · intro i hi hp
      refine Ev.step (fun k => impl_ReadMark.l0.eq_2 ..) (ev_pos (by omega) (ev_pos (by omega) (ev_pos (by omega) (ev_pos (by omega) ?_))))
      rw [rdn_r, rdn_r, up i (by omega)]
      exact ev_pos (Decidable.not_not.1 hp) (Ev.now _)
  · rw [if_neg (by omega)]
    exact Ev.now _
/-- Two differ, in the loops' own words. -/
def nw (u v : S58) : Bool := !(u.f0 == v.f0) || (!(u.f1 == v.f1))
theorem rdn_w (l : List S58) (i : Nat) : rd_T58 l (i : Int) = l.getD i z58 := by unfold rd_T58; rw [Int.toNat_natCast]
def allw (a b : List S58) : Bool := decide (∀ j, j < a.length → ¬ nw (a.getD j z58) (b.getD j z58) = true)
theorem impl_w (a b : List S58) (ha : a.length ≤ 9223372036854775806) : Ev (fun k => impl_Write.f k a b) (if a.length = b.length then (allw a b && true) else false) := by
  unfold impl_Write.f
  refine ev_ite (fun h => ?_) (fun h => ?_)
  · rw [if_pos (by omega)]
    refine all_loop0 (g := fun k i => impl_Write.l0 k a b (a.length : Int) i) a.length _ ?_ ?_ ?_
    · exact Ev.step (fun k => impl_Write.l0.eq_2 ..) (ev_neg (by omega) (Ev.now _))
    · intro i hi hp r hr
      refine Ev.step (fun k => impl_Write.l0.eq_2 ..) (ev_pos (by omega) (ev_pos (by omega) (ev_pos (by omega) (ev_pos (by omega) ?_))))
      rw [rdn_w, rdn_w, up i (by omega)]
      exact ev_neg hp hr
    · intro i hi hp
      refine Ev.step (fun k => impl_Write.l0.eq_2 ..) (ev_pos (by omega) (ev_pos (by omega) (ev_pos (by omega) (ev_pos (by omega) ?_))))
      rw [rdn_w, rdn_w, up i (by omega)]
      exact ev_pos (Decidable.not_not.1 hp) (Ev.now _)
  · rw [if_neg (by omega)]
    exact Ev.now _
theorem spec_l1 (a0 a1 a2 a3 a4 a5 a6 : Int) (r1 : List S47) (w1 : List S58) (b0 b1 b2 b3 b4 b5 b6 : Int) (r2 : List S47) (w2 : List S58) (hw : w1.length ≤ 9223372036854775806) (e : w1.length = w2.length) : Ev (fun k => spec_EqualTransactions.l1 k 0 a0 a1 a2 a3 a4 a5 a6 r1 w1 b0 b1 b2 b3 b4 b5 b6 r2 w2) (allw w1 w2 && true) := by
  refine all_loop0 (g := fun k i => spec_EqualTransactions.l1 k i a0 a1 a2 a3 a4 a5 a6 r1 w1 b0 b1 b2 b3 b4 b5 b6 r2 w2) w1.length _ ?_ ?_ ?_
  · exact Ev.step (fun k => spec_EqualTransactions.l1.eq_2 ..) (ev_neg (by omega) (Ev.now _))
  · intro i hi hp r hr
    refine Ev.step (fun k => spec_EqualTransactions.l1.eq_2 ..) (ev_pos (by omega) (ev_pos (by omega) (ev_pos (by omega) ?_)))
    rw [rdn_w, rdn_w, up i (by omega)]
    exact ev_neg hp hr
  · intro i hi hp
    refine Ev.step (fun k => spec_EqualTransactions.l1.eq_2 ..) (ev_pos (by omega) (ev_pos (by omega) (ev_pos (by omega) ?_)))
    rw [rdn_w, rdn_w, up i (by omega)]
    exact ev_pos (Decidable.not_not.1 hp) (Ev.now _)
theorem spec_l0 (a0 a1 a2 a3 a4 a5 a6 : Int) (r1 : List S47) (w1 : List S58) (b0 b1 b2 b3 b4 b5 b6 : Int) (r2 : List S47) (w2 : List S58) (hr : r1.length ≤ 9223372036854775806) (hw : w1.length ≤ 9223372036854775806) (er : r1.length = r2.length) (e : w1.length = w2.length) : Ev (fun k => spec_EqualTransactions.l0 k 0 a0 a1 a2 a3 a4 a5 a6 r1 w1 b0 b1 b2 b3 b4 b5 b6 r2 w2) (allr r1 r2 && (allw w1 w2 && true)) := by
  refine all_loop0 (g := fun k i => spec_EqualTransactions.l0 k i a0 a1 a2 a3 a4 a5 a6 r1 w1 b0 b1 b2 b3 b4 b5 b6 r2 w2) r1.length _ ?_ ?_ ?_
  · exact Ev.step (fun k => spec_EqualTransactions.l0.eq_2 ..) (ev_neg (by omega) (spec_l1 a0 a1 a2 a3 a4 a5 a6 r1 w1 b0 b1 b2 b3 b4 b5 b6 r2 w2 hw e))
  · intro i hi hp r hr
    refine Ev.step (fun k => spec_EqualTransactions.l0.eq_2 ..) (ev_pos (by omega) (ev_pos (by omega) (ev_pos (by omega) ?_)))
    rw [rdn_r, rdn_r, up i (by omega)]
    exact ev_neg hp hr
  · intro i hi hp
    refine Ev.step (fun k => spec_EqualTransactions.l0.eq_2 ..) (ev_pos (by omega) (ev_pos (by omega) (ev_pos (by omega) ?_)))
    rw [rdn_r, rdn_r, up i (by omega)]
    exact ev_pos (Decidable.not_not.1 hp) (Ev.now _)
/-- What both say of two transactions. -/
def eqT (a0 a1 a2 a3 a4 a5 a6 : Int) (r1 : List S47) (w1 : List S58) (b0 b1 b2 b3 b4 b5 b6 : Int) (r2 : List S47) (w2 : List S58) : Bool :=
  decide (a0 = b0 ∧ a1 = b1 ∧ a2 = b2 ∧ a3 = b3 ∧ a4 = b4 ∧ a5 = b5 ∧ a6 = b6) && ((if r1.length = r2.length then (allr r1 r2 && true) else false) && (if w1.length = w2.length then (allw w1 w2 && true) else false))
theorem spec_eqT (a0 a1 a2 a3 a4 a5 a6 : Int) (r1 : List S47) (w1 : List S58) (b0 b1 b2 b3 b4 b5 b6 : Int) (r2 : List S47) (w2 : List S58) (hr : r1.length ≤ 9223372036854775806) (hw : w1.length ≤ 9223372036854775806) : Ev (fun k => spec_EqualTransactions.f k a0 a1 a2 a3 a4 a5 a6 r1 w1 b0 b1 b2 b3 b4 b5 b6 r2 w2) (eqT a0 a1 a2 a3 a4 a5 a6 r1 w1 b0 b1 b2 b3 b4 b5 b6 r2 w2) := by
  have ht : Ev (fun k => spec_EqualTransactions.j0 k true a0 a1 a2 a3 a4 a5 a6 r1 w1 b0 b1 b2 b3 b4 b5 b6 r2 w2) false := Ev.step (fun k => spec_EqualTransactions.j0.eq_2 ..) (ev_pos rfl (Ev.now _))
  unfold spec_EqualTransactions.f eqT
  refine ev_ite (fun h0 => ev_ite (fun h1 => ev_ite (fun h2 => ev_ite (fun h3 => ev_ite (fun h4 => ev_ite (fun h5 => ev_ite (fun h6 => ev_ite (fun h7 => ?_) (fun h => ?_)) (fun h => ?_)) (fun h => ?_)) (fun h => ?_)) (fun h => ?_)) (fun h => ?_)) (fun h => ?_)) (fun h => ?_)
  · rw [decide_eq_true ⟨h0, h1, h2, h3, h4, h5, h6⟩, if_pos (by omega)]
    by_cases h8 : w1.length = w2.length
    · rw [if_pos h8]
      refine Ev.step (fun k => spec_EqualTransactions.j0.eq_2 ..) (ev_neg (by simp [h8]) ?_)
      refine ev_eq (spec_l0 a0 a1 a2 a3 a4 a5 a6 r1 w1 b0 b1 b2 b3 b4 b5 b6 r2 w2 hr hw (by omega) h8) ?_
      simp
    · rw [if_neg h8]
      refine ev_eq (Ev.step (fun k => spec_EqualTransactions.j0.eq_2 ..) (ev_pos (by simp; omega) (Ev.now _))) ?_
      simp
  · rw [if_neg (by omega)]
    exact ev_eq ht (by simp)
  all_goals exact ev_eq ht (by simp [h])
theorem impl_eqT (a0 a1 a2 a3 a4 a5 a6 : Int) (r1 : List S47) (w1 : List S58) (b0 b1 b2 b3 b4 b5 b6 : Int) (r2 : List S47) (w2 : List S58) (hr : r1.length ≤ 9223372036854775806) (hw : w1.length ≤ 9223372036854775806) : Ev (fun k => impl_EqualTransactions.f k a0 a1 a2 a3 a4 a5 a6 r1 w1 b0 b1 b2 b3 b4 b5 b6 r2 w2) (eqT a0 a1 a2 a3 a4 a5 a6 r1 w1 b0 b1 b2 b3 b4 b5 b6 r2 w2) := by
  unfold impl_EqualTransactions.f eqT
  refine ev_ite (fun h0 => ev_ite (fun h1 => ev_ite (fun h2 => ev_ite (fun h3 => ev_ite (fun h4 => ev_ite (fun h5 => ev_ite (fun h6 => ?_) (fun h => ?_)) (fun h => ?_)) (fun h => ?_)) (fun h => ?_)) (fun h => ?_)) (fun h => ?_)) (fun h => ?_)
  · rw [decide_eq_true ⟨h0, h1, h2, h3, h4, h5, h6⟩]
    refine Ev.bind (impl_r r1 r2 hr) (ev_ite (fun h => ?_) (fun h => ?_))
    · rw [h]
      exact Ev.bind (impl_w w1 w2 hw) (ev_eq (Ev.now _) (by simp))
    · rw [Bool.not_eq_true] at h
      rw [h]
      exact ev_eq (Ev.now _) (by simp)
  all_goals exact ev_eq (Ev.now _) (by simp [h])
/-- What a new transaction is. -/
def newT (a b c : Int) : Int × Int × Int × Int × Int × Int × Int × List S47 × List S58 × Bool :=
  if vt a b 1 c 0 1000 0 [] [] = true then (a, b, 1, c, 0, 1000, 0, [], [], true) else (0, 0, 0, 0, 0, 0, 0, [], [], false)
theorem spec_new (a b c : Int) : Ev (fun k => spec_NewTransaction.f k a b c) (newT a b c) := by
  unfold spec_NewTransaction.f newT
  refine Ev.bind (spec_vt a b 1 c 0 1000 0 [] [] (by simp) (by simp)) (ev_ite (fun h => ?_) (fun h => ?_))
  · rw [if_pos h]; exact Ev.now _
  · rw [if_neg h]; exact Ev.now _
theorem impl_new (a b c : Int) : Ev (fun k => impl_NewTransaction.f k a b c) (newT a b c) := by
  unfold impl_NewTransaction.f newT
  refine Ev.bind (impl_vt a b 1 c 0 1000 0 [] [] (by simp) (by simp)) (ev_ite (fun h => ?_) (fun h => ?_))
  · rw [if_pos h]; exact Ev.now _
  · rw [if_neg h]; exact Ev.now _
theorem nr_comm (u v : S47) : nr u v = nr v u := by unfold nr; rw [Bool.beq_comm (a := u.f0), Bool.beq_comm (a := u.f1)]
theorem nw_comm (u v : S58) : nw u v = nw v u := by unfold nw; rw [Bool.beq_comm (a := u.f0), Bool.beq_comm (a := u.f1)]
theorem allr_comm (a b : List S47) (h : a.length = b.length) : allr a b = allr b a := by
  unfold allr
  rw [decide_eq_decide]
  exact ⟨fun g j hj => by rw [nr_comm]; exact g j (by omega), fun g j hj => by rw [nr_comm]; exact g j (by omega)⟩
theorem allw_comm (a b : List S58) (h : a.length = b.length) : allw a b = allw b a := by
  unfold allw
  rw [decide_eq_decide]
  exact ⟨fun g j hj => by rw [nw_comm]; exact g j (by omega), fun g j hj => by rw [nw_comm]; exact g j (by omega)⟩
theorem eqT_comm (a0 a1 a2 a3 a4 a5 a6 : Int) (r1 : List S47) (w1 : List S58) (b0 b1 b2 b3 b4 b5 b6 : Int) (r2 : List S47) (w2 : List S58) : eqT a0 a1 a2 a3 a4 a5 a6 r1 w1 b0 b1 b2 b3 b4 b5 b6 r2 w2 = eqT b0 b1 b2 b3 b4 b5 b6 r2 w2 a0 a1 a2 a3 a4 a5 a6 r1 w1 := by
  unfold eqT
  have e1 : (decide (a0 = b0 ∧ a1 = b1 ∧ a2 = b2 ∧ a3 = b3 ∧ a4 = b4 ∧ a5 = b5 ∧ a6 = b6)) = (decide (b0 = a0 ∧ b1 = a1 ∧ b2 = a2 ∧ b3 = a3 ∧ b4 = a4 ∧ b5 = a5 ∧ b6 = a6)) := by rw [decide_eq_decide]; omega
  have e2 : (if r1.length = r2.length then (allr r1 r2 && true) else false) = (if r2.length = r1.length then (allr r2 r1 && true) else false) := by
    by_cases h : r1.length = r2.length
    · rw [if_pos h, if_pos h.symm, allr_comm r1 r2 h]
    · rw [if_neg h, if_neg (fun g => h g.symm)]
  have e3 : (if w1.length = w2.length then (allw w1 w2 && true) else false) = (if w2.length = w1.length then (allw w2 w1 && true) else false) := by
    by_cases h : w1.length = w2.length
    · rw [if_pos h, if_pos h.symm, allw_comm w1 w2 h]
    · rw [if_neg h, if_neg (fun g => h g.symm)]
  rw [e1, e2, e3]
theorem eqT_nil (a0 a1 a2 a3 a4 a5 a6 : Int) : eqT a0 a1 a2 a3 a4 a5 a6 [] [] a0 a1 a2 a3 a4 a5 a6 [] [] = true := by
  unfold eqT allr allw
  simp
theorem name_both (a : Int) : ∃ r, impl_SchemeName.f a = some r ∧ spec_SchemeName.f a = some r := by
  simp only [spec_SchemeName.f, impl_SchemeName.f, impl_isScheme.f, spec_l1In.f, impl_in.f, ge_iff_le]
  by_cases h0 : (1 : Int) ≤ a
  · rw [if_pos h0]
    simp only [Option.bind_some]
    by_cases h1 : a ≤ 4
    · have hw : wrap64 (a - 1) = a - 1 := by unfold wrap64; omega
      simp only [h1, decide_true, if_true, hw, h0, Bool.and_self, and_self]
      rw [if_pos (by omega), if_pos (by simp; omega)]
      first | exact ⟨_, rfl, rfl⟩ | exact ⟨_, rfl⟩
    · simp [h1]
  · rw [if_neg h0]; simp [h0]
theorem FnTransactions : laws_FnTransactions.Pure := by
  intro l hlm hl hwf
  refine Ev.rounds (g := fun k => laws_FnTransactions.f k l) ?_
  have hl : l.length ≤ 140737488351232 := by omega
  unfold laws_FnTransactions.f laws_big.f
  refine ev_bindo rfl (ev_ite (fun _ => Ev.now _) (fun _ => ?_))
  obtain ⟨a, b, c, hd⟩ := new_draw l hl
  obtain ⟨nm, hn1, hn2⟩ := name_both b
  have h1 := impl_new a b c
  have h2 := spec_new a b c
  obtain ⟨a0, a1, a2, a3, a4, a5, a6, r1, w1, b0, b1, b2, b3, b4, b5, b6, r2, w2, he, g1, g2, g3, g4⟩ := equal_draw l hl
  obtain ⟨ro, ro1, ro2⟩ := IsReadOnly_both a0 a1 a2 a3 a4 a5 a6 r1 w1 (by omega) (by omega)
  have hj1 : Ev (fun k => laws_FnTransactions.j1 k l false) true := by
    refine Ev.step (fun k => laws_FnTransactions.j1.eq_2 ..) (ev_neg (by simp) (Ev.bind he (Ev.bind (impl_eqT a0 a1 a2 a3 a4 a5 a6 r1 w1 b0 b1 b2 b3 b4 b5 b6 r2 w2 (by omega) (by omega)) (Ev.bind (spec_eqT a0 a1 a2 a3 a4 a5 a6 r1 w1 b0 b1 b2 b3 b4 b5 b6 r2 w2 (by omega) (by omega)) (ev_pos (by simp) (Ev.bind (impl_eqT a0 a1 a2 a3 a4 a5 a6 r1 w1 b0 b1 b2 b3 b4 b5 b6 r2 w2 (by omega) (by omega)) (Ev.bind (impl_eqT b0 b1 b2 b3 b4 b5 b6 r2 w2 a0 a1 a2 a3 a4 a5 a6 r1 w1 (by omega) (by omega)) (ev_pos (by rw [eqT_comm]; simp) (Ev.bind (impl_vt a0 a1 a2 a3 a4 a5 a6 r1 w1 (by omega) (by omega)) (Ev.bind (spec_vt a0 a1 a2 a3 a4 a5 a6 r1 w1 (by omega) (by omega)) (ev_pos (by simp) (Ev.bind ro2 (Ev.bind ro1 (ev_eq (Ev.now _) (by simp)))))))))))))))
  by_cases hv : vt a b 1 c 0 1000 0 [] [] = true
  · have hn : newT a b c = (a, b, 1, c, 0, 1000, 0, [], [], true) := by unfold newT; rw [if_pos hv]
    rw [hn] at h1 h2
    have hro : Ev (fun k => impl_IsReadOnly.f k a b 1 c 0 1000 0 [] []) true := by
      unfold impl_IsReadOnly.f
      exact Ev.bind (impl_vt a b 1 c 0 1000 0 [] [] (by simp) (by simp)) (ev_pos hv (ev_eq (Ev.now _) (by simp)))
    have hex : Ev (fun k => impl_IsExcluded.f k a b 1 c 0 1000 0 [] []) false := by
      unfold impl_IsExcluded.f
      exact Ev.bind (impl_vt a b 1 c 0 1000 0 [] [] (by simp) (by simp)) (ev_pos hv (ev_eq (Ev.now _) (by simp)))
    refine Ev.bind hd (Ev.bind h1 (Ev.bind h2 (ev_neg (by simp) (Ev.bind (impl_eqT a b 1 c 0 1000 0 [] [] a b 1 c 0 1000 0 [] [] (by simp) (by simp)) (ev_pos (eqT_nil _ _ _ _ _ _ _) (ev_bindo hn1 (ev_bindo hn2 ?_)))))))
    refine Ev.step (fun k => laws_FnTransactions.j0.eq_2 ..) (ev_neg (by simp) (ev_pos rfl (Ev.bind (impl_vt a b 1 c 0 1000 0 [] [] (by simp) (by simp)) (ev_pos hv (Ev.bind hro (ev_pos rfl (Ev.bind hex (ev_neg (by simp) ?_))))))))
    exact hj1
  · have hn : newT a b c = (0, 0, 0, 0, 0, 0, 0, [], [], false) := by unfold newT; rw [if_neg hv]
    rw [hn] at h1 h2
    refine Ev.bind hd (Ev.bind h1 (Ev.bind h2 (ev_neg (by simp) (Ev.bind (impl_eqT 0 0 0 0 0 0 0 [] [] 0 0 0 0 0 0 0 [] [] (by simp) (by simp)) (ev_pos (eqT_nil _ _ _ _ _ _ _) (ev_bindo hn1 (ev_bindo hn2 ?_)))))))
    exact Ev.step (fun k => laws_FnTransactions.j0.eq_2 ..) (ev_neg (by simp) (ev_neg (by simp) hj1))


end Go.Proofs.Ytacdaekigoldaaa.Pure
