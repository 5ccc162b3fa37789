-- Printed by my own myprint.py out of the translation of the seat Ytacdaekigoldaaa. Not trusted: Lean checks it.
import Derived.Test.YtacdaekigoldaaaPFnExclusionx0
import Derived.Test.YtacdaekigoldaaaPFnExclusionx10
import Derived.Test.YtacdaekigoldaaaPFnExclusionx13
namespace Go.Proofs.Ytacdaekigoldaaa.PFnExclusion
open Go.RowKit Go.Proofs.YtacdaekigoldaaaW.PrintWords Go.Proofs.YtacdaekigoldaaaW.PrintLast Go.Proofs.YtacdaekigoldaaaW.PrintMore
attribute [local go_sem] max2_int min2_int max_two min_two max_three min_three max_four min_four   -- for this text's walks alone
set_option linter.unusedVariables false
set_option linter.unusedSimpArgs false

/-! ### impl_IsValidVersion: function 92 -/
def impl_IsValidVersion.j0:Nat→Bool→Int→Int→Int→Int→Int→Option (Bool)
  | 0,_,_,_,_,_,_=>none
  | k+1,x26,x535000,x535001,x535002,x535003,x535004=>if x26=true then (some false) else (if x535002=0 then (if x535000=0 then (some (x535001 == (-1))) else (some false)) else ((impl_isID.f x535000).bind fun t539=>(some t539)))
def impl_IsValidVersion.f (k:Nat)(a0_0 a0_1 a0_2 a0_3 a0_4:Int):Option (Bool):=(impl_isValue.f a0_1).bind fun t535=>(if t535=true then ((impl_in.f a0_2 0 999).bind fun t536=>(if t536=true then ((impl_in.f a0_3 a0_2 999).bind fun t537=>(if t537=true then ((impl_in.f a0_4 1 1000).bind fun t538=>(impl_IsValidVersion.j0 k (!t538) a0_0 a0_1 a0_2 a0_3 a0_4)) else (impl_IsValidVersion.j0 k true a0_0 a0_1 a0_2 a0_3 a0_4))) else (impl_IsValidVersion.j0 k true a0_0 a0_1 a0_2 a0_3 a0_4))) else (impl_IsValidVersion.j0 k true a0_0 a0_1 a0_2 a0_3 a0_4))
theorem impl_IsValidVersion.mono_l:∀ k,(∀ y0 y1 y2 y3 y4 y5,LeO (impl_IsValidVersion.j0 k y0 y1 y2 y3 y4 y5) (impl_IsValidVersion.j0 (k+1) y0 y1 y2 y3 y4 y5))
  | 0=>fun _ _ _ _ _ _ r h=>by simp [impl_IsValidVersion.j0]at h
  | k+1=>by
    have ih0:=impl_IsValidVersion.mono_l k
    · intro y0 y1 y2 y3 y4 y5;unfold impl_IsValidVersion.j0
      repeat' first
      | (with_reducible first|apply ih0|exact LeO.refl _|exact LeO.none _|refine LeO.ite ?_ ?_|refine LeO.bind ?_ (fun _=>?_))
theorem impl_IsValidVersion.mono:∀ a0 a1 a2 a3 a4 k,LeO (impl_IsValidVersion.f k a0 a1 a2 a3 a4) (impl_IsValidVersion.f (k+1) a0 a1 a2 a3 a4):=by
  intro a0 a1 a2 a3 a4 k;have ih0:=impl_IsValidVersion.mono_l k;unfold impl_IsValidVersion.f
  repeat' first
      | (with_reducible first|apply ih0|exact LeO.refl _|exact LeO.none _|refine LeO.ite ?_ ?_|refine LeO.bind ?_ (fun _=>?_))
set_option maxHeartbeats 8000000 in
set_option maxRecDepth 100000 in
theorem impl_IsValidVersion.calls (k:Nat)(a0_0 a0_1 a0_2 a0_3 a0_4:Int)(r:Bool) (w:World) (h:impl_IsValidVersion.f k a0_0 a0_1 a0_2 a0_3 a0_4=some r) :
    Calls Try.prog 92 #[.agg #[i_ a0_0,i_ a0_1,i_ a0_2,i_ a0_3,i_ a0_4]] w fun e w'=>e=.returned (.bool r)∧Below w.heap.size w w':=by
  have hu77:=Try.underlying77;have HB:=am_ (Below.refl w.heap.size w);unfold impl_IsValidVersion.f at h;have H:=h;clear h;have I:=am_ H;clear H
  go_enter Try.func92,Try.ntmps92
  go_upto_region 1 with (first|((with_reducible refine gate_dst (N:=1) rfl ?_);refine be_ 1 #[i_ a0_0,i_ a0_1,i_ a0_2,i_ a0_3,i_ a0_4] 77 ?_;intro V hg w3 hbox hb;have B:=am_ hbox;have X:=wk_ hg HB;replace HB:=hs_ HB hb;have E:=X;clear hb hbox hg))
  (try simp only[Act.put,List.setIfInBounds_toArray,List.set_cons_zero,List.set_cons_succ])
  go_cut [26] (fun v26 wc=>∃ (kq:Nat)(F:Bool),v26=.bool F∧Aside0 (impl_IsValidVersion.j0 kq F a0_0 a0_1 a0_2 a0_3 a0_4=some r)∧Aside0 (kq≤k)∧Aside0 (wc.heap[V]? = some (.cells #[i_ a0_0,i_ a0_1,i_ a0_2,i_ a0_3,i_ a0_4] 77 (0,0)))∧Aside0 (Below w.heap.size w wc))
  case first=>
    have H:=I.out;clear I;replace H:=bi_ H;obtain⟨Y,J,H⟩:=H;have A4:=am_ J;clear J
    refine em_ (Y=true) ?ac5 ?bc5
    case' ac5=>
     intro c5
     subst c5;rw[if_pos rfl]at H;replace H:=bi_ H;obtain⟨Z,L,H⟩:=H;have A6:=am_ L;clear L
     refine em_ (Z=true) ?ac7 ?bc7
     case' ac7=>
      intro c7
      subst c7;rw[if_pos rfl]at H;replace H:=bi_ H;obtain⟨Ba,M,H⟩:=H;have A8:=am_ M;clear M
      refine em_ (Ba=true) ?ac9 ?bc9
      case' ac9=>
       intro c9
       subst c9;rw[if_pos rfl]at H;replace H:=bi_ H;obtain⟨O,R,H⟩:=H;have Bb:=am_ R;clear R;have H':=am_ H;clear H;have Bi:=bc5_ B.out;have Bj:=bf5_ B.out
      case' bc9=>
       intro c9
       replace c9:=Bool.eq_false_iff.mpr c9;subst c9;rw[if_neg nt_]at H;have H':=am_ H;clear H;have Bk:=bc5_ B.out;have Bl:=bf5_ B.out
     case' bc7=>
      intro c7
      replace c7:=Bool.eq_false_iff.mpr c7;subst c7;rw[if_neg nt_]at H;have H':=am_ H;clear H;have Bm:=bc5_ B.out;have Bn:=bf5_ B.out
    case' bc5=>
     intro c5
     replace c5:=Bool.eq_false_iff.mpr c5;subst c5;rw[if_neg nt_]at H;have H':=am_ H;clear H;have Bo:=bc5_ B.out;have Bp:=bf5_ B.out
    all_goals
     go_wp2_with (first|((with_reducible refine gate_callee (f:=64) rfl ?_);refine goesL_ (some 5) rfl rfl Try.func64 (by kernel_rfl) rfl #[i_ a0_1] rfl mp_ ?_;(with_reducible refine(impl_isValue.calls a0_1 _ _ A4.out).mono ?_);rintro e w' ⟨rfl,⟨nd,rfl⟩⟩;refine⟨_,rfl,?_⟩)|(go_at_call 36;(with_reducible refine(impl_in.calls a0_2 0 999 _ _ A6.out).mono ?_);rintro e w' ⟨rfl,⟨nd,rfl⟩⟩)|(go_at_call 36;(with_reducible refine(impl_in.calls a0_3 a0_2 999 _ _ A8.out).mono ?_);rintro e w' ⟨rfl,⟨nd,rfl⟩⟩)|(go_at_call 36;(with_reducible refine(impl_in.calls a0_4 1 1000 O _ Bb.out).mono ?_);rintro e w' ⟨rfl,⟨nd,rfl⟩⟩))
     first
     | (go_meet;(case rel=>exact⟨_,(!O),rs_,H',⟨by first|omega|exact Nat.le_refl _⟩,⟨bq_ B.out⟩,⟨hbw_ HB⟩⟩))
     | (go_meet;(case rel=>exact⟨_,(true),rs_,H',⟨by first|omega|exact Nat.le_refl _⟩,⟨bq_ B.out⟩,⟨hbw_ HB⟩⟩))
  case rest=>
    clear I;obtain⟨kq,F,rfl,HA,HJ1,B,HB⟩:=hcut
    cases kq with
    | zero=>exact absurd HA.out (by simp [impl_IsValidVersion.j0])
    | succ kj1=>
      have H:=HA.out;clear HA;simp only[impl_IsValidVersion.j0]at H
      by_cases G:F=true
      · subst G;rw[if_pos rfl]at H;obtain rfl:=Option.some.inj H
        go_wp2
        go_ret;exact⟨ew_,hq1_ HB.out E.out⟩
      · replace G:=Bool.eq_false_iff.mpr G;subst G;rw[if_neg nt_]at H
        by_cases C:a0_2=0
        · rw[if_pos C]at H;have Bc:(a0_2 == 0)=true:=beq_iff_eq.mpr C;have Bd:(a0_2 != 0)=false:=bne_eq_false_iff_eq.mpr C;clear C
          by_cases D:a0_0=0
          · rw[if_pos D]at H;have Be:(a0_0 == 0)=true:=beq_iff_eq.mpr D;have Bf:(a0_0 != 0)=false:=bne_eq_false_iff_eq.mpr D;clear D;obtain rfl:=Option.some.inj H;have Bq:=bc5_ B.out;have Br:=bf5_ B.out
            go_wp2
            go_ret;exact⟨ew_,hq1_ HB.out E.out⟩
          · rw[if_neg D]at H;have Be:(a0_0 == 0)=false:=beq_eq_false_iff_ne.mpr D;have Bf:(a0_0 != 0)=true:=bne_iff_ne.mpr D;obtain rfl:=Option.some.inj H;have Bs:=bc5_ B.out;have Bt:=bf5_ B.out
            go_wp2
            go_ret;exact⟨ew_,hq1_ HB.out E.out⟩
        · rw[if_neg C]at H;have Bc:(a0_2 == 0)=false:=beq_eq_false_iff_ne.mpr C;have Bd:(a0_2 != 0)=true:=bne_iff_ne.mpr C;replace H:=bi_ H;obtain⟨Bg,U,H⟩:=H;have Bh:=am_ U;clear U;obtain rfl:=Option.some.inj H;have Bu:=bc5_ B.out;have Bv:=bf5_ B.out
          go_wp2_with (first|((with_reducible refine gate_callee (f:=35) rfl ?_);refine goesL_ (some 40) rfl rfl Try.func35 (by kernel_rfl) rfl #[i_ a0_0] rfl mp_ ?_;(with_reducible refine(impl_isID.calls a0_0 Bg _ Bh.out).mono ?_);rintro e w' ⟨rfl,⟨nd,rfl⟩⟩;refine⟨_,rfl,?_⟩))
          go_ret;exact⟨ew_,hq1_ HB.out E.out⟩

end Go.Proofs.Ytacdaekigoldaaa.PFnExclusion
