-- Printed by my own myprint.py out of the translation of the seat Ytacdaekigoldaaa. Not trusted: Lean checks it.
import Derived.Test.YtacdaekigoldaaaPFnExclusionx0
import Derived.Test.YtacdaekigoldaaaPFnExclusionx10
import Derived.Test.YtacdaekigoldaaaPFnExclusionx12
import Derived.Test.YtacdaekigoldaaaPFnExclusionx13
namespace Go.Proofs.Ytacdaekigoldaaa.PFnExclusion
open Go.RowKit Go.Proofs.YtacdaekigoldaaaW.PrintWords Go.Proofs.YtacdaekigoldaaaW.PrintLast Go.Proofs.YtacdaekigoldaaaW.PrintMore
attribute [local go_sem] max2_int min2_int max_two min_two max_three min_three max_four min_four   -- for this text's walks alone
set_option linter.unusedVariables false
set_option linter.unusedSimpArgs false

/-! ### impl_IsValidTransaction: function 12 -/
mutual
def impl_IsValidTransaction.j0:Nat→Bool→Int→Int→Int→Int→Int→Int→Int→List (S47)→List (S58)→Option (Bool)
  | 0,_,_,_,_,_,_,_,_,_,_=>none
  | k+1,x36,x525000,x525001,x525002,x525003,x525004,x525005,x525006,x525007,x525008=>if x36=true then (some false) else (if x525002=2 then ((impl_IsStamp.f x525006).bind fun t531=>(if t531=true then (impl_IsValidTransaction.j1 k false x525000 x525001 x525002 x525003 x525004 x525005 x525006 x525007 x525008) else (impl_IsValidTransaction.j1 k true x525000 x525001 x525002 x525003 x525004 x525005 x525006 x525007 x525008))) else (impl_IsValidTransaction.j1 k (x525006 != 0) x525000 x525001 x525002 x525003 x525004 x525005 x525006 x525007 x525008))
def impl_IsValidTransaction.j1:Nat→Bool→Int→Int→Int→Int→Int→Int→Int→List (S47)→List (S58)→Option (Bool)
  | 0,_,_,_,_,_,_,_,_,_,_=>none
  | k+1,x55,x525000,x525001,x525002,x525003,x525004,x525005,x525006,x525007,x525008=>if x55=true then (some false) else ((impl_areReads.f k x525007).bind fun t532=>(if t532=true then ((impl_areWrites.f k x525008).bind fun t533=>(some t533)) else (some false)))
end
def impl_IsValidTransaction.f (k:Nat)(a0_0 a0_1 a0_2 a0_3 a0_4 a0_5 a0_6:Int) (l0_7:List (S47)) (l0_8:List (S58)):Option (Bool):=(impl_isID.f a0_0).bind fun t525=>(if t525=true then ((impl_isScheme.f a0_1).bind fun t526=>(if t526=true then ((impl_in.f a0_2 1 3).bind fun t527=>(if t527=true then ((impl_in.f a0_3 0 999).bind fun t528=>(if t528=true then ((impl_in.f a0_4 0 999).bind fun t529=>(if t529=true then ((impl_in.f a0_5 1 1000).bind fun t530=>(impl_IsValidTransaction.j0 k (!t530) a0_0 a0_1 a0_2 a0_3 a0_4 a0_5 a0_6 l0_7 l0_8)) else (impl_IsValidTransaction.j0 k true a0_0 a0_1 a0_2 a0_3 a0_4 a0_5 a0_6 l0_7 l0_8))) else (impl_IsValidTransaction.j0 k true a0_0 a0_1 a0_2 a0_3 a0_4 a0_5 a0_6 l0_7 l0_8))) else (impl_IsValidTransaction.j0 k true a0_0 a0_1 a0_2 a0_3 a0_4 a0_5 a0_6 l0_7 l0_8))) else (impl_IsValidTransaction.j0 k true a0_0 a0_1 a0_2 a0_3 a0_4 a0_5 a0_6 l0_7 l0_8))) else (impl_IsValidTransaction.j0 k true a0_0 a0_1 a0_2 a0_3 a0_4 a0_5 a0_6 l0_7 l0_8))
theorem impl_IsValidTransaction.mono_l:∀ k,(∀ y0 y1 y2 y3 y4 y5 y6 y7 y8 y9,LeO (impl_IsValidTransaction.j0 k y0 y1 y2 y3 y4 y5 y6 y7 y8 y9) (impl_IsValidTransaction.j0 (k+1) y0 y1 y2 y3 y4 y5 y6 y7 y8 y9))∧(∀ y0 y1 y2 y3 y4 y5 y6 y7 y8 y9,LeO (impl_IsValidTransaction.j1 k y0 y1 y2 y3 y4 y5 y6 y7 y8 y9) (impl_IsValidTransaction.j1 (k+1) y0 y1 y2 y3 y4 y5 y6 y7 y8 y9))
  | 0=>⟨fun _ _ _ _ _ _ _ _ _ _ r h=>by simp [impl_IsValidTransaction.j0]at h,fun _ _ _ _ _ _ _ _ _ _ r h=>by simp [impl_IsValidTransaction.j1]at h⟩
  | k+1=>by
    obtain⟨ih0,ih1⟩:=impl_IsValidTransaction.mono_l k;refine⟨?_,?_⟩
    · intro y0 y1 y2 y3 y4 y5 y6 y7 y8 y9;unfold impl_IsValidTransaction.j0
      repeat' first
      | (with_reducible first|apply ih0|apply ih1|apply impl_areReads.mono|apply impl_areWrites.mono|exact LeO.refl _|exact LeO.none _|refine LeO.ite ?_ ?_|refine LeO.bind ?_ (fun _=>?_))
    · intro y0 y1 y2 y3 y4 y5 y6 y7 y8 y9;unfold impl_IsValidTransaction.j1
      repeat' first
      | (with_reducible first|apply ih0|apply ih1|apply impl_areReads.mono|apply impl_areWrites.mono|exact LeO.refl _|exact LeO.none _|refine LeO.ite ?_ ?_|refine LeO.bind ?_ (fun _=>?_))
theorem impl_IsValidTransaction.mono:∀ a0 a1 a2 a3 a4 a5 a6 a7 a8 k,LeO (impl_IsValidTransaction.f k a0 a1 a2 a3 a4 a5 a6 a7 a8) (impl_IsValidTransaction.f (k+1) a0 a1 a2 a3 a4 a5 a6 a7 a8):=by
  intro a0 a1 a2 a3 a4 a5 a6 a7 a8 k;obtain⟨ih0,ih1⟩:=impl_IsValidTransaction.mono_l k;unfold impl_IsValidTransaction.f
  repeat' first
      | (with_reducible first|apply ih0|apply ih1|apply impl_areReads.mono|apply impl_areWrites.mono|exact LeO.refl _|exact LeO.none _|refine LeO.ite ?_ ?_|refine LeO.bind ?_ (fun _=>?_))
set_option maxHeartbeats 8000000 in
set_option maxRecDepth 100000 in
theorem impl_IsValidTransaction.calls (k:Nat)(a0_0 a0_1 a0_2 a0_3 a0_4 a0_5 a0_6:Int)(E:Option Addr)(F:Nat) (l0_7:List (S47)) (I:Option Addr)(J:Nat) (l0_8:List (S58)) (r:Bool) (w:World) (hr0_7:Kd.C k47 w E l0_7.length l0_7) (hc0_7:l0_7.length≤F) (hr0_8:Kd.C k58 w I l0_8.length l0_8) (hc0_8:l0_8.length≤J) (h:impl_IsValidTransaction.f k a0_0 a0_1 a0_2 a0_3 a0_4 a0_5 a0_6 l0_7 l0_8=some r) :
    Calls Try.prog 12 #[.agg #[i_ a0_0,i_ a0_1,i_ a0_2,i_ a0_3,i_ a0_4,i_ a0_5,i_ a0_6,.slice E l0_7.length F,.slice I l0_8.length J]] w fun e w'=>e=.returned (.bool r)∧Below w.heap.size w w':=by
  have hu29:=Try.underlying29;have Bo:=am_ hr0_7;have Bp:=am_ hc0_7;clear hr0_7 hc0_7;have Bq:=am_ hr0_8;have Br:=am_ hc0_8;clear hr0_8 hc0_8;have HB:=am_ (Below.refl w.heap.size w);unfold impl_IsValidTransaction.f at h;have H:=h;clear h;have Z:=am_ H;clear H
  go_enter Try.func12,Try.ntmps12
  go_upto_region 1 with (first|((with_reducible refine gate_dst (N:=1) rfl ?_);refine be_ 1 #[i_ a0_0,i_ a0_1,i_ a0_2,i_ a0_3,i_ a0_4,i_ a0_5,i_ a0_6,.slice E l0_7.length F,.slice I l0_8.length J] 29 ?_;intro Bb hg w3 hbox hb;have B:=am_ hbox;have Bs:=wk_ hg HB;replace HB:=hs_ HB hb;have Bc:=Bs;clear hb hbox hg))
  (try simp only[Act.put,List.setIfInBounds_toArray,List.set_cons_zero,List.set_cons_succ])
  go_cut [36] (fun v36 wc=>∃ (kq:Nat)(V:Bool),v36=.bool V∧Aside0 (impl_IsValidTransaction.j0 kq V a0_0 a0_1 a0_2 a0_3 a0_4 a0_5 a0_6 l0_7 l0_8=some r)∧Aside0 (kq≤k)∧Aside0 (wc.heap[Bb]? = some (.cells #[i_ a0_0,i_ a0_1,i_ a0_2,i_ a0_3,i_ a0_4,i_ a0_5,i_ a0_6,(.slice E l0_7.length F),(.slice I l0_8.length J)] 29 (0,0)))∧Aside0 (Below w.heap.size w wc))
  case first=>
    have H:=Z.out;clear Z;replace H:=bi_ H;obtain⟨Bt,Bd,H⟩:=H;have A4:=am_ Bd;clear Bd
    refine em_ (Bt=true) ?ac5 ?bc5
    case' ac5=>
     intro c5
     subst c5;rw[if_pos rfl]at H;replace H:=bi_ H;obtain⟨Bu,Be,H⟩:=H;have A6:=am_ Be;clear Be
     refine em_ (Bu=true) ?ac7 ?bc7
     case' ac7=>
      intro c7
      subst c7;rw[if_pos rfl]at H;replace H:=bi_ H;obtain⟨Bv,Bf,H⟩:=H;have A8:=am_ Bf;clear Bf
      refine em_ (Bv=true) ?ac9 ?bc9
      case' ac9=>
       intro c9
       subst c9;rw[if_pos rfl]at H;replace H:=bi_ H;obtain⟨Bw,Bg,H⟩:=H;have Bx:=am_ Bg;clear Bg
       refine em_ (Bw=true) ?ac11 ?bc11
       case' ac11=>
        intro L
        subst L;rw[if_pos rfl]at H;replace H:=bi_ H;obtain⟨By,Bh,H⟩:=H;have Bz:=am_ Bh;clear Bh
        refine em_ (By=true) ?ac13 ?bc13
        case' ac13=>
         intro M
         subst M;rw[if_pos rfl]at H;replace H:=bi_ H;obtain⟨Bi,Bj,H⟩:=H;have B0:=am_ Bj;clear Bj;have H':=am_ H;clear H;have B7:=bc9_ B.out;have B8:=bf9_ B.out
        case' bc13=>
         intro M
         replace M:=Bool.eq_false_iff.mpr M;subst M;rw[if_neg nt_]at H;have H':=am_ H;clear H;have B9:=bc9_ B.out;have Ca:=bf9_ B.out
       case' bc11=>
        intro L
        replace L:=Bool.eq_false_iff.mpr L;subst L;rw[if_neg nt_]at H;have H':=am_ H;clear H;have Cb:=bc9_ B.out;have Cc:=bf9_ B.out
      case' bc9=>
       intro c9
       replace c9:=Bool.eq_false_iff.mpr c9;subst c9;rw[if_neg nt_]at H;have H':=am_ H;clear H;have Cd:=bc9_ B.out;have Ce:=bf9_ B.out
     case' bc7=>
      intro c7
      replace c7:=Bool.eq_false_iff.mpr c7;subst c7;rw[if_neg nt_]at H;have H':=am_ H;clear H;have Cf:=bc9_ B.out;have Cg:=bf9_ B.out
    case' bc5=>
     intro c5
     replace c5:=Bool.eq_false_iff.mpr c5;subst c5;rw[if_neg nt_]at H;have H':=am_ H;clear H;have Ch:=bc9_ B.out;have Ci:=bf9_ B.out
    all_goals
     go_wp2_with (first|((with_reducible refine gate_callee (f:=35) rfl ?_);refine goesL_ (some 5) rfl rfl Try.func35 (by kernel_rfl) rfl #[i_ a0_0] rfl mp_ ?_;(with_reducible refine(impl_isID.calls a0_0 _ _ A4.out).mono ?_);rintro e w' ⟨rfl,⟨nd,rfl⟩⟩;refine⟨_,rfl,?_⟩)|(go_at_call 33;(with_reducible refine(impl_isScheme.calls a0_1 _ _ A6.out).mono ?_);rintro e w' ⟨rfl,⟨nd,rfl⟩⟩)|(go_at_call 36;(with_reducible refine(impl_in.calls a0_2 1 3 _ _ A8.out).mono ?_);rintro e w' ⟨rfl,⟨nd,rfl⟩⟩)|(go_at_call 36;(with_reducible refine(impl_in.calls a0_3 0 999 _ _ Bx.out).mono ?_);rintro e w' ⟨rfl,⟨nd,rfl⟩⟩)|(go_at_call 36;(with_reducible refine(impl_in.calls a0_4 0 999 _ _ Bz.out).mono ?_);rintro e w' ⟨rfl,⟨nd,rfl⟩⟩)|(go_at_call 36;(with_reducible refine(impl_in.calls a0_5 1 1000 Bi _ B0.out).mono ?_);rintro e w' ⟨rfl,⟨nd,rfl⟩⟩))
     first
     | (go_meet;(case rel=>exact⟨_,(!Bi),rs_,H',⟨by first|omega|exact Nat.le_refl _⟩,⟨bq_ B.out⟩,⟨hbw_ HB⟩⟩))
     | (go_meet;(case rel=>exact⟨_,(true),rs_,H',⟨by first|omega|exact Nat.le_refl _⟩,⟨bq_ B.out⟩,⟨hbw_ HB⟩⟩))
  case rest=>
    clear Z;obtain⟨kq,V,rfl,HA,HJ1,B,HB⟩:=hcut
    cases kq with
    | zero=>exact absurd HA.out (by simp [impl_IsValidTransaction.j0])
    | succ kj1=>
      have H:=HA.out;clear HA;simp only[impl_IsValidTransaction.j0]at H
      by_cases X:V=true
      · subst X;rw[if_pos rfl]at H;obtain rfl:=Option.some.inj H
        go_wp2
        go_ret;exact⟨ew_,hq1_ HB.out Bc.out⟩
      · replace X:=Bool.eq_false_iff.mpr X;subst X;rw[if_neg nt_]at H;have Ba:=am_ H;clear H
        go_upto_region 3 with (fail)
        go_cut [55] (fun v55 wc=>∃ (kq:Nat)(Y:Bool),v55=.bool Y∧Aside0 (impl_IsValidTransaction.j1 kq Y a0_0 a0_1 a0_2 a0_3 a0_4 a0_5 a0_6 l0_7 l0_8=some r)∧Aside0 (kq≤kj1)∧Aside0 (wc.heap[Bb]? = some (.cells #[i_ a0_0,i_ a0_1,i_ a0_2,i_ a0_3,i_ a0_4,i_ a0_5,i_ a0_6,(.slice E l0_7.length F),(.slice I l0_8.length J)] 29 (0,0)))∧Aside0 (Below w.heap.size w wc))
        case first=>
          have H:=Ba.out;clear Ba
          by_cases D:a0_2=2
          · rw[if_pos D]at H;have G:(a0_2 == 2)=true:=beq_iff_eq.mpr D;have Bk:(a0_2 != 2)=false:=bne_eq_false_iff_eq.mpr D;clear D;(first|rw[G]|(simp only[i64_w,i32_w];rw[G])|skip);replace H:=bi_ H;obtain⟨B1,Bl,H⟩:=H;have B2:=am_ Bl;clear Bl
            refine em_ (B1=true) ?ac25 ?bc25
            case' ac25=>
             intro O
             subst O;rw[if_pos rfl]at H;have H':=am_ H;clear H;have Cj:=bc9_ B.out;have Ck:=bf9_ B.out
            case' bc25=>
             intro O
             replace O:=Bool.eq_false_iff.mpr O;subst O;rw[if_neg nt_]at H;have H':=am_ H;clear H;have Cl:=bc9_ B.out;have Cm:=bf9_ B.out
            all_goals
             go_wp2_with (first|(go_at_call 37;(with_reducible refine(impl_IsStamp.calls a0_6 _ _ B2.out).mono ?_);rintro e w' ⟨rfl,⟨nd,rfl⟩⟩))
             first
             | (go_meet;(case rel=>exact⟨_,(false),rs_,H',⟨by have:=HJ1.out;first|omega|exact Nat.le_refl _⟩,⟨bq_ B.out⟩,⟨hbw_ HB⟩⟩))
             | (go_meet;(case rel=>exact⟨_,(true),rs_,H',⟨by have:=HJ1.out;first|omega|exact Nat.le_refl _⟩,⟨bq_ B.out⟩,⟨hbw_ HB⟩⟩))
          · rw[if_neg D]at H;have G:(a0_2 == 2)=false:=beq_eq_false_iff_ne.mpr D;have Bk:(a0_2 != 2)=true:=bne_iff_ne.mpr D;(first|rw[G]|(simp only[i64_w,i32_w];rw[G])|skip);have H':=am_ H;clear H;have Cn:=bc9_ B.out;have Co:=bf9_ B.out
            go_wp2
            go_meet
            case rel=>exact⟨_,((a0_6 != 0)),rs_,H',⟨by have:=HJ1.out;first|omega|exact Nat.le_refl _⟩,⟨bq_ B.out⟩,⟨hbw_ HB⟩⟩
        case rest=>
          clear Ba;(try clear G);(try clear Bk);obtain⟨kq,Y,rfl,HA,HJ21,B,HB⟩:=hcut
          cases kq with
          | zero=>exact absurd HA.out (by simp [impl_IsValidTransaction.j1])
          | succ kj21=>
            have H:=HA.out;clear HA;simp only[impl_IsValidTransaction.j1]at H
            refine em_ (Y=true) ?ac29 ?bc29
            case' ac29=>
             intro R
             subst R;rw[if_pos rfl]at H;obtain rfl:=Option.some.inj H
            case' bc29=>
             intro R
             replace R:=Bool.eq_false_iff.mpr R;subst R;rw[if_neg nt_]at H;replace H:=bi_ H;obtain⟨B3,Bm,H⟩:=H;have B4:=am_ Bm;clear Bm
             refine em_ (B3=true) ?ac31 ?bc31
             case' ac31=>
              intro U
              subst U;rw[if_pos rfl]at H;replace H:=bi_ H;obtain⟨B5,Bn,H⟩:=H;have B6:=am_ Bn;clear Bn;obtain rfl:=Option.some.inj H;have Cp:=bc9_ B.out;have Cq:=bf9_ B.out
             case' bc31=>
              intro U
              replace U:=Bool.eq_false_iff.mpr U;subst U;rw[if_neg nt_]at H;obtain rfl:=Option.some.inj H;have Cr:=bc9_ B.out;have Cs:=bf9_ B.out
            all_goals
             go_wp2_with (first|((with_reducible refine gate_callee (f:=38) rfl ?_);refine goesL_ (some 58) rfl rfl Try.func38 (by kernel_rfl) rfl #[.slice E l0_7.length F] rfl mp_ ?_;(with_reducible refine(impl_areReads.calls kj21 _ _ l0_7 _ _ ?side1 ?side2 B4.out).mono ?_);(case side1=>exact cq_ Bo.out HB.out);(case side2=>exact Bp.out);rintro e Ct ⟨rfl,hb⟩;refine⟨_,rfl,?_⟩;replace B:=bb_ B hb;replace HB:=hs_ HB hb;clear hb;(first|(have Cu:=bc9_ B.out;have Cv:=bf9_ B.out)|skip))|(go_at_call 39;(with_reducible refine(impl_areWrites.calls kj21 _ _ l0_8 B5 _ ?side1 ?side2 B6.out).mono ?_);(case side1=>exact cq_ Bq.out HB.out);(case side2=>exact Br.out);rintro e Cw ⟨rfl,hb⟩;replace B:=bb_ B hb;replace HB:=hs_ HB hb;clear hb))
             go_ret;exact⟨ew_,hq1_ HB.out Bc.out⟩

-- NOT PRINTED: function 91 (impl_Version_91)

-- NOT PRINTED: function 81 (impl_Version_81)

end Go.Proofs.Ytacdaekigoldaaa.PFnExclusion
