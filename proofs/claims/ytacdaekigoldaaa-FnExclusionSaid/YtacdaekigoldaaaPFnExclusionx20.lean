-- Printed by my own myprint.py out of the translation of the seat Ytacdaekigoldaaa. Not trusted: Lean checks it.
import Derived.Test.YtacdaekigoldaaaPFnExclusionx0
import Derived.Test.YtacdaekigoldaaaPFnExclusionx2
import Derived.Test.YtacdaekigoldaaaPFnExclusionx3
import Derived.Test.YtacdaekigoldaaaPFnExclusionx19
namespace Go.Proofs.Ytacdaekigoldaaa.PFnExclusion
open Go.RowKit Go.Proofs.YtacdaekigoldaaaW.PrintWords Go.Proofs.YtacdaekigoldaaaW.PrintLast Go.Proofs.YtacdaekigoldaaaW.PrintMore
attribute [local go_sem] max2_int min2_int max_two min_two max_three min_three max_four min_four   -- for this text's walks alone
set_option linter.unusedVariables false
set_option linter.unusedSimpArgs false

/-! ### spec_FindVersion: function 59 -/
def spec_FindVersion.l0:Nat→List (S77)→Int→Int→Option (Int)
  | 0,_,_,_=>none
  | k+1,x0,x1,x5=>if x5 < (x0.length:Int) then (if 0≤x5 then (if ((rd_T77 x0 x5).f2)=x1 then (some x5) else (spec_FindVersion.l0 k x0 x1 (wrap64 (x5+1)))) else (none)) else (some (-1))
def spec_FindVersion.f (k:Nat) (l0:List (S77)) (a1:Int):Option (Int):=spec_FindVersion.l0 k l0 a1 0
theorem spec_FindVersion.mono_l:∀ k,(∀ y0 y1 y2,LeO (spec_FindVersion.l0 k y0 y1 y2) (spec_FindVersion.l0 (k+1) y0 y1 y2))
  | 0=>fun _ _ _ r h=>by simp [spec_FindVersion.l0]at h
  | k+1=>by
    have ih0:=spec_FindVersion.mono_l k
    · intro y0 y1 y2;unfold spec_FindVersion.l0
      repeat' first
      | (with_reducible first|apply ih0|exact LeO.refl _|exact LeO.none _|refine LeO.ite ?_ ?_|refine LeO.bind ?_ (fun _=>?_))
theorem spec_FindVersion.mono:∀ a0 a1 k,LeO (spec_FindVersion.f k a0 a1) (spec_FindVersion.f (k+1) a0 a1):=by
  intro a0 a1 k;have ih0:=spec_FindVersion.mono_l k;unfold spec_FindVersion.f
  repeat' first
      | (with_reducible first|apply ih0|exact LeO.refl _|exact LeO.none _|refine LeO.ite ?_ ?_|refine LeO.bind ?_ (fun _=>?_))
set_option maxHeartbeats 8000000 in
set_option maxRecDepth 100000 in
theorem spec_FindVersion.calls (k:Nat)(A0:Option Addr)(c0:Nat) (l0:List (S77)) (a1 r:Int) (w:World) (hr0:Kd.C k77 w A0 l0.length l0) (hc0:l0.length≤c0) (h:spec_FindVersion.f k l0 a1=some r) :
    Calls Try.prog 59 #[.slice A0 l0.length c0,i_ a1] w fun e w'=>e=.returned (i_ r)∧Drawn0 w w':=by
  have F:=am_ hr0;have V:=am_ hc0;clear hr0 hc0;unfold spec_FindVersion.f at h;have H:=h;clear h;have H':=am_ H;clear H
  go_enter Try.func59,Try.ntmps59
  go_wp2
  go_loopg [5] k (fun kq v5 w'=>∃ (B:Int),v5=i_ B∧Aside0 (spec_FindVersion.l0 kq l0 a1 B=some r)∧Aside0 (kq≤k)∧Drawn0 w w')
  case atStart=>exact⟨(0),rs_,H',⟨Nat.le_refl _⟩,by repeat(first|exact Drawn0.refl _|apply Drawn0.step)⟩
  case round=>
    clear H';obtain⟨B,rfl,HA,HK1,⟨m1,rfl⟩⟩:=hrel
    cases gk with
    | zero=>exact absurd HA.out (by simp [spec_FindVersion.l0])
    | succ k1=>
      have H:=HA.out;clear HA;simp only[spec_FindVersion.l0]at H
      by_cases c3:B < (l0.length:Int)
      · rw[if_pos c3]at H;have G:decide (B < (l0.length:Int))=true:=decide_eq_true c3;clear c3
        by_cases c4:0≤B
        · rw[if_pos c4]at H;have X:decide (0≤B)=true:=decide_eq_true c4;clear c4
          by_cases c5:((rd_T77 l0 B).f2)=a1
          · rw[if_pos c5]at H;have I:(((rd_T77 l0 B).f2) == a1)=true:=beq_iff_eq.mpr c5;have J:(((rd_T77 l0 B).f2) != a1)=false:=bne_eq_false_iff_eq.mpr c5;clear c5;obtain rfl:=Option.some.inj H;have D:0≤(B:Int):=of_decide_eq_true as_;have E:B < (l0.length:Int):=of_decide_eq_true as_;obtain⟨L,e610,M,N,O,R,U⟩:=at_T77 F.out B D E
            cases e610
            replace D:=eq_true D;replace E:=eq_true E
            go_wp2
            go_ret;exact⟨rs_,by repeat(first|exact Drawn0.refl _|apply Drawn0.step)⟩
          · rw[if_neg c5]at H;have I:(((rd_T77 l0 B).f2) == a1)=false:=beq_eq_false_iff_ne.mpr c5;have J:(((rd_T77 l0 B).f2) != a1)=true:=bne_iff_ne.mpr c5;have H':=am_ H;clear H;have D:0≤(B:Int):=of_decide_eq_true as_;have E:B < (l0.length:Int):=of_decide_eq_true as_;obtain⟨L,e610,M,N,O,R,U⟩:=at_T77 F.out B D E
            cases e610
            replace D:=eq_true D;replace E:=eq_true E
            go_wp2
            go_roundg k1
            case measure=>have:=HK1.out;omega
            case rel=>exact⟨(wrap64 (B+1)),rs_,H',⟨by have:=HK1.out;omega⟩,by repeat(first|exact Drawn0.refl _|apply Drawn0.step)⟩
        · rw[if_neg c4]at H;exact absurd H (by simp)
      · rw[if_neg c3]at H;have G:decide (B < (l0.length:Int))=false:=decide_eq_false c3;clear c3;obtain rfl:=Option.some.inj H
        go_wp2
        go_ret;exact⟨rs_,by repeat(first|exact Drawn0.refl _|apply Drawn0.step)⟩

/-! ### spec_ReadsExist: function 48 -/
mutual
def spec_ReadsExist.j0:Nat→Bool→List (List (S77))→Int→Int→Int→Int→Int→Int→Int→List (S47)→List (S58)→Option (Bool)
  | 0,_,_,_,_,_,_,_,_,_,_,_=>none
  | k+1,x13,x612000,x613000,x613001,x613002,x613003,x613004,x613005,x613006,x613007,x613008=>if x13=true then (some false) else (spec_ReadsExist.l0 k 0 x612000 x613000 x613001 x613002 x613003 x613004 x613005 x613006 x613007 x613008)
def spec_ReadsExist.l0:Nat→Int→List (List (S77))→Int→Int→Int→Int→Int→Int→Int→List (S47)→List (S58)→Option (Bool)
  | 0,_,_,_,_,_,_,_,_,_,_,_=>none
  | k+1,x5,x612000,x613000,x613001,x613002,x613003,x613004,x613005,x613006,x613007,x613008=>if x5 < (x613007.length:Int) then (if 0≤x5 then (if 0≤((rd_T47 x613007 x5).f0) then (if ((rd_T47 x613007 x5).f0) < (x612000.length:Int) then ((spec_FindVersion.f k (rd_L3 x612000 ((rd_T47 x613007 x5).f0)) ((rd_T47 x613007 x5).f1)).bind fun t618=>(if t618 < 0 then (some false) else (spec_ReadsExist.l0 k (wrap64 (x5+1)) x612000 x613000 x613001 x613002 x613003 x613004 x613005 x613006 x613007 x613008))) else (none)) else (none)) else (none)) else (some true)
end
def spec_ReadsExist.f (k:Nat) (l0_0:List (List (S77))) (a1_0 a1_1 a1_2 a1_3 a1_4 a1_5 a1_6:Int) (l1_7:List (S47)) (l1_8:List (S58)):Option (Bool):=(spec_IsValidStore.f k l0_0).bind fun t613=>(if t613=true then ((spec_IsValidTransaction.f k a1_0 a1_1 a1_2 a1_3 a1_4 a1_5 a1_6 l1_7 l1_8).bind fun t614=>(spec_ReadsExist.j0 k (!t614) l0_0 a1_0 a1_1 a1_2 a1_3 a1_4 a1_5 a1_6 l1_7 l1_8)) else (spec_ReadsExist.j0 k true l0_0 a1_0 a1_1 a1_2 a1_3 a1_4 a1_5 a1_6 l1_7 l1_8))
theorem spec_ReadsExist.mono_l:∀ k,(∀ y0 y1 y2 y3 y4 y5 y6 y7 y8 y9 y10,LeO (spec_ReadsExist.j0 k y0 y1 y2 y3 y4 y5 y6 y7 y8 y9 y10) (spec_ReadsExist.j0 (k+1) y0 y1 y2 y3 y4 y5 y6 y7 y8 y9 y10))∧(∀ y0 y1 y2 y3 y4 y5 y6 y7 y8 y9 y10,LeO (spec_ReadsExist.l0 k y0 y1 y2 y3 y4 y5 y6 y7 y8 y9 y10) (spec_ReadsExist.l0 (k+1) y0 y1 y2 y3 y4 y5 y6 y7 y8 y9 y10))
  | 0=>⟨fun _ _ _ _ _ _ _ _ _ _ _ r h=>by simp [spec_ReadsExist.j0]at h,fun _ _ _ _ _ _ _ _ _ _ _ r h=>by simp [spec_ReadsExist.l0]at h⟩
  | k+1=>by
    obtain⟨ih0,ih1⟩:=spec_ReadsExist.mono_l k;refine⟨?_,?_⟩
    · intro y0 y1 y2 y3 y4 y5 y6 y7 y8 y9 y10;unfold spec_ReadsExist.j0
      repeat' first
      | (with_reducible first|apply ih0|apply ih1|apply spec_FindVersion.mono|apply spec_IsValidStore.mono|apply spec_IsValidTransaction.mono|exact LeO.refl _|exact LeO.none _|refine LeO.ite ?_ ?_|refine LeO.bind ?_ (fun _=>?_))
    · intro y0 y1 y2 y3 y4 y5 y6 y7 y8 y9 y10;unfold spec_ReadsExist.l0
      repeat' first
      | (with_reducible first|apply ih0|apply ih1|apply spec_FindVersion.mono|apply spec_IsValidStore.mono|apply spec_IsValidTransaction.mono|exact LeO.refl _|exact LeO.none _|refine LeO.ite ?_ ?_|refine LeO.bind ?_ (fun _=>?_))
theorem spec_ReadsExist.mono:∀ a0 a1 a2 a3 a4 a5 a6 a7 a8 a9 k,LeO (spec_ReadsExist.f k a0 a1 a2 a3 a4 a5 a6 a7 a8 a9) (spec_ReadsExist.f (k+1) a0 a1 a2 a3 a4 a5 a6 a7 a8 a9):=by
  intro a0 a1 a2 a3 a4 a5 a6 a7 a8 a9 k;obtain⟨ih0,ih1⟩:=spec_ReadsExist.mono_l k;unfold spec_ReadsExist.f
  repeat' first
      | (with_reducible first|apply ih0|apply ih1|apply spec_FindVersion.mono|apply spec_IsValidStore.mono|apply spec_IsValidTransaction.mono|exact LeO.refl _|exact LeO.none _|refine LeO.ite ?_ ?_|refine LeO.bind ?_ (fun _=>?_))
set_option maxHeartbeats 8000000 in
set_option maxRecDepth 100000 in
theorem spec_ReadsExist.calls (k:Nat)(G:Option Addr)(I:Nat) (l0_0:List (List (S77))) (a1_0 a1_1 a1_2 a1_3 a1_4 a1_5 a1_6:Int)(J:Option Addr)(L:Nat) (l1_7:List (S47)) (M:Option Addr)(O:Nat) (l1_8:List (S58)) (r:Bool) (w:World) (hr0_0:Kd.C (Kd.slice 77 k77) w G l0_0.length l0_0) (hc0_0:l0_0.length≤I) (hr1_7:Kd.C k47 w J l1_7.length l1_7) (hc1_7:l1_7.length≤L) (hr1_8:Kd.C k58 w M l1_8.length l1_8) (hc1_8:l1_8.length≤O) (h:spec_ReadsExist.f k l0_0 a1_0 a1_1 a1_2 a1_3 a1_4 a1_5 a1_6 l1_7 l1_8=some r) :
    Calls Try.prog 48 #[.agg #[.slice G l0_0.length I],.agg #[i_ a1_0,i_ a1_1,i_ a1_2,i_ a1_3,i_ a1_4,i_ a1_5,i_ a1_6,.slice J l1_7.length L,.slice M l1_8.length O]] w fun e w'=>e=.returned (.bool r)∧Below w.heap.size w w':=by
  have hu39:=Try.underlying39;have hu29:=Try.underlying29;have Bf:=am_ hr0_0;have B1:=am_ hc0_0;clear hr0_0 hc0_0;have R:=am_ hr1_7;have B2:=am_ hc1_7;clear hr1_7 hc1_7;have B3:=am_ hr1_8;have B4:=am_ hc1_8;clear hr1_8 hc1_8;have HB:=am_ (Below.refl w.heap.size w);unfold spec_ReadsExist.f at h;have H:=h;clear h;have B5:=am_ H;clear H
  go_enter Try.func48,Try.ntmps48
  go_upto_region 1 with (first|((with_reducible refine gate_dst (N:=2) rfl ?_);refine be_ 2 #[.slice G l0_0.length I] 39 ?_;intro Bs hg w4 hbox hb;have B:=am_ hbox;have Bg:=wk_ hg HB;replace HB:=hs_ HB hb;have Bt:=Bg;clear hb hbox hg)|((with_reducible refine gate_dst (N:=3) rfl ?_);refine be_ 3 #[i_ a1_0,i_ a1_1,i_ a1_2,i_ a1_3,i_ a1_4,i_ a1_5,i_ a1_6,.slice J l1_7.length L,.slice M l1_8.length O] 29 ?_;intro Bu hg w5 hbox hb;have E:=am_ hbox;have Bh:=wk_ hg HB;replace HB:=hs_ HB hb;have Bv:=Bh;have F:=nk_ hg B;replace B:=bb_ B hb;have U:=ny_ F;clear hb hbox hg))
  repeat(go_quiet (first|((with_reducible refine gate_dst (N:=2) rfl ?_);refine be_ 2 #[.slice G l0_0.length I] 39 ?_;intro Bs hg w4 hbox hb;have B:=am_ hbox;have Bg:=wk_ hg HB;replace HB:=hs_ HB hb;have Bt:=Bg;clear hb hbox hg)|((with_reducible refine gate_dst (N:=3) rfl ?_);refine be_ 3 #[i_ a1_0,i_ a1_1,i_ a1_2,i_ a1_3,i_ a1_4,i_ a1_5,i_ a1_6,.slice J l1_7.length L,.slice M l1_8.length O] 29 ?_;intro Bu hg w5 hbox hb;have E:=am_ hbox;have Bh:=wk_ hg HB;replace HB:=hs_ HB hb;have Bv:=Bh;have F:=nk_ hg B;replace B:=bb_ B hb;have U:=ny_ F;clear hb hbox hg));go_upto_region 1 with (first|((with_reducible refine gate_dst (N:=2) rfl ?_);refine be_ 2 #[.slice G l0_0.length I] 39 ?_;intro Bs hg w4 hbox hb;have B:=am_ hbox;have Bg:=wk_ hg HB;replace HB:=hs_ HB hb;have Bt:=Bg;clear hb hbox hg)|((with_reducible refine gate_dst (N:=3) rfl ?_);refine be_ 3 #[i_ a1_0,i_ a1_1,i_ a1_2,i_ a1_3,i_ a1_4,i_ a1_5,i_ a1_6,.slice J l1_7.length L,.slice M l1_8.length O] 29 ?_;intro Bu hg w5 hbox hb;have E:=am_ hbox;have Bh:=wk_ hg HB;replace HB:=hs_ HB hb;have Bv:=Bh;have F:=nk_ hg B;replace B:=bb_ B hb;have U:=ny_ F;clear hb hbox hg)))
  (try simp only[Act.put,List.setIfInBounds_toArray,List.set_cons_zero,List.set_cons_succ])
  go_cut [13] (fun v13 wc=>∃ (kq:Nat)(Bw:Bool),v13=.bool Bw∧Aside0 (spec_ReadsExist.j0 kq Bw l0_0 a1_0 a1_1 a1_2 a1_3 a1_4 a1_5 a1_6 l1_7 l1_8=some r)∧Aside0 (kq≤k)∧Aside0 (wc.heap[Bs]? = some (.cells #[(.slice G l0_0.length I)] 39 (0,0)))∧Aside0 (wc.heap[Bu]? = some (.cells #[i_ a1_0,i_ a1_1,i_ a1_2,i_ a1_3,i_ a1_4,i_ a1_5,i_ a1_6,(.slice J l1_7.length L),(.slice M l1_8.length O)] 29 (0,0)))∧Aside0 (Below w.heap.size w wc))
  case first=>
    have H:=B5.out;clear B5;replace H:=bi_ H;obtain⟨Ck,B9,H⟩:=H;have A6:=am_ B9;clear B9
    refine em_ (Ck=true) ?ac7 ?bc7
    case' ac7=>
     intro c7
     subst c7;rw[if_pos rfl]at H;replace H:=bi_ H;obtain⟨Bx,Ca,H⟩:=H;have A8:=am_ Ca;clear Ca;have H':=am_ H;clear H;have Cq:=F.out;have Cr:=U.out;have Cb:=bc1_ B.out;have Cc:=blk_frozen B.out 0
    case' bc7=>
     intro c7
     replace c7:=Bool.eq_false_iff.mpr c7;subst c7;rw[if_neg nt_]at H;have H':=am_ H;clear H;have Cs:=F.out;have Ct:=U.out;have Cd:=bc1_ B.out;have Ce:=blk_frozen B.out 0
    all_goals
     go_wp2_with (first|(go_at_call 70;(with_reducible refine(spec_IsValidStore.calls k _ _ l0_0 _ _ ?side1 ?side2 A6.out).mono ?_);(case side1=>exact cq_ Bf.out HB.out);(case side2=>exact B1.out);rintro e Cf ⟨rfl,hb⟩;replace B:=bb_ B hb;replace E:=bb_ E hb;replace HB:=hs_ HB hb;clear hb;(first|(have Cg:=bc9_ E.out;have Ch:=bf9_ E.out)|skip))|(go_at_call 17;(with_reducible refine(spec_IsValidTransaction.calls k a1_0 a1_1 a1_2 a1_3 a1_4 a1_5 a1_6 _ _ l1_7 _ _ l1_8 Bx _ ?side1 ?side2 ?side3 ?side4 A8.out).mono ?_);(case side1=>exact cq_ R.out HB.out);(case side2=>exact B2.out);(case side3=>exact cq_ B3.out HB.out);(case side4=>exact B4.out);rintro e Ci ⟨rfl,hb⟩;replace B:=bb_ B hb;replace E:=bb_ E hb;replace HB:=hs_ HB hb;clear hb))
     repeat(go_quiet (first|(go_at_call 70;(with_reducible refine(spec_IsValidStore.calls k _ _ l0_0 _ _ ?side1 ?side2 A6.out).mono ?_);(case side1=>exact cq_ Bf.out HB.out);(case side2=>exact B1.out);rintro e Cf ⟨rfl,hb⟩;replace B:=bb_ B hb;replace E:=bb_ E hb;replace HB:=hs_ HB hb;clear hb;(first|(have Cg:=bc9_ E.out;have Ch:=bf9_ E.out)|skip))|(go_at_call 17;(with_reducible refine(spec_IsValidTransaction.calls k a1_0 a1_1 a1_2 a1_3 a1_4 a1_5 a1_6 _ _ l1_7 _ _ l1_8 Bx _ ?side1 ?side2 ?side3 ?side4 A8.out).mono ?_);(case side1=>exact cq_ R.out HB.out);(case side2=>exact B2.out);(case side3=>exact cq_ B3.out HB.out);(case side4=>exact B4.out);rintro e Ci ⟨rfl,hb⟩;replace B:=bb_ B hb;replace E:=bb_ E hb;replace HB:=hs_ HB hb;clear hb));try go_wp2_with (first|(go_at_call 70;(with_reducible refine(spec_IsValidStore.calls k _ _ l0_0 _ _ ?side1 ?side2 A6.out).mono ?_);(case side1=>exact cq_ Bf.out HB.out);(case side2=>exact B1.out);rintro e Cf ⟨rfl,hb⟩;replace B:=bb_ B hb;replace E:=bb_ E hb;replace HB:=hs_ HB hb;clear hb;(first|(have Cg:=bc9_ E.out;have Ch:=bf9_ E.out)|skip))|(go_at_call 17;(with_reducible refine(spec_IsValidTransaction.calls k a1_0 a1_1 a1_2 a1_3 a1_4 a1_5 a1_6 _ _ l1_7 _ _ l1_8 Bx _ ?side1 ?side2 ?side3 ?side4 A8.out).mono ?_);(case side1=>exact cq_ R.out HB.out);(case side2=>exact B2.out);(case side3=>exact cq_ B3.out HB.out);(case side4=>exact B4.out);rintro e Ci ⟨rfl,hb⟩;replace B:=bb_ B hb;replace E:=bb_ E hb;replace HB:=hs_ HB hb;clear hb)))
     first
     | (go_meet;(case rel=>exact⟨_,(!Bx),rs_,H',⟨by first|omega|exact Nat.le_refl _⟩,⟨bq_ B.out⟩,⟨bq_ E.out⟩,⟨hbw_ HB⟩⟩))
     | (go_meet;(case rel=>exact⟨_,(true),rs_,H',⟨by first|omega|exact Nat.le_refl _⟩,⟨bq_ B.out⟩,⟨bq_ E.out⟩,⟨hbw_ HB⟩⟩))
  case rest=>
    clear B5;(try clear Cb);(try clear Cd);(try clear Cc);(try clear Ce);obtain⟨kq,Bw,rfl,HA,HJ2,B,E,HB⟩:=hcut
    cases kq with
    | zero=>exact absurd HA.out (by simp [spec_ReadsExist.j0])
    | succ kj2=>
      have H:=HA.out;clear HA;simp only[spec_ReadsExist.j0]at H
      by_cases By:Bw=true
      · subst By;rw[if_pos rfl]at H;obtain rfl:=Option.some.inj H
        go_wp2
        repeat(go_quiet (fail);try go_wp2)
        go_ret;exact⟨ew_,hq2_ HB.out Bt.out Bv.out⟩
      · replace By:=Bool.eq_false_iff.mpr By;subst By;rw[if_neg nt_]at H;have H':=am_ H;clear H
        go_wp2
        repeat(go_quiet (fail);try go_wp2)
        go_loopg [5] kj2 (fun kq v5 w'=>∃ (D:Int),v5=i_ D∧Aside0 (spec_ReadsExist.l0 kq D l0_0 a1_0 a1_1 a1_2 a1_3 a1_4 a1_5 a1_6 l1_7 l1_8=some r)∧Aside0 (kq≤kj2)∧Aside0 (w'.heap[Bs]? = some (.cells #[(.slice G l0_0.length I)] 39 (0,0)))∧Aside0 (w'.heap[Bu]? = some (.cells #[i_ a1_0,i_ a1_1,i_ a1_2,i_ a1_3,i_ a1_4,i_ a1_5,i_ a1_6,(.slice J l1_7.length L),(.slice M l1_8.length O)] 29 (0,0)))∧Aside0 (Below w.heap.size w w'))
        case atStart=>exact⟨(0),rs_,H',⟨Nat.le_refl _⟩,⟨bq_ B.out⟩,⟨bq_ E.out⟩,⟨hbw_ HB⟩⟩
        case round=>
          clear H';(try clear Cb);(try clear Cd);(try clear Cc);(try clear Ce);obtain⟨D,rfl,HA,HK2,B,E,HB⟩:=hrel
          cases gk with
          | zero=>exact absurd HA.out (by simp [spec_ReadsExist.l0])
          | succ k2=>
            have H:=HA.out;clear HA;simp only[spec_ReadsExist.l0]at H
            refine em_ (D < (l1_7.length:Int)) ?ac18 ?bc18
            case' ac18=>
             intro V
             rw[if_pos V]at H;have Cl:decide (D < (l1_7.length:Int))=true:=decide_eq_true V;clear V
             refine em_ (0≤D) ?ac19 ?bc19
             case' ac19=>
              intro Bi
              rw[if_pos Bi]at H;have Cu:decide (0≤D)=true:=decide_eq_true Bi;clear Bi
              refine em_ (0≤((rd_T47 l1_7 D).f0)) ?ac20 ?bc20
              case' ac20=>
               intro Bj
               rw[if_pos Bj]at H;have Cv:decide (0≤((rd_T47 l1_7 D).f0))=true:=decide_eq_true Bj;clear Bj
               refine em_ (((rd_T47 l1_7 D).f0) < (l0_0.length:Int)) ?ac21 ?bc21
               case' ac21=>
                intro Bk
                rw[if_pos Bk]at H;have Cw:decide (((rd_T47 l1_7 D).f0) < (l0_0.length:Int))=true:=decide_eq_true Bk;clear Bk;replace H:=bi_ H;obtain⟨Be,Cj,H⟩:=H;have B6:=am_ Cj;clear Cj
                refine em_ (Be < 0) ?ac23 ?bc23
                case' ac23=>
                 intro X
                 rw[if_pos X]at H;have Cm:decide (Be < 0)=true:=decide_eq_true X;clear X;obtain rfl:=Option.some.inj H;have Cx:=U.out;have Cy:=F.out;have Cz:=bc9_ E.out;have C0:=bf9_ E.out;have C1:=bc1_ B.out;have C2:=blk_frozen B.out 0;have Y:0≤(D:Int):=of_decide_eq_true as_;have Z:D < (l1_7.length:Int):=of_decide_eq_true as_;obtain⟨B7,e615,Bl,Bm⟩:=at_T47 R.out D Y Z
                 cases e615
                 replace Bl:=bl_ HB.out Bl;replace Bm:=bl_ HB.out Bm;replace Y:=eq_true Y;replace Z:=eq_true Z;have Ba:0≤(((rd_T47 l1_7 D).f0):Int):=of_decide_eq_true as_;have Bb:((rd_T47 l1_7 D).f0) < (l0_0.length:Int):=of_decide_eq_true as_;obtain⟨Cn,Co,Cp,e616,Bn,Bo,Bp⟩:=at_L3 Bf.out ((rd_T47 l1_7 D).f0) Ba Bb
                 cases e616
                 replace Bn:=bl_ HB.out Bn;have Bz:=am_ Bp;have B0:=am_ Bo;clear Bp Bo;replace Ba:=eq_true Ba;replace Bb:=eq_true Bb;have Bc:0≤(D:Int):=of_decide_eq_true as_;have Bd:D < (l1_7.length:Int):=of_decide_eq_true as_;obtain⟨B8,e617,Bq,Br⟩:=at_T47 R.out D Bc Bd;obtain rfl:B7=B8:=(by injection e617);replace Bq:=bl_ HB.out Bq;replace Br:=bl_ HB.out Br;replace Bc:=eq_true Bc;replace Bd:=eq_true Bd
                case' bc23=>
                 intro X
                 rw[if_neg X]at H;have Cm:decide (Be < 0)=false:=decide_eq_false X;clear X;have H':=am_ H;clear H;have C3:=U.out;have C4:=F.out;have C5:=bc9_ E.out;have C6:=bf9_ E.out;have C7:=bc1_ B.out;have C8:=blk_frozen B.out 0;have Y:0≤(D:Int):=of_decide_eq_true as_;have Z:D < (l1_7.length:Int):=of_decide_eq_true as_;obtain⟨B7,e615,Bl,Bm⟩:=at_T47 R.out D Y Z
                 cases e615
                 replace Bl:=bl_ HB.out Bl;replace Bm:=bl_ HB.out Bm;replace Y:=eq_true Y;replace Z:=eq_true Z;have Ba:0≤(((rd_T47 l1_7 D).f0):Int):=of_decide_eq_true as_;have Bb:((rd_T47 l1_7 D).f0) < (l0_0.length:Int):=of_decide_eq_true as_;obtain⟨Cn,Co,Cp,e616,Bn,Bo,Bp⟩:=at_L3 Bf.out ((rd_T47 l1_7 D).f0) Ba Bb
                 cases e616
                 replace Bn:=bl_ HB.out Bn;have Bz:=am_ Bp;have B0:=am_ Bo;clear Bp Bo;replace Ba:=eq_true Ba;replace Bb:=eq_true Bb;have Bc:0≤(D:Int):=of_decide_eq_true as_;have Bd:D < (l1_7.length:Int):=of_decide_eq_true as_;obtain⟨B8,e617,Bq,Br⟩:=at_T47 R.out D Bc Bd;obtain rfl:B7=B8:=(by injection e617);replace Bq:=bl_ HB.out Bq;replace Br:=bl_ HB.out Br;replace Bc:=eq_true Bc;replace Bd:=eq_true Bd
               case' bc21=>
                intro Bk
                rw[if_neg Bk]at H;exact absurd H (by simp)
              case' bc20=>
               intro Bj
               rw[if_neg Bj]at H;exact absurd H (by simp)
             case' bc19=>
              intro Bi
              rw[if_neg Bi]at H;exact absurd H (by simp)
            case' bc18=>
             intro V
             rw[if_neg V]at H;have Cl:decide (D < (l1_7.length:Int))=false:=decide_eq_false V;clear V;obtain rfl:=Option.some.inj H;have C9:=U.out;have Da:=F.out;have Db:=bc9_ E.out;have Dc:=bf9_ E.out
            all_goals
             go_wp2_with (first|(go_at_call 59;(with_reducible refine(spec_FindVersion.calls k2 _ _ (rd_L3 l0_0 ((rd_T47 l1_7 D).f0)) ((rd_T47 l1_7 D).f1) Be _ ?side1 ?side2 B6.out).mono ?_);(case side1=>exact cq_ Bz.out HB.out);(case side2=>exact B0.out);rintro e w' ⟨rfl,⟨nd,rfl⟩⟩;(try first|exact⟨rfl,_,World.drewN_drewN _ _ _⟩|exact⟨rfl,_,Eq.trans (World.drewN_drewN _ _ _) (congrArg (World.drewN _) (Nat.add_assoc _ _ _))⟩)))
             repeat(go_quiet (first|(go_at_call 59;(with_reducible refine(spec_FindVersion.calls k2 _ _ (rd_L3 l0_0 ((rd_T47 l1_7 D).f0)) ((rd_T47 l1_7 D).f1) Be _ ?side1 ?side2 B6.out).mono ?_);(case side1=>exact cq_ Bz.out HB.out);(case side2=>exact B0.out);rintro e w' ⟨rfl,⟨nd,rfl⟩⟩;(try first|exact⟨rfl,_,World.drewN_drewN _ _ _⟩|exact⟨rfl,_,Eq.trans (World.drewN_drewN _ _ _) (congrArg (World.drewN _) (Nat.add_assoc _ _ _))⟩)));try go_wp2_with (first|(go_at_call 59;(with_reducible refine(spec_FindVersion.calls k2 _ _ (rd_L3 l0_0 ((rd_T47 l1_7 D).f0)) ((rd_T47 l1_7 D).f1) Be _ ?side1 ?side2 B6.out).mono ?_);(case side1=>exact cq_ Bz.out HB.out);(case side2=>exact B0.out);rintro e w' ⟨rfl,⟨nd,rfl⟩⟩;(try first|exact⟨rfl,_,World.drewN_drewN _ _ _⟩|exact⟨rfl,_,Eq.trans (World.drewN_drewN _ _ _) (congrArg (World.drewN _) (Nat.add_assoc _ _ _))⟩))))
             first
             | (go_ret;exact⟨ew_,hq2_ HB.out Bt.out Bv.out⟩)
             | (go_roundg k2;(case measure=>have:=HJ2.out;have:=HK2.out;omega);(case rel=>exact⟨(wrap64 (D+1)),rs_,H',⟨by have:=HJ2.out;have:=HK2.out;omega⟩,⟨bq_ B.out⟩,⟨bq_ E.out⟩,⟨hbw_ HB⟩⟩))

/-! ### spec_LatestVersion: function 71 -/
def spec_LatestVersion.f (k:Nat) (l0:List (S77)):Option (Int × Int × Int × Int × Int):=(spec_IsValidChain.f k l0).bind fun t620=>(if t620=true then (if 0≤(wrap64 ((l0.length:Int) - 1)) then (if (wrap64 ((l0.length:Int) - 1)) < (l0.length:Int) then (some ((rd_T77 l0 (wrap64 ((l0.length:Int) - 1))).f0,(rd_T77 l0 (wrap64 ((l0.length:Int) - 1))).f1,(rd_T77 l0 (wrap64 ((l0.length:Int) - 1))).f2,(rd_T77 l0 (wrap64 ((l0.length:Int) - 1))).f3,(rd_T77 l0 (wrap64 ((l0.length:Int) - 1))).f4)) else (none)) else (none)) else (some (0,0,0,0,0)))
theorem spec_LatestVersion.mono:∀ a0 k,LeO (spec_LatestVersion.f k a0) (spec_LatestVersion.f (k+1) a0):=by
  intro a0 k;unfold spec_LatestVersion.f
  repeat' first
      | (with_reducible first|apply spec_IsValidChain.mono|exact LeO.refl _|exact LeO.none _|refine LeO.ite ?_ ?_|refine LeO.bind ?_ (fun _=>?_))
set_option maxHeartbeats 8000000 in
set_option maxRecDepth 100000 in
theorem spec_LatestVersion.calls (k:Nat)(A0:Option Addr)(c0:Nat) (l0:List (S77)) (r1 r2 r3 r4 r5:Int) (w:World) (hr0:Kd.C k77 w A0 l0.length l0) (hc0:l0.length≤c0) (h:spec_LatestVersion.f k l0=some (r1,r2,r3,r4,r5)) :
    Calls Try.prog 71 #[.slice A0 l0.length c0] w fun e w'=>e=.returned (.agg #[i_ r1,i_ r2,i_ r3,i_ r4,i_ r5])∧Below w.heap.size w w':=by
  have hu77:=Try.underlying77;have I:=am_ hr0;have Y:=am_ hc0;clear hr0 hc0;have HB:=am_ (Below.refl w.heap.size w);unfold spec_LatestVersion.f at h;have H:=h;clear h;replace H:=bi_ H;obtain⟨Z,J,H⟩:=H;have A2:=am_ J;clear J
  refine em_ (Z=true) ?ac3 ?bc3
  case' ac3=>
   intro c3
   subst c3;rw[if_pos rfl]at H;obtain⟨B,E⟩:∃ j_:Int,(wrap64 ((l0.length:Int) - 1))=j_:=⟨_,rfl⟩;(first|rw[E]at H|simp only[E]at H);(try rw[E]at A2);have Bb:(IntKind.i64.wrap ((l0.length:Int) - 1))=B:=(i64_w _).trans E
   refine em_ (0≤(B)) ?ac5 ?bc5
   case' ac5=>
    intro c5
    rw[if_pos c5]at H;have Bc:decide (0≤(B))=true:=decide_eq_true c5;clear c5
    refine em_ ((B) < (l0.length:Int)) ?ac6 ?bc6
    case' ac6=>
     intro c6
     rw[if_pos c6]at H;have Bd:decide ((B) < (l0.length:Int))=true:=decide_eq_true c6;clear c6;simp only[Option.some.injEq,Prod.mk.injEq]at H;obtain⟨rfl,rfl,rfl,rfl,rfl⟩:=H
    case' bc6=>
     intro c6
     rw[if_neg c6]at H;exact absurd H (by simp)
   case' bc5=>
    intro c5
    rw[if_neg c5]at H;exact absurd H (by simp)
  case' bc3=>
   intro c3
   replace c3:=Bool.eq_false_iff.mpr c3;subst c3;rw[if_neg nt_]at H;simp only[Option.some.injEq,Prod.mk.injEq]at H;obtain⟨rfl,rfl,rfl,rfl,rfl⟩:=H
  all_goals
   go_enter Try.func71,Try.ntmps71
   go_wp2_with (first|((with_reducible refine gate_dst (N:=2) rfl ?_);refine be_ 2 #[i_ 0,i_ 0,i_ 0,i_ 0,i_ 0] 77 ?_;intro L hg w7 hbox hb;have D:=am_ hbox;have Ba:=wk_ hg HB;replace HB:=hs_ HB hb;have M:=Ba;clear hb hbox hg)|((with_reducible refine gate_callee (f:=86) rfl ?_);refine goesL_ (some 4) rfl rfl Try.func86 (by kernel_rfl) rfl #[.slice A0 l0.length c0] rfl mp_ ?_;(with_reducible refine(spec_IsValidChain.calls k _ _ l0 _ _ ?side1 ?side2 A2.out).mono ?_);(case side1=>exact cq_ I.out HB.out);(case side2=>exact Y.out);rintro e w8 ⟨rfl,hb⟩;refine⟨_,rfl,?_⟩;replace D:=bb_ D hb;replace HB:=hs_ HB hb;clear hb;(first|(have F:0≤((B):Int):=of_decide_eq_true as_;have G:(B) < (l0.length:Int):=of_decide_eq_true as_;obtain⟨Be,e621,O,R,U,V,X⟩:=at_T77 I.out (B) F G;cases e621;replace O:=bl_ HB.out O;replace R:=bl_ HB.out R;replace U:=bl_ HB.out U;replace V:=bl_ HB.out V;replace X:=bl_ HB.out X;replace F:=eq_true F;replace G:=eq_true G;have Bf:=bc5_ D.out;have Bg:=bf5_ D.out)|(have Bh:=bc5_ D.out;have Bi:=bf5_ D.out))))
   first
   | (refine bodyPost_ret (results_cell_row rfl _ _ L 77 #[i_ ((rd_T77 l0 (B)).f0),i_ ((rd_T77 l0 (B)).f1),i_ ((rd_T77 l0 (B)).f2),i_ ((rd_T77 l0 (B)).f3),i_ ((rd_T77 l0 (B)).f4)] (0,0) _ rfl (bz5_ D.out) Try.underlying77 rfl (by kernel_rfl)) rfl ?_;exact⟨by first|rfl|(simp [errW_none,errW_some] <;> rfl)|(simp only[← E];first|rfl|(simp [errW_none,errW_some] <;> rfl))|(simp [*,errW_none,errW_some] <;> rfl),hq1_ HB.out M.out⟩)
   | (refine bodyPost_ret (results_cell_row rfl _ _ L 77 #[i_ 0,i_ 0,i_ 0,i_ 0,i_ 0] (0,0) _ rfl (bz5_ D.out) Try.underlying77 rfl (by kernel_rfl)) rfl ?_;exact⟨ew_,hq1_ HB.out M.out⟩)

end Go.Proofs.Ytacdaekigoldaaa.PFnExclusion
