-- Printed by my own myprint.py out of the translation of the seat Ytacdaekigoldaaa. Not trusted: Lean checks it.
import Derived.Test.YtacdaekigoldaaaPFnExclusionx0
import Derived.Test.YtacdaekigoldaaaPFnExclusionx3
import Derived.Test.YtacdaekigoldaaaPFnExclusionx19
import Derived.Test.YtacdaekigoldaaaPFnExclusionx20
namespace Go.Proofs.Ytacdaekigoldaaa.PFnExclusion
open Go.RowKit Go.Proofs.YtacdaekigoldaaaW.PrintWords Go.Proofs.YtacdaekigoldaaaW.PrintLast Go.Proofs.YtacdaekigoldaaaW.PrintMore
attribute [local go_sem] max2_int min2_int max_two min_two max_three min_three max_four min_four   -- for this text's walks alone
set_option linter.unusedVariables false
set_option linter.unusedSimpArgs false

/-! ### spec_RefreshLow: function 50 -/
mutual
def spec_RefreshLow.j0:Nat→Bool→List (List (S77))→Int→Int→Int→Int→Int→Int→Int→List (S47)→List (S58)→Option (Int)
  | 0,_,_,_,_,_,_,_,_,_,_,_=>none
  | k+1,x15,x623000,x624000,x624001,x624002,x624003,x624004,x624005,x624006,x624007,x624008=>if x15=true then (some 0) else (spec_RefreshLow.l0 k 0 0 x623000 x624000 x624001 x624002 x624003 x624004 x624005 x624006 x624007 x624008)
def spec_RefreshLow.l0:Nat→Int→Int→List (List (S77))→Int→Int→Int→Int→Int→Int→Int→List (S47)→List (S58)→Option (Int)
  | 0,_,_,_,_,_,_,_,_,_,_,_,_=>none
  | k+1,x5,x6,x623000,x624000,x624001,x624002,x624003,x624004,x624005,x624006,x624007,x624008=>if x6 < (x624007.length:Int) then (if 0≤x6 then (spec_RefreshLow.l0 k (mx x5 ((rd_T47 x624007 x6).f1)) (wrap64 (x6+1)) x623000 x624000 x624001 x624002 x624003 x624004 x624005 x624006 x624007 x624008) else (none)) else (spec_RefreshLow.l1 k x5 0 x623000 x624000 x624001 x624002 x624003 x624004 x624005 x624006 x624007 x624008)
def spec_RefreshLow.l1:Nat→Int→Int→List (List (S77))→Int→Int→Int→Int→Int→Int→Int→List (S47)→List (S58)→Option (Int)
  | 0,_,_,_,_,_,_,_,_,_,_,_,_=>none
  | k+1,x5,x7,x623000,x624000,x624001,x624002,x624003,x624004,x624005,x624006,x624007,x624008=>if x7 < (x624008.length:Int) then (if 0≤x7 then (if 0≤((rd_T58 x624008 x7).f0) then (if ((rd_T58 x624008 x7).f0) < (x623000.length:Int) then ((spec_LatestVersion.f k (rd_L3 x623000 ((rd_T58 x624008 x7).f0))).bind fun bt629=>(spec_RefreshLow.l1 k (mx x5 bt629.2.2.2.1) (wrap64 (x7+1)) x623000 x624000 x624001 x624002 x624003 x624004 x624005 x624006 x624007 x624008)) else (none)) else (none)) else (none)) else (some x5)
end
def spec_RefreshLow.f (k:Nat) (l0_0:List (List (S77))) (a1_0 a1_1 a1_2 a1_3 a1_4 a1_5 a1_6:Int) (l1_7:List (S47)) (l1_8:List (S58)):Option (Int):=(spec_IsValidStore.f k l0_0).bind fun t624=>(if t624=true then ((spec_IsValidTransaction.f k a1_0 a1_1 a1_2 a1_3 a1_4 a1_5 a1_6 l1_7 l1_8).bind fun t625=>(spec_RefreshLow.j0 k (!t625) l0_0 a1_0 a1_1 a1_2 a1_3 a1_4 a1_5 a1_6 l1_7 l1_8)) else (spec_RefreshLow.j0 k true l0_0 a1_0 a1_1 a1_2 a1_3 a1_4 a1_5 a1_6 l1_7 l1_8))
theorem spec_RefreshLow.mono_l:∀ k,(∀ y0 y1 y2 y3 y4 y5 y6 y7 y8 y9 y10,LeO (spec_RefreshLow.j0 k y0 y1 y2 y3 y4 y5 y6 y7 y8 y9 y10) (spec_RefreshLow.j0 (k+1) y0 y1 y2 y3 y4 y5 y6 y7 y8 y9 y10))∧(∀ y0 y1 y2 y3 y4 y5 y6 y7 y8 y9 y10 y11,LeO (spec_RefreshLow.l0 k y0 y1 y2 y3 y4 y5 y6 y7 y8 y9 y10 y11) (spec_RefreshLow.l0 (k+1) y0 y1 y2 y3 y4 y5 y6 y7 y8 y9 y10 y11))∧(∀ y0 y1 y2 y3 y4 y5 y6 y7 y8 y9 y10 y11,LeO (spec_RefreshLow.l1 k y0 y1 y2 y3 y4 y5 y6 y7 y8 y9 y10 y11) (spec_RefreshLow.l1 (k+1) y0 y1 y2 y3 y4 y5 y6 y7 y8 y9 y10 y11))
  | 0=>⟨fun _ _ _ _ _ _ _ _ _ _ _ r h=>by simp [spec_RefreshLow.j0]at h,fun _ _ _ _ _ _ _ _ _ _ _ _ r h=>by simp [spec_RefreshLow.l0]at h,fun _ _ _ _ _ _ _ _ _ _ _ _ r h=>by simp [spec_RefreshLow.l1]at h⟩
  | k+1=>by
    obtain⟨ih0,ih1,ih2⟩:=spec_RefreshLow.mono_l k;refine⟨?_,?_,?_⟩
    · intro y0 y1 y2 y3 y4 y5 y6 y7 y8 y9 y10;unfold spec_RefreshLow.j0
      repeat' first
      | (with_reducible first|apply ih0|apply ih1|apply ih2|apply spec_IsValidStore.mono|apply spec_IsValidTransaction.mono|apply spec_LatestVersion.mono|exact LeO.refl _|exact LeO.none _|refine LeO.ite ?_ ?_|refine LeO.bind ?_ (fun _=>?_))
    · intro y0 y1 y2 y3 y4 y5 y6 y7 y8 y9 y10 y11;unfold spec_RefreshLow.l0
      repeat' first
      | (with_reducible first|apply ih0|apply ih1|apply ih2|apply spec_IsValidStore.mono|apply spec_IsValidTransaction.mono|apply spec_LatestVersion.mono|exact LeO.refl _|exact LeO.none _|refine LeO.ite ?_ ?_|refine LeO.bind ?_ (fun _=>?_))
    · intro y0 y1 y2 y3 y4 y5 y6 y7 y8 y9 y10 y11;unfold spec_RefreshLow.l1
      repeat' first
      | (with_reducible first|apply ih0|apply ih1|apply ih2|apply spec_IsValidStore.mono|apply spec_IsValidTransaction.mono|apply spec_LatestVersion.mono|exact LeO.refl _|exact LeO.none _|refine LeO.ite ?_ ?_|refine LeO.bind ?_ (fun _=>?_))
theorem spec_RefreshLow.mono:∀ a0 a1 a2 a3 a4 a5 a6 a7 a8 a9 k,LeO (spec_RefreshLow.f k a0 a1 a2 a3 a4 a5 a6 a7 a8 a9) (spec_RefreshLow.f (k+1) a0 a1 a2 a3 a4 a5 a6 a7 a8 a9):=by
  intro a0 a1 a2 a3 a4 a5 a6 a7 a8 a9 k;obtain⟨ih0,ih1,ih2⟩:=spec_RefreshLow.mono_l k;unfold spec_RefreshLow.f
  repeat' first
      | (with_reducible first|apply ih0|apply ih1|apply ih2|apply spec_IsValidStore.mono|apply spec_IsValidTransaction.mono|apply spec_LatestVersion.mono|exact LeO.refl _|exact LeO.none _|refine LeO.ite ?_ ?_|refine LeO.bind ?_ (fun _=>?_))
def spec_RefreshLow.T11:Bool × List (List Nat × List Nat):=(true,[([],[]),([],[]),([1],[1]),([],[]),([3],[3]),([],[]),([4,5],[4,5]),([6],[6]),([7],[7]),([2,8],[2,8]),([9],[9]),([10],[10]),([11],[11]),([0,12],[0,12]),([13,11,0,1,2,3,4,5,6,7,8,9,10,11,12,13],[0,13])])
def spec_RefreshLow.B11:List Nat:=[0,0,2,0,8,0,56,120,248,510,1022,2046,4094,8191,16383]
theorem spec_RefreshLow.tab11:rtab .any (opsOf Try.f50 11)=spec_RefreshLow.T11:=by kernel_rfl
theorem spec_RefreshLow.bits11:waitsOk spec_RefreshLow.T11.2 spec_RefreshLow.B11=true:=by kernel_rfl
set_option maxHeartbeats 8000000 in
set_option maxRecDepth 100000 in
theorem spec_RefreshLow.calls (k:Nat)(J:Option Addr)(I:Nat) (l0_0:List (List (S77))) (a1_0 a1_1 a1_2 a1_3 a1_4 a1_5 a1_6:Int)(L:Option Addr)(M:Nat) (l1_7:List (S47)) (V:Option Addr)(O:Nat) (l1_8:List (S58)) (r:Int) (w:World) (hr0_0:Kd.C (Kd.slice 77 k77) w J l0_0.length l0_0) (hc0_0:l0_0.length≤I) (hr1_7:Kd.C k47 w L l1_7.length l1_7) (hc1_7:l1_7.length≤M) (hr1_8:Kd.C k58 w V l1_8.length l1_8) (hc1_8:l1_8.length≤O) (h:spec_RefreshLow.f k l0_0 a1_0 a1_1 a1_2 a1_3 a1_4 a1_5 a1_6 l1_7 l1_8=some r) :
    Calls Try.prog 50 #[.agg #[.slice J l0_0.length I],.agg #[i_ a1_0,i_ a1_1,i_ a1_2,i_ a1_3,i_ a1_4,i_ a1_5,i_ a1_6,.slice L l1_7.length M,.slice V l1_8.length O]] w fun e w'=>e=.returned (i_ r)∧Below w.heap.size w w':=by
  have hu39:=Try.underlying39;have hu29:=Try.underlying29;have hu77:=Try.underlying77;(have hfd77_3:∀ (v0_ v1_ v2_ v3_ v4_:Value) (W:World),(Instr.field 77 (.agg #[v0_,v1_,v2_,v3_,v4_]) 3).run Try.prog W=.ok v3_ W:=fun v0_ v1_ v2_ v3_ v4_ W=>by rfl);have B2:=am_ hr0_0;have Cl:=am_ hc0_0;clear hr0_0 hc0_0;have B3:=am_ hr1_7;have Cm:=am_ hc1_7;clear hr1_7 hc1_7;have B4:=am_ hr1_8;have Cn:=am_ hc1_8;clear hr1_8 hc1_8;have HB:=am_ (Below.refl w.heap.size w);unfold spec_RefreshLow.f at h;have H:=h;clear h;have Bp:=am_ H;clear H
  go_enter Try.func50,Try.ntmps50
  go_upto_region 1 with (first|((with_reducible refine gate_dst (N:=2) rfl ?_);refine be_ 2 #[.slice J l0_0.length I] 39 ?_;intro Bc hg w4 hbox hb;have E:=am_ hbox;have Co:=wk_ hg HB;replace HB:=hs_ HB hb;have B5:=Co;clear hb hbox hg)|((with_reducible refine gate_dst (N:=3) rfl ?_);refine be_ 3 #[i_ a1_0,i_ a1_1,i_ a1_2,i_ a1_3,i_ a1_4,i_ a1_5,i_ a1_6,.slice L l1_7.length M,.slice V l1_8.length O] 29 ?_;intro G hg w5 hbox hb;have B:=am_ hbox;have Cp:=wk_ hg HB;replace HB:=hs_ HB hb;have B6:=Cp;have R:=nk_ hg E;replace E:=bb_ E hb;have X:=ny_ R;clear hb hbox hg))
  (try simp only[Act.put,List.setIfInBounds_toArray,List.set_cons_zero,List.set_cons_succ])
  go_cut [15] (fun v15 wc=>∃ (kq:Nat)(Bd:Bool),v15=.bool Bd∧Aside0 (spec_RefreshLow.j0 kq Bd l0_0 a1_0 a1_1 a1_2 a1_3 a1_4 a1_5 a1_6 l1_7 l1_8=some r)∧Aside0 (kq≤k)∧Aside0 (wc.heap[Bc]? = some (.cells #[(.slice J l0_0.length I)] 39 (0,0)))∧Aside0 (wc.heap[G]? = some (.cells #[i_ a1_0,i_ a1_1,i_ a1_2,i_ a1_3,i_ a1_4,i_ a1_5,i_ a1_6,(.slice L l1_7.length M),(.slice V l1_8.length O)] 29 (0,0)))∧Aside0 (Below w.heap.size w wc))
  case first=>
    have H:=Bp.out;clear Bp;replace H:=bi_ H;obtain⟨Cq,B7,H⟩:=H;have A6:=am_ B7;clear B7
    refine em_ (Cq=true) ?ac7 ?bc7
    case' ac7=>
     intro c7
     subst c7;rw[if_pos rfl]at H;replace H:=bi_ H;obtain⟨B8,B9,H⟩:=H;have A8:=am_ B9;clear B9;have H':=am_ H;clear H;have Cy:=R.out;have Cz:=X.out;have Bq:=bc1_ E.out;have Br:=blk_frozen E.out 0
    case' bc7=>
     intro c7
     replace c7:=Bool.eq_false_iff.mpr c7;subst c7;rw[if_neg nt_]at H;have H':=am_ H;clear H;have C0:=R.out;have C1:=X.out;have Bs:=bc1_ E.out;have Bt:=blk_frozen E.out 0
    all_goals
     go_wp2_with (first|((with_reducible refine gate_callee (f:=70) rfl ?_);refine goesL_ (some 9) rfl rfl Try.func70 (by kernel_rfl) rfl #[.agg #[.slice J l0_0.length I]] rfl mp_ ?_;(with_reducible refine(spec_IsValidStore.calls k _ _ l0_0 _ _ ?side1 ?side2 A6.out).mono ?_);(case side1=>exact cq_ B2.out HB.out);(case side2=>exact Cl.out);rintro e C2 ⟨rfl,hb⟩;refine⟨_,rfl,?_⟩;replace E:=bb_ E hb;replace B:=bb_ B hb;replace HB:=hs_ HB hb;clear hb;(first|(have C3:=bc9_ B.out;have C4:=bf9_ B.out)|skip))|(go_at_call 17;(with_reducible refine(spec_IsValidTransaction.calls k a1_0 a1_1 a1_2 a1_3 a1_4 a1_5 a1_6 _ _ l1_7 _ _ l1_8 B8 _ ?side1 ?side2 ?side3 ?side4 A8.out).mono ?_);(case side1=>exact cq_ B3.out HB.out);(case side2=>exact Cm.out);(case side3=>exact cq_ B4.out HB.out);(case side4=>exact Cn.out);rintro e C5 ⟨rfl,hb⟩;replace E:=bb_ E hb;replace B:=bb_ B hb;replace HB:=hs_ HB hb;clear hb))
     first
     | (go_meet;(case rel=>exact⟨_,(!B8),rs_,H',⟨by first|omega|exact Nat.le_refl _⟩,⟨bq_ E.out⟩,⟨bq_ B.out⟩,⟨hbw_ HB⟩⟩))
     | (go_meet;(case rel=>exact⟨_,(true),rs_,H',⟨by first|omega|exact Nat.le_refl _⟩,⟨bq_ E.out⟩,⟨bq_ B.out⟩,⟨hbw_ HB⟩⟩))
  case rest=>
    clear Bp;(try clear Bq);(try clear Bs);(try clear Br);(try clear Bt);obtain⟨kq,Bd,rfl,HA,HJ2,E,B,HB⟩:=hcut
    cases kq with
    | zero=>exact absurd HA.out (by simp [spec_RefreshLow.j0])
    | succ kj2=>
      have H:=HA.out;clear HA;simp only[spec_RefreshLow.j0]at H
      by_cases Be:Bd=true
      · subst Be;rw[if_pos rfl]at H;obtain rfl:=Option.some.inj H
        go_wp2
        go_ret;exact⟨ew_,hq2_ HB.out B5.out B6.out⟩
      · replace Be:=Bool.eq_false_iff.mpr Be;subst Be;rw[if_neg nt_]at H;have H':=am_ H;clear H
        go_wp2
        go_loopg [5,6] kj2 (fun kq v5 v6 w'=>∃ (U F:Int),v5=i_ U∧v6=i_ F∧Aside0 (spec_RefreshLow.l0 kq U F l0_0 a1_0 a1_1 a1_2 a1_3 a1_4 a1_5 a1_6 l1_7 l1_8=some r)∧Aside0 (kq≤kj2)∧Aside0 (w'.heap[Bc]? = some (.cells #[(.slice J l0_0.length I)] 39 (0,0)))∧Aside0 (w'.heap[G]? = some (.cells #[i_ a1_0,i_ a1_1,i_ a1_2,i_ a1_3,i_ a1_4,i_ a1_5,i_ a1_6,(.slice L l1_7.length M),(.slice V l1_8.length O)] 29 (0,0)))∧Aside0 (Below w.heap.size w w'))
        case atStart=>exact⟨(0),(0),rs_,rs_,H',⟨Nat.le_refl _⟩,⟨bq_ E.out⟩,⟨bq_ B.out⟩,⟨hbw_ HB⟩⟩
        case round=>
          clear H';(try clear Bq);(try clear Bs);(try clear Br);(try clear Bt);obtain⟨U,F,rfl,rfl,HA,HK2,E,B,HB⟩:=hrel
          cases gk with
          | zero=>exact absurd HA.out (by simp [spec_RefreshLow.l0])
          | succ k2=>
            have H:=HA.out;clear HA;simp only[spec_RefreshLow.l0]at H
            by_cases Y:F < (l1_7.length:Int)
            · rw[if_pos Y]at H;have Ca:decide (F < (l1_7.length:Int))=true:=decide_eq_true Y;clear Y
              by_cases Bf:0≤F
              · rw[if_pos Bf]at H;have Cr:decide (0≤F)=true:=decide_eq_true Bf;clear Bf;obtain⟨Cb,Bg⟩:∃ j_:Int,(mx U ((rd_T47 l1_7 F).f1))=j_:=⟨_,rfl⟩;(first|rw[Bg]at H|simp only[Bg]at H);have hji20_:(if U < ((rd_T47 l1_7 F).f1) then ((rd_T47 l1_7 F).f1) else U)=Cb:=Bg;have H':=am_ H;clear H;have C6:=X.out;have C7:=R.out;have C8:=bc9_ B.out;have C9:=bf9_ B.out;have Bu:0≤(F:Int):=of_decide_eq_true as_;have Bv:F < (l1_7.length:Int):=of_decide_eq_true as_;obtain⟨Da,e626,Bw,Bx⟩:=at_T47 B3.out F Bu Bv
                cases e626
                replace Bw:=bl_ HB.out Bw;replace Bx:=bl_ HB.out Bx;replace Bu:=eq_true Bu;replace Bv:=eq_true Bv
                go_wp2
                go_roundg k2
                case measure=>have:=HJ2.out;have:=HK2.out;omega
                case rel=>exact⟨(Cb),(wrap64 (F+1)),(by first|rfl|(simp;done)|(simp only[← Bg] <;> (first|rfl|simp))|(simp [*];done)),rs_,H',⟨by have:=HJ2.out;have:=HK2.out;omega⟩,⟨bq_ E.out⟩,⟨bq_ B.out⟩,⟨hbw_ HB⟩⟩
              · rw[if_neg Bf]at H;exact absurd H (by simp)
            · rw[if_neg Y]at H;have Ca:decide (F < (l1_7.length:Int))=false:=decide_eq_false Y;clear Y;have H':=am_ H;clear H;have Db:=X.out;have Dc:=R.out;have Dd:=bc9_ B.out;have De:=bf9_ B.out
              go_wp2
              go_loopg [5,7] k2 (fun kq v5 v7 w'=>∃ (Z D:Int),v5=i_ Z∧v7=i_ D∧Aside0 (spec_RefreshLow.l1 kq Z D l0_0 a1_0 a1_1 a1_2 a1_3 a1_4 a1_5 a1_6 l1_7 l1_8=some r)∧Aside0 (kq≤k2)∧Aside0 (w'.heap[Bc]? = some (.cells #[(.slice J l0_0.length I)] 39 (0,0)))∧Aside0 (w'.heap[G]? = some (.cells #[i_ a1_0,i_ a1_1,i_ a1_2,i_ a1_3,i_ a1_4,i_ a1_5,i_ a1_6,(.slice L l1_7.length M),(.slice V l1_8.length O)] 29 (0,0)))∧Aside0 (Below w.heap.size w w'))
              case atStart=>exact⟨(U),(0),rs_,rs_,H',⟨Nat.le_refl _⟩,⟨bq_ E.out⟩,⟨bq_ B.out⟩,⟨hbw_ HB⟩⟩
              case round=>
                clear H';(try clear Ca);(try clear Cr);(try clear Bq);(try clear Bs);(try clear Br);(try clear Bt);(try clear Bw);(try clear Bx);obtain⟨Z,D,rfl,rfl,HA,HK3,E,B,HB⟩:=hrel
                cases gk with
                | zero=>exact absurd HA.out (by simp [spec_RefreshLow.l1])
                | succ k3=>
                  have H:=HA.out;clear HA;simp only[spec_RefreshLow.l1]at H
                  by_cases Ba:D < (l1_8.length:Int)
                  · rw[if_pos Ba]at H;have Cs:decide (D < (l1_8.length:Int))=true:=decide_eq_true Ba;clear Ba
                    by_cases Bh:0≤D
                    · rw[if_pos Bh]at H;have Df:decide (0≤D)=true:=decide_eq_true Bh;clear Bh
                      by_cases Bi:0≤((rd_T58 l1_8 D).f0)
                      · rw[if_pos Bi]at H;have Dg:decide (0≤((rd_T58 l1_8 D).f0))=true:=decide_eq_true Bi;clear Bi
                        by_cases Bj:((rd_T58 l1_8 D).f0) < (l0_0.length:Int)
                        · rw[if_pos Bj]at H;have Dh:decide (((rd_T58 l1_8 D).f0) < (l0_0.length:Int))=true:=decide_eq_true Bj;clear Bj;replace H:=bi_ H;obtain⟨⟨Ct,Cu,Cv,Bk,Cw⟩,Cc,H⟩:=H;(try dsimp only at H);have Cd:=am_ Cc;clear Cc;obtain⟨Ce,Bb⟩:∃ j_:Int,(mx Z Bk)=j_:=⟨_,rfl⟩;(first|rw[Bb]at H|simp only[Bb]at H);(try rw[Bb]at Cd);have hji30_:(if Z < Bk then Bk else Z)=Ce:=Bb;have H':=am_ H;clear H;have Di:=X.out;have Dj:=R.out;have Dk:=bc9_ B.out;have Dl:=bf9_ B.out;(try go_wp2);replace E:=am_ (blk_drew E.out);replace B:=am_ (blk_drew B.out);replace HB:=am_ (below_drew1 HB.out);have By:0≤(D:Int):=of_decide_eq_true as_;have Bz:D < (l1_8.length:Int):=of_decide_eq_true as_;obtain⟨Bl,e627,Bm,Bn⟩:=at_T58 B4.out D By Bz;have hw627_1:=Bn;have hw627_0:=Bm
                          cases e627
                          replace Bm:=bl_ HB.out Bm;replace Bn:=bl_ HB.out Bn;replace By:=eq_true By;replace Bz:=eq_true Bz;have B0:0≤(((rd_T58 l1_8 D).f0):Int):=of_decide_eq_true as_;have B1:((rd_T58 l1_8 D).f0) < (l0_0.length:Int):=of_decide_eq_true as_;obtain⟨Cf,Cg,Ch,e628,Bo,Ci,Cj⟩:=at_L3 B2.out ((rd_T58 l1_8 D).f0) B0 B1;have hw628_0:=Bo
                          cases e628
                          replace Bo:=bl_ HB.out Bo;have Ck:=am_ Cj;have Cx:=am_ Ci;clear Cj Ci;replace B0:=eq_true B0;replace B1:=eq_true B1;refine start_ (n:=15) (S:=fun w'=>w'.cell? ⟨Bc,0,none⟩=some (.slice (some Cf) l0_0.length I)∧w'.cell? ⟨G,0,none⟩=some (i_ a1_0)∧w'.cell? ⟨G,1,none⟩=some (i_ a1_1)∧w'.cell? ⟨G,2,none⟩=some (i_ a1_2)∧w'.cell? ⟨G,3,none⟩=some (i_ a1_3)∧w'.cell? ⟨G,4,none⟩=some (i_ a1_4)∧w'.cell? ⟨G,5,none⟩=some (i_ a1_5)∧w'.cell? ⟨G,6,none⟩=some (i_ a1_6)∧w'.cell? ⟨G,7,none⟩=some (.slice L l1_7.length M)∧w'.cell? ⟨G,8,none⟩=some (.slice (some Bl) l1_8.length O)∧w'.cell? (Bl.add ((D).toNat * 2))=some (i_ ((rd_T58 l1_8 D).f0))∧w'.cell? ⟨(Bl.add ((D).toNat * 2)).block,(Bl.add ((D).toNat * 2)).off+1,none⟩=some (i_ ((rd_T58 l1_8 D).f1))∧w'.cell? (Cf.add (((rd_T58 l1_8 D).f0)).toNat)=some (.slice Cg (rd_L3 l0_0 ((rd_T58 l1_8 D).f0)).length Ch)) (ds:=[]) #[n_,n_,n_,n_,n_,n_,n_,n_,n_,n_,n_,n_,n_,n_,n_] (by kernel_rfl) rfl rfl ⟨cl_ E.out 0,cl_ B.out 0,cl_ B.out 1,cl_ B.out 2,cl_ B.out 3,cl_ B.out 4,cl_ B.out 5,cl_ B.out 6,cl_ B.out 7,cl_ B.out 8,(bd_ HB.out hw627_0),(bd_ HB.out hw627_1),(bd_ HB.out hw628_0)⟩ (fun hHeld=>?_);refine with_tabW spec_RefreshLow.tab11 spec_RefreshLow.bits11 (fun HT_ HW_=>?_);generalize wr.drew=Dm at E B HB Ck Bm Bn Bo hHeld ⊢;refine pj_ 0 38 15 1 HT_ ?_;refine pj_ 1 39 15 3 HT_ ?_;refine pj_ 3 41 15 11 HT_ ?_;refine pj_ 5 43 15 43 HT_ ?_;refine tj_ 2 40 15 47 HT_ HW_ (v:=?_) (a':=?_) ?_ hHeld ?_ ?_;rotate_left;(rintro w' ⟨s0,s1,s2,s3,s4,s5,s6,s7,s8,s9,s10,s11,s12⟩;go_simp;(with_reducible rfl));rotate_left;(exact pe_);refine tj_ 4 42 15 63 HT_ HW_ (v:=?_) (a':=?_) ?_ hHeld ?_ ?_;rotate_left;(rintro w' ⟨s0,s1,s2,s3,s4,s5,s6,s7,s8,s9,s10,s11,s12⟩;go_simp;(with_reducible rfl));rotate_left;(exact pe_);refine pj_ 6 44 15 127 HT_ ?_;refine pj_ 7 45 15 255 HT_ ?_;refine tj_ 8 46 15 511 HT_ HW_ (v:=?_) (a':=?_) ?_ hHeld ?_ ?_;rotate_left;(rintro w' ⟨s0,s1,s2,s3,s4,s5,s6,s7,s8,s9,s10,s11,s12⟩;go_simp;(with_reducible rfl));rotate_left;(exact pe_);refine pj_ 9 47 15 1023 HT_ ?_;refine tj_ 10 48 15 2047 HT_ HW_ (v:=?_) (a':=?_) ?_ hHeld ?_ ?_;rotate_left;(rintro w' ⟨s0,s1,s2,s3,s4,s5,s6,s7,s8,s9,s10,s11,s12⟩;go_simp;(with_reducible rfl));rotate_left;(exact pe_);refine oe_ 11 (bs_ 15 4095) HT_ (fun K hK=>?_);refine goes_ Try.func71 (by kernel_rfl) rfl #[.slice Cg (rd_L3 l0_0 ((rd_T58 l1_8 D).f0)).length Ch] (by rfl) rfl rfl mp_ ?_;(with_reducible refine(spec_LatestVersion.calls k3 _ _ (rd_L3 l0_0 ((rd_T58 l1_8 D).f0)) Ct Cu Cv Bk Cw _ ?side1 ?side2 Cd.out).mono ?_);(case side1=>exact cq_ Ck.out HB.out);(case side2=>exact Cx.out);rintro e Dn ⟨rfl,hb⟩;refine⟨_,rfl,?_⟩;replace E:=bb_ E hb;replace B:=bb_ B hb;replace HB:=hs_ HB hb;clear hb;refine hK.out _ _ ⟨cl_ E.out 0,cl_ B.out 0,cl_ B.out 1,cl_ B.out 2,cl_ B.out 3,cl_ B.out 4,cl_ B.out 5,cl_ B.out 6,cl_ B.out 7,cl_ B.out 8,(bd_ HB.out hw627_0),(bd_ HB.out hw627_1),(bd_ HB.out hw628_0)⟩ (fun hHeld=>?_);clear hK K;refine nr_ ?_;refine pj_ 12 50 15 8191 HT_ ?_;refine pj_ 13 51 15 16383 HT_ ?_;refine pj_ 14 5 15 32767 HT_ ?_;refine dn_ HT_.out ?_;(try go_wp2)
                          go_roundg k3
                          case measure=>have:=HJ2.out;have:=HK2.out;have:=HK3.out;omega
                          case rel=>exact⟨(Ce),(wrap64 (D+1)),(by first|rfl|(simp;done)|(simp only[← Bb] <;> (first|rfl|simp))|(simp [*];done)),rs_,H',⟨by have:=HJ2.out;have:=HK2.out;have:=HK3.out;omega⟩,⟨bq_ E.out⟩,⟨bq_ B.out⟩,⟨hbw_ HB⟩⟩
                        · rw[if_neg Bj]at H;exact absurd H (by simp)
                      · rw[if_neg Bi]at H;exact absurd H (by simp)
                    · rw[if_neg Bh]at H;exact absurd H (by simp)
                  · rw[if_neg Ba]at H;have Cs:decide (D < (l1_8.length:Int))=false:=decide_eq_false Ba;clear Ba;obtain rfl:=Option.some.inj H;have Do:=X.out;have Dp:=R.out;have Dq:=bc9_ B.out;have Dr:=bf9_ B.out
                    go_wp2
                    go_ret;exact⟨ew_,hq2_ HB.out B5.out B6.out⟩

end Go.Proofs.Ytacdaekigoldaaa.PFnExclusion
