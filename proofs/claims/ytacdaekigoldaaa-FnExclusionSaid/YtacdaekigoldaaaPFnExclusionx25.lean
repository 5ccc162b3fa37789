-- Printed by my own myprint.py out of the translation of the seat Ytacdaekigoldaaa. Not trusted: Lean checks it.
import Derived.Test.YtacdaekigoldaaaPFnExclusionx0
import Derived.Test.YtacdaekigoldaaaPFnExclusionx3
import Derived.Test.YtacdaekigoldaaaPFnExclusionx19
import Derived.Test.YtacdaekigoldaaaPFnExclusionx20
namespace Go.Proofs.Ytacdaekigoldaaa.PFnExclusion
open Go.RowKit Go.Proofs.YtacdaekigoldaaaW.PrintWords Go.Proofs.YtacdaekigoldaaaW.PrintLast Go.Proofs.YtacdaekigoldaaaW.PrintMore
attribute [local go_sem] max2_int min2_int max_two min_two max_three min_three max_four min_four   -- for this text's walks alone
set_option linter.unusedVariables false
set_option linter.unusedSimpArgs false

/-! ### spec_OverwrittenVersions: function 73 -/
def spec_OverwrittenVersions.l0:Nat→List (S47)→Int→List (List (S77))→Int→Int→Int→Int→Int→Int→Int→List (S47)→List (S58)→Option ((List (S47)))
  | 0,_,_,_,_,_,_,_,_,_,_,_,_=>none
  | k+1,x5,x6,x696000,x697000,x697001,x697002,x697003,x697004,x697005,x697006,x697007,x697008=>if x6 < (x697008.length:Int) then ((spec_IsValidStore.f k x696000).bind fun t700=>(if t700=true then ((spec_IsValidTransaction.f k x697000 x697001 x697002 x697003 x697004 x697005 x697006 x697007 x697008).bind fun t701=>(if t701=true then (if 0≤x6 then (if 0≤((rd_T58 x697008 x6).f0) then (if ((rd_T58 x697008 x6).f0) < (x696000.length:Int) then ((spec_LatestVersion.f k (rd_L3 x696000 ((rd_T58 x697008 x6).f0))).bind fun bt704=>(if x5.length < 8796093022208 then (spec_OverwrittenVersions.l0 k (x5++[(⟨(rd_T58 x697008 x6).f0,bt704.2.2.1⟩:S47)]) (wrap64 (x6+1)) x696000 x697000 x697001 x697002 x697003 x697004 x697005 x697006 x697007 x697008) else (none))) else (none)) else (none)) else (none)) else (some x5))) else (some x5))) else (some x5)
def spec_OverwrittenVersions.f (k:Nat) (l0_0:List (List (S77))) (a1_0 a1_1 a1_2 a1_3 a1_4 a1_5 a1_6:Int) (l1_7:List (S47)) (l1_8:List (S58)):Option ((List (S47))):=spec_OverwrittenVersions.l0 k (([]:List (S47))) 0 l0_0 a1_0 a1_1 a1_2 a1_3 a1_4 a1_5 a1_6 l1_7 l1_8
theorem spec_OverwrittenVersions.mono_l:∀ k,(∀ y0 y1 y2 y3 y4 y5 y6 y7 y8 y9 y10 y11,LeO (spec_OverwrittenVersions.l0 k y0 y1 y2 y3 y4 y5 y6 y7 y8 y9 y10 y11) (spec_OverwrittenVersions.l0 (k+1) y0 y1 y2 y3 y4 y5 y6 y7 y8 y9 y10 y11))
  | 0=>fun _ _ _ _ _ _ _ _ _ _ _ _ r h=>by simp [spec_OverwrittenVersions.l0]at h
  | k+1=>by
    have ih0:=spec_OverwrittenVersions.mono_l k
    · intro y0 y1 y2 y3 y4 y5 y6 y7 y8 y9 y10 y11;unfold spec_OverwrittenVersions.l0
      repeat' first
      | (with_reducible first|apply ih0|apply spec_IsValidStore.mono|apply spec_IsValidTransaction.mono|apply spec_LatestVersion.mono|exact LeO.refl _|exact LeO.none _|refine LeO.ite ?_ ?_|refine LeO.bind ?_ (fun _=>?_))
theorem spec_OverwrittenVersions.mono:∀ a0 a1 a2 a3 a4 a5 a6 a7 a8 a9 k,LeO (spec_OverwrittenVersions.f k a0 a1 a2 a3 a4 a5 a6 a7 a8 a9) (spec_OverwrittenVersions.f (k+1) a0 a1 a2 a3 a4 a5 a6 a7 a8 a9):=by
  intro a0 a1 a2 a3 a4 a5 a6 a7 a8 a9 k;have ih0:=spec_OverwrittenVersions.mono_l k;unfold spec_OverwrittenVersions.f
  repeat' first
      | (with_reducible first|apply ih0|apply spec_IsValidStore.mono|apply spec_IsValidTransaction.mono|apply spec_LatestVersion.mono|exact LeO.refl _|exact LeO.none _|refine LeO.ite ?_ ?_|refine LeO.bind ?_ (fun _=>?_))
set_option maxHeartbeats 8000000 in
set_option maxRecDepth 100000 in
theorem spec_OverwrittenVersions.calls (k:Nat)(Be:Option Addr)(I:Nat) (l0_0:List (List (S77))) (a1_0 a1_1 a1_2 a1_3 a1_4 a1_5 a1_6:Int)(J:Option Addr)(L:Nat) (l1_7:List (S47)) (Bf:Option Addr)(M:Nat) (l1_8:List (S58)) (r:List (S47)) (w:World) (hr0_0:Kd.C (Kd.slice 77 k77) w Be l0_0.length l0_0) (hc0_0:l0_0.length≤I) (hr1_7:Kd.C k47 w J l1_7.length l1_7) (hc1_7:l1_7.length≤L) (hr1_8:Kd.C k58 w Bf l1_8.length l1_8) (hc1_8:l1_8.length≤M) (h:spec_OverwrittenVersions.f k l0_0 a1_0 a1_1 a1_2 a1_3 a1_4 a1_5 a1_6 l1_7 l1_8=some r) :
    Calls Try.prog 73 #[.agg #[.slice Be l0_0.length I],.agg #[i_ a1_0,i_ a1_1,i_ a1_2,i_ a1_3,i_ a1_4,i_ a1_5,i_ a1_6,.slice J l1_7.length L,.slice Bf l1_8.length M]] w fun e w'=>∃ v0_:Value,e=.returned (v0_)∧Kd.R k47 47 w' w.heap.size (fun _=>True) v0_ r∧Below w.heap.size w w':=by
  have hu39:=Try.underlying39;have hu29:=Try.underlying29;have hu77:=Try.underlying77;have hu47:=Try.underlying47;(have hfd77_2:∀ (v0_ v1_ v2_ v3_ v4_:Value) (W:World),(Instr.field 77 (.agg #[v0_,v1_,v2_,v3_,v4_]) 2).run Try.prog W=.ok v2_ W:=fun v0_ v1_ v2_ v3_ v4_ W=>by rfl);have Bl:=am_ hr0_0;have B0:=am_ hc0_0;clear hr0_0 hc0_0;have B1:=am_ hr1_7;have B2:=am_ hc1_7;clear hr1_7 hc1_7;have Bm:=am_ hr1_8;have B3:=am_ hc1_8;clear hr1_8 hc1_8;have HB:=am_ (Below.refl w.heap.size w);unfold spec_OverwrittenVersions.f at h;have H:=h;clear h;obtain⟨Bn,O⟩:∃ y_:List (S47),y_=(([]:List (S47))):=⟨_,rfl⟩;(replace H:(spec_OverwrittenVersions.l0 k Bn 0 l0_0 a1_0 a1_1 a1_2 a1_3 a1_4 a1_5 a1_6 l1_7 l1_8)=some r:=by first|(rw[O];with_reducible exact H)|(have H2_:=(Option.bind_some _ _).symm.trans H;rw[O];with_reducible exact H2_)|(have H2_:=(Option.bind_some _ _).symm.trans H;with_reducible exact H2_)|with_reducible exact H|(rw[O];exact H)|exact H);have Bo:=am_ O;clear O;have H':=am_ H;clear H
  go_enter Try.func73,Try.ntmps73
  go_wp2_with (first|((with_reducible refine gate_dst (N:=2) rfl ?_);refine be_ 2 #[.slice Be l0_0.length I] 39 ?_;intro Bp hg w3 hbox hb;have E:=am_ hbox;have B4:=wk_ hg HB;replace HB:=hs_ HB hb;have B5:=B4;clear hb hbox hg)|((with_reducible refine gate_dst (N:=3) rfl ?_);refine be_ 3 #[i_ a1_0,i_ a1_1,i_ a1_2,i_ a1_3,i_ a1_4,i_ a1_5,i_ a1_6,.slice J l1_7.length L,.slice Bf l1_8.length M] 29 ?_;intro Bq hg w4 hbox hb;have B:=am_ hbox;have B6:=wk_ hg HB;replace HB:=hs_ HB hb;have B7:=B6;have U:=nk_ hg E;replace E:=bb_ E hb;have Bg:=ny_ U;clear hb hbox hg)|((with_reducible refine gate_dst (N:=8) rfl ?_);refine Kd.R_lit k47 _ 47 ?hg (N:=8) ?hd (xs:=([]:List (S47))) (inner:=[]) (ok:=fun _=>True) (okp:=fun _=>True) ?hr ?hp (fun _ hk=>hk) trivial (Below.refl _ _) (Nat.le_refl _) (by simp) ?_;(case hd=>rfl);(case hg=>rfl);(case hr=>first|(go_simp;done)|(go_simp;rfl));(case hp=>exact(Reps.none _ _));intro v698 w5 V hb hg_ hnew_;clear hg_ hnew_;(first|rw[← Bo.out]at V|(simp only[Int.reduceToNat]at V;rw[← Bo.out]at V));have B8:=am_ (Kd.R_lower V (below_size (hbw_ HB)));replace E:=bb_ E hb;replace B:=bb_ B hb;replace HB:=hs_ HB hb;clear hb V))
  go_loopg [5,6] k (fun kq v5 v6 w'=>∃ (G:List (S47)) (D:Int),v6=i_ D∧Aside0 (spec_OverwrittenVersions.l0 kq G D l0_0 a1_0 a1_1 a1_2 a1_3 a1_4 a1_5 a1_6 l1_7 l1_8=some r)∧Aside0 (kq≤k)∧Aside0 (Kd.R k47 47 w' w.heap.size (fun _=>True) v5 G)∧Aside0 (w'.heap[Bp]? = some (.cells #[(.slice Be l0_0.length I)] 39 (0,0)))∧Aside0 (w'.heap[Bq]? = some (.cells #[i_ a1_0,i_ a1_1,i_ a1_2,i_ a1_3,i_ a1_4,i_ a1_5,i_ a1_6,(.slice J l1_7.length L),(.slice Bf l1_8.length M)] 29 (0,0)))∧Aside0 (Below w.heap.size w w'))
  case atStart=>exact⟨(Bn),(0),rs_,H',⟨Nat.le_refl _⟩,⟨pr_ B8.out⟩,⟨bq_ E.out⟩,⟨bq_ B.out⟩,⟨hbw_ HB⟩⟩
  case round=>
    clear H';obtain⟨G,D,rfl,HA,HK1,F,E,B,HB⟩:=hrel
    cases gk with
    | zero=>exact absurd HA.out (by simp [spec_OverwrittenVersions.l0])
    | succ k1=>
      have H:=HA.out;clear HA;simp only[spec_OverwrittenVersions.l0]at H
      refine em_ (D < (l1_8.length:Int)) ?ac7 ?bc7
      case' ac7=>
       intro c7
       rw[if_pos c7]at H;have B9:decide (D < (l1_8.length:Int))=true:=decide_eq_true c7;clear c7;replace H:=bi_ H;obtain⟨Ca,Br,H⟩:=H;have A8:=am_ Br;clear Br
       refine em_ (Ca=true) ?ac9 ?bc9
       case' ac9=>
        intro c9
        subst c9;rw[if_pos rfl]at H;replace H:=bi_ H;obtain⟨Cb,Bs,H⟩:=H;have Cc:=am_ Bs;clear Bs
        refine em_ (Cb=true) ?ac11 ?bc11
        case' ac11=>
         intro X
         subst X;rw[if_pos rfl]at H
         refine em_ (0≤D) ?ac12 ?bc12
         case' ac12=>
          intro Y
          rw[if_pos Y]at H;have Cr:decide (0≤D)=true:=decide_eq_true Y;clear Y
          refine em_ (0≤((rd_T58 l1_8 D).f0)) ?ac13 ?bc13
          case' ac13=>
           intro Z
           rw[if_pos Z]at H;have Cs:decide (0≤((rd_T58 l1_8 D).f0))=true:=decide_eq_true Z;clear Z
           refine em_ (((rd_T58 l1_8 D).f0) < (l0_0.length:Int)) ?ac14 ?bc14
           case' ac14=>
            intro Ba
            rw[if_pos Ba]at H;have Ct:decide (((rd_T58 l1_8 D).f0) < (l0_0.length:Int))=true:=decide_eq_true Ba;clear Ba;replace H:=bi_ H;obtain⟨⟨Cd,Ce,Bb,Cf,Cg⟩,Bt,H⟩:=H;(try dsimp only at H);have Ch:=am_ Bt;clear Bt
            refine em_ (G.length < 8796093022208) ?ac16 ?bc16
            case' ac16=>
             intro Bc
             rw[if_pos Bc]at H;have Ci:=am_ Bc;clear Bc;obtain⟨Bu,Bd⟩:∃ y_:List (S47),y_=(G++[(⟨(rd_T58 l1_8 D).f0,Bb⟩:S47)]):=⟨_,rfl⟩;(replace H:(spec_OverwrittenVersions.l0 k1 Bu (wrap64 (D+1)) l0_0 a1_0 a1_1 a1_2 a1_3 a1_4 a1_5 a1_6 l1_7 l1_8)=some r:=by first|(rw[Bd];with_reducible exact H)|(have H2_:=(Option.bind_some _ _).symm.trans H;rw[Bd];with_reducible exact H2_)|(have H2_:=(Option.bind_some _ _).symm.trans H;with_reducible exact H2_)|with_reducible exact H|(rw[Bd];exact H)|exact H);have Cj:=am_ Bd;clear Bd;have H':=am_ H;clear H;have Cu:=Bg.out;have Cv:=U.out;have Cw:=bc9_ B.out;have Cx:=bf9_ B.out;have Cy:=bc1_ E.out;have Cz:=blk_frozen E.out 0
            case' bc16=>
             intro Bc
             rw[if_neg Bc]at H;exact absurd H (by simp)
           case' bc14=>
            intro Ba
            rw[if_neg Ba]at H;exact absurd H (by simp)
          case' bc13=>
           intro Z
           rw[if_neg Z]at H;exact absurd H (by simp)
         case' bc12=>
          intro Y
          rw[if_neg Y]at H;exact absurd H (by simp)
        case' bc11=>
         intro X
         replace X:=Bool.eq_false_iff.mpr X;subst X;rw[if_neg nt_]at H;obtain rfl:=Option.some.inj H;have C0:=Bg.out;have C1:=U.out;have C2:=bc9_ B.out;have C3:=bf9_ B.out;have C4:=bc1_ E.out;have C5:=blk_frozen E.out 0
       case' bc9=>
        intro c9
        replace c9:=Bool.eq_false_iff.mpr c9;subst c9;rw[if_neg nt_]at H;obtain rfl:=Option.some.inj H;have C6:=Bg.out;have C7:=U.out;have C8:=bc9_ B.out;have C9:=bf9_ B.out;have Da:=bc1_ E.out;have Db:=blk_frozen E.out 0
      case' bc7=>
       intro c7
       rw[if_neg c7]at H;have B9:decide (D < (l1_8.length:Int))=false:=decide_eq_false c7;clear c7;obtain rfl:=Option.some.inj H;have Dc:=Bg.out;have Dd:=U.out;have De:=bc9_ B.out;have Df:=bf9_ B.out
      all_goals
       go_wp2_with (first|(go_at_call 70;(with_reducible refine(spec_IsValidStore.calls k1 _ _ l0_0 _ _ ?side1 ?side2 A8.out).mono ?_);(case side1=>exact cq_ Bl.out HB.out);(case side2=>exact B0.out);rintro e Dg ⟨rfl,hb⟩;replace F:=am_ (Kd.R_below (pr_ F.out) hb);replace E:=bb_ E hb;replace B:=bb_ B hb;replace HB:=hs_ HB hb;clear hb;(first|(have Dh:=bc9_ B.out;have Di:=bf9_ B.out)|skip))|(go_at_call 17;(with_reducible refine(spec_IsValidTransaction.calls k1 a1_0 a1_1 a1_2 a1_3 a1_4 a1_5 a1_6 _ _ l1_7 _ _ l1_8 _ _ ?side1 ?side2 ?side3 ?side4 Cc.out).mono ?_);(case side1=>exact cq_ B1.out HB.out);(case side2=>exact B2.out);(case side3=>exact cq_ Bm.out HB.out);(case side4=>exact B3.out);rintro e Dj ⟨rfl,hb⟩;replace F:=am_ (Kd.R_below (pr_ F.out) hb);replace E:=bb_ E hb;replace B:=bb_ B hb;replace HB:=hs_ HB hb;clear hb;(first|(have Dk:=bc9_ B.out;have Dl:=bf9_ B.out;have Bh:0≤(D:Int):=of_decide_eq_true as_;have Bi:D < (l1_8.length:Int):=of_decide_eq_true as_;obtain⟨Ck,e702,Bv,Bw⟩:=at_T58 Bm.out D Bh Bi;cases e702;replace Bv:=bl_ HB.out Bv;replace Bw:=bl_ HB.out Bw;replace Bh:=eq_true Bh;replace Bi:=eq_true Bi;have Dm:=bc1_ E.out;have Dn:=blk_frozen E.out 0;have Bj:0≤(((rd_T58 l1_8 D).f0):Int):=of_decide_eq_true as_;have Bk:((rd_T58 l1_8 D).f0) < (l0_0.length:Int):=of_decide_eq_true as_;obtain⟨Cl,Cm,Cn,e703,Bx,By,Bz⟩:=at_L3 Bl.out ((rd_T58 l1_8 D).f0) Bj Bk;cases e703;replace Bx:=bl_ HB.out Bx;have Co:=am_ Bz;have Cp:=am_ By;clear Bz By;replace Bj:=eq_true Bj;replace Bk:=eq_true Bk)|skip))|((with_reducible refine gate_callee (f:=71) rfl ?_);refine goesL_ (some 37) rfl rfl Try.func71 (by kernel_rfl) rfl #[.slice Cm (rd_L3 l0_0 ((rd_T58 l1_8 D).f0)).length Cn] rfl mp_ ?_;(with_reducible refine(spec_LatestVersion.calls k1 _ _ (rd_L3 l0_0 ((rd_T58 l1_8 D).f0)) Cd Ce Bb Cf Cg _ ?side1 ?side2 Ch.out).mono ?_);(case side1=>exact cq_ Co.out HB.out);(case side2=>exact Cp.out);rintro e Do ⟨rfl,hb⟩;refine⟨_,rfl,?_⟩;replace F:=am_ (Kd.R_below (pr_ F.out) hb);replace E:=bb_ E hb;replace B:=bb_ B hb;replace HB:=hs_ HB hb;clear hb)|((with_reducible refine gate_builtin (b:=.append) (xs:=#[.tmp 30,.tmp 40]) rfl ?_);at_builtin;refine Kd.R_append k47 (w0:=w) w.heap.size rfl (.tmp 30) (.tmp 40) 26 47 (.agg #[(i_ 0),(i_ 0)]) 16 rfl Try.underlying26 info47 rfl (by decide) (by omega) u5 G (⟨(rd_T58 l1_8 D).f0,Bb⟩:S47) [i_ ((rd_T58 l1_8 D).f0),i_ Bb] (fun _=>True) (fun _=>False) rfl rfl ?aP (fun _ hk=>hk.elim) ?aF ?aO ?aB ?aS ?aL ?_;(case aP=>exact k47_mkM _ _ _ (⟨(rd_T58 l1_8 D).f0,Bb⟩:S47));(case aB=>exact(hbw_ HB));(case aF=>exact(fun _ _=>trivial));(case aO=>exact(pr_ F.out));(case aS=>exact(below_size (hbw_ HB)));(case aL=>have:=Ci.out;omega);intro v710 Dp ho hb hg hat;rw[← Cj.out]at ho;replace E:=am_ (blk_grown (g:=Bp) (o:=.cells #[.slice (some Cl) l0_0.length I] 39 (0,0)) (bq_ E.out) hg (Kd.R_ne F.out E.out (by decide)));replace B:=am_ (blk_grown (g:=Bq) (o:=.cells #[i_ a1_0,i_ a1_1,i_ a1_2,i_ a1_3,i_ a1_4,i_ a1_5,i_ a1_6,.slice J l1_7.length L,.slice (some Ck) l1_8.length M] 29 (0,0)) (bq_ B.out) hg (Kd.R_ne F.out B.out (by decide)));replace HB:=am_ hb;have Cq:=am_ (ho);clear F;clear ho hb hg hat))
       first
       | (go_roundg k1;(case measure=>have:=HK1.out;omega);(case rel=>exact⟨(Bu),(wrap64 (D+1)),rs_,H',⟨by have:=HK1.out;omega⟩,⟨pr_ Cq.out⟩,⟨bq_ E.out⟩,⟨bq_ B.out⟩,⟨hbw_ HB⟩⟩))
       | (go_ret;exact⟨_,by first|rfl|(simp [errW_none,errW_some] <;> rfl)|(simp [*,errW_none,errW_some] <;> rfl),pr_ F.out,hq2_ HB.out B5.out B7.out⟩)

end Go.Proofs.Ytacdaekigoldaaa.PFnExclusion
