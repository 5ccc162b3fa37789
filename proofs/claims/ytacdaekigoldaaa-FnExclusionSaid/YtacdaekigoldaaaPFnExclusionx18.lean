-- Printed by my own myprint.py out of the translation of the seat Ytacdaekigoldaaa. Not trusted: Lean checks it.
import Derived.Test.YtacdaekigoldaaaPFnExclusionx0
import Derived.Test.YtacdaekigoldaaaPFnExclusionx10
import Derived.Test.YtacdaekigoldaaaPFnExclusionx17
namespace Go.Proofs.Ytacdaekigoldaaa.PFnExclusion
open Go.RowKit Go.Proofs.YtacdaekigoldaaaW.PrintWords Go.Proofs.YtacdaekigoldaaaW.PrintLast Go.Proofs.YtacdaekigoldaaaW.PrintMore
attribute [local go_sem] max2_int min2_int max_two min_two max_three min_three max_four min_four   -- for this text's walks alone
set_option linter.unusedVariables false
set_option linter.unusedSimpArgs false

/-! ### impl_Store_refreshLow: function 52 -/
mutual
def impl_Store_refreshLow.l0:Nat→Int→List (S47)→Int→Int→List (List (S77))→Int→Int→Int→Int→Int→Int→Int→List (S47)→List (S58)→Option (Int)
  | 0,_,_,_,_,_,_,_,_,_,_,_,_,_,_=>none
  | k+1,x5,x11,x12,x13,x559000,x560000,x560001,x560002,x560003,x560004,x560005,x560006,x560007,x560008=>if x13 < x12 then (if 0≤x13 then (if x13 < (x11.length:Int) then (impl_Store_refreshLow.l0 k (mx x5 ((rd_T47 x11 x13).f1)) x11 x12 (wrap64 (x13+1)) x559000 x560000 x560001 x560002 x560003 x560004 x560005 x560006 x560007 x560008) else (none)) else (none)) else (impl_Store_refreshLow.l1 k x5 x560008 (x560008.length:Int) 0 x559000)
def impl_Store_refreshLow.l1:Nat→Int→List (S58)→Int→Int→List (List (S77))→Option (Int)
  | 0,_,_,_,_,_=>none
  | k+1,x5,x23,x24,x25,x559000=>if x25 < x24 then (if 0≤x25 then (if x25 < (x23.length:Int) then ((impl_Store_latest.f x559000 ((rd_T58 x23 x25).f0)).bind fun bt564=>(impl_Store_refreshLow.l1 k (mx x5 bt564.2.2.2.1) x23 x24 (wrap64 (x25+1)) x559000)) else (none)) else (none)) else (some x5)
end
def impl_Store_refreshLow.f (k:Nat) (l0_0:List (List (S77))) (a1_0 a1_1 a1_2 a1_3 a1_4 a1_5 a1_6:Int) (l1_7:List (S47)) (l1_8:List (S58)):Option (Int):=impl_Store_refreshLow.l0 k 0 l1_7 (l1_7.length:Int) 0 l0_0 a1_0 a1_1 a1_2 a1_3 a1_4 a1_5 a1_6 l1_7 l1_8
theorem impl_Store_refreshLow.mono_l:∀ k,(∀ y0 y1 y2 y3 y4 y5 y6 y7 y8 y9 y10 y11 y12 y13,LeO (impl_Store_refreshLow.l0 k y0 y1 y2 y3 y4 y5 y6 y7 y8 y9 y10 y11 y12 y13) (impl_Store_refreshLow.l0 (k+1) y0 y1 y2 y3 y4 y5 y6 y7 y8 y9 y10 y11 y12 y13))∧(∀ y0 y1 y2 y3 y4,LeO (impl_Store_refreshLow.l1 k y0 y1 y2 y3 y4) (impl_Store_refreshLow.l1 (k+1) y0 y1 y2 y3 y4))
  | 0=>⟨fun _ _ _ _ _ _ _ _ _ _ _ _ _ _ r h=>by simp [impl_Store_refreshLow.l0]at h,fun _ _ _ _ _ r h=>by simp [impl_Store_refreshLow.l1]at h⟩
  | k+1=>by
    obtain⟨ih0,ih1⟩:=impl_Store_refreshLow.mono_l k;refine⟨?_,?_⟩
    · intro y0 y1 y2 y3 y4 y5 y6 y7 y8 y9 y10 y11 y12 y13;unfold impl_Store_refreshLow.l0
      repeat' first
      | (with_reducible first|apply ih0|apply ih1|exact LeO.refl _|exact LeO.none _|refine LeO.ite ?_ ?_|refine LeO.bind ?_ (fun _=>?_))
    · intro y0 y1 y2 y3 y4;unfold impl_Store_refreshLow.l1
      repeat' first
      | (with_reducible first|apply ih0|apply ih1|exact LeO.refl _|exact LeO.none _|refine LeO.ite ?_ ?_|refine LeO.bind ?_ (fun _=>?_))
theorem impl_Store_refreshLow.mono:∀ a0 a1 a2 a3 a4 a5 a6 a7 a8 a9 k,LeO (impl_Store_refreshLow.f k a0 a1 a2 a3 a4 a5 a6 a7 a8 a9) (impl_Store_refreshLow.f (k+1) a0 a1 a2 a3 a4 a5 a6 a7 a8 a9):=by
  intro a0 a1 a2 a3 a4 a5 a6 a7 a8 a9 k;obtain⟨ih0,ih1⟩:=impl_Store_refreshLow.mono_l k;unfold impl_Store_refreshLow.f
  repeat' first
      | (with_reducible first|apply ih0|apply ih1|exact LeO.refl _|exact LeO.none _|refine LeO.ite ?_ ?_|refine LeO.bind ?_ (fun _=>?_))
set_option maxHeartbeats 8000000 in
set_option maxRecDepth 100000 in
theorem impl_Store_refreshLow.calls (k:Nat)(G:Option Addr)(I:Nat) (l0_0:List (List (S77))) (a1_0 a1_1 a1_2 a1_3 a1_4 a1_5 a1_6:Int)(L:Option Addr)(M:Nat) (l1_7:List (S47)) (V:Option Addr)(O:Nat) (l1_8:List (S58)) (r:Int) (w:World) (hr0_0:Kd.C (Kd.slice 77 k77) w G l0_0.length l0_0) (hc0_0:l0_0.length≤I) (hr1_7:Kd.C k47 w L l1_7.length l1_7) (hc1_7:l1_7.length≤M) (hr1_8:Kd.C k58 w V l1_8.length l1_8) (hc1_8:l1_8.length≤O) (h:impl_Store_refreshLow.f k l0_0 a1_0 a1_1 a1_2 a1_3 a1_4 a1_5 a1_6 l1_7 l1_8=some r) :
    Calls Try.prog 52 #[.agg #[.slice G l0_0.length I],.agg #[i_ a1_0,i_ a1_1,i_ a1_2,i_ a1_3,i_ a1_4,i_ a1_5,i_ a1_6,.slice L l1_7.length M,.slice V l1_8.length O]] w fun e w'=>e=.returned (i_ r)∧Below w.heap.size w w':=by
  have hu39:=Try.underlying39;have hu29:=Try.underlying29;have hu47:=Try.underlying47;have hu58:=Try.underlying58;have Bz:=am_ hr0_0;have B0:=am_ hc0_0;clear hr0_0 hc0_0;have B1:=am_ hr1_7;have Cn:=am_ hc1_7;clear hr1_7 hc1_7;have B2:=am_ hr1_8;have Co:=am_ hc1_8;clear hr1_8 hc1_8;have HB:=am_ (Below.refl w.heap.size w);unfold impl_Store_refreshLow.f at h;have H:=h;clear h;have H':=am_ H;clear H
  go_enter Try.func52,Try.ntmps52
  go_wp2_with (first|((with_reducible refine gate_dst (N:=2) rfl ?_);refine be_ 2 #[.slice G l0_0.length I] 39 ?_;intro Be hg w3 hbox hb;have B:=am_ hbox;have B3:=wk_ hg HB;replace HB:=hs_ HB hb;have B4:=B3;clear hb hbox hg)|((with_reducible refine gate_dst (N:=3) rfl ?_);refine be_ 3 #[i_ a1_0,i_ a1_1,i_ a1_2,i_ a1_3,i_ a1_4,i_ a1_5,i_ a1_6,.slice L l1_7.length M,.slice V l1_8.length O] 29 ?_;intro Bf hg w4 hbox hb;have D:=am_ hbox;have B5:=wk_ hg HB;replace HB:=hs_ HB hb;have B6:=B5;have Y:=nk_ hg B;replace B:=bb_ B hb;have Bg:=ny_ Y;clear hb hbox hg;have Cp:=Bg.out;have Cq:=Y.out;have Cr:=bc9_ D.out;have Cs:=bf9_ D.out))
  go_loopg [5,13] k (fun kq v5 v13 w'=>∃ (J F:Int),v5=i_ J∧v13=i_ F∧Aside0 (impl_Store_refreshLow.l0 kq J l1_7 (l1_7.length:Int) F l0_0 a1_0 a1_1 a1_2 a1_3 a1_4 a1_5 a1_6 l1_7 l1_8=some r)∧Aside0 (kq≤k)∧Aside0 (w'.heap[Be]? = some (.cells #[(.slice G l0_0.length I)] 39 (0,0)))∧Aside0 (w'.heap[Bf]? = some (.cells #[i_ a1_0,i_ a1_1,i_ a1_2,i_ a1_3,i_ a1_4,i_ a1_5,i_ a1_6,(.slice L l1_7.length M),(.slice V l1_8.length O)] 29 (0,0)))∧Aside0 (Below w.heap.size w w'))
  case atStart=>exact⟨(0),(0),rs_,rs_,H',⟨Nat.le_refl _⟩,⟨bq_ B.out⟩,⟨bq_ D.out⟩,⟨hbw_ HB⟩⟩
  case round=>
    clear H';obtain⟨J,F,rfl,rfl,HA,HK1,B,D,HB⟩:=hrel
    cases gk with
    | zero=>exact absurd HA.out (by simp [impl_Store_refreshLow.l0])
    | succ k1=>
      have H:=HA.out;clear HA;simp only[impl_Store_refreshLow.l0]at H
      by_cases c7:F < (l1_7.length:Int)
      · rw[if_pos c7]at H;have Br:decide (F < (l1_7.length:Int))=true:=decide_eq_true c7;clear c7
        by_cases c8:0≤F
        · rw[if_pos c8]at H;have B7:decide (0≤F)=true:=decide_eq_true c8;clear c8
          by_cases c9:F < (l1_7.length:Int)
          · rw[if_pos c9]at H;have B8:decide (F < (l1_7.length:Int))=true:=decide_eq_true c9;clear c9;obtain⟨Bs,Z⟩:∃ j_:Int,(mx J ((rd_T47 l1_7 F).f1))=j_:=⟨_,rfl⟩;(first|rw[Z]at H|simp only[Z]at H);have hji10_:(if J < ((rd_T47 l1_7 F).f1) then ((rd_T47 l1_7 F).f1) else J)=Bs:=Z;have H':=am_ H;clear H;have Bh:0≤(F:Int):=of_decide_eq_true as_;have Bi:F < (l1_7.length:Int):=of_decide_eq_true as_;obtain⟨Ct,e560,Bj,Bk⟩:=at_T47 B1.out F Bh Bi
            cases e560
            replace Bj:=bl_ HB.out Bj;replace Bk:=bl_ HB.out Bk;replace Bh:=eq_true Bh;replace Bi:=eq_true Bi
            go_wp2_with (first|((with_reducible refine gate_dst (N:=7) rfl ?_);refine be_ 7 #[i_ 0,i_ 0] 47 ?_;intro Cu hg Cv hbox hb;have Bt:=am_ hbox;have B9:=wk_ hg HB;replace HB:=hs_ HB hb;have Cw:=B9;have Bl:=nk_ hg B;replace B:=bb_ B hb;have Ca:=ny_ Bl;have Bm:=nk_ hg D;replace D:=bb_ D hb;have Cb:=ny_ Bm;clear hb hbox hg;have Cx:=Ca.out;have Cy:=Bl.out;have Cz:=Cb.out;have C0:=Bm.out;have C1:=bc2_ Bt.out;have C2:=bf2_ Bt.out))
            go_roundg k1
            case measure=>have:=HK1.out;omega
            case rel=>exact⟨(Bs),(wrap64 (F+1)),(by first|rfl|(simp;done)|(simp only[← Z] <;> (first|rfl|simp))|(simp [*];done)),rs_,H',⟨by have:=HK1.out;omega⟩,⟨bk1_ B.out Bl.out⟩,⟨bk1_ D.out Bm.out⟩,⟨hbw_ HB⟩⟩
          · rw[if_neg c9]at H;exact absurd H (by simp)
        · rw[if_neg c8]at H;exact absurd H (by simp)
      · rw[if_neg c7]at H;have Br:decide (F < (l1_7.length:Int))=false:=decide_eq_false c7;clear c7;have H':=am_ H;clear H;have C3:=Bg.out;have C4:=Y.out;have C5:=bc9_ D.out;have C6:=bf9_ D.out
        go_wp2
        go_loopg [5,25] k1 (fun kq v5 v25 w'=>∃ (R E:Int),v5=i_ R∧v25=i_ E∧Aside0 (impl_Store_refreshLow.l1 kq R l1_8 (l1_8.length:Int) E l0_0=some r)∧Aside0 (kq≤k1)∧Aside0 (w'.heap[Be]? = some (.cells #[(.slice G l0_0.length I)] 39 (0,0)))∧Aside0 (w'.heap[Bf]? = some (.cells #[i_ a1_0,i_ a1_1,i_ a1_2,i_ a1_3,i_ a1_4,i_ a1_5,i_ a1_6,(.slice L l1_7.length M),(.slice V l1_8.length O)] 29 (0,0)))∧Aside0 (Below w.heap.size w w'))
        case atStart=>exact⟨(J),(0),rs_,rs_,H',⟨Nat.le_refl _⟩,⟨bq_ B.out⟩,⟨bq_ D.out⟩,⟨hbw_ HB⟩⟩
        case round=>
          clear H';(try clear Br);(try clear B7);(try clear B8);(try clear Bj);(try clear Bk);obtain⟨R,E,rfl,rfl,HA,HK2,B,D,HB⟩:=hrel
          cases gk with
          | zero=>exact absurd HA.out (by simp [impl_Store_refreshLow.l1])
          | succ k2=>
            have H:=HA.out;clear HA;simp only[impl_Store_refreshLow.l1]at H
            by_cases U:E < (l1_8.length:Int)
            · rw[if_pos U]at H;have Cc:decide (E < (l1_8.length:Int))=true:=decide_eq_true U;clear U
              by_cases Ba:0≤E
              · rw[if_pos Ba]at H;have C7:decide (0≤E)=true:=decide_eq_true Ba;clear Ba
                by_cases Bb:E < (l1_8.length:Int)
                · rw[if_pos Bb]at H;have C8:decide (E < (l1_8.length:Int))=true:=decide_eq_true Bb;clear Bb;replace H:=bi_ H;obtain⟨⟨Cd,Ce,Cf,Bc,Cg⟩,Bu,H⟩:=H;(try dsimp only at H);have Bv:=am_ Bu;clear Bu;obtain⟨Bw,X⟩:∃ j_:Int,(mx R Bc)=j_:=⟨_,rfl⟩;(first|rw[X]at H|simp only[X]at H);(try rw[X]at Bv);have hji21_:(if R < Bc then Bc else R)=Bw:=X;have H':=am_ H;clear H;have Bn:0≤(E:Int):=of_decide_eq_true as_;have Bo:E < (l1_8.length:Int):=of_decide_eq_true as_;obtain⟨Ch,e562,Bx,By⟩:=at_T58 B2.out E Bn Bo
                  cases e562
                  replace Bx:=bl_ HB.out Bx;replace By:=bl_ HB.out By;replace Bn:=eq_true Bn;replace Bo:=eq_true Bo
                  go_wp2_with (first|((with_reducible refine gate_dst (N:=9) rfl ?_);refine be_ 9 #[i_ 0,i_ 0] 58 ?_;intro Ci hg C9 hbox hb;have Bd:=am_ hbox;have Cj:=wk_ hg HB;replace HB:=hs_ HB hb;have Da:=Cj;have Bp:=nk_ hg B;replace B:=bb_ B hb;have Ck:=ny_ Bp;have Bq:=nk_ hg D;replace D:=bb_ D hb;have Cl:=ny_ Bq;clear hb hbox hg;have Db:=Ck.out;have Dc:=Bp.out;have Dd:=Cl.out;have De:=Bq.out;have Df:=bc2_ Bd.out;have Dg:=bf2_ Bd.out;have Dh:=Y.out;have Di:=Bg.out;have Dj:=bc1_ B.out;have Dk:=blk_frozen B.out 0)|((with_reducible refine gate_callee (f:=55) rfl ?_);refine goesL_ (some 33) rfl rfl Try.func55 (by kernel_rfl) rfl #[.agg #[.slice G l0_0.length I],i_ ((rd_T58 l1_8 E).f0)] rfl mp_ ?_;(with_reducible refine(impl_Store_latest.calls _ _ l0_0 ((rd_T58 l1_8 E).f0) Cd Ce Cf Bc Cg w _ ?side1 ?side2 ?side3 Bv.out).mono ?_);(case side1=>exact dbq_ HB);(case side2=>exact Bz.out);(case side3=>exact B0.out);rintro e Dl ⟨g569,rfl,hi,hb,hb2⟩;refine⟨_,rfl,?_⟩;replace B:=am_ (blk_below (g:=Be) (o:=.cells #[.slice G l0_0.length I] 39 (0,0)) (bk1_ B.out Bp.out) hb2);replace D:=am_ (blk_below (g:=Bf) (o:=.cells #[i_ a1_0,i_ a1_1,i_ a1_2,i_ a1_3,i_ a1_4,i_ a1_5,i_ a1_6,.slice L l1_7.length M,.slice (some Ch) l1_8.length O] 29 (0,0)) (bk1_ D.out Bq.out) hb2);replace Bd:=am_ (blk_below (g:=Ci) (o:=.cells #[i_ ((rd_T58 l1_8 E).f0),i_ ((rd_T58 l1_8 E).f1)] 58 (0,0)) (bz2_ Bd.out) hb2);replace HB:=am_ hb;have Cm:=am_ hi;have Dm:=am_ True.intro;have Dn:=am_ True.intro;have Do:=am_ True.intro;have Dp:=am_ True.intro;have Dq:=am_ True.intro;have Dr:=am_ True.intro;clear hb hb2 hi;obtain⟨Ds,Dt,Du,Dv,Dw⟩:=Cm.out))
                  go_roundg k2
                  case measure=>have:=HK1.out;have:=HK2.out;omega
                  case rel=>exact⟨(Bw),(wrap64 (E+1)),(by first|rfl|(simp;done)|(simp only[← X] <;> (first|rfl|simp))|(simp [*];done)),rs_,H',⟨by have:=HK1.out;have:=HK2.out;omega⟩,⟨bq_ B.out⟩,⟨bq_ D.out⟩,⟨hbw_ HB⟩⟩
                · rw[if_neg Bb]at H;exact absurd H (by simp)
              · rw[if_neg Ba]at H;exact absurd H (by simp)
            · rw[if_neg U]at H;have Cc:decide (E < (l1_8.length:Int))=false:=decide_eq_false U;clear U;obtain rfl:=Option.some.inj H
              go_wp2
              go_ret;exact⟨ew_,hq2_ HB.out B4.out B6.out⟩

/-! ### impl_Store_refreshHigh: function 53 -/
def impl_Store_refreshHigh.l0:Nat→Int→List (S47)→Int→Int→List (List (S77))→Option (Int)
  | 0,_,_,_,_,_=>none
  | k+1,x5,x9,x10,x11,x571000=>if x11 < x10 then (if 0≤x11 then (if x11 < (x9.length:Int) then ((impl_Store_find.f x571000 ((rd_T47 x9 x11).f0) ((rd_T47 x9 x11).f1)).bind fun bt574=>(impl_Store_refreshHigh.l0 k (mn x5 bt574.2.2.2.2) x9 x10 (wrap64 (x11+1)) x571000)) else (none)) else (none)) else (some x5)
def impl_Store_refreshHigh.f (k:Nat) (l0_0:List (List (S77))) (a1_0 a1_1 a1_2 a1_3 a1_4 a1_5 a1_6:Int) (l1_7:List (S47)) (l1_8:List (S58)):Option (Int):=impl_Store_refreshHigh.l0 k 1000 l1_7 (l1_7.length:Int) 0 l0_0
theorem impl_Store_refreshHigh.mono_l:∀ k,(∀ y0 y1 y2 y3 y4,LeO (impl_Store_refreshHigh.l0 k y0 y1 y2 y3 y4) (impl_Store_refreshHigh.l0 (k+1) y0 y1 y2 y3 y4))
  | 0=>fun _ _ _ _ _ r h=>by simp [impl_Store_refreshHigh.l0]at h
  | k+1=>by
    have ih0:=impl_Store_refreshHigh.mono_l k
    · intro y0 y1 y2 y3 y4;unfold impl_Store_refreshHigh.l0
      repeat' first
      | (with_reducible first|apply ih0|exact LeO.refl _|exact LeO.none _|refine LeO.ite ?_ ?_|refine LeO.bind ?_ (fun _=>?_))
theorem impl_Store_refreshHigh.mono:∀ a0 a1 a2 a3 a4 a5 a6 a7 a8 a9 k,LeO (impl_Store_refreshHigh.f k a0 a1 a2 a3 a4 a5 a6 a7 a8 a9) (impl_Store_refreshHigh.f (k+1) a0 a1 a2 a3 a4 a5 a6 a7 a8 a9):=by
  intro a0 a1 a2 a3 a4 a5 a6 a7 a8 a9 k;have ih0:=impl_Store_refreshHigh.mono_l k;unfold impl_Store_refreshHigh.f
  repeat' first
      | (with_reducible first|apply ih0|exact LeO.refl _|exact LeO.none _|refine LeO.ite ?_ ?_|refine LeO.bind ?_ (fun _=>?_))
set_option maxHeartbeats 8000000 in
set_option maxRecDepth 100000 in
theorem impl_Store_refreshHigh.calls (k:Nat)(F:Option Addr)(G:Nat) (l0_0:List (List (S77))) (a1_0 a1_1 a1_2 a1_3 a1_4 a1_5 a1_6:Int)(R:Option Addr)(J:Nat) (l1_7:List (S47)) (L:Option Addr)(M:Nat) (l1_8:List (S58)) (r:Int) (w:World) (hr0_0:Kd.C (Kd.slice 77 k77) w F l0_0.length l0_0) (hc0_0:l0_0.length≤G) (hr1_7:Kd.C k47 w R l1_7.length l1_7) (hc1_7:l1_7.length≤J) (hr1_8:Kd.C k58 w L l1_8.length l1_8) (hc1_8:l1_8.length≤M) (h:impl_Store_refreshHigh.f k l0_0 a1_0 a1_1 a1_2 a1_3 a1_4 a1_5 a1_6 l1_7 l1_8=some r) :
    Calls Try.prog 53 #[.agg #[.slice F l0_0.length G],.agg #[i_ a1_0,i_ a1_1,i_ a1_2,i_ a1_3,i_ a1_4,i_ a1_5,i_ a1_6,.slice R l1_7.length J,.slice L l1_8.length M]] w fun e w'=>e=.returned (i_ r)∧Below w.heap.size w w':=by
  have hu39:=Try.underlying39;have hu29:=Try.underlying29;have hu47:=Try.underlying47;have Bk:=am_ hr0_0;have Bl:=am_ hc0_0;clear hr0_0 hc0_0;have Bm:=am_ hr1_7;have B2:=am_ hc1_7;clear hr1_7 hc1_7;have B3:=am_ hr1_8;have B4:=am_ hc1_8;clear hr1_8 hc1_8;have HB:=am_ (Below.refl w.heap.size w);unfold impl_Store_refreshHigh.f at h;have H:=h;clear h;have H':=am_ H;clear H
  go_enter Try.func53,Try.ntmps53
  go_wp2_with (first|((with_reducible refine gate_dst (N:=2) rfl ?_);refine be_ 2 #[.slice F l0_0.length G] 39 ?_;intro Bc hg w3 hbox hb;have D:=am_ hbox;have Bn:=wk_ hg HB;replace HB:=hs_ HB hb;have Bo:=Bn;clear hb hbox hg)|((with_reducible refine gate_dst (N:=3) rfl ?_);refine be_ 3 #[i_ a1_0,i_ a1_1,i_ a1_2,i_ a1_3,i_ a1_4,i_ a1_5,i_ a1_6,.slice R l1_7.length J,.slice L l1_8.length M] 29 ?_;intro Bd hg w4 hbox hb;have E:=am_ hbox;have Bp:=wk_ hg HB;replace HB:=hs_ HB hb;have Bq:=Bp;have X:=nk_ hg D;replace D:=bb_ D hb;have Be:=ny_ X;clear hb hbox hg;have B5:=Be.out;have B6:=X.out;have B7:=bc9_ E.out;have B8:=bf9_ E.out))
  go_loopg [5,11] k (fun kq v5 v11 w'=>∃ (I B:Int),v5=i_ I∧v11=i_ B∧Aside0 (impl_Store_refreshHigh.l0 kq I l1_7 (l1_7.length:Int) B l0_0=some r)∧Aside0 (kq≤k)∧Aside0 (w'.heap[Bc]? = some (.cells #[(.slice F l0_0.length G)] 39 (0,0)))∧Aside0 (w'.heap[Bd]? = some (.cells #[i_ a1_0,i_ a1_1,i_ a1_2,i_ a1_3,i_ a1_4,i_ a1_5,i_ a1_6,(.slice R l1_7.length J),(.slice L l1_8.length M)] 29 (0,0)))∧Aside0 (Below w.heap.size w w'))
  case atStart=>exact⟨(1000),(0),rs_,rs_,H',⟨Nat.le_refl _⟩,⟨bq_ D.out⟩,⟨bq_ E.out⟩,⟨hbw_ HB⟩⟩
  case round=>
    clear H';obtain⟨I,B,rfl,rfl,HA,HK1,D,E,HB⟩:=hrel
    cases gk with
    | zero=>exact absurd HA.out (by simp [impl_Store_refreshHigh.l0])
    | succ k1=>
      have H:=HA.out;clear HA;simp only[impl_Store_refreshHigh.l0]at H
      by_cases c7:B < (l1_7.length:Int)
      · rw[if_pos c7]at H;have Br:decide (B < (l1_7.length:Int))=true:=decide_eq_true c7;clear c7
        by_cases c8:0≤B
        · rw[if_pos c8]at H;have B9:decide (0≤B)=true:=decide_eq_true c8;clear c8
          by_cases c9:B < (l1_7.length:Int)
          · rw[if_pos c9]at H;have Ca:decide (B < (l1_7.length:Int))=true:=decide_eq_true c9;clear c9;replace H:=bi_ H;obtain⟨⟨Bs,Bt,Bu,Bv,U⟩,Bf,H⟩:=H;(try dsimp only at H);have Bg:=am_ Bf;clear Bf;obtain⟨Bh,O⟩:∃ j_:Int,(mn I U)=j_:=⟨_,rfl⟩;(first|rw[O]at H|simp only[O]at H);(try rw[O]at Bg);have hji11_:(if U < I then U else I)=Bh:=O;have H':=am_ H;clear H;have Y:0≤(B:Int):=of_decide_eq_true as_;have Z:B < (l1_7.length:Int):=of_decide_eq_true as_;obtain⟨Bw,e572,Bi,Bj⟩:=at_T47 Bm.out B Y Z
            cases e572
            replace Bi:=bl_ HB.out Bi;replace Bj:=bl_ HB.out Bj;replace Y:=eq_true Y;replace Z:=eq_true Z
            go_wp2_with (first|((with_reducible refine gate_dst (N:=7) rfl ?_);refine be_ 7 #[i_ 0,i_ 0] 47 ?_;intro Bx hg Cb hbox hb;have V:=am_ hbox;have By:=wk_ hg HB;replace HB:=hs_ HB hb;have Cc:=By;have Ba:=nk_ hg D;replace D:=bb_ D hb;have Bz:=ny_ Ba;have Bb:=nk_ hg E;replace E:=bb_ E hb;have B0:=ny_ Bb;clear hb hbox hg;have Cd:=Bz.out;have Ce:=Ba.out;have Cf:=B0.out;have Cg:=Bb.out;have Ch:=bc2_ V.out;have Ci:=bf2_ V.out;have Cj:=X.out;have Ck:=Be.out;have Cl:=bc1_ D.out;have Cm:=blk_frozen D.out 0)|((with_reducible refine gate_callee (f:=58) rfl ?_);refine goesL_ (some 18) rfl rfl Try.func58 (by kernel_rfl) rfl #[.agg #[.slice F l0_0.length G],.agg #[i_ ((rd_T47 l1_7 B).f0),i_ ((rd_T47 l1_7 B).f1)]] rfl mp_ ?_;(with_reducible refine(impl_Store_find.calls _ _ l0_0 ((rd_T47 l1_7 B).f0) ((rd_T47 l1_7 B).f1) Bs Bt Bu Bv U w _ ?side1 ?side2 ?side3 Bg.out).mono ?_);(case side1=>exact dbq_ HB);(case side2=>exact Bk.out);(case side3=>exact Bl.out);rintro e Cn ⟨g579,rfl,hi,hb,hb2⟩;refine⟨_,rfl,?_⟩;replace D:=am_ (blk_below (g:=Bc) (o:=.cells #[.slice F l0_0.length G] 39 (0,0)) (bk1_ D.out Ba.out) hb2);replace E:=am_ (blk_below (g:=Bd) (o:=.cells #[i_ a1_0,i_ a1_1,i_ a1_2,i_ a1_3,i_ a1_4,i_ a1_5,i_ a1_6,.slice (some Bw) l1_7.length J,.slice L l1_8.length M] 29 (0,0)) (bk1_ E.out Bb.out) hb2);replace V:=am_ (blk_below (g:=Bx) (o:=.cells #[i_ ((rd_T47 l1_7 B).f0),i_ ((rd_T47 l1_7 B).f1)] 47 (0,0)) (bz2_ V.out) hb2);replace HB:=am_ hb;have B1:=am_ hi;have Co:=am_ True.intro;have Cp:=am_ True.intro;have Cq:=am_ True.intro;have Cr:=am_ True.intro;have Cs:=am_ True.intro;have Ct:=am_ True.intro;clear hb hb2 hi;obtain⟨Cu,Cv,Cw,Cx,Cy⟩:=B1.out))
            go_roundg k1
            case measure=>have:=HK1.out;omega
            case rel=>exact⟨(Bh),(wrap64 (B+1)),(by first|rfl|(simp;done)|(simp only[← O] <;> (first|rfl|simp))|(simp [*];done)),rs_,H',⟨by have:=HK1.out;omega⟩,⟨bq_ D.out⟩,⟨bq_ E.out⟩,⟨hbw_ HB⟩⟩
          · rw[if_neg c9]at H;exact absurd H (by simp)
        · rw[if_neg c8]at H;exact absurd H (by simp)
      · rw[if_neg c7]at H;have Br:decide (B < (l1_7.length:Int))=false:=decide_eq_false c7;clear c7;obtain rfl:=Option.some.inj H
        go_wp2
        go_ret;exact⟨ew_,hq2_ HB.out Bo.out Bq.out⟩

/-! ### impl_Store_window: function 47 -/
def impl_Store_window.f (k:Nat) (l0_0:List (List (S77))) (a1_0 a1_1 a1_2 a1_3 a1_4 a1_5 a1_6:Int) (l1_7:List (S47)) (l1_8:List (S58)) (a2:Int):Option (Int × Int):=(impl_Store_refreshLow.f k l0_0 a1_0 a1_1 a1_2 a1_3 a1_4 a1_5 a1_6 l1_7 l1_8).bind fun t582=>((impl_Store_refreshHigh.f k l0_0 a1_0 a1_1 a1_2 a1_3 a1_4 a1_5 a1_6 l1_7 l1_8).bind fun t583=>(some (mx a1_4 t582,mn (mn a1_5 t583) a2)))
theorem impl_Store_window.mono:∀ a0 a1 a2 a3 a4 a5 a6 a7 a8 a9 a10 k,LeO (impl_Store_window.f k a0 a1 a2 a3 a4 a5 a6 a7 a8 a9 a10) (impl_Store_window.f (k+1) a0 a1 a2 a3 a4 a5 a6 a7 a8 a9 a10):=by
  intro a0 a1 a2 a3 a4 a5 a6 a7 a8 a9 a10 k;unfold impl_Store_window.f
  repeat' first
      | (with_reducible first|apply impl_Store_refreshHigh.mono|apply impl_Store_refreshLow.mono|exact LeO.refl _|exact LeO.none _|refine LeO.ite ?_ ?_|refine LeO.bind ?_ (fun _=>?_))
def impl_Store_window.T1:Bool × List (List Nat × List Nat):=(true,[([],[]),([0],[0]),([],[]),([],[]),([2,3],[2,3]),([1,4],[1,4]),([],[]),([6],[6]),([],[]),([],[]),([8,9,4],[8,9]),([],[]),([7,10,11],[7,10,11]),([5,10,0,1,2,3,4,5],[5]),([12,13,0,1,2,3,4,5,6,7,8,9,10,11,12,13],[12])])
def impl_Store_window.B1:List Nat:=[0,1,0,0,12,31,0,64,0,0,796,0,4060,1855,16383]
theorem impl_Store_window.tab1:rtab .any (opsOf Try.f47 1)=impl_Store_window.T1:=by kernel_rfl
theorem impl_Store_window.bits1:waitsOk impl_Store_window.T1.2 impl_Store_window.B1=true:=by kernel_rfl
set_option maxHeartbeats 8000000 in
set_option maxRecDepth 100000 in
theorem impl_Store_window.calls (k:Nat)(F:Option Addr)(G:Nat) (l0_0:List (List (S77))) (a1_0 a1_1 a1_2 a1_3 a1_4 a1_5 a1_6:Int)(I:Option Addr)(J:Nat) (l1_7:List (S47)) (L:Option Addr)(M:Nat) (l1_8:List (S58)) (a2 r1 r2:Int) (w:World) (hr0_0:Kd.C (Kd.slice 77 k77) w F l0_0.length l0_0) (hc0_0:l0_0.length≤G) (hr1_7:Kd.C k47 w I l1_7.length l1_7) (hc1_7:l1_7.length≤J) (hr1_8:Kd.C k58 w L l1_8.length l1_8) (hc1_8:l1_8.length≤M) (h:impl_Store_window.f k l0_0 a1_0 a1_1 a1_2 a1_3 a1_4 a1_5 a1_6 l1_7 l1_8 a2=some (r1,r2)) :
    Calls Try.prog 47 #[.agg #[.slice F l0_0.length G],.agg #[i_ a1_0,i_ a1_1,i_ a1_2,i_ a1_3,i_ a1_4,i_ a1_5,i_ a1_6,.slice I l1_7.length J,.slice L l1_8.length M],i_ a2] w fun e w'=>e=.returned (.tuple #[i_ r1,i_ r2])∧Below w.heap.size w w':=by
  have hu39:=Try.underlying39;have hu29:=Try.underlying29;have Z:=am_ hr0_0;have Ba:=am_ hc0_0;clear hr0_0 hc0_0;have Bb:=am_ hr1_7;have Bc:=am_ hc1_7;clear hr1_7 hc1_7;have Bd:=am_ hr1_8;have Be:=am_ hc1_8;clear hr1_8 hc1_8;have HB:=am_ (Below.refl w.heap.size w);unfold impl_Store_window.f at h;have H:=h;clear h;replace H:=bi_ H;obtain⟨V,Bf,H⟩:=H;have A4:=am_ Bf;clear Bf;obtain⟨Bh,U⟩:∃ j_:Int,(mx a1_4 V)=j_:=⟨_,rfl⟩;(first|rw[U]at H|simp only[U]at H);(try rw[U]at A4);have hji5_:(if a1_4 < V then V else a1_4)=Bh:=U;replace H:=bi_ H;obtain⟨X,Bg,H⟩:=H;have A6:=am_ Bg;clear Bg;obtain⟨Y,O⟩:∃ j_:Int,(mn a1_5 X)=j_:=⟨_,rfl⟩;(first|rw[O]at H|simp only[O]at H);(try rw[O]at A4);(try rw[O]at A6);have hji7_:(if X < a1_5 then X else a1_5)=Y:=O;obtain⟨Bi,R⟩:∃ j_:Int,(mn (Y) a2)=j_:=⟨_,rfl⟩;(first|rw[R]at H|simp only[R]at H);(try rw[R]at A4);(try rw[R]at A6);have hji8_:(if a2 < (Y) then a2 else (Y))=Bi:=R;simp only[Option.some.injEq,Prod.mk.injEq]at H;obtain⟨rfl,rfl⟩:=H
  go_enter Try.func47,Try.ntmps47
  (try go_wp2_with (first|((with_reducible refine gate_dst (N:=3) rfl ?_);refine be_ 3 #[.slice F l0_0.length G] 39 ?_;intro Bj hg w9 hbox hb;have D:=am_ hbox;have Bk:=wk_ hg HB;replace HB:=hs_ HB hb;have Bl:=Bk;clear hb hbox hg)|((with_reducible refine gate_dst (N:=4) rfl ?_);refine be_ 4 #[i_ a1_0,i_ a1_1,i_ a1_2,i_ a1_3,i_ a1_4,i_ a1_5,i_ a1_6,.slice I l1_7.length J,.slice L l1_8.length M] 29 ?_;intro E hg Bm hbox hb;have B:=am_ hbox;have Bn:=wk_ hg HB;replace HB:=hs_ HB hb;have Bo:=Bn;have Bp:=nk_ hg D;replace D:=bb_ D hb;have Bq:=ny_ Bp;clear hb hbox hg)));replace D:=am_ (blk_drew D.out);replace B:=am_ (blk_drew B.out);replace HB:=am_ (below_drew1 HB.out);refine start_ (n:=15) (S:=fun w'=>w'.cell? ⟨E,0,none⟩=some (i_ a1_0)∧w'.cell? ⟨E,1,none⟩=some (i_ a1_1)∧w'.cell? ⟨E,2,none⟩=some (i_ a1_2)∧w'.cell? ⟨E,3,none⟩=some (i_ a1_3)∧w'.cell? ⟨E,4,none⟩=some (i_ a1_4)∧w'.cell? ⟨E,5,none⟩=some (i_ a1_5)∧w'.cell? ⟨E,6,none⟩=some (i_ a1_6)∧w'.cell? ⟨E,7,none⟩=some (.slice I l1_7.length J)∧w'.cell? ⟨E,8,none⟩=some (.slice L l1_8.length M)∧w'.cell? ⟨Bj,0,none⟩=some (.slice F l0_0.length G)) (ds:=[]) #[n_,n_,n_,n_,n_,n_,n_,n_,n_,n_,n_,n_,n_,n_,n_] (by kernel_rfl) rfl rfl ⟨cl_ B.out 0,cl_ B.out 1,cl_ B.out 2,cl_ B.out 3,cl_ B.out 4,cl_ B.out 5,cl_ B.out 6,cl_ B.out 7,cl_ B.out 8,cl_ D.out 0⟩ (fun hHeld=>?_);refine with_tabW impl_Store_window.tab1 impl_Store_window.bits1 (fun HT_ HW_=>?_);generalize Bm.drew=Br at D B HB hHeld ⊢;refine pj_ 0 8 15 1 HT_ ?_;refine pj_ 6 14 15 65 HT_ ?_;refine pj_ 11 19 15 2113 HT_ ?_;refine tj_ 1 9 15 2115 HT_ HW_ (v:=?_) (a':=?_) ?_ hHeld ?_ ?_;rotate_left;(rintro w' ⟨s0,s1,s2,s3,s4,s5,s6,s7,s8,s9⟩;go_simp;(with_reducible rfl));rotate_left;(exact pe_);refine tj_ 2 10 15 2119 HT_ HW_ (v:=?_) (a':=?_) ?_ hHeld ?_ ?_;rotate_left;(rintro w' ⟨s0,s1,s2,s3,s4,s5,s6,s7,s8,s9⟩;go_simp;(with_reducible rfl));rotate_left;(exact pe_);refine tj_ 3 11 15 2127 HT_ HW_ (v:=?_) (a':=?_) ?_ hHeld ?_ ?_;rotate_left;(rintro w' ⟨s0,s1,s2,s3,s4,s5,s6,s7,s8,s9⟩;go_simp;(with_reducible rfl));rotate_left;(exact pe_);refine tj_ 7 15 15 2255 HT_ HW_ (v:=?_) (a':=?_) ?_ hHeld ?_ ?_;rotate_left;(rintro w' ⟨s0,s1,s2,s3,s4,s5,s6,s7,s8,s9⟩;go_simp;(with_reducible rfl));rotate_left;(exact pe_);refine tj_ 8 16 15 2511 HT_ HW_ (v:=?_) (a':=?_) ?_ hHeld ?_ ?_;rotate_left;(rintro w' ⟨s0,s1,s2,s3,s4,s5,s6,s7,s8,s9⟩;go_simp;(with_reducible rfl));rotate_left;(exact pe_);refine tj_ 9 17 15 3023 HT_ HW_ (v:=?_) (a':=?_) ?_ hHeld ?_ ?_;rotate_left;(rintro w' ⟨s0,s1,s2,s3,s4,s5,s6,s7,s8,s9⟩;go_simp;(with_reducible rfl));rotate_left;(exact pe_);refine oe_ 4 (bs_ 15 3039) HT_ (fun K hK=>?_);refine goes_ Try.func52 (by kernel_rfl) rfl #[.agg #[.slice F l0_0.length G],.agg #[i_ a1_0,i_ a1_1,i_ a1_2,i_ a1_3,i_ a1_4,i_ a1_5,i_ a1_6,.slice I l1_7.length J,.slice L l1_8.length M]] (by rfl) rfl rfl mp_ ?_;(with_reducible refine(impl_Store_refreshLow.calls k _ _ l0_0 a1_0 a1_1 a1_2 a1_3 a1_4 a1_5 a1_6 _ _ l1_7 _ _ l1_8 V _ ?side1 ?side2 ?side3 ?side4 ?side5 ?side6 A4.out).mono ?_);(case side1=>exact cq_ Z.out HB.out);(case side2=>exact Ba.out);(case side3=>exact cq_ Bb.out HB.out);(case side4=>exact Bc.out);(case side5=>exact cq_ Bd.out HB.out);(case side6=>exact Be.out);rintro e Bs ⟨rfl,hb⟩;refine⟨_,rfl,?_⟩;replace D:=bb_ D hb;replace B:=bb_ B hb;replace HB:=hs_ HB hb;clear hb;refine hK.out _ _ ⟨cl_ B.out 0,cl_ B.out 1,cl_ B.out 2,cl_ B.out 3,cl_ B.out 4,cl_ B.out 5,cl_ B.out 6,cl_ B.out 7,cl_ B.out 8,cl_ D.out 0⟩ (fun hHeld=>?_);clear hK K;refine nr_ ?_;refine pj_ 5 13 15 3071 HT_ ?_;refine oe_ 10 (bs_ 15 4095) HT_ (fun K hK=>?_);refine goes_ Try.func53 (by kernel_rfl) rfl #[.agg #[.slice F l0_0.length G],.agg #[i_ a1_0,i_ a1_1,i_ a1_2,i_ a1_3,i_ a1_4,i_ a1_5,i_ a1_6,.slice I l1_7.length J,.slice L l1_8.length M]] (by rfl) rfl rfl mp_ ?_;(with_reducible refine(impl_Store_refreshHigh.calls k _ _ l0_0 a1_0 a1_1 a1_2 a1_3 a1_4 a1_5 a1_6 _ _ l1_7 _ _ l1_8 X _ ?side1 ?side2 ?side3 ?side4 ?side5 ?side6 A6.out).mono ?_);(case side1=>exact cq_ Z.out HB.out);(case side2=>exact Ba.out);(case side3=>exact cq_ Bb.out HB.out);(case side4=>exact Bc.out);(case side5=>exact cq_ Bd.out HB.out);(case side6=>exact Be.out);rintro e Bt ⟨rfl,hb⟩;refine⟨_,rfl,?_⟩;replace D:=bb_ D hb;replace B:=bb_ B hb;replace HB:=hs_ HB hb;clear hb;refine hK.out _ _ ⟨cl_ B.out 0,cl_ B.out 1,cl_ B.out 2,cl_ B.out 3,cl_ B.out 4,cl_ B.out 5,cl_ B.out 6,cl_ B.out 7,cl_ B.out 8,cl_ D.out 0⟩ (fun hHeld=>?_);clear hK K;refine nr_ ?_;refine pj_ 12 20 15 8191 HT_ ?_;refine pj_ 13 6 15 16383 HT_ ?_;refine pj_ 14 7 15 32767 HT_ ?_;refine dn_ HT_.out ?_;(try go_wp2)
  go_ret2
  exact⟨by first|rfl|(simp [errW_none,errW_some] <;> rfl)|(simp only[← U,← O,← R];first|rfl|(simp [errW_none,errW_some] <;> rfl))|(simp [*,errW_none,errW_some] <;> rfl),hq2_ HB.out Bl.out Bo.out⟩

/-! ### impl_FinalWindow: function 20 -/
def impl_FinalWindow.f (k:Nat) (l0_0:List (List (S77))) (a1_0 a1_1 a1_2 a1_3 a1_4 a1_5 a1_6:Int) (l1_7:List (S47)) (l1_8:List (S58)) (a2:Int):Option (Int × Int × Bool):=(impl_ReadsExist.f k l0_0 a1_0 a1_1 a1_2 a1_3 a1_4 a1_5 a1_6 l1_7 l1_8).bind fun t586=>(if t586=true then (if a1_2=1 then ((impl_Store_lastStamp.f k l0_0).bind fun t587=>((impl_in.f a2 (wrap64 (t587+1)) 999).bind fun t588=>(if t588=true then ((impl_Store_window.f k l0_0 a1_0 a1_1 a1_2 a1_3 a1_4 a1_5 a1_6 l1_7 l1_8 a2).bind fun bt589=>(some (bt589.1,bt589.2,true))) else (some (0,0,false))))) else (some (0,0,false))) else (some (0,0,false)))
theorem impl_FinalWindow.mono:∀ a0 a1 a2 a3 a4 a5 a6 a7 a8 a9 a10 k,LeO (impl_FinalWindow.f k a0 a1 a2 a3 a4 a5 a6 a7 a8 a9 a10) (impl_FinalWindow.f (k+1) a0 a1 a2 a3 a4 a5 a6 a7 a8 a9 a10):=by
  intro a0 a1 a2 a3 a4 a5 a6 a7 a8 a9 a10 k;unfold impl_FinalWindow.f
  repeat' first
      | (with_reducible first|apply impl_ReadsExist.mono|apply impl_Store_lastStamp.mono|apply impl_Store_window.mono|exact LeO.refl _|exact LeO.none _|refine LeO.ite ?_ ?_|refine LeO.bind ?_ (fun _=>?_))
set_option maxHeartbeats 8000000 in
set_option maxRecDepth 100000 in
theorem impl_FinalWindow.calls (k:Nat)(E:Option Addr)(F:Nat) (l0_0:List (List (S77))) (a1_0 a1_1 a1_2 a1_3 a1_4 a1_5 a1_6:Int)(G:Option Addr)(I:Nat) (l1_7:List (S47)) (J:Option Addr)(L:Nat) (l1_8:List (S58)) (a2 r1 r2:Int)(r3:Bool) (w:World) (hr0_0:Kd.C (Kd.slice 77 k77) w E l0_0.length l0_0) (hc0_0:l0_0.length≤F) (hr1_7:Kd.C k47 w G l1_7.length l1_7) (hc1_7:l1_7.length≤I) (hr1_8:Kd.C k58 w J l1_8.length l1_8) (hc1_8:l1_8.length≤L) (h:impl_FinalWindow.f k l0_0 a1_0 a1_1 a1_2 a1_3 a1_4 a1_5 a1_6 l1_7 l1_8 a2=some (r1,r2,r3)) :
    Calls Try.prog 20 #[.agg #[.slice E l0_0.length F],.agg #[i_ a1_0,i_ a1_1,i_ a1_2,i_ a1_3,i_ a1_4,i_ a1_5,i_ a1_6,.slice G l1_7.length I,.slice J l1_8.length L],i_ a2] w fun e w'=>e=.returned (.tuple #[i_ r1,i_ r2,.bool r3])∧Below w.heap.size w w':=by
  have hu39:=Try.underlying39;have hu29:=Try.underlying29;have M:=am_ hr0_0;have O:=am_ hc0_0;clear hr0_0 hc0_0;have R:=am_ hr1_7;have U:=am_ hc1_7;clear hr1_7 hc1_7;have V:=am_ hr1_8;have X:=am_ hc1_8;clear hr1_8 hc1_8;have HB:=am_ (Below.refl w.heap.size w);unfold impl_FinalWindow.f at h;have H:=h;clear h;replace H:=bi_ H;obtain⟨Be,Y,H⟩:=H;have A4:=am_ Y;clear Y
  refine em_ (Be=true) ?ac5 ?bc5
  case' ac5=>
   intro c5
   subst c5;rw[if_pos rfl]at H
   refine em_ (a1_2=1) ?ac6 ?bc6
   case' ac6=>
    intro c6
    rw[if_pos c6]at H;have Bf:(a1_2 == 1)=true:=beq_iff_eq.mpr c6;have Bg:(a1_2 != 1)=false:=bne_eq_false_iff_eq.mpr c6;clear c6;replace H:=bi_ H;obtain⟨Z,Ba,H⟩:=H;have A7:=am_ Ba;clear Ba;replace H:=bi_ H;obtain⟨Bh,Bb,H⟩:=H;have A8:=am_ Bb;clear Bb
    refine em_ (Bh=true) ?ac9 ?bc9
    case' ac9=>
     intro c9
     subst c9;rw[if_pos rfl]at H;replace H:=bi_ H;obtain⟨⟨Bi,Bj⟩,Bc,H⟩:=H;(try dsimp only at H);have Bk:=am_ Bc;clear Bc;simp only[Option.some.injEq,Prod.mk.injEq]at H;obtain⟨rfl,rfl,rfl⟩:=H
    case' bc9=>
     intro c9
     replace c9:=Bool.eq_false_iff.mpr c9;subst c9;rw[if_neg nt_]at H;simp only[Option.some.injEq,Prod.mk.injEq]at H;obtain⟨rfl,rfl,rfl⟩:=H
   case' bc6=>
    intro c6
    rw[if_neg c6]at H;have Bf:(a1_2 == 1)=false:=beq_eq_false_iff_ne.mpr c6;have Bg:(a1_2 != 1)=true:=bne_iff_ne.mpr c6;simp only[Option.some.injEq,Prod.mk.injEq]at H;obtain⟨rfl,rfl,rfl⟩:=H
  case' bc5=>
   intro c5
   replace c5:=Bool.eq_false_iff.mpr c5;subst c5;rw[if_neg nt_]at H;simp only[Option.some.injEq,Prod.mk.injEq]at H;obtain⟨rfl,rfl,rfl⟩:=H
  all_goals
   go_enter Try.func20,Try.ntmps20
   go_wp2_with (first|((with_reducible refine gate_dst (N:=3) rfl ?_);refine be_ 3 #[.slice E l0_0.length F] 39 ?_;intro Bs hg Bt hbox hb;have B:=am_ hbox;have Bl:=wk_ hg HB;replace HB:=hs_ HB hb;have Bm:=Bl;clear hb hbox hg)|((with_reducible refine gate_dst (N:=4) rfl ?_);refine be_ 4 #[i_ a1_0,i_ a1_1,i_ a1_2,i_ a1_3,i_ a1_4,i_ a1_5,i_ a1_6,.slice G l1_7.length I,.slice J l1_8.length L] 29 ?_;intro Bu hg Bv hbox hb;have D:=am_ hbox;have Bn:=wk_ hg HB;replace HB:=hs_ HB hb;have Bo:=Bn;have Bd:=nk_ hg B;replace B:=bb_ B hb;have Bp:=ny_ Bd;clear hb hbox hg;have Bw:=Bd.out;have Bx:=Bp.out;have By:=bc1_ B.out;have Bz:=blk_frozen B.out 0;have B0:=bc9_ D.out;have B1:=bf9_ D.out)|((with_reducible refine gate_callee (f:=45) rfl ?_);refine goesL_ (some 13) rfl rfl Try.func45 (by kernel_rfl) rfl #[.agg #[.slice E l0_0.length F],.agg #[i_ a1_0,i_ a1_1,i_ a1_2,i_ a1_3,i_ a1_4,i_ a1_5,i_ a1_6,.slice G l1_7.length I,.slice J l1_8.length L]] rfl mp_ ?_;(with_reducible refine(impl_ReadsExist.calls k _ _ l0_0 a1_0 a1_1 a1_2 a1_3 a1_4 a1_5 a1_6 _ _ l1_7 _ _ l1_8 _ _ ?side1 ?side2 ?side3 ?side4 ?side5 ?side6 A4.out).mono ?_);(case side1=>exact cq_ M.out HB.out);(case side2=>exact O.out);(case side3=>exact cq_ R.out HB.out);(case side4=>exact U.out);(case side5=>exact cq_ V.out HB.out);(case side6=>exact X.out);rintro e B2 ⟨rfl,hb⟩;refine⟨_,rfl,?_⟩;replace B:=bb_ B hb;replace D:=bb_ D hb;replace HB:=hs_ HB hb;clear hb;(first|(have Bq:=bc9_ D.out;have Br:=bf9_ D.out;have B3:=bc1_ B.out;have B4:=blk_frozen B.out 0)|(have Bq:=bc9_ D.out;have Br:=bf9_ D.out)|skip))|(go_at_call 46;(with_reducible refine(impl_Store_lastStamp.calls k _ _ l0_0 Z _ ?side1 ?side2 A7.out).mono ?_);(case side1=>exact cq_ M.out HB.out);(case side2=>exact O.out);rintro e B5 ⟨rfl,hb⟩;replace B:=bb_ B hb;replace D:=bb_ D hb;replace HB:=hs_ HB hb;clear hb)|(go_at_call 36;(with_reducible refine(impl_in.calls a2 (wrap64 (Z+1)) 999 _ _ A8.out).mono ?_);rintro e w' ⟨rfl,⟨nd,rfl⟩⟩;(first|(have B6:=bc1_ B.out;have B7:=blk_frozen B.out 0;have B8:=bc9_ D.out;have B9:=bf9_ D.out)|skip))|((with_reducible refine gate_callee (f:=47) rfl ?_);refine goesL_ (some 32) rfl rfl Try.func47 (by kernel_rfl) rfl #[.agg #[.slice E l0_0.length F],.agg #[i_ a1_0,i_ a1_1,i_ a1_2,i_ a1_3,i_ a1_4,i_ a1_5,i_ a1_6,.slice G l1_7.length I,.slice J l1_8.length L],i_ a2] rfl mp_ ?_;(with_reducible refine(impl_Store_window.calls k _ _ l0_0 a1_0 a1_1 a1_2 a1_3 a1_4 a1_5 a1_6 _ _ l1_7 _ _ l1_8 a2 Bi Bj _ ?side1 ?side2 ?side3 ?side4 ?side5 ?side6 Bk.out).mono ?_);(case side1=>repeat(first|exact(Kd.C_below M.out (hbw_ HB))|(with_reducible refine Kd.C_alloc ?_ _)|(with_reducible refine Kd.C_drewN ?_ _)|(with_reducible refine Kd.C_drew ?_)));(case side2=>exact O.out);(case side3=>repeat(first|exact(Kd.C_below R.out (hbw_ HB))|(with_reducible refine Kd.C_alloc ?_ _)|(with_reducible refine Kd.C_drewN ?_ _)|(with_reducible refine Kd.C_drew ?_)));(case side4=>exact U.out);(case side5=>repeat(first|exact(Kd.C_below V.out (hbw_ HB))|(with_reducible refine Kd.C_alloc ?_ _)|(with_reducible refine Kd.C_drewN ?_ _)|(with_reducible refine Kd.C_drew ?_)));(case side6=>exact X.out);rintro e Ca ⟨rfl,hb⟩;refine⟨_,rfl,?_⟩;replace B:=bb_ B hb;replace D:=bb_ D hb;replace HB:=hs_ HB hb;clear hb))
   go_ret3
   exact⟨ew_,hq2_ HB.out Bm.out Bo.out⟩

end Go.Proofs.Ytacdaekigoldaaa.PFnExclusion
