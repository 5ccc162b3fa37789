-- Printed by my own myprint.py out of the translation of the seat Ytacdaekigoldaaa. Not trusted: Lean checks it.
import Derived.Test.YtacdaekigoldaaaPFnExclusionx0
namespace Go.Proofs.Ytacdaekigoldaaa.PFnExclusion
open Go.RowKit Go.Proofs.YtacdaekigoldaaaW.PrintWords Go.Proofs.YtacdaekigoldaaaW.PrintLast Go.Proofs.YtacdaekigoldaaaW.PrintMore
attribute [local go_sem] max2_int min2_int max_two min_two max_three min_three max_four min_four   -- for this text's walks alone
set_option linter.unusedVariables false
set_option linter.unusedSimpArgs false

/-! ### cmp_Or_int: function 75 -/
def cmp_Or_int.l0:Nat→Int→List Int→Int→Int→Option (Int)
  | 0,_,_,_,_=>none
  | k+1,x3,x6,x7,x8=>if x8 < x7 then (if 0≤x8 then (if x8 < (x6.length:Int) then (if (rd x6 x8)=x3 then (cmp_Or_int.l0 k x3 x6 x7 (wrap64 (x8+1))) else (some (rd x6 x8))) else (none)) else (none)) else (some x3)
def cmp_Or_int.f (k:Nat) (l0:List Int):Option (Int):=cmp_Or_int.l0 k 0 l0 (l0.length:Int) 0
theorem cmp_Or_int.mono_l:∀ k,(∀ y0 y1 y2 y3,LeO (cmp_Or_int.l0 k y0 y1 y2 y3) (cmp_Or_int.l0 (k+1) y0 y1 y2 y3))
  | 0=>fun _ _ _ _ r h=>by simp [cmp_Or_int.l0]at h
  | k+1=>by
    have ih0:=cmp_Or_int.mono_l k
    · intro y0 y1 y2 y3;unfold cmp_Or_int.l0
      repeat' first
      | (with_reducible first|apply ih0|exact LeO.refl _|exact LeO.none _|refine LeO.ite ?_ ?_|refine LeO.bind ?_ (fun _=>?_))
theorem cmp_Or_int.mono:∀ a0 k,LeO (cmp_Or_int.f k a0) (cmp_Or_int.f (k+1) a0):=by
  intro a0 k;have ih0:=cmp_Or_int.mono_l k;unfold cmp_Or_int.f
  repeat' first
      | (with_reducible first|apply ih0|exact LeO.refl _|exact LeO.none _|refine LeO.ite ?_ ?_|refine LeO.bind ?_ (fun _=>?_))
set_option maxHeartbeats 8000000 in
set_option maxRecDepth 100000 in
theorem cmp_Or_int.calls (k:Nat)(A0:Option Addr)(c0:Nat) (l0:List Int) (r:Int) (w:World) (hr0:Kd.C (Kd.int .i64) w A0 l0.length l0) (hc0:l0.length≤c0) (h:cmp_Or_int.f k l0=some r) :
    Calls Try.prog 75 #[.slice A0 l0.length c0] w fun e w'=>e=.returned (i_ r)∧Drawn0 w w':=by
  have F:=am_ hr0;have N:=am_ hc0;clear hr0 hc0;unfold cmp_Or_int.f at h;have H:=h;clear h;have H':=am_ H;clear H
  go_enter Try.func75,Try.ntmps75
  go_wp2
  go_loopg [8] k (fun kq v8 w'=>∃ (B:Int),v8=i_ B∧Aside0 (cmp_Or_int.l0 kq 0 l0 (l0.length:Int) B=some r)∧Aside0 (kq≤k)∧Drawn0 w w')
  case atStart=>exact⟨(0),rs_,H',⟨Nat.le_refl _⟩,by repeat(first|exact Drawn0.refl _|apply Drawn0.step)⟩
  case round=>
    clear H';obtain⟨B,rfl,HA,HK1,⟨m1,rfl⟩⟩:=hrel
    cases gk with
    | zero=>exact absurd HA.out (by simp [cmp_Or_int.l0])
    | succ k1=>
      have H:=HA.out;clear HA;simp only[cmp_Or_int.l0]at H
      by_cases c2:B < (l0.length:Int)
      · rw[if_pos c2]at H;have G:decide (B < (l0.length:Int))=true:=decide_eq_true c2;clear c2
        by_cases c3:0≤B
        · rw[if_pos c3]at H;have O:decide (0≤B)=true:=decide_eq_true c3;clear c3
          by_cases c4:B < (l0.length:Int)
          · rw[if_pos c4]at H;have R:decide (B < (l0.length:Int))=true:=decide_eq_true c4;clear c4
            by_cases c5:(rd l0 B)=0
            · rw[if_pos c5]at H;have I:((rd l0 B) == 0)=true:=beq_iff_eq.mpr c5;have J:((rd l0 B) != 0)=false:=bne_eq_false_iff_eq.mpr c5;clear c5;have H':=am_ H;clear H;have D:0≤(B:Int):=of_decide_eq_true as_;have E:B < (l0.length:Int):=of_decide_eq_true as_;obtain⟨L,e501,M⟩:=Kd.at_int F.out B D E
              cases e501
              replace D:=eq_true D;replace E:=eq_true E
              go_wp2
              go_roundg k1
              case measure=>have:=HK1.out;omega
              case rel=>exact⟨(wrap64 (B+1)),rs_,H',⟨by have:=HK1.out;omega⟩,by repeat(first|exact Drawn0.refl _|apply Drawn0.step)⟩
            · rw[if_neg c5]at H;have I:((rd l0 B) == 0)=false:=beq_eq_false_iff_ne.mpr c5;have J:((rd l0 B) != 0)=true:=bne_iff_ne.mpr c5;obtain rfl:=Option.some.inj H;have D:0≤(B:Int):=of_decide_eq_true as_;have E:B < (l0.length:Int):=of_decide_eq_true as_;obtain⟨L,e501,M⟩:=Kd.at_int F.out B D E
              cases e501
              replace D:=eq_true D;replace E:=eq_true E
              go_wp2
              go_ret;exact⟨rs_,by repeat(first|exact Drawn0.refl _|apply Drawn0.step)⟩
          · rw[if_neg c4]at H;exact absurd H (by simp)
        · rw[if_neg c3]at H;exact absurd H (by simp)
      · rw[if_neg c2]at H;have G:decide (B < (l0.length:Int))=false:=decide_eq_false c2;clear c2;obtain rfl:=Option.some.inj H
        go_wp2
        go_ret;exact⟨rs_,by repeat(first|exact Drawn0.refl _|apply Drawn0.step)⟩

/-! ### cmp_isNaN_int: function 89 -/
def cmp_isNaN_int.f (a0:Int):Option (Bool):=some (a0 != a0)
set_option maxHeartbeats 8000000 in
set_option maxRecDepth 100000 in
theorem cmp_isNaN_int.calls (a0:Int)(r:Bool) (w:World) (h:cmp_isNaN_int.f a0=some r) :
    Calls Try.prog 89 #[i_ a0] w fun e w'=>e=.returned (.bool r)∧Drawn0 w w':=by
  unfold cmp_isNaN_int.f at h;have H:=h;clear h;obtain rfl:=Option.some.inj H
  go_enter Try.func89,Try.ntmps89
  go_wp2
  go_ret;exact⟨rs_,by repeat(first|exact Drawn0.refl _|apply Drawn0.step)⟩

/-! ### cmp_Compare_int: function 76 -/
def cmp_Compare_int.f (a0 a1:Int):Option (Int):=(cmp_isNaN_int.f a0).bind fun t502=>((cmp_isNaN_int.f a1).bind fun t503=>(if t502=true then (if t503=true then (some 0) else (some (-1))) else (if t503=true then (some 1) else (if a0 < a1 then (some (-1)) else (if a0 > a1 then (some 1) else (some 0))))))
set_option maxHeartbeats 8000000 in
set_option maxRecDepth 100000 in
theorem cmp_Compare_int.calls (a0 a1 r:Int) (w:World) (h:cmp_Compare_int.f a0 a1=some r) :
    Calls Try.prog 76 #[i_ a0,i_ a1] w fun e w'=>e=.returned (i_ r)∧Drawn0 w w':=by
  unfold cmp_Compare_int.f at h;have H:=h;clear h;replace H:=bi_ H;obtain⟨E,B,H⟩:=H;have A3:=am_ B;clear B;replace H:=bi_ H;obtain⟨C,D,H⟩:=H;have A4:=am_ D;clear D
  refine em_ (E=true) ?ac5 ?bc5
  case' ac5=>
   intro c5
   subst c5;rw[if_pos rfl]at H
   refine em_ (C=true) ?ac6 ?bc6
   case' ac6=>
    intro c6
    subst c6;rw[if_pos rfl]at H;obtain rfl:=Option.some.inj H
   case' bc6=>
    intro c6
    replace c6:=Bool.eq_false_iff.mpr c6;subst c6;rw[if_neg nt_]at H;obtain rfl:=Option.some.inj H
  case' bc5=>
   intro c5
   replace c5:=Bool.eq_false_iff.mpr c5;subst c5;rw[if_neg nt_]at H
   refine em_ (C=true) ?ac7 ?bc7
   case' ac7=>
    intro c7
    subst c7;rw[if_pos rfl]at H;obtain rfl:=Option.some.inj H
   case' bc7=>
    intro c7
    replace c7:=Bool.eq_false_iff.mpr c7;subst c7;rw[if_neg nt_]at H
    refine em_ (a0 < a1) ?ac8 ?bc8
    case' ac8=>
     intro c8
     rw[if_pos c8]at H;have F:decide (a0 < a1)=true:=decide_eq_true c8;clear c8;obtain rfl:=Option.some.inj H
    case' bc8=>
     intro c8
     rw[if_neg c8]at H;have F:decide (a0 < a1)=false:=decide_eq_false c8;clear c8
     refine em_ (a0 > a1) ?ac9 ?bc9
     case' ac9=>
      intro c9
      rw[if_pos c9]at H;have G:decide (a1 < a0)=true:=decide_eq_true c9;clear c9;obtain rfl:=Option.some.inj H
     case' bc9=>
      intro c9
      rw[if_neg c9]at H;have G:decide (a1 < a0)=false:=decide_eq_false c9;clear c9;obtain rfl:=Option.some.inj H
  all_goals
   go_enter Try.func76,Try.ntmps76
   go_wp2_with (first|((with_reducible refine gate_callee (f:=89) rfl ?_);refine goesL_ (some 8) rfl rfl Try.func89 (by kernel_rfl) rfl #[i_ a0] rfl mp_ ?_;(with_reducible refine(cmp_isNaN_int.calls a0 _ _ A3.out).mono ?_);rintro e w' ⟨rfl,⟨nd,rfl⟩⟩;refine⟨_,rfl,?_⟩)|((with_reducible refine gate_callee (f:=89) rfl ?_);refine goesL_ (some 10) rfl rfl Try.func89 (by kernel_rfl) rfl #[i_ a1] rfl mp_ ?_;(with_reducible refine(cmp_isNaN_int.calls a1 _ _ A4.out).mono ?_);rintro e w' ⟨rfl,⟨nd,rfl⟩⟩;refine⟨_,rfl,?_⟩))
   go_ret;exact⟨rs_,by repeat(first|exact Drawn0.refl _|apply Drawn0.step)⟩

/-! ### impl_compareMarks: function 63 -/
def impl_compareMarks.f (k:Nat)(a0_0 a0_1 a1_0 a1_1:Int):Option (Int):=(cmp_Compare_int.f a0_0 a1_0).bind fun t506=>((cmp_Compare_int.f a0_1 a1_1).bind fun t507=>((cmp_Or_int.f k (([t506,t507]:List Int))).bind fun t511=>(some t511)))
theorem impl_compareMarks.mono:∀ a0 a1 a2 a3 k,LeO (impl_compareMarks.f k a0 a1 a2 a3) (impl_compareMarks.f (k+1) a0 a1 a2 a3):=by
  intro a0 a1 a2 a3 k;unfold impl_compareMarks.f
  repeat' first
      | (with_reducible first|apply cmp_Or_int.mono|exact LeO.refl _|exact LeO.none _|refine LeO.ite ?_ ?_|refine LeO.bind ?_ (fun _=>?_))
def impl_compareMarks.T1:Bool × List (List Nat × List Nat):=(true,[([],[]),([0],[0]),([],[]),([2],[2]),([1,3],[1,3]),([],[]),([5],[5]),([],[]),([7],[7]),([6,8,4],[6,8]),([4,9],[4,9]),([10,9],[10]),([11,11,0,1,2,3,4,5,6,7,8,9,10,11],[11])])
def impl_compareMarks.B1:List Nat:=[0,1,0,4,15,0,32,0,128,511,1023,2047,4095]
theorem impl_compareMarks.tab1:rtab .any (opsOf Try.f63 1)=impl_compareMarks.T1:=by kernel_rfl
theorem impl_compareMarks.bits1:waitsOk impl_compareMarks.T1.2 impl_compareMarks.B1=true:=by kernel_rfl
set_option maxHeartbeats 8000000 in
set_option maxRecDepth 100000 in
theorem impl_compareMarks.calls (k:Nat)(a0_0 a0_1 a1_0 a1_1 r:Int) (w:World) (h:impl_compareMarks.f k a0_0 a0_1 a1_0 a1_1=some r) :
    Calls Try.prog 63 #[.agg #[i_ a0_0,i_ a0_1],.agg #[i_ a1_0,i_ a1_1]] w fun e w'=>e=.returned (i_ r)∧Below w.heap.size w w':=by
  have hu47:=Try.underlying47;have HB:=am_ (Below.refl w.heap.size w);unfold impl_compareMarks.f at h;have H:=h;clear h;replace H:=bi_ H;obtain⟨D,O,H⟩:=H;have A3:=am_ O;clear O;replace H:=bi_ H;obtain⟨E,R,H⟩:=H;have A4:=am_ R;clear R;obtain⟨I,F⟩:∃ y_:List Int,y_=(([D,E]:List Int)):=⟨_,rfl⟩;(replace H:((cmp_Or_int.f k I).bind fun J=>(some J))=some r:=by first|(rw[F];with_reducible exact H)|(have H2_:=(Option.bind_some _ _).symm.trans H;rw[F];with_reducible exact H2_)|(have H2_:=(Option.bind_some _ _).symm.trans H;with_reducible exact H2_)|with_reducible exact H|(rw[F];exact H)|exact H);have U:=am_ F;clear F;replace H:=bi_ H;obtain⟨J,V,H⟩:=H;have A5:=am_ V;clear V;obtain rfl:=Option.some.inj H
  go_enter Try.func63,Try.ntmps63
  (try go_wp2_with (first|((with_reducible refine gate_dst (N:=2) rfl ?_);refine be_ 2 #[i_ a0_0,i_ a0_1] 47 ?_;intro X hg w6 hbox hb;have B:=am_ hbox;have Ba:=wk_ hg HB;replace HB:=hs_ HB hb;have Bb:=Ba;clear hb hbox hg)|((with_reducible refine gate_dst (N:=3) rfl ?_);refine be_ 3 #[i_ a1_0,i_ a1_1] 47 ?_;intro Y hg w7 hbox hb;have C:=am_ hbox;have Bc:=wk_ hg HB;replace HB:=hs_ HB hb;have Bd:=Bc;have Be:=nk_ hg B;replace B:=bb_ B hb;have Bh:=ny_ Be;clear hb hbox hg)));replace B:=am_ (blk_drew B.out);replace C:=am_ (blk_drew C.out);replace HB:=am_ (below_drew1 HB.out);refine start_ (n:=13) (S:=fun w'=>w'.cell? ⟨X,0,none⟩=some (i_ a0_0)∧w'.cell? ⟨X,1,none⟩=some (i_ a0_1)∧w'.cell? ⟨Y,0,none⟩=some (i_ a1_0)∧w'.cell? ⟨Y,1,none⟩=some (i_ a1_1)) (ds:=[]) #[n_,n_,n_,n_,n_,n_,n_,n_,n_,n_,n_,n_,n_] (by kernel_rfl) rfl rfl ⟨cl_ B.out 0,cl_ B.out 1,cl_ C.out 0,cl_ C.out 1⟩ (fun hHeld=>?_);refine with_tabW impl_compareMarks.tab1 impl_compareMarks.bits1 (fun HT_ HW_=>?_);generalize w7.drew=w8 at B C HB hHeld ⊢;refine pj_ 0 5 13 1 HT_ ?_;refine pj_ 2 7 13 5 HT_ ?_;refine pj_ 5 10 13 37 HT_ ?_;refine pj_ 7 12 13 165 HT_ ?_;refine tj_ 1 6 13 167 HT_ HW_ (v:=?_) (a':=?_) ?_ hHeld ?_ ?_;rotate_left;(rintro w' ⟨s0,s1,s2,s3⟩;go_simp;(with_reducible rfl));rotate_left;(exact pe_);refine tj_ 3 8 13 175 HT_ HW_ (v:=?_) (a':=?_) ?_ hHeld ?_ ?_;rotate_left;(rintro w' ⟨s0,s1,s2,s3⟩;go_simp;(with_reducible rfl));rotate_left;(exact pe_);refine tj_ 6 11 13 239 HT_ HW_ (v:=?_) (a':=?_) ?_ hHeld ?_ ?_;rotate_left;(rintro w' ⟨s0,s1,s2,s3⟩;go_simp;(with_reducible rfl));rotate_left;(exact pe_);refine tj_ 8 13 13 495 HT_ HW_ (v:=?_) (a':=?_) ?_ hHeld ?_ ?_;rotate_left;(rintro w' ⟨s0,s1,s2,s3⟩;go_simp;(with_reducible rfl));rotate_left;(exact pe_);refine oe_ 4 (bs_ 13 511) HT_ (fun K hK=>?_);refine goes_ Try.func76 (by kernel_rfl) rfl #[i_ a0_0,i_ a1_0] (by rfl) rfl rfl mp_ ?_;(with_reducible refine(cmp_Compare_int.calls a0_0 a1_0 D _ A3.out).mono ?_);rintro e w' ⟨rfl,⟨nd,rfl⟩⟩;refine⟨_,rfl,?_⟩;refine hK.out _ _ ⟨cl_ B.out 0,cl_ B.out 1,cl_ C.out 0,cl_ C.out 1⟩ (fun hHeld=>?_);clear hK K;refine nr_ ?_;refine oe_ 9 (bs_ 13 1023) HT_ (fun K hK=>?_);refine goes_ Try.func76 (by kernel_rfl) rfl #[i_ a0_1,i_ a1_1] (by rfl) rfl rfl mp_ ?_;(with_reducible refine(cmp_Compare_int.calls a0_1 a1_1 E _ A4.out).mono ?_);rintro e w' ⟨rfl,⟨nd,rfl⟩⟩;refine⟨_,rfl,?_⟩;refine hK.out _ _ ⟨cl_ B.out 0,cl_ B.out 1,cl_ C.out 0,cl_ C.out 1⟩ (fun hHeld=>?_);clear hK K;refine nr_ ?_;refine oe_ 10 (bs_ 13 2047) HT_ (fun K hK=>?_);refine Kd.R_lit_step (Kd.int .i64) _ 3 ?hg (N:=15) ?hd (xs:=([D,E]:List Int)) (inner:=[i_ D,i_ E]) (ok:=fun _=>True) (okp:=fun _=>True) ?hr ?hp (fun _ hk=>hk) trivial (Below.refl _ _) (Nat.le_refl _) (by simp) ?_;(case hd=>rfl);(case hg=>rfl);(case hr=>first|(go_simp;done)|(go_simp;rfl));(case hp=>exact(Reps.one (show Kd.M (Kd.int .i64) _ _ _ D [i_ D] from rfl) (Reps.one (show Kd.M (Kd.int .i64) _ _ _ E [i_ E] from rfl) (Reps.none _ _))));intro v509 w9 G hb hg_ hnew_;clear hg_ hnew_;(first|rw[← U.out]at G|(simp only[Int.reduceToNat]at G;rw[← U.out]at G));have L:=am_ (Kd.R_lower G (below_size (hbw_ HB)));replace B:=bb_ B hb;replace C:=bb_ C hb;replace HB:=hs_ HB hb;clear hb G;obtain⟨Bf,Bg,Z⟩:=Kd.R_slice L.out;(first|subst Z|(injection Z with f1_ f2_ f3_;have f4_:=f1_.symm;have f5_:=f3_.symm;clear f1_ f2_ f3_;subst f4_;subst f5_));refine hK.out _ _ ⟨cl_ B.out 0,cl_ B.out 1,cl_ C.out 0,cl_ C.out 1⟩ (fun hHeld=>?_);clear hK K;refine nr_ ?_;refine oe_ 11 (bs_ 13 4095) HT_ (fun K hK=>?_);refine goes_ Try.func75 (by kernel_rfl) rfl #[.slice Bf I.length Bg] (by rfl) rfl rfl mp_ ?_;(with_reducible refine(cmp_Or_int.calls k _ _ I J _ ?side1 ?side2 A5.out).mono ?_);(case side1=>repeat(first|exact(Kd.R_reads' L.out).2.2|(with_reducible refine Kd.C_alloc ?_ _)|(with_reducible refine Kd.C_drewN ?_ _)|(with_reducible refine Kd.C_drew ?_)));(case side2=>exact(Kd.R_reads' L.out).2.1);rintro e w' ⟨rfl,⟨nd,rfl⟩⟩;refine⟨_,rfl,?_⟩;refine hK.out _ _ ⟨cl_ B.out 0,cl_ B.out 1,cl_ C.out 0,cl_ C.out 1⟩ (fun hHeld=>?_);clear hK K;refine nr_ ?_;refine pj_ 12 4 13 8191 HT_ ?_;refine dn_ HT_.out ?_;(try go_wp2);go_ret;exact⟨ew_,hq2_ HB.out Bb.out Bd.out⟩

end Go.Proofs.Ytacdaekigoldaaa.PFnExclusion
