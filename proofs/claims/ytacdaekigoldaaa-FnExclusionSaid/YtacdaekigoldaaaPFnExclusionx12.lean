-- Printed by my own myprint.py out of the translation of the seat Ytacdaekigoldaaa. Not trusted: Lean checks it.
import Derived.Test.YtacdaekigoldaaaPFnExclusionx0
import Derived.Test.YtacdaekigoldaaaPFnExclusionx10
import Derived.Test.YtacdaekigoldaaaPFnExclusionx11
namespace Go.Proofs.Ytacdaekigoldaaa.PFnExclusion
open Go.RowKit Go.Proofs.YtacdaekigoldaaaW.PrintWords Go.Proofs.YtacdaekigoldaaaW.PrintLast Go.Proofs.YtacdaekigoldaaaW.PrintMore
attribute [local go_sem] max2_int min2_int max_two min_two max_three min_three max_four min_four   -- for this text's walks alone
set_option linter.unusedVariables false
set_option linter.unusedSimpArgs false

/-! ### impl_areReads: function 38 -/
mutual
def impl_areReads.l0:Nat→List (S47)→List (S47)→Int→Int→Option (Bool)
  | 0,_,_,_,_=>none
  | k+1,x0,x5,x6,x7=>if x7 < x6 then (if 0≤x7 then (if x7 < (x5.length:Int) then ((impl_isKey.f ((rd_T47 x5 x7).f0)).bind fun t514=>(if t514=true then ((impl_in.f ((rd_T47 x5 x7).f1) 0 999).bind fun t515=>(if t515=true then (if x7 > 0 then (if 0≤(wrap64 (x7 - 1)) then (if (wrap64 (x7 - 1)) < (x0.length:Int) then ((impl_compareMarks.f k ((rd_T47 x0 (wrap64 (x7 - 1))).f0) ((rd_T47 x0 (wrap64 (x7 - 1))).f1) ((rd_T47 x5 x7).f0) ((rd_T47 x5 x7).f1)).bind fun t517=>(impl_areReads.j1 k x0 x5 x6 x7 (decide (t517 ≥ 0)))) else (none)) else (none)) else (impl_areReads.j1 k x0 x5 x6 x7 false)) else (impl_areReads.j1 k x0 x5 x6 x7 true))) else (impl_areReads.j1 k x0 x5 x6 x7 true))) else (none)) else (none)) else (some (decide ((x0.length:Int)≤60)))
def impl_areReads.j1:Nat→List (S47)→List (S47)→Int→Int→Bool→Option (Bool)
  | 0,_,_,_,_,_=>none
  | k+1,x0,x5,x6,x7,x35=>if x35=true then (some false) else (impl_areReads.l0 k x0 x5 x6 (wrap64 (x7+1)))
end
def impl_areReads.f (k:Nat) (l0:List (S47)):Option (Bool):=impl_areReads.l0 k l0 l0 (l0.length:Int) 0
theorem impl_areReads.mono_l:∀ k,(∀ y0 y1 y2 y3,LeO (impl_areReads.l0 k y0 y1 y2 y3) (impl_areReads.l0 (k+1) y0 y1 y2 y3))∧(∀ y0 y1 y2 y3 y4,LeO (impl_areReads.j1 k y0 y1 y2 y3 y4) (impl_areReads.j1 (k+1) y0 y1 y2 y3 y4))
  | 0=>⟨fun _ _ _ _ r h=>by simp [impl_areReads.l0]at h,fun _ _ _ _ _ r h=>by simp [impl_areReads.j1]at h⟩
  | k+1=>by
    obtain⟨ih0,ih1⟩:=impl_areReads.mono_l k;refine⟨?_,?_⟩
    · intro y0 y1 y2 y3;unfold impl_areReads.l0
      repeat' first
      | (with_reducible first|apply ih0|apply ih1|apply impl_compareMarks.mono|exact LeO.refl _|exact LeO.none _|refine LeO.ite ?_ ?_|refine LeO.bind ?_ (fun _=>?_))
    · intro y0 y1 y2 y3 y4;unfold impl_areReads.j1
      repeat' first
      | (with_reducible first|apply ih0|apply ih1|apply impl_compareMarks.mono|exact LeO.refl _|exact LeO.none _|refine LeO.ite ?_ ?_|refine LeO.bind ?_ (fun _=>?_))
theorem impl_areReads.mono:∀ a0 k,LeO (impl_areReads.f k a0) (impl_areReads.f (k+1) a0):=by
  intro a0 k;obtain⟨ih0,ih1⟩:=impl_areReads.mono_l k;unfold impl_areReads.f
  repeat' first
      | (with_reducible first|apply ih0|apply ih1|apply impl_compareMarks.mono|exact LeO.refl _|exact LeO.none _|refine LeO.ite ?_ ?_|refine LeO.bind ?_ (fun _=>?_))
def impl_areReads.T4:Bool × List (List Nat × List Nat):=(true,[([],[]),([0],[0]),([1],[1]),([2],[2]),([3,2],[3]),([4],[4]),([5,4],[4,5]),([6,4,4],[4,6]),([7,4],[4,7]),([4,8],[4,8]),([9,7],[9]),([10],[10]),([11,10],[10,11]),([12,10,10],[10,12]),([13],[13]),([13],[13]),([15,13],[13,15]),([14,16,13],[13,14,16]),([17,13],[13,17]),([13],[13]),([18,19,13,13],[13,18,19]),([20,13],[13,20]),([13,21,10],[10,13,21]),([10,22],[10,22])])
def impl_areReads.B4:List Nat:=[0,1,3,7,15,31,63,127,255,511,1023,2047,4095,8191,16383,16383,49151,131071,262143,16383,1048575,2097151,4194303,8388607]
theorem impl_areReads.tab4:rtab .any (opsOf Try.f38 4)=impl_areReads.T4:=by kernel_rfl
theorem impl_areReads.bits4:waitsOk impl_areReads.T4.2 impl_areReads.B4=true:=by kernel_rfl
set_option maxHeartbeats 8000000 in
set_option maxRecDepth 100000 in
theorem impl_areReads.calls (k:Nat)(A0:Option Addr)(c0:Nat) (l0:List (S47)) (r:Bool) (w:World) (hr0:Kd.C k47 w A0 l0.length l0) (hc0:l0.length≤c0) (h:impl_areReads.f k l0=some r) :
    Calls Try.prog 38 #[.slice A0 l0.length c0] w fun e w'=>e=.returned (.bool r)∧Below w.heap.size w w':=by
  have hu47:=Try.underlying47;have Bf:=am_ hr0;have Bx:=am_ hc0;clear hr0 hc0;have HB:=am_ (Below.refl w.heap.size w);unfold impl_areReads.f at h;have H:=h;clear h;have H':=am_ H;clear H
  go_enter Try.func38,Try.ntmps38
  go_wp2
  go_loopg [7] k (fun kq v7 w'=>∃ (B:Int),v7=i_ B∧Aside0 (impl_areReads.l0 kq l0 l0 (l0.length:Int) B=some r)∧Aside0 (kq≤k)∧Aside0 (Below w.heap.size w w'))
  case atStart=>exact⟨(0),rs_,H',⟨Nat.le_refl _⟩,⟨hbw_ HB⟩⟩
  case round=>
    clear H';obtain⟨B,rfl,HA,HK1,HB⟩:=hrel
    cases gk with
    | zero=>exact absurd HA.out (by simp [impl_areReads.l0])
    | succ k1=>
      have H:=HA.out;clear HA;simp only[impl_areReads.l0]at H
      by_cases c2:B < (l0.length:Int)
      · rw[if_pos c2]at H;have Bm:decide (B < (l0.length:Int))=true:=decide_eq_true c2;clear c2
        by_cases c3:0≤B
        · rw[if_pos c3]at H;have By:decide (0≤B)=true:=decide_eq_true c3;clear c3
          by_cases c4:B < (l0.length:Int)
          · rw[if_pos c4]at H;have Bz:decide (B < (l0.length:Int))=true:=decide_eq_true c4;clear c4;have Ba:=am_ H;clear H;have Bb:0≤(B:Int):=of_decide_eq_true as_;have Bc:B < (l0.length:Int):=of_decide_eq_true as_;obtain⟨L,e512,Bg,Bh⟩:=at_T47 Bf.out B Bb Bc
            cases e512
            replace Bg:=bl_ HB.out Bg;replace Bh:=bl_ HB.out Bh;replace Bb:=eq_true Bb;replace Bc:=eq_true Bc
            go_upto_region 4 with (first|((with_reducible refine gate_dst (N:=4) rfl ?_);refine be_ 4 #[i_ 0,i_ 0] 47 ?_;intro E hg w6 hbox hb;have D:=am_ hbox;have Bn:=wk_ hg HB;replace HB:=hs_ HB hb;have Bo:=Bn;clear hb hbox hg;have B0:=bc2_ D.out;have B1:=bf2_ D.out))
            (try simp only[Act.put,List.setIfInBounds_toArray,List.set_cons_zero,List.set_cons_succ])
            go_cut [35] (fun v35 wc=>∃ (kq:Nat)(M:Bool),v35=.bool M∧Aside0 (impl_areReads.j1 kq l0 l0 (l0.length:Int) B M=some r)∧Aside0 (kq≤k1)∧Aside0 (wc.heap[E]? = some (.cells #[i_ ((rd_T47 l0 B).f0),i_ ((rd_T47 l0 B).f1)] 47 (0,0)))∧Aside0 (Below w.heap.size w wc))
            case first=>
              have H:=Ba.out;clear Ba;replace H:=bi_ H;obtain⟨Bp,Bi,H⟩:=H;have A8:=am_ Bi;clear Bi
              by_cases c9:Bp=true
              · subst c9;rw[if_pos rfl]at H;replace H:=bi_ H;obtain⟨Bq,Bj,H⟩:=H;have O:=am_ Bj;clear Bj
                by_cases R:Bq=true
                · subst R;rw[if_pos rfl]at H
                  by_cases G:B > 0
                  · rw[if_pos G]at H;have I:decide (0 < B)=true:=decide_eq_true G;clear G;(first|rw[I]|(simp only[i64_w,i32_w];rw[I])|skip);obtain⟨F,J⟩:∃ j_:Int,(wrap64 (B - 1))=j_:=⟨_,rfl⟩;(first|rw[J]at H|simp only[J]at H);(try rw[J]at A8);(try rw[J]at O);have B2:(IntKind.i64.wrap (B - 1))=F:=(i64_w _).trans J
                    by_cases U:0≤(F)
                    · rw[if_pos U]at H;have B3:decide (0≤(F))=true:=decide_eq_true U;clear U
                      by_cases V:(F) < (l0.length:Int)
                      · rw[if_pos V]at H;have B4:decide ((F) < (l0.length:Int))=true:=decide_eq_true V;clear V;replace H:=bi_ H;obtain⟨Bk,Bl,H⟩:=H;have Br:=am_ Bl;clear Bl;have H':=am_ H;clear H;(try go_wp2);have n0_:Aside0 (((w6.setCell ⟨E,0,none⟩ (i_ ((rd_T47 l0 B).f0))).setCell ⟨E,1,none⟩ (i_ ((rd_T47 l0 B).f1))).heap[E]? = some (.cells #[i_ ((rd_T47 l0 B).f0),i_ ((rd_T47 l0 B).f1)] 47 (0,0))):=⟨bz2_ D.out⟩;have n1_:Aside0 (Below w.heap.size w ((w6.setCell ⟨E,0,none⟩ (i_ ((rd_T47 l0 B).f0))).setCell ⟨E,1,none⟩ (i_ ((rd_T47 l0 B).f1)))):=⟨hbw_ HB⟩;(try clear D);(try clear HB);generalize ((w6.setCell ⟨E,0,none⟩ (i_ ((rd_T47 l0 B).f0))).setCell ⟨E,1,none⟩ (i_ ((rd_T47 l0 B).f1)))=Bs at n0_ n1_ ⊢;have D:=n0_;have HB:=n1_;clear n0_ n1_;replace D:=am_ (blk_drew D.out);replace HB:=am_ (below_drew1 HB.out);have Bd:0≤((F):Int):=of_decide_eq_true as_;have Be:(F) < (l0.length:Int):=of_decide_eq_true as_;obtain⟨Bt,e516,X,Y⟩:=at_T47 Bf.out (F) Bd Be;have hw516_1:=Y;have hw516_0:=X;obtain rfl:L=Bt:=(by injection e516);replace X:=bl_ HB.out X;replace Y:=bl_ HB.out Y;replace Bd:=eq_true Bd;replace Be:=eq_true Be;refine start_ (n:=24) (S:=fun w'=>w'.cell? ⟨E,0,none⟩=some (i_ ((rd_T47 l0 B).f0))∧w'.cell? ⟨E,1,none⟩=some (i_ ((rd_T47 l0 B).f1))∧w'.cell? (L.add (((F)).toNat * 2))=some (i_ ((rd_T47 l0 (F)).f0))∧w'.cell? ⟨(L.add (((F)).toNat * 2)).block,(L.add (((F)).toNat * 2)).off+1,none⟩=some (i_ ((rd_T47 l0 (F)).f1))) (ds:=[]) #[n_,n_,n_,n_,n_,n_,n_,n_,n_,n_,n_,n_,n_,n_,n_,n_,n_,n_,n_,n_,n_,n_,n_,n_] (by kernel_rfl) rfl rfl ⟨cl_ D.out 0,cl_ D.out 1,(bd_ HB.out hw516_0),(bd_ HB.out hw516_1)⟩ (fun hHeld=>?_);refine with_tabW impl_areReads.tab4 impl_areReads.bits4 (fun HT_ HW_=>?_);generalize Bs.drew=B5 at D HB X Y hHeld ⊢;refine pj_ 0 12 24 1 HT_ ?_;refine tj_ 1 13 24 3 HT_ HW_ (v:=?_) (a':=?_) ?_ hHeld ?_ ?_;rotate_left;(rintro w' ⟨s0,s1,s2,s3⟩;go_simp;(with_reducible rfl));rotate_left;(exact pe_);refine oe_ 2 (bs_ 24 7) HT_ (fun K hK=>?_);refine goes_ Try.func62 (by kernel_rfl) rfl #[i_ ((rd_T47 l0 B).f0)] (by rfl) rfl rfl mp_ ?_;(with_reducible refine(impl_isKey.calls ((rd_T47 l0 B).f0) true _ A8.out).mono ?_);rintro e w' ⟨rfl,⟨nd,rfl⟩⟩;refine⟨_,rfl,?_⟩;refine hK.out _ _ ⟨cl_ D.out 0,cl_ D.out 1,(bd_ HB.out hw516_0),(bd_ HB.out hw516_1)⟩ (fun hHeld=>?_);clear hK K;refine nr_ ?_;refine pj_ 3 15 24 15 HT_ ?_;refine pj_ 4 16 24 31 HT_ ?_;refine pj_ 5 17 24 63 HT_ ?_;refine tj_ 6 18 24 127 HT_ HW_ (v:=?_) (a':=?_) ?_ hHeld ?_ ?_;rotate_left;(rintro w' ⟨s0,s1,s2,s3⟩;go_simp;(with_reducible rfl));rotate_left;(exact pe_);refine oe_ 7 (bs_ 24 255) HT_ (fun K hK=>?_);refine goes_ Try.func36 (by kernel_rfl) rfl #[i_ ((rd_T47 l0 B).f1),i_ 0,i_ 999] (by rfl) rfl rfl mp_ ?_;(with_reducible refine(impl_in.calls ((rd_T47 l0 B).f1) 0 999 true _ O.out).mono ?_);rintro e w' ⟨rfl,⟨nd,rfl⟩⟩;refine⟨_,rfl,?_⟩;refine hK.out _ _ ⟨cl_ D.out 0,cl_ D.out 1,(bd_ HB.out hw516_0),(bd_ HB.out hw516_1)⟩ (fun hHeld=>?_);clear hK K;refine nr_ ?_;refine pj_ 8 20 24 511 HT_ ?_;refine pj_ 9 21 24 1023 HT_ ?_;refine pj_ 10 22 24 2047 HT_ ?_;refine pj_ 11 23 24 4095 HT_ ?_;refine pj_ 12 24 24 8191 HT_ ?_;refine pj_ 13 25 24 16383 HT_ ?_;refine pj_ 14 26 24 32767 HT_ ?_;refine pj_ 15 27 24 65535 HT_ ?_;refine pj_ 16 28 24 131071 HT_ ?_;refine pj_ 17 29 24 262143 HT_ ?_;refine tj_ 18 30 24 524287 HT_ HW_ (v:=?_) (a':=?_) ?_ hHeld ?_ ?_;rotate_left;(rintro w' ⟨s0,s1,s2,s3⟩;go_simp;(with_reducible rfl));rotate_left;(exact pe_);refine tj_ 19 31 24 1048575 HT_ HW_ (v:=?_) (a':=?_) ?_ hHeld ?_ ?_;rotate_left;(rintro w' ⟨s0,s1,s2,s3⟩;go_simp;(with_reducible rfl));rotate_left;(exact pe_);refine oe_ 20 (bs_ 24 2097151) HT_ (fun K hK=>?_);refine goes_ Try.func63 (by kernel_rfl) rfl #[.agg #[i_ ((rd_T47 l0 (F)).f0),i_ ((rd_T47 l0 (F)).f1)],.agg #[i_ ((rd_T47 l0 B).f0),i_ ((rd_T47 l0 B).f1)]] (by rfl) rfl rfl (by(try simp only[List.map_toArray,List.map_cons,List.map_nil]);first|done|(simp only[J];rfl)|rfl|(simp only[List.length_drop,List.length_take];rfl)) ?_;(with_reducible refine(impl_compareMarks.calls k1 ((rd_T47 l0 (F)).f0) ((rd_T47 l0 (F)).f1) ((rd_T47 l0 B).f0) ((rd_T47 l0 B).f1) Bk _ Br.out).mono ?_);rintro e B6 ⟨rfl,hb⟩;refine⟨_,rfl,?_⟩;replace D:=bb_ D hb;replace HB:=hs_ HB hb;clear hb;refine hK.out _ _ ⟨cl_ D.out 0,cl_ D.out 1,(bd_ HB.out hw516_0),(bd_ HB.out hw516_1)⟩ (fun hHeld=>?_);clear hK K;refine nr_ ?_;refine pj_ 21 33 24 4194303 HT_ ?_;refine pj_ 22 34 24 8388607 HT_ ?_;refine pj_ 23 35 24 16777215 HT_ ?_;refine dn_ HT_.out ?_;(try go_wp2)
                        go_meet
                        case rel=>exact⟨_,(decide (Bk ≥ 0)),rs_,H',⟨by have:=HK1.out;first|omega|exact Nat.le_refl _⟩,⟨bq_ D.out⟩,⟨hbw_ HB⟩⟩
                      · rw[if_neg V]at H;exact absurd H (by simp)
                    · rw[if_neg U]at H;exact absurd H (by simp)
                  · rw[if_neg G]at H;have I:decide (0 < B)=false:=decide_eq_false G;clear G;(first|rw[I]|(simp only[i64_w,i32_w];rw[I])|skip);have H':=am_ H;clear H;(try go_wp2);have n0_:Aside0 (((w6.setCell ⟨E,0,none⟩ (i_ ((rd_T47 l0 B).f0))).setCell ⟨E,1,none⟩ (i_ ((rd_T47 l0 B).f1))).heap[E]? = some (.cells #[i_ ((rd_T47 l0 B).f0),i_ ((rd_T47 l0 B).f1)] 47 (0,0))):=⟨bz2_ D.out⟩;have n1_:Aside0 (Below w.heap.size w ((w6.setCell ⟨E,0,none⟩ (i_ ((rd_T47 l0 B).f0))).setCell ⟨E,1,none⟩ (i_ ((rd_T47 l0 B).f1)))):=⟨hbw_ HB⟩;(try clear D);(try clear HB);generalize ((w6.setCell ⟨E,0,none⟩ (i_ ((rd_T47 l0 B).f0))).setCell ⟨E,1,none⟩ (i_ ((rd_T47 l0 B).f1)))=Bu at n0_ n1_ ⊢;have D:=n0_;have HB:=n1_;clear n0_ n1_;replace D:=am_ (blk_drew D.out);replace HB:=am_ (below_drew1 HB.out);refine start_ (n:=24) (S:=fun w'=>w'.cell? ⟨E,0,none⟩=some (i_ ((rd_T47 l0 B).f0))∧w'.cell? ⟨E,1,none⟩=some (i_ ((rd_T47 l0 B).f1))) (ds:=[]) #[n_,n_,n_,n_,n_,n_,n_,n_,n_,n_,n_,n_,n_,n_,n_,n_,n_,n_,n_,n_,n_,n_,n_,n_] (by kernel_rfl) rfl rfl ⟨cl_ D.out 0,cl_ D.out 1⟩ (fun hHeld=>?_);refine with_tabW impl_areReads.tab4 impl_areReads.bits4 (fun HT_ HW_=>?_);generalize Bu.drew=B7 at D HB hHeld ⊢;refine pj_ 0 12 24 1 HT_ ?_;refine tj_ 1 13 24 3 HT_ HW_ (v:=?_) (a':=?_) ?_ hHeld ?_ ?_;rotate_left;(rintro w' ⟨s0,s1⟩;go_simp;(with_reducible rfl));rotate_left;(exact pe_);refine oe_ 2 (bs_ 24 7) HT_ (fun K hK=>?_);refine goes_ Try.func62 (by kernel_rfl) rfl #[i_ ((rd_T47 l0 B).f0)] (by rfl) rfl rfl mp_ ?_;(with_reducible refine(impl_isKey.calls ((rd_T47 l0 B).f0) true _ A8.out).mono ?_);rintro e w' ⟨rfl,⟨nd,rfl⟩⟩;refine⟨_,rfl,?_⟩;refine hK.out _ _ ⟨cl_ D.out 0,cl_ D.out 1⟩ (fun hHeld=>?_);clear hK K;refine nr_ ?_;refine pj_ 3 15 24 15 HT_ ?_;refine pj_ 4 16 24 31 HT_ ?_;refine pj_ 5 17 24 63 HT_ ?_;refine tj_ 6 18 24 127 HT_ HW_ (v:=?_) (a':=?_) ?_ hHeld ?_ ?_;rotate_left;(rintro w' ⟨s0,s1⟩;go_simp;(with_reducible rfl));rotate_left;(exact pe_);refine oe_ 7 (bs_ 24 255) HT_ (fun K hK=>?_);refine goes_ Try.func36 (by kernel_rfl) rfl #[i_ ((rd_T47 l0 B).f1),i_ 0,i_ 999] (by rfl) rfl rfl mp_ ?_;(with_reducible refine(impl_in.calls ((rd_T47 l0 B).f1) 0 999 true _ O.out).mono ?_);rintro e w' ⟨rfl,⟨nd,rfl⟩⟩;refine⟨_,rfl,?_⟩;refine hK.out _ _ ⟨cl_ D.out 0,cl_ D.out 1⟩ (fun hHeld=>?_);clear hK K;refine nr_ ?_;refine pj_ 8 20 24 511 HT_ ?_;refine pj_ 9 21 24 1023 HT_ ?_;refine pj_ 10 22 24 2047 HT_ ?_;refine pj_ 11 23 24 4095 HT_ ?_;refine pj_ 12 24 24 8191 HT_ ?_;refine pj_ 13 25 24 16383 HT_ ?_;refine pu_ 14 26 24 32767 HT_ ?_;refine pu_ 15 27 24 65535 HT_ ?_;refine pu_ 16 28 24 131071 HT_ ?_;refine pu_ 17 29 24 262143 HT_ ?_;refine pu_ 18 30 24 524287 HT_ ?_;refine pu_ 19 31 24 1048575 HT_ ?_;refine pu_ 20 32 24 2097151 HT_ ?_;refine pu_ 21 33 24 4194303 HT_ ?_;refine pj_ 22 34 24 8388607 HT_ ?_;refine pj_ 23 35 24 16777215 HT_ ?_;refine dn_ HT_.out ?_;(try go_wp2)
                    go_meet
                    case rel=>exact⟨_,(false),rs_,H',⟨by have:=HK1.out;first|omega|exact Nat.le_refl _⟩,⟨bq_ D.out⟩,⟨hbw_ HB⟩⟩
                · replace R:=Bool.eq_false_iff.mpr R;subst R;rw[if_neg nt_]at H;have H':=am_ H;clear H;(try go_wp2);have n0_:Aside0 (((w6.setCell ⟨E,0,none⟩ (i_ ((rd_T47 l0 B).f0))).setCell ⟨E,1,none⟩ (i_ ((rd_T47 l0 B).f1))).heap[E]? = some (.cells #[i_ ((rd_T47 l0 B).f0),i_ ((rd_T47 l0 B).f1)] 47 (0,0))):=⟨bz2_ D.out⟩;have n1_:Aside0 (Below w.heap.size w ((w6.setCell ⟨E,0,none⟩ (i_ ((rd_T47 l0 B).f0))).setCell ⟨E,1,none⟩ (i_ ((rd_T47 l0 B).f1)))):=⟨hbw_ HB⟩;(try clear D);(try clear HB);generalize ((w6.setCell ⟨E,0,none⟩ (i_ ((rd_T47 l0 B).f0))).setCell ⟨E,1,none⟩ (i_ ((rd_T47 l0 B).f1)))=Bv at n0_ n1_ ⊢;have D:=n0_;have HB:=n1_;clear n0_ n1_;replace D:=am_ (blk_drew D.out);replace HB:=am_ (below_drew1 HB.out);refine start_ (n:=24) (S:=fun w'=>w'.cell? ⟨E,0,none⟩=some (i_ ((rd_T47 l0 B).f0))∧w'.cell? ⟨E,1,none⟩=some (i_ ((rd_T47 l0 B).f1))) (ds:=[]) #[n_,n_,n_,n_,n_,n_,n_,n_,n_,n_,n_,n_,n_,n_,n_,n_,n_,n_,n_,n_,n_,n_,n_,n_] (by kernel_rfl) rfl rfl ⟨cl_ D.out 0,cl_ D.out 1⟩ (fun hHeld=>?_);refine with_tabW impl_areReads.tab4 impl_areReads.bits4 (fun HT_ HW_=>?_);generalize Bv.drew=B8 at D HB hHeld ⊢;refine pj_ 0 12 24 1 HT_ ?_;refine tj_ 1 13 24 3 HT_ HW_ (v:=?_) (a':=?_) ?_ hHeld ?_ ?_;rotate_left;(rintro w' ⟨s0,s1⟩;go_simp;(with_reducible rfl));rotate_left;(exact pe_);refine oe_ 2 (bs_ 24 7) HT_ (fun K hK=>?_);refine goes_ Try.func62 (by kernel_rfl) rfl #[i_ ((rd_T47 l0 B).f0)] (by rfl) rfl rfl mp_ ?_;(with_reducible refine(impl_isKey.calls ((rd_T47 l0 B).f0) true _ A8.out).mono ?_);rintro e w' ⟨rfl,⟨nd,rfl⟩⟩;refine⟨_,rfl,?_⟩;refine hK.out _ _ ⟨cl_ D.out 0,cl_ D.out 1⟩ (fun hHeld=>?_);clear hK K;refine nr_ ?_;refine pj_ 3 15 24 15 HT_ ?_;refine pj_ 4 16 24 31 HT_ ?_;refine pj_ 5 17 24 63 HT_ ?_;refine tj_ 6 18 24 127 HT_ HW_ (v:=?_) (a':=?_) ?_ hHeld ?_ ?_;rotate_left;(rintro w' ⟨s0,s1⟩;go_simp;(with_reducible rfl));rotate_left;(exact pe_);refine oe_ 7 (bs_ 24 255) HT_ (fun K hK=>?_);refine goes_ Try.func36 (by kernel_rfl) rfl #[i_ ((rd_T47 l0 B).f1),i_ 0,i_ 999] (by rfl) rfl rfl mp_ ?_;(with_reducible refine(impl_in.calls ((rd_T47 l0 B).f1) 0 999 false _ O.out).mono ?_);rintro e w' ⟨rfl,⟨nd,rfl⟩⟩;refine⟨_,rfl,?_⟩;refine hK.out _ _ ⟨cl_ D.out 0,cl_ D.out 1⟩ (fun hHeld=>?_);clear hK K;refine nr_ ?_;refine pj_ 8 20 24 511 HT_ ?_;refine pj_ 9 21 24 1023 HT_ ?_;refine pj_ 10 22 24 2047 HT_ ?_;refine pu_ 11 23 24 4095 HT_ ?_;refine pu_ 12 24 24 8191 HT_ ?_;refine pu_ 13 25 24 16383 HT_ ?_;refine pu_ 14 26 24 32767 HT_ ?_;refine pu_ 15 27 24 65535 HT_ ?_;refine pu_ 16 28 24 131071 HT_ ?_;refine pu_ 17 29 24 262143 HT_ ?_;refine pu_ 18 30 24 524287 HT_ ?_;refine pu_ 19 31 24 1048575 HT_ ?_;refine pu_ 20 32 24 2097151 HT_ ?_;refine pu_ 21 33 24 4194303 HT_ ?_;refine pu_ 22 34 24 8388607 HT_ ?_;refine pj_ 23 35 24 16777215 HT_ ?_;refine dn_ HT_.out ?_;(try go_wp2)
                  go_meet
                  case rel=>exact⟨_,(true),rs_,H',⟨by have:=HK1.out;first|omega|exact Nat.le_refl _⟩,⟨bq_ D.out⟩,⟨hbw_ HB⟩⟩
              · replace c9:=Bool.eq_false_iff.mpr c9;subst c9;rw[if_neg nt_]at H;have H':=am_ H;clear H;(try go_wp2);have n0_:Aside0 (((w6.setCell ⟨E,0,none⟩ (i_ ((rd_T47 l0 B).f0))).setCell ⟨E,1,none⟩ (i_ ((rd_T47 l0 B).f1))).heap[E]? = some (.cells #[i_ ((rd_T47 l0 B).f0),i_ ((rd_T47 l0 B).f1)] 47 (0,0))):=⟨bz2_ D.out⟩;have n1_:Aside0 (Below w.heap.size w ((w6.setCell ⟨E,0,none⟩ (i_ ((rd_T47 l0 B).f0))).setCell ⟨E,1,none⟩ (i_ ((rd_T47 l0 B).f1)))):=⟨hbw_ HB⟩;(try clear D);(try clear HB);generalize ((w6.setCell ⟨E,0,none⟩ (i_ ((rd_T47 l0 B).f0))).setCell ⟨E,1,none⟩ (i_ ((rd_T47 l0 B).f1)))=Bw at n0_ n1_ ⊢;have D:=n0_;have HB:=n1_;clear n0_ n1_;replace D:=am_ (blk_drew D.out);replace HB:=am_ (below_drew1 HB.out);refine start_ (n:=24) (S:=fun w'=>w'.cell? ⟨E,0,none⟩=some (i_ ((rd_T47 l0 B).f0))∧w'.cell? ⟨E,1,none⟩=some (i_ ((rd_T47 l0 B).f1))) (ds:=[]) #[n_,n_,n_,n_,n_,n_,n_,n_,n_,n_,n_,n_,n_,n_,n_,n_,n_,n_,n_,n_,n_,n_,n_,n_] (by kernel_rfl) rfl rfl ⟨cl_ D.out 0,cl_ D.out 1⟩ (fun hHeld=>?_);refine with_tabW impl_areReads.tab4 impl_areReads.bits4 (fun HT_ HW_=>?_);generalize Bw.drew=B9 at D HB hHeld ⊢;refine pj_ 0 12 24 1 HT_ ?_;refine tj_ 1 13 24 3 HT_ HW_ (v:=?_) (a':=?_) ?_ hHeld ?_ ?_;rotate_left;(rintro w' ⟨s0,s1⟩;go_simp;(with_reducible rfl));rotate_left;(exact pe_);refine oe_ 2 (bs_ 24 7) HT_ (fun K hK=>?_);refine goes_ Try.func62 (by kernel_rfl) rfl #[i_ ((rd_T47 l0 B).f0)] (by rfl) rfl rfl mp_ ?_;(with_reducible refine(impl_isKey.calls ((rd_T47 l0 B).f0) false _ A8.out).mono ?_);rintro e w' ⟨rfl,⟨nd,rfl⟩⟩;refine⟨_,rfl,?_⟩;refine hK.out _ _ ⟨cl_ D.out 0,cl_ D.out 1⟩ (fun hHeld=>?_);clear hK K;refine nr_ ?_;refine pj_ 3 15 24 15 HT_ ?_;refine pj_ 4 16 24 31 HT_ ?_;refine pu_ 5 17 24 63 HT_ ?_;refine pu_ 6 18 24 127 HT_ ?_;refine pu_ 7 19 24 255 HT_ ?_;refine pu_ 8 20 24 511 HT_ ?_;refine pj_ 9 21 24 1023 HT_ ?_;refine pj_ 10 22 24 2047 HT_ ?_;refine pu_ 11 23 24 4095 HT_ ?_;refine pu_ 12 24 24 8191 HT_ ?_;refine pu_ 13 25 24 16383 HT_ ?_;refine pu_ 14 26 24 32767 HT_ ?_;refine pu_ 15 27 24 65535 HT_ ?_;refine pu_ 16 28 24 131071 HT_ ?_;refine pu_ 17 29 24 262143 HT_ ?_;refine pu_ 18 30 24 524287 HT_ ?_;refine pu_ 19 31 24 1048575 HT_ ?_;refine pu_ 20 32 24 2097151 HT_ ?_;refine pu_ 21 33 24 4194303 HT_ ?_;refine pu_ 22 34 24 8388607 HT_ ?_;refine pj_ 23 35 24 16777215 HT_ ?_;refine dn_ HT_.out ?_;(try go_wp2)
                go_meet
                case rel=>exact⟨_,(true),rs_,H',⟨by have:=HK1.out;first|omega|exact Nat.le_refl _⟩,⟨bq_ D.out⟩,⟨hbw_ HB⟩⟩
            case rest=>
              clear Ba;(try clear I);obtain⟨kq,M,rfl,HA,HJ4,D,HB⟩:=hcut
              cases kq with
              | zero=>exact absurd HA.out (by simp [impl_areReads.j1])
              | succ kj4=>
                have H:=HA.out;clear HA;simp only[impl_areReads.j1]at H
                by_cases Z:M=true
                · subst Z;rw[if_pos rfl]at H;obtain rfl:=Option.some.inj H
                  go_wp2
                  go_ret;exact⟨ew_,hq1_ HB.out Bo.out⟩
                · replace Z:=Bool.eq_false_iff.mpr Z;subst Z;rw[if_neg nt_]at H;have H':=am_ H;clear H
                  go_wp2
                  go_roundg kj4
                  case measure=>have:=HK1.out;have:=HJ4.out;omega
                  case rel=>exact⟨(wrap64 (B+1)),rs_,H',⟨by have:=HK1.out;have:=HJ4.out;omega⟩,⟨hbw_ HB⟩⟩
          · rw[if_neg c4]at H;exact absurd H (by simp)
        · rw[if_neg c3]at H;exact absurd H (by simp)
      · rw[if_neg c2]at H;have Bm:decide (B < (l0.length:Int))=false:=decide_eq_false c2;clear c2;obtain rfl:=Option.some.inj H
        go_wp2
        go_ret;exact⟨ew_,hq0_ HB.out⟩

end Go.Proofs.Ytacdaekigoldaaa.PFnExclusion
