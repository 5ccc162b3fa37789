-- Printed by my own myprint.py out of the translation of the seat Ytacdaekigoldaaa. Not trusted: Lean checks it.
import Derived.Test.YtacdaekigoldaaaPFnExclusionx0
import Derived.Test.YtacdaekigoldaaaPFnExclusionx1
namespace Go.Proofs.Ytacdaekigoldaaa.PFnExclusion
open Go.RowKit Go.Proofs.YtacdaekigoldaaaW.PrintWords Go.Proofs.YtacdaekigoldaaaW.PrintLast Go.Proofs.YtacdaekigoldaaaW.PrintMore
attribute [local go_sem] max2_int min2_int max_two min_two max_three min_three max_four min_four   -- for this text's walks alone
set_option linter.unusedVariables false
set_option linter.unusedSimpArgs false

attribute [local go_sem high] eqA47
/-! ### spec_HasRead: function 28 -/
def spec_HasRead.l0:Nat→Int→Int→Int→Int→Int→Int→Int→Int→List (S47)→List (S58)→Int→Int→Option (Bool)
  | 0,_,_,_,_,_,_,_,_,_,_,_,_=>none
  | k+1,x5,x749000,x749001,x749002,x749003,x749004,x749005,x749006,x749007,x749008,x750000,x750001=>if x5 < (x749007.length:Int) then (if 0≤x5 then (if (((rd_T47 x749007 x5).f0) == x750000 && (((rd_T47 x749007 x5).f1) == x750001))=true then (some true) else (spec_HasRead.l0 k (wrap64 (x5+1)) x749000 x749001 x749002 x749003 x749004 x749005 x749006 x749007 x749008 x750000 x750001)) else (none)) else (some false)
def spec_HasRead.f (k:Nat)(a0_0 a0_1 a0_2 a0_3 a0_4 a0_5 a0_6:Int) (l0_7:List (S47)) (l0_8:List (S58)) (a1_0 a1_1:Int):Option (Bool):=spec_HasRead.l0 k 0 a0_0 a0_1 a0_2 a0_3 a0_4 a0_5 a0_6 l0_7 l0_8 a1_0 a1_1
theorem spec_HasRead.mono_l:∀ k,(∀ y0 y1 y2 y3 y4 y5 y6 y7 y8 y9 y10 y11,LeO (spec_HasRead.l0 k y0 y1 y2 y3 y4 y5 y6 y7 y8 y9 y10 y11) (spec_HasRead.l0 (k+1) y0 y1 y2 y3 y4 y5 y6 y7 y8 y9 y10 y11))
  | 0=>fun _ _ _ _ _ _ _ _ _ _ _ _ r h=>by simp [spec_HasRead.l0]at h
  | k+1=>by
    have ih0:=spec_HasRead.mono_l k
    · intro y0 y1 y2 y3 y4 y5 y6 y7 y8 y9 y10 y11;unfold spec_HasRead.l0
      repeat' first
      | (with_reducible first|apply ih0|exact LeO.refl _|exact LeO.none _|refine LeO.ite ?_ ?_|refine LeO.bind ?_ (fun _=>?_))
theorem spec_HasRead.mono:∀ a0 a1 a2 a3 a4 a5 a6 a7 a8 a9 a10 k,LeO (spec_HasRead.f k a0 a1 a2 a3 a4 a5 a6 a7 a8 a9 a10) (spec_HasRead.f (k+1) a0 a1 a2 a3 a4 a5 a6 a7 a8 a9 a10):=by
  intro a0 a1 a2 a3 a4 a5 a6 a7 a8 a9 a10 k;have ih0:=spec_HasRead.mono_l k;unfold spec_HasRead.f
  repeat' first
      | (with_reducible first|apply ih0|exact LeO.refl _|exact LeO.none _|refine LeO.ite ?_ ?_|refine LeO.bind ?_ (fun _=>?_))
set_option maxHeartbeats 8000000 in
set_option maxRecDepth 100000 in
theorem spec_HasRead.calls (k:Nat)(a0_0 a0_1 a0_2 a0_3 a0_4 a0_5 a0_6:Int)(J:Option Addr)(L:Nat) (l0_7:List (S47)) (M:Option Addr)(O:Nat) (l0_8:List (S58)) (a1_0 a1_1:Int)(r:Bool) (w:World) (hr0_7:Kd.C k47 w J l0_7.length l0_7) (hc0_7:l0_7.length≤L) (hr0_8:Kd.C k58 w M l0_8.length l0_8) (hc0_8:l0_8.length≤O) (h:spec_HasRead.f k a0_0 a0_1 a0_2 a0_3 a0_4 a0_5 a0_6 l0_7 l0_8 a1_0 a1_1=some r) :
    Calls Try.prog 28 #[.agg #[i_ a0_0,i_ a0_1,i_ a0_2,i_ a0_3,i_ a0_4,i_ a0_5,i_ a0_6,.slice J l0_7.length L,.slice M l0_8.length O],.agg #[i_ a1_0,i_ a1_1]] w fun e w'=>e=.returned (.bool r)∧Below w.heap.size w w':=by
  have hu29:=Try.underlying29;have hu47:=Try.underlying47;have Bd:=am_ hr0_7;have Bj:=am_ hc0_7;clear hr0_7 hc0_7;have Bk:=am_ hr0_8;have Bl:=am_ hc0_8;clear hr0_8 hc0_8;have HB:=am_ (Below.refl w.heap.size w);unfold spec_HasRead.f at h;have H:=h;clear h;have H':=am_ H;clear H
  go_enter Try.func28,Try.ntmps28
  go_wp2_with (first|((with_reducible refine gate_dst (N:=2) rfl ?_);refine be_ 2 #[i_ a0_0,i_ a0_1,i_ a0_2,i_ a0_3,i_ a0_4,i_ a0_5,i_ a0_6,.slice J l0_7.length L,.slice M l0_8.length O] 29 ?_;intro Bb hg w3 hbox hb;have D:=am_ hbox;have R:=wk_ hg HB;replace HB:=hs_ HB hb;have Z:=R;clear hb hbox hg)|((with_reducible refine gate_dst (N:=3) rfl ?_);refine be_ 3 #[i_ a1_0,i_ a1_1] 47 ?_;intro Bc hg w4 hbox hb;have E:=am_ hbox;have U:=wk_ hg HB;replace HB:=hs_ HB hb;have Ba:=U;have F:=nk_ hg D;replace D:=bb_ D hb;have V:=ny_ F;clear hb hbox hg))
  repeat(go_quiet (first|((with_reducible refine gate_dst (N:=2) rfl ?_);refine be_ 2 #[i_ a0_0,i_ a0_1,i_ a0_2,i_ a0_3,i_ a0_4,i_ a0_5,i_ a0_6,.slice J l0_7.length L,.slice M l0_8.length O] 29 ?_;intro Bb hg w3 hbox hb;have D:=am_ hbox;have R:=wk_ hg HB;replace HB:=hs_ HB hb;have Z:=R;clear hb hbox hg)|((with_reducible refine gate_dst (N:=3) rfl ?_);refine be_ 3 #[i_ a1_0,i_ a1_1] 47 ?_;intro Bc hg w4 hbox hb;have E:=am_ hbox;have U:=wk_ hg HB;replace HB:=hs_ HB hb;have Ba:=U;have F:=nk_ hg D;replace D:=bb_ D hb;have V:=ny_ F;clear hb hbox hg));try go_wp2_with (first|((with_reducible refine gate_dst (N:=2) rfl ?_);refine be_ 2 #[i_ a0_0,i_ a0_1,i_ a0_2,i_ a0_3,i_ a0_4,i_ a0_5,i_ a0_6,.slice J l0_7.length L,.slice M l0_8.length O] 29 ?_;intro Bb hg w3 hbox hb;have D:=am_ hbox;have R:=wk_ hg HB;replace HB:=hs_ HB hb;have Z:=R;clear hb hbox hg)|((with_reducible refine gate_dst (N:=3) rfl ?_);refine be_ 3 #[i_ a1_0,i_ a1_1] 47 ?_;intro Bc hg w4 hbox hb;have E:=am_ hbox;have U:=wk_ hg HB;replace HB:=hs_ HB hb;have Ba:=U;have F:=nk_ hg D;replace D:=bb_ D hb;have V:=ny_ F;clear hb hbox hg)))
  go_loopg [5] k (fun kq v5 w'=>∃ (B:Int),v5=i_ B∧Aside0 (spec_HasRead.l0 kq B a0_0 a0_1 a0_2 a0_3 a0_4 a0_5 a0_6 l0_7 l0_8 a1_0 a1_1=some r)∧Aside0 (kq≤k)∧Aside0 (w'.heap[Bb]? = some (.cells #[i_ a0_0,i_ a0_1,i_ a0_2,i_ a0_3,i_ a0_4,i_ a0_5,i_ a0_6,(.slice J l0_7.length L),(.slice M l0_8.length O)] 29 (0,0)))∧Aside0 (w'.heap[Bc]? = some (.cells #[i_ a1_0,i_ a1_1] 47 (0,0)))∧Aside0 (Below w.heap.size w w'))
  case atStart=>exact⟨(0),rs_,H',⟨Nat.le_refl _⟩,⟨bq_ D.out⟩,⟨bq_ E.out⟩,⟨hbw_ HB⟩⟩
  case round=>
    clear H';obtain⟨B,rfl,HA,HK1,D,E,HB⟩:=hrel
    cases gk with
    | zero=>exact absurd HA.out (by simp [spec_HasRead.l0])
    | succ k1=>
      have H:=HA.out;clear HA;simp only[spec_HasRead.l0]at H
      by_cases c5:B < (l0_7.length:Int)
      · rw[if_pos c5]at H;have Be:decide (B < (l0_7.length:Int))=true:=decide_eq_true c5;clear c5
        by_cases c6:0≤B
        · rw[if_pos c6]at H;have Bm:decide (0≤B)=true:=decide_eq_true c6;clear c6
          by_cases c7:(((rd_T47 l0_7 B).f0) == a1_0 && (((rd_T47 l0_7 B).f1) == a1_1))=true
          · rw[if_pos c7]at H;have Bf:(((rd_T47 l0_7 B).f0) == a1_0 && (((rd_T47 l0_7 B).f1) == a1_1))=true:=c7;(try(have Bg:decide (((rd_T47 l0_7 B).f0)=a1_0 && (((rd_T47 l0_7 B).f1) == a1_1))=true:=by simpa using c7));(try(have Bh:(((rd_T47 l0_7 B).f0) == a1_0 && (((rd_T47 l0_7 B).f1) == a1_1))=true:=by simpa using c7));clear c7;obtain rfl:=Option.some.inj H;have Bn:=F.out;have Bo:=V.out;have Bp:=bc9_ D.out;have Bq:=bf9_ D.out;have G:0≤(B:Int):=of_decide_eq_true as_;have I:B < (l0_7.length:Int):=of_decide_eq_true as_;obtain⟨Bi,e750,X,Y⟩:=at_T47 Bd.out B G I
            cases e750
            replace X:=bl_ HB.out X;replace Y:=bl_ HB.out Y;replace G:=eq_true G;replace I:=eq_true I;have Br:=bc2_ E.out;have Bs:=bf2_ E.out
            go_wp2
            repeat(go_quiet (fail);try go_wp2)
            go_ret;exact⟨ew_,hq2_ HB.out Z.out Ba.out⟩
          · rw[if_neg c7]at H;(have Bf:(((rd_T47 l0_7 B).f0) == a1_0 && (((rd_T47 l0_7 B).f1) == a1_1))=false:=by simpa using c7);(try(have Bg:decide (((rd_T47 l0_7 B).f0)=a1_0 && (((rd_T47 l0_7 B).f1) == a1_1))=false:=by simpa using c7));(try(have Bh:(((rd_T47 l0_7 B).f0) == a1_0 && (((rd_T47 l0_7 B).f1) == a1_1))=false:=by simpa using c7));(try(have Bt:¬ (((rd_T47 l0_7 B).f0)=a1_0 && (((rd_T47 l0_7 B).f1) == a1_1)):=by simpa using c7));clear c7;have H':=am_ H;clear H;have Bu:=F.out;have Bv:=V.out;have Bw:=bc9_ D.out;have Bx:=bf9_ D.out;have G:0≤(B:Int):=of_decide_eq_true as_;have I:B < (l0_7.length:Int):=of_decide_eq_true as_;obtain⟨Bi,e750,X,Y⟩:=at_T47 Bd.out B G I
            cases e750
            replace X:=bl_ HB.out X;replace Y:=bl_ HB.out Y;replace G:=eq_true G;replace I:=eq_true I;have By:=bc2_ E.out;have Bz:=bf2_ E.out
            go_wp2
            repeat(go_quiet (fail);try go_wp2)
            go_roundg k1
            case measure=>have:=HK1.out;omega
            case rel=>exact⟨(wrap64 (B+1)),rs_,H',⟨by have:=HK1.out;omega⟩,⟨bq_ D.out⟩,⟨bq_ E.out⟩,⟨hbw_ HB⟩⟩
        · rw[if_neg c6]at H;exact absurd H (by simp)
      · rw[if_neg c5]at H;have Be:decide (B < (l0_7.length:Int))=false:=decide_eq_false c5;clear c5;obtain rfl:=Option.some.inj H;have B0:=F.out;have B1:=V.out;have B2:=bc9_ D.out;have B3:=bf9_ D.out
        go_wp2
        repeat(go_quiet (fail);try go_wp2)
        go_ret;exact⟨ew_,hq2_ HB.out Z.out Ba.out⟩

end Go.Proofs.Ytacdaekigoldaaa.PFnExclusion
