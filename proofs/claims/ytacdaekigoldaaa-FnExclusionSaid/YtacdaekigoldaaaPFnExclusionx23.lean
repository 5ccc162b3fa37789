-- Printed by my own myprint.py out of the translation of the seat Ytacdaekigoldaaa. Not trusted: Lean checks it.
import Derived.Test.YtacdaekigoldaaaPFnExclusionx0
import Derived.Test.YtacdaekigoldaaaPFnExclusionx17
import Derived.Test.YtacdaekigoldaaaPFnExclusionx18
import Derived.Test.YtacdaekigoldaaaPFnExclusionx22
namespace Go.Proofs.Ytacdaekigoldaaa.PFnExclusion
open Go.RowKit Go.Proofs.YtacdaekigoldaaaW.PrintWords Go.Proofs.YtacdaekigoldaaaW.PrintLast Go.Proofs.YtacdaekigoldaaaW.PrintMore
attribute [local go_sem] max2_int min2_int max_two min_two max_three min_three max_four min_four   -- for this text's walks alone
set_option linter.unusedVariables false
set_option linter.unusedSimpArgs false

/-! ### spec_MayCommit: function 23 -/
def spec_MayCommit.f (k:Nat) (l0_0:List (List (S77))) (a1_0 a1_1 a1_2 a1_3 a1_4 a1_5 a1_6:Int) (l1_7:List (S47)) (l1_8:List (S58)) (a2:Int):Option (Bool):=(spec_FinalWindow.f k l0_0 a1_0 a1_1 a1_2 a1_3 a1_4 a1_5 a1_6 l1_7 l1_8 a2).bind fun bt656=>(if bt656.2.2=true then (some (decide (bt656.1 < bt656.2.1))) else (some false))
theorem spec_MayCommit.mono:∀ a0 a1 a2 a3 a4 a5 a6 a7 a8 a9 a10 k,LeO (spec_MayCommit.f k a0 a1 a2 a3 a4 a5 a6 a7 a8 a9 a10) (spec_MayCommit.f (k+1) a0 a1 a2 a3 a4 a5 a6 a7 a8 a9 a10):=by
  intro a0 a1 a2 a3 a4 a5 a6 a7 a8 a9 a10 k;unfold spec_MayCommit.f
  repeat' first
      | (with_reducible first|apply spec_FinalWindow.mono|exact LeO.refl _|exact LeO.none _|refine LeO.ite ?_ ?_|refine LeO.bind ?_ (fun _=>?_))
set_option maxHeartbeats 8000000 in
set_option maxRecDepth 100000 in
theorem spec_MayCommit.calls (k:Nat)(D:Option Addr)(E:Nat) (l0_0:List (List (S77))) (a1_0 a1_1 a1_2 a1_3 a1_4 a1_5 a1_6:Int)(F:Option Addr)(G:Nat) (l1_7:List (S47)) (I:Option Addr)(J:Nat) (l1_8:List (S58)) (a2:Int)(r:Bool) (w:World) (hr0_0:Kd.C (Kd.slice 77 k77) w D l0_0.length l0_0) (hc0_0:l0_0.length≤E) (hr1_7:Kd.C k47 w F l1_7.length l1_7) (hc1_7:l1_7.length≤G) (hr1_8:Kd.C k58 w I l1_8.length l1_8) (hc1_8:l1_8.length≤J) (h:spec_MayCommit.f k l0_0 a1_0 a1_1 a1_2 a1_3 a1_4 a1_5 a1_6 l1_7 l1_8 a2=some r) :
    Calls Try.prog 23 #[.agg #[.slice D l0_0.length E],.agg #[i_ a1_0,i_ a1_1,i_ a1_2,i_ a1_3,i_ a1_4,i_ a1_5,i_ a1_6,.slice F l1_7.length G,.slice I l1_8.length J],i_ a2] w fun e w'=>e=.returned (.bool r)∧Below w.heap.size w w':=by
  have hu39:=Try.underlying39;have hu29:=Try.underlying29;have R:=am_ hr0_0;have U:=am_ hc0_0;clear hr0_0 hc0_0;have V:=am_ hr1_7;have X:=am_ hc1_7;clear hr1_7 hc1_7;have Y:=am_ hr1_8;have Z:=am_ hc1_8;clear hr1_8 hc1_8;have HB:=am_ (Below.refl w.heap.size w);unfold spec_MayCommit.f at h;have H:=h;clear h;replace H:=bi_ H;obtain⟨⟨Ba,Bb,Bc⟩,M,H⟩:=H;(try dsimp only at H);have A4:=am_ M;clear M
  refine em_ (Bc=true) ?ac5 ?bc5
  case' ac5=>
   intro c5
   subst c5;rw[if_pos rfl]at H;obtain rfl:=Option.some.inj H
  case' bc5=>
   intro c5
   replace c5:=Bool.eq_false_iff.mpr c5;subst c5;rw[if_neg nt_]at H;obtain rfl:=Option.some.inj H
  all_goals
   go_enter Try.func23,Try.ntmps23
   go_wp2_with (first|((with_reducible refine gate_dst (N:=3) rfl ?_);refine be_ 3 #[.slice D l0_0.length E] 39 ?_;intro Bi hg w6 hbox hb;have B:=am_ hbox;have Bd:=wk_ hg HB;replace HB:=hs_ HB hb;have Be:=Bd;clear hb hbox hg)|((with_reducible refine gate_dst (N:=4) rfl ?_);refine be_ 4 #[i_ a1_0,i_ a1_1,i_ a1_2,i_ a1_3,i_ a1_4,i_ a1_5,i_ a1_6,.slice F l1_7.length G,.slice I l1_8.length J] 29 ?_;intro Bj hg w7 hbox hb;have L:=am_ hbox;have Bf:=wk_ hg HB;replace HB:=hs_ HB hb;have Bg:=Bf;have O:=nk_ hg B;replace B:=bb_ B hb;have Bh:=ny_ O;clear hb hbox hg;have Bk:=O.out;have Bl:=Bh.out;have Bm:=bc1_ B.out;have Bn:=blk_frozen B.out 0;have Bo:=bc9_ L.out;have Bp:=bf9_ L.out)|((with_reducible refine gate_callee (f:=21) rfl ?_);refine goesL_ (some 14) rfl rfl Try.func21 (by kernel_rfl) rfl #[.agg #[.slice D l0_0.length E],.agg #[i_ a1_0,i_ a1_1,i_ a1_2,i_ a1_3,i_ a1_4,i_ a1_5,i_ a1_6,.slice F l1_7.length G,.slice I l1_8.length J],i_ a2] rfl mp_ ?_;(with_reducible refine(spec_FinalWindow.calls k _ _ l0_0 a1_0 a1_1 a1_2 a1_3 a1_4 a1_5 a1_6 _ _ l1_7 _ _ l1_8 a2 Ba Bb _ _ ?side1 ?side2 ?side3 ?side4 ?side5 ?side6 A4.out).mono ?_);(case side1=>exact cq_ R.out HB.out);(case side2=>exact U.out);(case side3=>exact cq_ V.out HB.out);(case side4=>exact X.out);(case side5=>exact cq_ Y.out HB.out);(case side6=>exact Z.out);rintro e Bq ⟨rfl,hb⟩;refine⟨_,rfl,?_⟩;replace B:=bb_ B hb;replace L:=bb_ L hb;replace HB:=hs_ HB hb;clear hb))
   go_ret;exact⟨ew_,hq2_ HB.out Be.out Bg.out⟩

/-! ### impl_WindowRoom: function 24 -/
def impl_WindowRoom.f (k:Nat) (l0_0:List (List (S77))) (a1_0 a1_1 a1_2 a1_3 a1_4 a1_5 a1_6:Int) (l1_7:List (S47)) (l1_8:List (S58)) (a2:Int):Option (Int):=(impl_FinalWindow.f k l0_0 a1_0 a1_1 a1_2 a1_3 a1_4 a1_5 a1_6 l1_7 l1_8 a2).bind fun bt661=>(some (wrap64 (bt661.2.1 - bt661.1)))
theorem impl_WindowRoom.mono:∀ a0 a1 a2 a3 a4 a5 a6 a7 a8 a9 a10 k,LeO (impl_WindowRoom.f k a0 a1 a2 a3 a4 a5 a6 a7 a8 a9 a10) (impl_WindowRoom.f (k+1) a0 a1 a2 a3 a4 a5 a6 a7 a8 a9 a10):=by
  intro a0 a1 a2 a3 a4 a5 a6 a7 a8 a9 a10 k;unfold impl_WindowRoom.f
  repeat' first
      | (with_reducible first|apply impl_FinalWindow.mono|exact LeO.refl _|exact LeO.none _|refine LeO.ite ?_ ?_|refine LeO.bind ?_ (fun _=>?_))
set_option maxHeartbeats 8000000 in
set_option maxRecDepth 100000 in
theorem impl_WindowRoom.calls (k:Nat)(D:Option Addr)(E:Nat) (l0_0:List (List (S77))) (a1_0 a1_1 a1_2 a1_3 a1_4 a1_5 a1_6:Int)(F:Option Addr)(G:Nat) (l1_7:List (S47)) (I:Option Addr)(J:Nat) (l1_8:List (S58)) (a2 r:Int) (w:World) (hr0_0:Kd.C (Kd.slice 77 k77) w D l0_0.length l0_0) (hc0_0:l0_0.length≤E) (hr1_7:Kd.C k47 w F l1_7.length l1_7) (hc1_7:l1_7.length≤G) (hr1_8:Kd.C k58 w I l1_8.length l1_8) (hc1_8:l1_8.length≤J) (h:impl_WindowRoom.f k l0_0 a1_0 a1_1 a1_2 a1_3 a1_4 a1_5 a1_6 l1_7 l1_8 a2=some r) :
    Calls Try.prog 24 #[.agg #[.slice D l0_0.length E],.agg #[i_ a1_0,i_ a1_1,i_ a1_2,i_ a1_3,i_ a1_4,i_ a1_5,i_ a1_6,.slice F l1_7.length G,.slice I l1_8.length J],i_ a2] w fun e w'=>e=.returned (i_ r)∧Below w.heap.size w w':=by
  have hu39:=Try.underlying39;have hu29:=Try.underlying29;have R:=am_ hr0_0;have U:=am_ hc0_0;clear hr0_0 hc0_0;have V:=am_ hr1_7;have X:=am_ hc1_7;clear hr1_7 hc1_7;have Y:=am_ hr1_8;have Z:=am_ hc1_8;clear hr1_8 hc1_8;have HB:=am_ (Below.refl w.heap.size w);unfold impl_WindowRoom.f at h;have H:=h;clear h;replace H:=bi_ H;obtain⟨⟨Ba,Bb,Bc⟩,M,H⟩:=H;(try dsimp only at H);have A4:=am_ M;clear M;obtain rfl:=Option.some.inj H
  go_enter Try.func24,Try.ntmps24
  go_wp2_with (first|((with_reducible refine gate_dst (N:=3) rfl ?_);refine be_ 3 #[.slice D l0_0.length E] 39 ?_;intro Bi hg w5 hbox hb;have B:=am_ hbox;have Bd:=wk_ hg HB;replace HB:=hs_ HB hb;have Be:=Bd;clear hb hbox hg)|((with_reducible refine gate_dst (N:=4) rfl ?_);refine be_ 4 #[i_ a1_0,i_ a1_1,i_ a1_2,i_ a1_3,i_ a1_4,i_ a1_5,i_ a1_6,.slice F l1_7.length G,.slice I l1_8.length J] 29 ?_;intro Bj hg w6 hbox hb;have L:=am_ hbox;have Bf:=wk_ hg HB;replace HB:=hs_ HB hb;have Bg:=Bf;have O:=nk_ hg B;replace B:=bb_ B hb;have Bh:=ny_ O;clear hb hbox hg;have Bk:=O.out;have Bl:=Bh.out;have Bm:=bc1_ B.out;have Bn:=blk_frozen B.out 0;have Bo:=bc9_ L.out;have Bp:=bf9_ L.out)|((with_reducible refine gate_callee (f:=20) rfl ?_);refine goesL_ (some 14) rfl rfl Try.func20 (by kernel_rfl) rfl #[.agg #[.slice D l0_0.length E],.agg #[i_ a1_0,i_ a1_1,i_ a1_2,i_ a1_3,i_ a1_4,i_ a1_5,i_ a1_6,.slice F l1_7.length G,.slice I l1_8.length J],i_ a2] rfl mp_ ?_;(with_reducible refine(impl_FinalWindow.calls k _ _ l0_0 a1_0 a1_1 a1_2 a1_3 a1_4 a1_5 a1_6 _ _ l1_7 _ _ l1_8 a2 Ba Bb Bc _ ?side1 ?side2 ?side3 ?side4 ?side5 ?side6 A4.out).mono ?_);(case side1=>exact cq_ R.out HB.out);(case side2=>exact U.out);(case side3=>exact cq_ V.out HB.out);(case side4=>exact X.out);(case side5=>exact cq_ Y.out HB.out);(case side6=>exact Z.out);rintro e Bq ⟨rfl,hb⟩;refine⟨_,rfl,?_⟩;replace B:=bb_ B hb;replace L:=bb_ L hb;replace HB:=hs_ HB hb;clear hb))
  go_ret;exact⟨ew_,hq2_ HB.out Be.out Bg.out⟩

/-! ### spec_WindowRoom: function 25 -/
def spec_WindowRoom.f (k:Nat) (l0_0:List (List (S77))) (a1_0 a1_1 a1_2 a1_3 a1_4 a1_5 a1_6:Int) (l1_7:List (S47)) (l1_8:List (S58)) (a2:Int):Option (Int):=(spec_FinalWindow.f k l0_0 a1_0 a1_1 a1_2 a1_3 a1_4 a1_5 a1_6 l1_7 l1_8 a2).bind fun bt666=>(if bt666.2.2=true then (some (wrap64 (bt666.2.1 - bt666.1))) else (some 0))
theorem spec_WindowRoom.mono:∀ a0 a1 a2 a3 a4 a5 a6 a7 a8 a9 a10 k,LeO (spec_WindowRoom.f k a0 a1 a2 a3 a4 a5 a6 a7 a8 a9 a10) (spec_WindowRoom.f (k+1) a0 a1 a2 a3 a4 a5 a6 a7 a8 a9 a10):=by
  intro a0 a1 a2 a3 a4 a5 a6 a7 a8 a9 a10 k;unfold spec_WindowRoom.f
  repeat' first
      | (with_reducible first|apply spec_FinalWindow.mono|exact LeO.refl _|exact LeO.none _|refine LeO.ite ?_ ?_|refine LeO.bind ?_ (fun _=>?_))
set_option maxHeartbeats 8000000 in
set_option maxRecDepth 100000 in
theorem spec_WindowRoom.calls (k:Nat)(D:Option Addr)(E:Nat) (l0_0:List (List (S77))) (a1_0 a1_1 a1_2 a1_3 a1_4 a1_5 a1_6:Int)(F:Option Addr)(G:Nat) (l1_7:List (S47)) (I:Option Addr)(J:Nat) (l1_8:List (S58)) (a2 r:Int) (w:World) (hr0_0:Kd.C (Kd.slice 77 k77) w D l0_0.length l0_0) (hc0_0:l0_0.length≤E) (hr1_7:Kd.C k47 w F l1_7.length l1_7) (hc1_7:l1_7.length≤G) (hr1_8:Kd.C k58 w I l1_8.length l1_8) (hc1_8:l1_8.length≤J) (h:spec_WindowRoom.f k l0_0 a1_0 a1_1 a1_2 a1_3 a1_4 a1_5 a1_6 l1_7 l1_8 a2=some r) :
    Calls Try.prog 25 #[.agg #[.slice D l0_0.length E],.agg #[i_ a1_0,i_ a1_1,i_ a1_2,i_ a1_3,i_ a1_4,i_ a1_5,i_ a1_6,.slice F l1_7.length G,.slice I l1_8.length J],i_ a2] w fun e w'=>e=.returned (i_ r)∧Below w.heap.size w w':=by
  have hu39:=Try.underlying39;have hu29:=Try.underlying29;have R:=am_ hr0_0;have U:=am_ hc0_0;clear hr0_0 hc0_0;have V:=am_ hr1_7;have X:=am_ hc1_7;clear hr1_7 hc1_7;have Y:=am_ hr1_8;have Z:=am_ hc1_8;clear hr1_8 hc1_8;have HB:=am_ (Below.refl w.heap.size w);unfold spec_WindowRoom.f at h;have H:=h;clear h;replace H:=bi_ H;obtain⟨⟨Ba,Bb,Bc⟩,M,H⟩:=H;(try dsimp only at H);have A4:=am_ M;clear M
  refine em_ (Bc=true) ?ac5 ?bc5
  case' ac5=>
   intro c5
   subst c5;rw[if_pos rfl]at H;obtain rfl:=Option.some.inj H
  case' bc5=>
   intro c5
   replace c5:=Bool.eq_false_iff.mpr c5;subst c5;rw[if_neg nt_]at H;obtain rfl:=Option.some.inj H
  all_goals
   go_enter Try.func25,Try.ntmps25
   go_wp2_with (first|((with_reducible refine gate_dst (N:=3) rfl ?_);refine be_ 3 #[.slice D l0_0.length E] 39 ?_;intro Bi hg w6 hbox hb;have B:=am_ hbox;have Bd:=wk_ hg HB;replace HB:=hs_ HB hb;have Be:=Bd;clear hb hbox hg)|((with_reducible refine gate_dst (N:=4) rfl ?_);refine be_ 4 #[i_ a1_0,i_ a1_1,i_ a1_2,i_ a1_3,i_ a1_4,i_ a1_5,i_ a1_6,.slice F l1_7.length G,.slice I l1_8.length J] 29 ?_;intro Bj hg w7 hbox hb;have L:=am_ hbox;have Bf:=wk_ hg HB;replace HB:=hs_ HB hb;have Bg:=Bf;have O:=nk_ hg B;replace B:=bb_ B hb;have Bh:=ny_ O;clear hb hbox hg;have Bk:=O.out;have Bl:=Bh.out;have Bm:=bc1_ B.out;have Bn:=blk_frozen B.out 0;have Bo:=bc9_ L.out;have Bp:=bf9_ L.out)|((with_reducible refine gate_callee (f:=21) rfl ?_);refine goesL_ (some 14) rfl rfl Try.func21 (by kernel_rfl) rfl #[.agg #[.slice D l0_0.length E],.agg #[i_ a1_0,i_ a1_1,i_ a1_2,i_ a1_3,i_ a1_4,i_ a1_5,i_ a1_6,.slice F l1_7.length G,.slice I l1_8.length J],i_ a2] rfl mp_ ?_;(with_reducible refine(spec_FinalWindow.calls k _ _ l0_0 a1_0 a1_1 a1_2 a1_3 a1_4 a1_5 a1_6 _ _ l1_7 _ _ l1_8 a2 Ba Bb _ _ ?side1 ?side2 ?side3 ?side4 ?side5 ?side6 A4.out).mono ?_);(case side1=>exact cq_ R.out HB.out);(case side2=>exact U.out);(case side3=>exact cq_ V.out HB.out);(case side4=>exact X.out);(case side5=>exact cq_ Y.out HB.out);(case side6=>exact Z.out);rintro e Bq ⟨rfl,hb⟩;refine⟨_,rfl,?_⟩;replace B:=bb_ B hb;replace L:=bb_ L hb;replace HB:=hs_ HB hb;clear hb))
   go_ret;exact⟨ew_,hq2_ HB.out Be.out Bg.out⟩

/-! ### impl_Store_overwritten: function 54 -/
-- FLAGS ROUNDS
def impl_Store_overwritten.l0:Nat→List S47→Int→List (List S77)→List S58→Option (List S47)
  | 0,_,_,_,_=>none
  | k+1,x5,x12,l,ws=>if x12 < (ws.length:Int) then (if 0≤x12 then ((impl_Store_latest.f l ((rd_T58 ws x12).f0)).bind fun bt=>(if x5.length < 8796093022208 then impl_Store_overwritten.l0 k (x5++[(⟨(rd_T58 ws x12).f0,bt.2.2.1⟩:S47)]) (wrap64 (x12+1)) l ws else none)) else none) else some x5
def impl_Store_overwritten.f (k:Nat) (l0_0:List (List S77)) (a1_0 a1_1 a1_2 a1_3 a1_4 a1_5 a1_6:Int) (l1_7:List S47) (l1_8:List S58):Option (List S47):=impl_Store_overwritten.l0 k ([]:List S47) 0 l0_0 l1_8
theorem impl_Store_overwritten.mono_l:∀ k,∀ y0 y1 y2 y3,LeO (impl_Store_overwritten.l0 k y0 y1 y2 y3) (impl_Store_overwritten.l0 (k+1) y0 y1 y2 y3)
  | 0=>fun _ _ _ _ r h=>by simp [impl_Store_overwritten.l0]at h
  | k+1=>by
    have ih0:=impl_Store_overwritten.mono_l k;intro y0 y1 y2 y3;unfold impl_Store_overwritten.l0
    repeat' first|(with_reducible first|exact ih0 _ _ _ _|exact LeO.refl _|exact LeO.none _|refine LeO.ite ?_ ?_|refine LeO.bind ?_ (fun _=>?_))
theorem impl_Store_overwritten.mono:∀ a0 a1 a2 a3 a4 a5 a6 a7 a8 a9 k,LeO (impl_Store_overwritten.f k a0 a1 a2 a3 a4 a5 a6 a7 a8 a9) (impl_Store_overwritten.f (k+1) a0 a1 a2 a3 a4 a5 a6 a7 a8 a9):=by
  intro a0 a1 a2 a3 a4 a5 a6 a7 a8 a9 k;unfold impl_Store_overwritten.f;exact impl_Store_overwritten.mono_l k _ _ _ _
def impl_Store_overwritten.T5:Bool × List (List Nat × List Nat):=(true,[([],[]),([],[]),([1],[1]),([],[]),([],[]),([4],[4]),([3,5],[3,5]),([6],[6]),([7],[7]),([8],[8]),([2,9],[2,9]),([10],[10]),([0,11,6],[0,11]),([12,12,0,1,2,3,4,5,6,7,8,9,10,11,12],[0,12])])
def impl_Store_overwritten.B5:List Nat:=[0,0,2,0,0,16,56,120,248,504,1022,2046,4095,8191]
theorem impl_Store_overwritten.tab5:rtab .any (opsOf Try.f54 5)=impl_Store_overwritten.T5:=by kernel_rfl
theorem impl_Store_overwritten.bits5:waitsOk impl_Store_overwritten.T5.2 impl_Store_overwritten.B5=true:=by kernel_rfl
set_option maxHeartbeats 8000000 in
set_option maxRecDepth 100000 in
theorem impl_Store_overwritten.calls (k:Nat)(L:Option Addr)(O:Nat) (l0_0:List (List S77)) (a1_0 a1_1 a1_2 a1_3 a1_4 a1_5 a1_6:Int)(V:Option Addr)(X:Nat) (l1_7:List S47) (Bb:Option Addr)(Y:Nat) (l1_8:List S58) (r:List S47) (w:World) (hr0_0:Kd.C (Kd.slice 77 k77) w L l0_0.length l0_0) (hc0_0:l0_0.length≤O) (hr1_7:Kd.C k47 w V l1_7.length l1_7) (hc1_7:l1_7.length≤X) (hr1_8:Kd.C k58 w Bb l1_8.length l1_8) (hc1_8:l1_8.length≤Y) (h:impl_Store_overwritten.f k l0_0 a1_0 a1_1 a1_2 a1_3 a1_4 a1_5 a1_6 l1_7 l1_8=some r) :
    Calls Try.prog 54 #[.agg #[.slice L l0_0.length O],.agg #[i_ a1_0,i_ a1_1,i_ a1_2,i_ a1_3,i_ a1_4,i_ a1_5,i_ a1_6,.slice V l1_7.length X,.slice Bb l1_8.length Y]] w fun e w'=>∃ v0_:Value,e=.returned (v0_)∧Kd.R k47 47 w' w.heap.size (fun _=>True) v0_ r∧Below w.heap.size w w':=by
  have huS:=Try.underlying39;have huT:=Try.underlying29;have huW:=Try.underlying58;have huV:=Try.underlying77;have huM:=Try.underlying47;have Bq:=am_ hr0_0;have Cq:=am_ hc0_0;have Br:=am_ hr1_8;have Cr:=am_ hc1_8;clear hr0_0 hc0_0 hr1_7 hc1_7 hr1_8 hc1_8;have HB:=am_ (Below.refl w.heap.size w);obtain⟨y0,Bf⟩:∃ y_:List S47,y_=([]:List S47):=⟨_,rfl⟩;(have H:impl_Store_overwritten.l0 k y0 0 l0_0 l1_8=some r:=by rw[Bf];exact h);have Bj:=am_ Bf;have H':=am_ H;clear h H Bf
  go_enter Try.func54,Try.ntmps54
  go_wp2_with (first|((with_reducible refine gate_dst (N:=2) rfl ?_);refine be_ 2 #[.slice L l0_0.length O] 39 ?_;intro Bd hg w3 hbox hb;have E:=am_ hbox;have Cs:=wk_ hg HB;replace HB:=hs_ HB hb;clear hb hbox hg)|((with_reducible refine gate_dst (N:=3) rfl ?_);refine be_ 3 #[i_ a1_0,i_ a1_1,i_ a1_2,i_ a1_3,i_ a1_4,i_ a1_5,i_ a1_6,.slice V l1_7.length X,.slice Bb l1_8.length Y] 29 ?_;intro J hg w4 hbox hb;have B:=am_ hbox;have Ct:=wk_ hg HB;replace HB:=hs_ HB hb;have Cu:=nk_ hg E;replace E:=bb_ E hb;clear hb hbox hg)|((with_reducible refine gate_dst (N:=8) rfl ?_);refine Kd.R_lit k47 _ 47 ?hg (N:=8) ?hd (xs:=([]:List S47)) (inner:=[]) (ok:=fun _=>True) (okp:=fun _=>True) ?hr ?hp (fun _ hk=>hk) trivial (Below.refl _ _) (Nat.le_refl _) (by simp) ?_;(case hd=>rfl);(case hg=>rfl);(case hr=>first|(go_simp;done)|(go_simp;rfl));(case hp=>exact(Reps.none _ _));intro v233 w5 Bc hb hg_ hnew_;clear hg_ hnew_;(first|rw[← Bj.out]at Bc|(simp only[Int.reduceToNat]at Bc;rw[← Bj.out]at Bc));have Bk:=am_ (Kd.R_lower Bc (below_size (hbw_ HB)));replace E:=bb_ E hb;replace B:=bb_ B hb;replace HB:=hs_ HB hb;clear hb Bc;have Bs:=(show w5.cell? ⟨J,0,none⟩=some (i_ a1_0) from(blk_cell B.out 0).trans rfl);have Bt:=blk_frozen B.out 0;have Bu:=(show w5.cell? ⟨J,1,none⟩=some (i_ a1_1) from(blk_cell B.out 1).trans rfl);have Bv:=blk_frozen B.out 1;have Bw:=(show w5.cell? ⟨J,2,none⟩=some (i_ a1_2) from(blk_cell B.out 2).trans rfl);have Bx:=blk_frozen B.out 2;have By:=(show w5.cell? ⟨J,3,none⟩=some (i_ a1_3) from(blk_cell B.out 3).trans rfl);have Bz:=blk_frozen B.out 3;have B0:=(show w5.cell? ⟨J,4,none⟩=some (i_ a1_4) from(blk_cell B.out 4).trans rfl);have B1:=blk_frozen B.out 4;have B2:=(show w5.cell? ⟨J,5,none⟩=some (i_ a1_5) from(blk_cell B.out 5).trans rfl);have B3:=blk_frozen B.out 5;have B4:=(show w5.cell? ⟨J,6,none⟩=some (i_ a1_6) from(blk_cell B.out 6).trans rfl);have B5:=blk_frozen B.out 6;have B6:=(show w5.cell? ⟨J,7,none⟩=some (.slice V l1_7.length X) from(blk_cell B.out 7).trans rfl);have B7:=blk_frozen B.out 7;have B8:=(show w5.cell? ⟨J,8,none⟩=some (.slice Bb l1_8.length Y) from(blk_cell B.out 8).trans rfl);have B9:=blk_frozen B.out 8))
  go_loopg [5,12] k (fun kq v5 v12 w'=>∃ (U:List S47) (D:Int),v12=i_ D∧Aside0 (impl_Store_overwritten.l0 kq U D l0_0 l1_8=some r)∧Aside0 (kq≤k)∧Aside0 (Kd.R k47 47 w' w.heap.size (fun _=>True) v5 U)∧Aside0 (w'.heap[Bd]? = some (.cells #[.slice L l0_0.length O] 39 (0,0)))∧Aside0 (w'.heap[J]? = some (.cells #[i_ a1_0,i_ a1_1,i_ a1_2,i_ a1_3,i_ a1_4,i_ a1_5,i_ a1_6,.slice V l1_7.length X,.slice Bb l1_8.length Y] 29 (0,0)))∧Aside0 (Below w.heap.size w w'))
  case atStart=>exact⟨y0,0,rfl,H',⟨Nat.le_refl _⟩,⟨pr_ Bk.out⟩,⟨bq_ E.out⟩,⟨bq_ B.out⟩,⟨(hbw_ HB)⟩⟩
  case round=>
    clear H' E B HB Bk;(try clear Bs Bt);(try clear Bu Bv);(try clear Bw Bx);(try clear By Bz);(try clear B0 B1);(try clear B2 B3);(try clear B4 B5);(try clear B6 B7);(try clear B8 B9);obtain⟨U,D,rfl,HA,HK1,G,E,B,HB⟩:=hrel
    cases gk with
    | zero=>exact absurd HA.out (by simp [impl_Store_overwritten.l0])
    | succ k1=>
      have H:=HA.out;clear HA;simp only[impl_Store_overwritten.l0]at H
      by_cases c7:D < (l1_8.length:Int)
      · rw[if_pos c7]at H;have Ca:decide (D < (l1_8.length:Int))=true:=decide_eq_true c7
        by_cases c8:0≤D
        · rw[if_pos c8]at H;have Cv:decide (0≤D)=true:=decide_eq_true c8;replace H:=bi_ H;obtain⟨⟨t1,t2,t3,t4,t5⟩,Bl,H⟩:=H;(try dsimp only at H);have Cb:=am_ Bl;clear Bl
          by_cases Be:U.length < 8796093022208
          · rw[if_pos Be]at H;have LM:=am_ Be;clear Be;obtain⟨y1,Bg⟩:∃ y_:List S47,y_=(U++[(⟨(rd_T58 l1_8 D).f0,t3⟩:S47)]):=⟨_,rfl⟩;(replace H:impl_Store_overwritten.l0 k1 y1 (wrap64 (D+1)) l0_0 l1_8=some r:=by rw[Bg];exact H);have Cc:=am_ Bg;have H':=am_ H;clear H Bg;obtain⟨Bm,e1,Bn,Bo⟩:=at_T58 Br.out D c8 c7
            cases e1
            replace Bn:=bl_ HB.out Bn;replace Bo:=bl_ HB.out Bo;replace c8:=eq_true c8;replace c7:=eq_true c7
            go_wp2_with (first|((with_reducible refine gate_dst (N:=7) rfl ?_);refine be_ 7 #[i_ 0,i_ 0] 58 ?_;intro I hg Z hbox hb;replace G:=am_ (Kd.R_below (pr_ G.out) hb);have F:=am_ hbox;have Cw:=wk_ hg HB;replace HB:=hs_ HB hb;have Bh:=nk_ hg E;replace E:=bb_ E hb;have Cd:=ny_ Bh;have Bi:=nk_ hg B;replace B:=bb_ B hb;have Ce:=ny_ Bi;clear hb hbox hg;have Cx:=Cd.out;have Cy:=Bh.out;have Cz:=Ce.out;have C0:=Bi.out;obtain⟨Cf,Cg⟩:=bc2_ F.out;obtain⟨Ch,Ci⟩:=bf2_ F.out;have Cj:=bc1_ E.out;have Ck:=blk_frozen E.out 0))
            have n0_:Aside0 (((Z.setCell ⟨I,0,none⟩ (i_ ((rd_T58 l1_8 D).f0))).setCell ⟨I,1,none⟩ (i_ ((rd_T58 l1_8 D).f1))).heap[Bd]? = some (.cells #[.slice L l0_0.length O] 39 (0,0))):=⟨(bk1_ E.out Bh.out)⟩;have n1_:Aside0 (((Z.setCell ⟨I,0,none⟩ (i_ ((rd_T58 l1_8 D).f0))).setCell ⟨I,1,none⟩ (i_ ((rd_T58 l1_8 D).f1))).heap[J]? = some (.cells #[i_ a1_0,i_ a1_1,i_ a1_2,i_ a1_3,i_ a1_4,i_ a1_5,i_ a1_6,.slice V l1_7.length X,.slice (some Bm) l1_8.length Y] 29 (0,0))):=⟨(bk1_ B.out Bi.out)⟩;have n2_:Aside0 (((Z.setCell ⟨I,0,none⟩ (i_ ((rd_T58 l1_8 D).f0))).setCell ⟨I,1,none⟩ (i_ ((rd_T58 l1_8 D).f1))).heap[I]? = some (.cells #[i_ ((rd_T58 l1_8 D).f0),i_ ((rd_T58 l1_8 D).f1)] 58 (0,0))):=⟨(bz2_ F.out)⟩;have n3_:Aside0 (Below w.heap.size w ((Z.setCell ⟨I,0,none⟩ (i_ ((rd_T58 l1_8 D).f0))).setCell ⟨I,1,none⟩ (i_ ((rd_T58 l1_8 D).f1)))):=⟨(hbw_ HB)⟩;have n4_:Aside0 (Kd.R k47 47 ((Z.setCell ⟨I,0,none⟩ (i_ ((rd_T58 l1_8 D).f0))).setCell ⟨I,1,none⟩ (i_ ((rd_T58 l1_8 D).f1))) w.heap.size (fun _=>True) u5 U):=⟨pr_ (Kd.R_mono (rfR2_ G.out F.out) (fun _ hk=>trivial))⟩;clear G E B F HB;have E:=n0_;have B:=n1_;have F:=n2_;have HB:=n3_;have G:=n4_;clear n0_ n1_ n2_ n3_ n4_;(try clear Cf Cg Ch Ci Cj Ck);generalize ((Z.setCell ⟨I,0,none⟩ (i_ ((rd_T58 l1_8 D).f0))).setCell ⟨I,1,none⟩ (i_ ((rd_T58 l1_8 D).f1)))=Cl at E B F HB G ⊢;replace E:=am_ (blk_drew E.out);replace B:=am_ (blk_drew B.out);replace F:=am_ (blk_drew F.out);replace HB:=am_ (below_drew1 HB.out);replace G:=am_ (Kd.R_drew G.out);refine start_ (n:=14) (S:=fun w'=>w'.cell? ⟨I,0,none⟩=some (i_ ((rd_T58 l1_8 D).f0))∧w'.cell? ⟨I,1,none⟩=some (i_ ((rd_T58 l1_8 D).f1))∧w'.cell? ⟨Bd,0,none⟩=some (.slice L l0_0.length O)∧Below w.heap.size w w') (ds:=[]) #[n_,n_,n_,n_,n_,n_,n_,n_,n_,n_,n_,n_,n_,n_] (by kernel_rfl) rfl rfl ⟨cl_ F.out 0,cl_ F.out 1,cl_ E.out 0,HB.out⟩ (fun hHeld=>?_);refine with_tabW impl_Store_overwritten.tab5 impl_Store_overwritten.bits5 (fun HT_ HW_=>?_);generalize Cl.drew=C1 at E B F HB G hHeld ⊢;refine pj_ 0 16 14 1 HT_ ?_;refine pj_ 1 17 14 3 HT_ ?_;refine pj_ 4 20 14 19 HT_ ?_;refine tj_ 2 18 14 23 HT_ HW_ (v:=?_) (a':=?_) ?_ hHeld ?_ ?_;rotate_left;(rintro w' ⟨s0,s1,s2,s3⟩;go_simp;(with_reducible rfl));rotate_left;(exact pe_);refine tj_ 3 19 14 31 HT_ HW_ (v:=?_) (a':=?_) ?_ hHeld ?_ ?_;rotate_left;(rintro w' ⟨s0,s1,s2,s3⟩;go_simp;(with_reducible rfl));rotate_left;(exact pe_);refine tj_ 5 21 14 63 HT_ HW_ (v:=?_) (a':=?_) ?_ hHeld ?_ ?_;rotate_left;(rintro w' ⟨s0,s1,s2,s3⟩;go_simp;(with_reducible rfl));rotate_left;(exact pe_);refine oe_ 6 (bs_ 14 127) HT_ (fun K hK=>?_);refine goes_ Try.func55 (by kernel_rfl) rfl #[.agg #[.slice L l0_0.length O],i_ ((rd_T58 l1_8 D).f0)] (by rfl) rfl rfl (by(try simp only[List.map_toArray,List.map_cons,List.map_nil]);first|done|rfl) ?_;(with_reducible refine(impl_Store_latest.calls0 _ _ l0_0 ((rd_T58 l1_8 D).f0) t1 t2 t3 t4 t5 w _ HB.out Bq.out Cb.out).mono ?_);rintro e C2 ⟨p,rfl,hi,hb,hb2⟩;refine⟨_,rfl,?_⟩;replace E:=am_ (blk_below E.out hb2);replace B:=am_ (blk_below B.out hb2);replace F:=am_ (blk_below F.out hb2);replace HB:=am_ hb;replace G:=am_ (Kd.R_below G.out hb2);clear hb hb2;obtain⟨hq0,hq1,hq2,hq3,hq4⟩:=hi;have HQ2:=am_ hq2;clear hq0 hq1 hq2 hq3 hq4;refine hK.out _ _ ⟨cl_ F.out 0,cl_ F.out 1,cl_ E.out 0,HB.out⟩ (fun hHeld=>?_);clear hK K;refine nr_ ?_;refine pj_ 7 23 14 255 HT_ ?_;refine pj_ 8 24 14 511 HT_ ?_;refine tj_ 9 25 14 1023 HT_ HW_ (v:=?_) (a':=?_) ?_ hHeld ?_ ?_;rotate_left;(rintro w' ⟨s0,s1,s2,s3⟩;have hq:=(s3.cell (World.block_lt_of_cell? w _ HQ2.out)).trans HQ2.out;go_simp;(with_reducible rfl));rotate_left;(exact pe_);refine pj_ 10 26 14 2047 HT_ ?_;obtain⟨yl,hyl⟩:∃ y_:List S47,y_=[(⟨((rd_T58 l1_8 D).f0),t3⟩:S47)]:=⟨_,rfl⟩;have Nyl:=am_ hyl;have Cm:Aside0 (y1=U++yl):=⟨by rw[hyl];exact Cc.out⟩;clear hyl;refine oe_ 11 (bs_ 14 4095) HT_ (fun K hK=>?_);refine Kd.R_lit_step k47 _ 47 ?hg (N:=27) ?hd (xs:=[(⟨((rd_T58 l1_8 D).f0),t3⟩:S47)]) (inner:=[i_ ((rd_T58 l1_8 D).f0),i_ t3]) (ok:=fun _=>True) (okp:=fun _=>True) ?hr ?hp (fun _ hk=>hk) trivial (Below.refl _ _) (Nat.le_refl _) (by simp) ?_;(case hd=>rfl);(case hg=>rfl);(case hr=>first|(go_simp;done)|(go_simp;rfl));(case hp=>exact(Reps.c2 (show Kd.M k47 _ _ _ (⟨((rd_T58 l1_8 D).f0),t3⟩:S47) [i_ ((rd_T58 l1_8 D).f0),i_ t3] from k47_mkM _ _ _ _) (Reps.none _ _)));intro v116 C3 Ba hb hg_ hnew_;clear hg_ hnew_;(first|rw[← Nyl.out]at Ba|(simp only[Int.reduceToNat]at Ba;rw[← Nyl.out]at Ba));have HOL:=am_ (Kd.R_lower (Kd.R_new' Ba (Kd.R_lt G.out)) (below_size HB.out));replace G:=am_ (Kd.R_elder' G.out (Kd.R_base Ba) hb);replace HB:=am_ (below_step HB.out hb);replace E:=am_ (blk_below E.out hb);replace B:=am_ (blk_below B.out hb);replace F:=am_ (blk_below F.out hb);clear hb Ba;obtain⟨Cn,Co,Bp⟩:=Kd.R_slice HOL.out;(first|subst Bp|(injection Bp with f1_ f2_ f3_;have f4_:=f1_.symm;have f5_:=f3_.symm;clear f1_ f2_ f3_;subst f4_;subst f5_));refine hK.out _ _ ⟨cl_ F.out 0,cl_ F.out 1,cl_ E.out 0,HB.out⟩ (fun hHeld=>?_);clear hK K;refine nr_ ?_;refine oe_ 12 (bs_ 14 8191) HT_ (fun K hK=>?_);refine Kd.R_append_rows_step k47 (w0:=w) w.heap.size (by rfl) (.tmp 16) (.tmp 27) 26 47 (.agg #[(i_ 0),(i_ 0)]) 16 rfl Try.underlying26 info47 rfl (by decide) (by omega) u5 U yl _ _ _ (fun k_=>some k_≠(.slice Cn yl.length Co:Value).ownBlock) (fun _=>False) rfl rfl ?aO ?aR (fun _ _ h=>h) (fun _ h=>h.elim) ?aF ?aB ?aS ?aL ?_;(case aR=>exact(Kd.R_reads' HOL.out).2.2);(case aB=>exact HB.out);(case aF=>exact(fun k_ hk=>Kd.fresh' (Kd.R_lt HOL.out) k_ hk));(case aO=>exact Kd.R_mono G.out (fun _ hk=>hk.2));(case aS=>exact(below_size HB.out));(case aL=>have:=LM.out;rw[Nyl.out];simp;omega);intro v119 C4 ho hb hg hat;rw[← Cm.out]at ho;replace E:=am_ (blk_grown (g:=Bd) (o:=.cells #[.slice L l0_0.length O] 39 (0,0)) E.out hg (Kd.R_ne G.out E.out (by decide)));replace B:=am_ (blk_grown (g:=J) (o:=.cells #[i_ a1_0,i_ a1_1,i_ a1_2,i_ a1_3,i_ a1_4,i_ a1_5,i_ a1_6,.slice V l1_7.length X,.slice (some Bm) l1_8.length Y] 29 (0,0)) B.out hg (Kd.R_ne G.out B.out (by decide)));replace F:=am_ (blk_grown (g:=I) (o:=.cells #[i_ ((rd_T58 l1_8 D).f0),i_ ((rd_T58 l1_8 D).f1)] 58 (0,0)) F.out hg (Kd.R_ne G.out F.out (by decide)));replace HB:=am_ hb;have Cp:=am_ (Kd.R_mono ho (fun _ _=>trivial));clear G HOL ho hb hg hat;refine hK.out _ _ ⟨cl_ F.out 0,cl_ F.out 1,cl_ E.out 0,HB.out⟩ (fun hHeld=>?_);clear hK K;refine nr_ ?_;refine pj_ 13 5 14 16383 HT_ ?_;refine dn_ HT_.out ?_;(try go_wp2)
            go_roundg k1
            case measure=>have:=HK1.out;omega
            case rel=>exact⟨y1,wrap64 (D+1),rs_,H',⟨by have:=HK1.out;omega⟩,⟨pr_ Cp.out⟩,⟨bq_ E.out⟩,⟨bq_ B.out⟩,⟨(hbw_ HB)⟩⟩
          · rw[if_neg Be]at H;exact absurd H (by simp)
        · rw[if_neg c8]at H;exact absurd H (by simp)
      · rw[if_neg c7]at H;have Ca:decide (D < (l1_8.length:Int))=false:=decide_eq_false c7;clear c7;obtain rfl:=Option.some.inj H
        go_wp2
        go_ret;exact⟨_,rfl,pr_ G.out,(hbw_ HB)⟩


-- NOT PRINTED: function 57 (impl_ExcludingPair_1)

/-! ### impl_ExcludingPair_at: function 56 -/
-- FLAGS ROUNDS
def impl_ExcludingPair_at.T1:Bool × List (List Nat × List Nat):=(true,[([],[]),([],[]),([0,1],[0,1]),([2],[2]),([3],[3]),([4],[4]),([],[]),([],[]),([6,7,2],[6,7]),([5,8],[5,8]),([9,8,0,1,2,3,4,5,6,7,8,9],[9])])
def impl_ExcludingPair_at.B1:List Nat:=[0,0,3,7,15,31,0,0,199,511,1023]
theorem impl_ExcludingPair_at.tab1:rtab .any (opsOf Try.f57 1)=impl_ExcludingPair_at.T1:=by kernel_rfl
theorem impl_ExcludingPair_at.bits1:waitsOk impl_ExcludingPair_at.T1.2 impl_ExcludingPair_at.B1=true:=by kernel_rfl
set_option maxHeartbeats 2000000 in
set_option maxRecDepth 100000 in
/-- Where the version of a mark stands; its cells are told of an elder world. -/
theorem impl_ExcludingPair_at.find0 (A0:Option Addr)(c0:Nat) (l0:List (List S77)) (m0 m1:Int) (w0 w:World) (hb0:Below w0.heap.size w0 w) (hr0:Kd.C (Kd.slice 77 k77) w0 A0 l0.length l0) (hk0:0≤m0) (hk1:m0 < (l0.length:Int)) (hge:0≤impl_FindVersion.frm (rd_L3 l0 m0) m1 0) :
    Calls Try.prog 58 #[.agg #[.slice A0 l0.length c0],.agg #[i_ m0,i_ m1]] w fun e w'=>∃ p:Addr,e=.returned (.pointer (some p))∧Below w.heap.size w w'∧CellsF w0 p (rd_T77 (rd_L3 l0 m0) (impl_FindVersion.frm (rd_L3 l0 m0) m1 0)):=by
  have hu:=Try.underlying39;have hv:=Try.underlying47;have hb:=below_alloc (below_alloc (Below.refl w.heap.size w) (.cells #[.slice A0 l0.length c0] 39)) (.cells #[i_ m0,i_ m1] 47);obtain⟨ad1,A2,c2,e1,hx,hl2,hC⟩:=at_L3 hr0 m0 hk0 hk1
  cases e1
  replace hx:=(hb0.cell (World.block_lt_of_cell? w0 _ hx)).trans hx;replace hx:=(hb.cell (World.block_lt_of_cell? w _ hx)).trans hx;obtain⟨hi0,hi1⟩:=impl_Store_find.bd (rd_L3 l0 m0) m1 0;obtain⟨i,hi⟩:∃ i,impl_FindVersion.frm (rd_L3 l0 m0) m1 0=i:=⟨_,rfl⟩;rw[hi]at hi0 hi1 hge ⊢;obtain⟨ad2,e2,hx0,hx1,hx2,hx3,hx4⟩:=at_T77 hC i hge hi1
  cases e2
  have HX:=am_ (show CellsF w0 _ (rd_T77 (rd_L3 l0 m0) i) from⟨hx0,hx1,hx2,hx3,hx4⟩);have HB:=am_ hb;have HC:=am_ (Kd.C_below hC hb0);have HL:=am_ hl2;have HI:=am_ hi;have d3:=decide_eq_false (show ¬ i < 0 by omega);clear hb hC hr0 hl2 hx0 hx1 hx2 hx3 hx4 hi hi0 hb0;have d1:=decide_eq_true hk0;have d2:=decide_eq_true hk1;replace hk0:=eq_true hk0;replace hk1:=eq_true hk1;have d4:=decide_eq_true hge;have d5:=decide_eq_true hi1;replace hge:=eq_true hge;replace hi1:=eq_true hi1
  go_enter Try.func58,Try.ntmps58
  go_wp2_with (go_at_call 72;(with_reducible refine(impl_FindVersion.calls _ c2 (rd_L3 l0 m0) m1 i _ ?s1 HL.out ?s2).mono ?_);(case s1=>exact Kd.C_below HC.out HB.out);(case s2=>exact congrArg some HI.out);rintro e w1 ⟨rfl,hb1⟩;have HB1:=am_ (below_step HB.out hb1);clear hb1)
  go_ret;exact⟨_,rfl,HB1.out,HX.out⟩
/-- The successor of the version that a mark tells. -/
def impl_ExcludingPair_at.suc (l:List (List S77)) (v:S47):Int:=(rd_T77 (rd_L3 l v.f0) (impl_FindVersion.frm (rd_L3 l v.f0) v.f1 0)).f4
set_option maxHeartbeats 4000000 in
set_option maxRecDepth 100000 in
/-- What the closure answers for a mark. -/
theorem impl_ExcludingPair_at.clo (k:Nat) (v:S47) (gs gt:Nat)(A0_0:Option Addr)(c0_0:Nat) (l0_0:List (List S77)) (a1_0 a1_1 a1_2 a1_3 a1_4 a1_5 a1_6:Int)(A1_7:Option Addr)(c1_7:Nat) (l1_7:List S47) (A1_8:Option Addr)(c1_8:Nat) (l1_8:List S58) (h:Int) (w:World) (hr0_0:Kd.C (Kd.slice 77 k77) w A0_0 l0_0.length l0_0) (hc0_0:l0_0.length≤c0_0) (hr1_7:Kd.C k47 w A1_7 l1_7.length l1_7) (hc1_7:l1_7.length≤c1_7) (hr1_8:Kd.C k58 w A1_8 l1_8.length l1_8) (hc1_8:l1_8.length≤c1_8) (hs:w.heap[gs]? = some (.cells #[.slice A0_0 l0_0.length c0_0] 39 (0,0))) (ht:w.heap[gt]? = some (.cells #[i_ a1_0,i_ a1_1,i_ a1_2,i_ a1_3,i_ a1_4,i_ a1_5,i_ a1_6,.slice A1_7 l1_7.length c1_7,.slice A1_8 l1_8.length c1_8] 29 (0,0))) (hk0:0≤v.f0) (hk1:v.f0 < (l0_0.length:Int)) (hge:0≤impl_FindVersion.frm (rd_L3 l0_0 v.f0) v.f1 0) (hh:impl_Store_refreshHigh.f k l0_0 a1_0 a1_1 a1_2 a1_3 a1_4 a1_5 a1_6 l1_7 l1_8=some h) :
    Calls Try.prog 57 #[.agg #[i_ v.f0,i_ v.f1],.pointer (some ⟨gs,0,none⟩),.pointer (some ⟨gt,0,none⟩)] w fun e w'=>e=.returned (.bool (impl_ExcludingPair_at.suc l0_0 v == h))∧Below w.heap.size w w':=by
  have huS:=Try.underlying39;have huT:=Try.underlying29;have huM:=Try.underlying47;have huV:=Try.underlying77;have HR0:=am_ hr0_0;have HC0:=am_ hc0_0;have HR7:=am_ hr1_7;have HC7:=am_ hc1_7;have HR8:=am_ hr1_8;have HC8:=am_ hc1_8;have HH:=am_ hh;have HK0:=am_ hk0;have HK1:=am_ hk1;have HG:=am_ hge;have BK1:=am_ hs;have BK2:=am_ ht;clear hr0_0 hc0_0 hr1_7 hc1_7 hr1_8 hc1_8 hh hk0 hk1 hge hs ht
  go_enter Try.func57,Try.ntmps57
  go_wp2_with (first|((with_reducible refine gate_dst (N:=3) rfl ?_);refine be_ 3 #[i_ v.f0,i_ v.f1] 47 ?_;intro gb3 hg w1 hbox hb;have BK3:=am_ hbox;have HB:=am_ hb;replace BK1:=am_ (blk_below BK1.out hb);replace BK2:=am_ (blk_below BK2.out hb);clear hb hbox hg))
  replace BK1:=am_ (blk_drew BK1.out);replace BK2:=am_ (blk_drew BK2.out);replace BK3:=am_ (blk_drew BK3.out);replace HB:=am_ (below_drew1 HB.out);refine start_ (n:=11) (S:=fun w'=>w'.cell? ⟨gs,0,none⟩=some (.slice A0_0 l0_0.length c0_0)∧w'.cell? ⟨gb3,0,none⟩=some (i_ v.f0)∧w'.cell? ⟨gb3,1,none⟩=some (i_ v.f1)∧w'.cell? ⟨gt,0,none⟩=some (i_ a1_0)∧w'.cell? ⟨gt,1,none⟩=some (i_ a1_1)∧w'.cell? ⟨gt,2,none⟩=some (i_ a1_2)∧w'.cell? ⟨gt,3,none⟩=some (i_ a1_3)∧w'.cell? ⟨gt,4,none⟩=some (i_ a1_4)∧w'.cell? ⟨gt,5,none⟩=some (i_ a1_5)∧w'.cell? ⟨gt,6,none⟩=some (i_ a1_6)∧w'.cell? ⟨gt,7,none⟩=some (.slice A1_7 l1_7.length c1_7)∧w'.cell? ⟨gt,8,none⟩=some (.slice A1_8 l1_8.length c1_8)∧Below w.heap.size w w') (ds:=[]) #[n_,n_,n_,n_,n_,n_,n_,n_,n_,n_,n_] (by kernel_rfl) rfl rfl ⟨cl_ BK1.out 0,cl_ BK3.out 0,cl_ BK3.out 1,cl_ BK2.out 0,cl_ BK2.out 1,cl_ BK2.out 2,cl_ BK2.out 3,cl_ BK2.out 4,cl_ BK2.out 5,cl_ BK2.out 6,cl_ BK2.out 7,cl_ BK2.out 8,HB.out⟩ (fun hHeld=>?_);refine with_tabW impl_ExcludingPair_at.tab1 impl_ExcludingPair_at.bits1 (fun HT_ HW_=>?_);generalize w1.drew=w2 at BK1 BK2 BK3 HB hHeld ⊢;refine tj_ 0 5 11 1 HT_ HW_ (v:=?_) (a':=?_) ?_ hHeld ?_ ?_;rotate_left
  · rintro w' ⟨s0,s1,s2,s3,s4,s5,s6,s7,s8,s9,s10,s11,s12⟩;go_simp
    first|(with_reducible rfl)|rfl
  rotate_left;(exact pe_);refine tj_ 1 6 11 3 HT_ HW_ (v:=?_) (a':=?_) ?_ hHeld ?_ ?_;rotate_left
  · rintro w' ⟨s0,s1,s2,s3,s4,s5,s6,s7,s8,s9,s10,s11,s12⟩;go_simp
    first|(with_reducible rfl)|rfl
  rotate_left;(exact pe_);refine tj_ 6 11 11 67 HT_ HW_ (v:=?_) (a':=?_) ?_ hHeld ?_ ?_;rotate_left
  · rintro w' ⟨s0,s1,s2,s3,s4,s5,s6,s7,s8,s9,s10,s11,s12⟩;go_simp
    first|(with_reducible rfl)|rfl
  rotate_left;(exact pe_);refine tj_ 7 12 11 195 HT_ HW_ (v:=?_) (a':=?_) ?_ hHeld ?_ ?_;rotate_left
  · rintro w' ⟨s0,s1,s2,s3,s4,s5,s6,s7,s8,s9,s10,s11,s12⟩;go_simp
    first|(with_reducible rfl)|rfl
  rotate_left;(exact pe_);refine oe_ 2 (bs_ 11 199) HT_ (fun K hK=>?_);refine goes_ Try.func58 (by kernel_rfl) rfl #[.agg #[.slice A0_0 l0_0.length c0_0],.agg #[i_ v.f0,i_ v.f1]] (by rfl) rfl rfl (by(try simp only[List.map_toArray,List.map_cons,List.map_nil]);first|done|rfl) ?_;(with_reducible refine(impl_ExcludingPair_at.find0 _ _ l0_0 v.f0 v.f1 w _ HB.out HR0.out HK0.out HK1.out HG.out).mono ?_);rintro e w3 ⟨p,rfl,hb,hq0,hq1,hq2,hq3,hq4⟩;have HQ:=am_ hq4;clear hq0 hq1 hq2 hq3 hq4;refine⟨_,rfl,?_⟩;replace BK1:=am_ (blk_below BK1.out hb);replace BK2:=am_ (blk_below BK2.out hb);replace BK3:=am_ (blk_below BK3.out hb);replace HB:=am_ (below_step HB.out hb);clear hb;refine hK.out _ _ ⟨cl_ BK1.out 0,cl_ BK3.out 0,cl_ BK3.out 1,cl_ BK2.out 0,cl_ BK2.out 1,cl_ BK2.out 2,cl_ BK2.out 3,cl_ BK2.out 4,cl_ BK2.out 5,cl_ BK2.out 6,cl_ BK2.out 7,cl_ BK2.out 8,HB.out⟩ (fun hHeld=>?_);clear hK K;refine nr_ ?_;refine pj_ 3 8 11 207 HT_ ?_;refine pj_ 4 9 11 223 HT_ ?_;refine tj_ 5 10 11 255 HT_ HW_ (v:=?_) (a':=?_) ?_ hHeld ?_ ?_;rotate_left
  · rintro w' ⟨s0,s1,s2,s3,s4,s5,s6,s7,s8,s9,s10,s11,s12⟩;have hq:=(s12.cell (World.block_lt_of_cell? w _ HQ.out)).trans HQ.out;go_simp
    first|(with_reducible rfl)|rfl
  rotate_left;(exact pe_);refine oe_ 8 (bs_ 11 511) HT_ (fun K hK=>?_);refine goes_ Try.func53 (by kernel_rfl) rfl #[.agg #[.slice A0_0 l0_0.length c0_0],.agg #[i_ a1_0,i_ a1_1,i_ a1_2,i_ a1_3,i_ a1_4,i_ a1_5,i_ a1_6,.slice A1_7 l1_7.length c1_7,.slice A1_8 l1_8.length c1_8]] (by rfl) rfl rfl (by(try simp only[List.map_toArray,List.map_cons,List.map_nil]);first|done|rfl) ?_;(with_reducible refine(impl_Store_refreshHigh.calls k _ _ l0_0 a1_0 a1_1 a1_2 a1_3 a1_4 a1_5 a1_6 _ _ l1_7 _ _ l1_8 h _ (Kd.C_below HR0.out HB.out) HC0.out (Kd.C_below HR7.out HB.out) HC7.out (Kd.C_below HR8.out HB.out) HC8.out HH.out).mono ?_);rintro e w4 ⟨rfl,hb⟩;refine⟨_,rfl,?_⟩;replace BK1:=am_ (blk_below BK1.out hb);replace BK2:=am_ (blk_below BK2.out hb);replace BK3:=am_ (blk_below BK3.out hb);replace HB:=am_ (below_step HB.out hb);clear hb;refine hK.out _ _ ⟨cl_ BK1.out 0,cl_ BK3.out 0,cl_ BK3.out 1,cl_ BK2.out 0,cl_ BK2.out 1,cl_ BK2.out 2,cl_ BK2.out 3,cl_ BK2.out 4,cl_ BK2.out 5,cl_ BK2.out 6,cl_ BK2.out 7,cl_ BK2.out 8,HB.out⟩ (fun hHeld=>?_);clear hK K;refine nr_ ?_;refine pj_ 9 14 11 1023 HT_ ?_;refine pj_ 10 4 11 2047 HT_ ?_;refine dn_ HT_.out ?_;(try go_wp2);go_ret;exact⟨rfl,HB.out⟩
set_option maxHeartbeats 2000000 in
set_option maxRecDepth 100000 in
/-- The search, by what the closure answers at each world behind the first. -/
theorem impl_ExcludingPair_at.idx (fv:Array Value) (p:S47→Bool) (A0:Option Addr)(c0:Nat) (l0:List S47) (w:World) (hr0:Kd.C k47 w A0 l0.length l0) (hc0:l0.length≤c0)
    (hclo:∀ j,j < l0.length→∀ W,Below w.heap.size w W→Calls Try.prog 57 (#[.agg #[i_ (rd_T47 l0 (j:Int)).f0,i_ (rd_T47 l0 (j:Int)).f1]]++fv) W fun e w'=>e=.returned (.bool (p (rd_T47 l0 (j:Int))))∧Below W.heap.size W w') :
    Calls Try.prog 56 #[.slice A0 l0.length c0,.func (.func 57) #[] fv] w fun e w'=>e=.returned (i_ (impl_Store_readsExist.frm p l0 0))∧Below w.heap.size w w':=by
  have hu:=Try.underlying47;have hlen:=hr0.2.1;have HR0:=am_ hr0;have HC:=am_ hclo;clear hr0 hclo;obtain⟨r,hr⟩:∃ r,r=impl_Store_readsExist.frm p l0 0:=⟨_,rfl⟩;rw[← hr];have HF:=am_ hr.symm;clear hr
  go_enter Try.func56,Try.ntmps56
  go_wp2
  go_loopg [8] l0.length (fun kq v8 w'=>∃ (i:Nat),v8=i_ (i:Int)∧i≤l0.length∧Aside0 (impl_Store_readsExist.frm p l0 i=r)∧Aside0 (kq+i=l0.length)∧Aside0 (Below w.heap.size w w'))
  case atStart=>exact⟨0,rfl,Nat.zero_le _,HF,⟨by omega⟩,⟨Below.refl _ _⟩⟩
  case round=>
    clear HF;obtain⟨i,rfl,hi,HF,HK,HB⟩:=hrel
    by_cases hlt:i < l0.length
    · obtain⟨k1,rfl⟩:∃ m,gk=m+1:=⟨gk - 1,by have:=HK.out;omega⟩;obtain⟨ad,e_,hx0,hx1⟩:=at_T47 HR0.out (i:Int) (by omega) (by omega)
      cases e_
      replace hx0:=bl_ HB.out hx0;replace hx1:=bl_ HB.out hx1;simp only[Int.toNat_natCast]at hx0 hx1;have HCI:=am_ (HC.out i hlt);(have hv:rd_T47 l0 (i:Int)=l0.getD i z47:=by unfold rd_T47;rw[Int.toNat_natCast]);have HV:=am_ hv;clear hv
      cases hp:p (l0.getD i z47) with
      | true=>
        (have hb:p (rd_T47 l0 (i:Int))=true:=by rw[HV.out];exact hp);have HP:=am_ hp;clear hp
        go_wp2_with (go_at_call 57;(with_reducible refine(HCI.out _ HB.out).mono ?_);rintro e w1 ⟨rfl,hb1⟩;have HB2:=am_ (below_step HB.out hb1);clear hb1)
        go_ret;exact⟨by rw[← HF.out,impl_Store_readsExist.frm_hit _ _ _ hlt HP.out];rfl,HB2.out⟩
      | false=>
        (have hb:p (rd_T47 l0 (i:Int))=false:=by rw[HV.out];exact hp);have HP:=am_ hp;clear hp
        go_wp2_with (go_at_call 57;(with_reducible refine(HCI.out _ HB.out).mono ?_);rintro e w1 ⟨rfl,hb1⟩;have HB2:=am_ (below_step HB.out hb1);clear hb1)
        go_roundg k1
        case measure=>have:=HK.out;omega
        case rel=>exact⟨i+1,by go_num,by omega,⟨by rw[← HF.out,impl_Store_readsExist.frm_miss _ _ _ hlt HP.out]⟩,⟨by have:=HK.out;omega⟩,HB2⟩
    · go_wp2
      go_ret;exact⟨by rw[← HF.out,impl_Store_readsExist.frm_end _ _ _ hlt];rfl,HB.out⟩
def impl_ExcludingPair_at.f (k:Nat) (l0_0:List (List S77)) (a1_0 a1_1 a1_2 a1_3 a1_4 a1_5 a1_6:Int) (l1_7:List S47) (l1_8:List S58):Option Int:=
  (impl_Store_refreshHigh.f k l0_0 a1_0 a1_1 a1_2 a1_3 a1_4 a1_5 a1_6 l1_7 l1_8).bind fun h=>if (∀ j,j < l1_7.length→0≤(l1_7.getD j z47).f0∧(l1_7.getD j z47).f0 < (l0_0.length:Int)∧0≤impl_FindVersion.frm (rd_L3 l0_0 (l1_7.getD j z47).f0) (l1_7.getD j z47).f1 0) then some (impl_Store_readsExist.frm (fun m=>impl_ExcludingPair_at.suc l0_0 m == h) l1_7 0) else none
theorem impl_ExcludingPair_at.mono:∀ a0 a1 a2 a3 a4 a5 a6 a7 a8 a9 k,LeO (impl_ExcludingPair_at.f k a0 a1 a2 a3 a4 a5 a6 a7 a8 a9) (impl_ExcludingPair_at.f (k+1) a0 a1 a2 a3 a4 a5 a6 a7 a8 a9):=by
  intro a0 a1 a2 a3 a4 a5 a6 a7 a8 a9 k;unfold impl_ExcludingPair_at.f;exact LeO.bind (impl_Store_refreshHigh.mono _ _ _ _ _ _ _ _ _ _ _) (fun _=>LeO.refl _)
set_option maxHeartbeats 2000000 in
theorem impl_ExcludingPair_at.calls (k:Nat)(E:Option Addr)(F:Nat) (l0_0:List (List S77)) (a1_0 a1_1 a1_2 a1_3 a1_4 a1_5 a1_6:Int)(B:Option Addr)(D:Nat) (l1_7:List S47) (G:Option Addr)(I:Nat) (l1_8:List S58) (r:Int) (w:World) (hr0_0:Kd.C (Kd.slice 77 k77) w E l0_0.length l0_0) (hc0_0:l0_0.length≤F) (hr1_7:Kd.C k47 w B l1_7.length l1_7) (hc1_7:l1_7.length≤D) (hr1_8:Kd.C k58 w G l1_8.length l1_8) (hc1_8:l1_8.length≤I) (h:impl_ExcludingPair_at.f k l0_0 a1_0 a1_1 a1_2 a1_3 a1_4 a1_5 a1_6 l1_7 l1_8=some r) (gs gt:Nat) (hs:w.heap[gs]? = some (.cells #[.slice E l0_0.length F] 39 (0,0))) (ht:w.heap[gt]? = some (.cells #[i_ a1_0,i_ a1_1,i_ a1_2,i_ a1_3,i_ a1_4,i_ a1_5,i_ a1_6,.slice B l1_7.length D,.slice G l1_8.length I] 29 (0,0))) :
    Calls Try.prog 56 #[.slice B l1_7.length D,.func (.func 57) #[] #[.pointer (some ⟨gs,0,none⟩),.pointer (some ⟨gt,0,none⟩)]] w fun e w'=>e=.returned (i_ r)∧Below w.heap.size w w':=by
  unfold impl_ExcludingPair_at.f at h;obtain⟨q,h1,h2⟩:=Option.bind_eq_some_iff.1 h
  by_cases hk:∀ j,j < l1_7.length→0≤(l1_7.getD j z47).f0∧(l1_7.getD j z47).f0 < (l0_0.length:Int)∧0≤impl_FindVersion.frm (rd_L3 l0_0 (l1_7.getD j z47).f0) (l1_7.getD j z47).f1 0
  · rw[if_pos hk]at h2;obtain rfl:=Option.some.inj h2;refine impl_ExcludingPair_at.idx _ _ B D l1_7 w hr1_7 hc1_7 (fun j hj W hb=>?_);(have hv:rd_T47 l1_7 (j:Int)=l1_7.getD j z47:=by unfold rd_T47;rw[Int.toNat_natCast]);obtain⟨k1,k2,k3⟩:=hk j hj;rw[← hv]at k1 k2 k3;exact impl_ExcludingPair_at.clo k _ gs gt E F l0_0 a1_0 a1_1 a1_2 a1_3 a1_4 a1_5 a1_6 B D l1_7 G I l1_8 q W (Kd.C_below hr0_0 hb) hc0_0 (Kd.C_below hr1_7 hb) hc1_7 (Kd.C_below hr1_8 hb) hc1_8 (blk_below hs hb) (blk_below ht hb) k1 k2 k3 h1
  · rw[if_neg hk]at h2
    cases h2


end Go.Proofs.Ytacdaekigoldaaa.PFnExclusion
