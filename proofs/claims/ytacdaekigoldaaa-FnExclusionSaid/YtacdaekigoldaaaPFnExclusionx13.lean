-- Printed by my own myprint.py out of the translation of the seat Ytacdaekigoldaaa. Not trusted: Lean checks it.
import Derived.Test.YtacdaekigoldaaaPFnExclusionx0
import Derived.Test.YtacdaekigoldaaaPFnExclusionx10
namespace Go.Proofs.Ytacdaekigoldaaa.PFnExclusion
open Go.RowKit Go.Proofs.YtacdaekigoldaaaW.PrintWords Go.Proofs.YtacdaekigoldaaaW.PrintLast Go.Proofs.YtacdaekigoldaaaW.PrintMore
attribute [local go_sem] max2_int min2_int max_two min_two max_three min_three max_four min_four   -- for this text's walks alone
set_option linter.unusedVariables false
set_option linter.unusedSimpArgs false

/-! ### impl_isValue: function 64 -/
def impl_isValue.f (a0:Int):Option (Bool):=(impl_in.f a0 (-1) 99).bind fun t518=>(some t518)
set_option maxHeartbeats 8000000 in
set_option maxRecDepth 100000 in
theorem impl_isValue.calls (a0:Int)(r:Bool) (w:World) (h:impl_isValue.f a0=some r) :
    Calls Try.prog 64 #[i_ a0] w fun e w'=>e=.returned (.bool r)∧Drawn0 w w':=by
  unfold impl_isValue.f at h;have H:=h;clear h;replace H:=bi_ H;obtain⟨C,B,H⟩:=H;have A2:=am_ B;clear B;obtain rfl:=Option.some.inj H
  go_enter Try.func64,Try.ntmps64
  go_wp2_with (first|((with_reducible refine gate_callee (f:=36) rfl ?_);refine goesL_ (some 4) rfl rfl Try.func36 (by kernel_rfl) rfl #[i_ a0,i_ (-1),i_ 99] rfl mp_ ?_;(with_reducible refine(impl_in.calls a0 (-1) 99 C _ A2.out).mono ?_);rintro e w' ⟨rfl,⟨nd,rfl⟩⟩;refine⟨_,rfl,?_⟩))
  go_ret;exact⟨rs_,by repeat(first|exact Drawn0.refl _|apply Drawn0.step)⟩

/-! ### impl_areWrites: function 39 -/
def impl_areWrites.l0:Nat→List (S58)→List (S58)→Int→Int→Option (Bool)
  | 0,_,_,_,_=>none
  | k+1,x0,x5,x6,x7=>if x7 < x6 then (if 0≤x7 then (if x7 < (x5.length:Int) then ((impl_isKey.f ((rd_T58 x5 x7).f0)).bind fun t521=>(if t521=true then ((impl_isValue.f ((rd_T58 x5 x7).f1)).bind fun t522=>(if t522=true then (if x7 > 0 then (if 0≤(wrap64 (x7 - 1)) then (if (wrap64 (x7 - 1)) < (x0.length:Int) then (if ((rd_T58 x0 (wrap64 (x7 - 1))).f0) ≥ ((rd_T58 x5 x7).f0) then (some false) else (impl_areWrites.l0 k x0 x5 x6 (wrap64 (x7+1)))) else (none)) else (none)) else (impl_areWrites.l0 k x0 x5 x6 (wrap64 (x7+1)))) else (some false))) else (some false))) else (none)) else (none)) else (some true)
def impl_areWrites.f (k:Nat) (l0:List (S58)):Option (Bool):=impl_areWrites.l0 k l0 l0 (l0.length:Int) 0
theorem impl_areWrites.mono_l:∀ k,(∀ y0 y1 y2 y3,LeO (impl_areWrites.l0 k y0 y1 y2 y3) (impl_areWrites.l0 (k+1) y0 y1 y2 y3))
  | 0=>fun _ _ _ _ r h=>by simp [impl_areWrites.l0]at h
  | k+1=>by
    have ih0:=impl_areWrites.mono_l k
    · intro y0 y1 y2 y3;unfold impl_areWrites.l0
      repeat' first
      | (with_reducible first|apply ih0|exact LeO.refl _|exact LeO.none _|refine LeO.ite ?_ ?_|refine LeO.bind ?_ (fun _=>?_))
theorem impl_areWrites.mono:∀ a0 k,LeO (impl_areWrites.f k a0) (impl_areWrites.f (k+1) a0):=by
  intro a0 k;have ih0:=impl_areWrites.mono_l k;unfold impl_areWrites.f
  repeat' first
      | (with_reducible first|apply ih0|exact LeO.refl _|exact LeO.none _|refine LeO.ite ?_ ?_|refine LeO.bind ?_ (fun _=>?_))
set_option maxHeartbeats 8000000 in
set_option maxRecDepth 100000 in
theorem impl_areWrites.calls (k:Nat)(A0:Option Addr)(c0:Nat) (l0:List (S58)) (r:Bool) (w:World) (hr0:Kd.C k58 w A0 l0.length l0) (hc0:l0.length≤c0) (h:impl_areWrites.f k l0=some r) :
    Calls Try.prog 39 #[.slice A0 l0.length c0] w fun e w'=>e=.returned (.bool r)∧Below w.heap.size w w':=by
  have hu58:=Try.underlying58;have X:=am_ hr0;have Br:=am_ hc0;clear hr0 hc0;have HB:=am_ (Below.refl w.heap.size w);unfold impl_areWrites.f at h;have H:=h;clear h;have H':=am_ H;clear H
  go_enter Try.func39,Try.ntmps39
  go_wp2
  repeat(go_quiet (fail);try go_wp2)
  go_loopg [7] k (fun kq v7 w'=>∃ (B:Int),v7=i_ B∧Aside0 (impl_areWrites.l0 kq l0 l0 (l0.length:Int) B=some r)∧Aside0 (kq≤k)∧Aside0 (Below w.heap.size w w'))
  case atStart=>exact⟨(0),rs_,H',⟨Nat.le_refl _⟩,⟨hbw_ HB⟩⟩
  case round=>
    clear H';obtain⟨B,rfl,HA,HK1,HB⟩:=hrel
    cases gk with
    | zero=>exact absurd HA.out (by simp [impl_areWrites.l0])
    | succ k1=>
      have H:=HA.out;clear HA;simp only[impl_areWrites.l0]at H
      refine em_ (B < (l0.length:Int)) ?ac2 ?bc2
      case' ac2=>
       intro c2
       rw[if_pos c2]at H;have Bm:decide (B < (l0.length:Int))=true:=decide_eq_true c2;clear c2
       refine em_ (0≤B) ?ac3 ?bc3
       case' ac3=>
        intro c3
        rw[if_pos c3]at H;have Bs:decide (0≤B)=true:=decide_eq_true c3;clear c3
        refine em_ (B < (l0.length:Int)) ?ac4 ?bc4
        case' ac4=>
         intro c4
         rw[if_pos c4]at H;have Bt:decide (B < (l0.length:Int))=true:=decide_eq_true c4;clear c4;replace H:=bi_ H;obtain⟨Bn,Bg,H⟩:=H;have A5:=am_ Bg;clear Bg
         refine em_ (Bn=true) ?ac6 ?bc6
         case' ac6=>
          intro c6
          subst c6;rw[if_pos rfl]at H;replace H:=bi_ H;obtain⟨Bo,Bh,H⟩:=H;have A7:=am_ Bh;clear Bh
          refine em_ (Bo=true) ?ac8 ?bc8
          case' ac8=>
           intro c8
           subst c8;rw[if_pos rfl]at H
           refine em_ (B > 0) ?ac9 ?bc9
           case' ac9=>
            intro c9
            rw[if_pos c9]at H;have Bp:decide (0 < B)=true:=decide_eq_true c9;clear c9;obtain⟨J,Bb⟩:∃ j_:Int,(wrap64 (B - 1))=j_:=⟨_,rfl⟩;(first|rw[Bb]at H|simp only[Bb]at H);(try rw[Bb]at A5);(try rw[Bb]at A7);have Bu:(IntKind.i64.wrap (B - 1))=J:=(i64_w _).trans Bb
            refine em_ (0≤(J)) ?ac11 ?bc11
            case' ac11=>
             intro Bc
             rw[if_pos Bc]at H;have Bv:decide (0≤(J))=true:=decide_eq_true Bc;clear Bc
             refine em_ ((J) < (l0.length:Int)) ?ac12 ?bc12
             case' ac12=>
              intro Bd
              rw[if_pos Bd]at H;have Bw:decide ((J) < (l0.length:Int))=true:=decide_eq_true Bd;clear Bd
              refine em_ (((rd_T58 l0 (J)).f0) ≥ ((rd_T58 l0 B).f0)) ?ac13 ?bc13
              case' ac13=>
               intro Ba
               rw[if_pos Ba]at H;have Bq:decide (((rd_T58 l0 B).f0)≤((rd_T58 l0 (J)).f0))=true:=decide_eq_true Ba;clear Ba;obtain rfl:=Option.some.inj H;have G:0≤(B:Int):=of_decide_eq_true as_;have I:B < (l0.length:Int):=of_decide_eq_true as_;obtain⟨O,e519,L,M⟩:=at_T58 X.out B G I
               cases e519
               replace L:=bl_ HB.out L;replace M:=bl_ HB.out M;replace G:=eq_true G;replace I:=eq_true I
              case' bc13=>
               intro Ba
               rw[if_neg Ba]at H;have Bq:decide (((rd_T58 l0 B).f0)≤((rd_T58 l0 (J)).f0))=false:=decide_eq_false Ba;clear Ba;have H':=am_ H;clear H;have G:0≤(B:Int):=of_decide_eq_true as_;have I:B < (l0.length:Int):=of_decide_eq_true as_;obtain⟨O,e519,L,M⟩:=at_T58 X.out B G I
               cases e519
               replace L:=bl_ HB.out L;replace M:=bl_ HB.out M;replace G:=eq_true G;replace I:=eq_true I
             case' bc12=>
              intro Bd
              rw[if_neg Bd]at H;exact absurd H (by simp)
            case' bc11=>
             intro Bc
             rw[if_neg Bc]at H;exact absurd H (by simp)
           case' bc9=>
            intro c9
            rw[if_neg c9]at H;have Bp:decide (0 < B)=false:=decide_eq_false c9;clear c9;have H':=am_ H;clear H;have G:0≤(B:Int):=of_decide_eq_true as_;have I:B < (l0.length:Int):=of_decide_eq_true as_;obtain⟨O,e519,L,M⟩:=at_T58 X.out B G I
            cases e519
            replace L:=bl_ HB.out L;replace M:=bl_ HB.out M;replace G:=eq_true G;replace I:=eq_true I
          case' bc8=>
           intro c8
           replace c8:=Bool.eq_false_iff.mpr c8;subst c8;rw[if_neg nt_]at H;obtain rfl:=Option.some.inj H;have G:0≤(B:Int):=of_decide_eq_true as_;have I:B < (l0.length:Int):=of_decide_eq_true as_;obtain⟨O,e519,L,M⟩:=at_T58 X.out B G I
           cases e519
           replace L:=bl_ HB.out L;replace M:=bl_ HB.out M;replace G:=eq_true G;replace I:=eq_true I
         case' bc6=>
          intro c6
          replace c6:=Bool.eq_false_iff.mpr c6;subst c6;rw[if_neg nt_]at H;obtain rfl:=Option.some.inj H;have G:0≤(B:Int):=of_decide_eq_true as_;have I:B < (l0.length:Int):=of_decide_eq_true as_;obtain⟨O,e519,L,M⟩:=at_T58 X.out B G I
          cases e519
          replace L:=bl_ HB.out L;replace M:=bl_ HB.out M;replace G:=eq_true G;replace I:=eq_true I
        case' bc4=>
         intro c4
         rw[if_neg c4]at H;exact absurd H (by simp)
       case' bc3=>
        intro c3
        rw[if_neg c3]at H;exact absurd H (by simp)
      case' bc2=>
       intro c2
       rw[if_neg c2]at H;have Bm:decide (B < (l0.length:Int))=false:=decide_eq_false c2;clear c2;obtain rfl:=Option.some.inj H
      all_goals
       go_wp2_with (first|((with_reducible refine gate_dst (N:=4) rfl ?_);refine be_ 4 #[i_ 0,i_ 0] 58 ?_;intro D hg Y hbox hb;have Z:=am_ hbox;have R:=wk_ hg HB;replace HB:=hs_ HB hb;have Bf:=R;clear hb hbox hg;have Bi:=bc2_ Z.out;have Bj:=bf2_ Z.out)|(go_at_call 62;(with_reducible refine(impl_isKey.calls ((rd_T58 l0 B).f0) _ _ A5.out).mono ?_);rintro e w' ⟨rfl,⟨nd,rfl⟩⟩;(try first|exact⟨rfl,_,World.drewN_drewN _ _ _⟩|exact⟨rfl,_,Eq.trans (World.drewN_drewN _ _ _) (congrArg (World.drewN _) (Nat.add_assoc _ _ _))⟩))|(go_at_call 64;(with_reducible refine(impl_isValue.calls ((rd_T58 l0 B).f1) _ _ A7.out).mono ?_);rintro e w' ⟨rfl,⟨nd,rfl⟩⟩;(try first|exact⟨rfl,_,World.drewN_drewN _ _ _⟩|exact⟨rfl,_,Eq.trans (World.drewN_drewN _ _ _) (congrArg (World.drewN _) (Nat.add_assoc _ _ _))⟩);(first|(have U:0≤((J):Int):=of_decide_eq_true as_;have V:(J) < (l0.length:Int):=of_decide_eq_true as_;obtain⟨Be,e523,E,F⟩:=at_T58 X.out (J) U V;obtain rfl:O=Be:=(by injection e523);have hn523_0:O.block≠D:=Nat.ne_of_lt (Nat.lt_of_lt_of_le (by have:=World.block_lt_of_cell? _ _ E;first|rwa [add_block]at this|exact this) R.out);have hn523_1:O.block≠D:=Nat.ne_of_lt (Nat.lt_of_lt_of_le (by have:=World.block_lt_of_cell? _ _ E;first|rwa [add_block]at this|exact this) R.out);replace E:=bl_ HB.out E;replace F:=bl_ HB.out F;replace E:=(cell_far (p:=⟨D,0,none⟩) (nb_ hn523_0) (i_ ((rd_T58 l0 B).f0))).trans E;replace F:=(cell_far (p:=⟨D,0,none⟩) (nb_ hn523_0) (i_ ((rd_T58 l0 B).f0))).trans F;replace E:=(cell_far (p:=⟨D,1,none⟩) (nb_ hn523_1) (i_ ((rd_T58 l0 B).f1))).trans E;replace F:=(cell_far (p:=⟨D,1,none⟩) (nb_ hn523_1) (i_ ((rd_T58 l0 B).f1))).trans F;(try have Bk:=fun (n_:Nat)=>(show((((Y.drewN n_).setCell ⟨D,0,none⟩ (i_ ((rd_T58 l0 B).f0))).setCell ⟨D,1,none⟩ (i_ ((rd_T58 l0 B).f1)))).cell? _=some _ from E));(try have Bl:=fun (n_:Nat)=>(show((((Y.drewN n_).setCell ⟨D,0,none⟩ (i_ ((rd_T58 l0 B).f0))).setCell ⟨D,1,none⟩ (i_ ((rd_T58 l0 B).f1)))).cell? _=some _ from F));clear hn523_0;clear hn523_1;replace U:=eq_true U;replace V:=eq_true V)|skip)))
       repeat(go_quiet (first|((with_reducible refine gate_dst (N:=4) rfl ?_);refine be_ 4 #[i_ 0,i_ 0] 58 ?_;intro D hg Y hbox hb;have Z:=am_ hbox;have R:=wk_ hg HB;replace HB:=hs_ HB hb;have Bf:=R;clear hb hbox hg;have Bi:=bc2_ Z.out;have Bj:=bf2_ Z.out)|(go_at_call 62;(with_reducible refine(impl_isKey.calls ((rd_T58 l0 B).f0) _ _ A5.out).mono ?_);rintro e w' ⟨rfl,⟨nd,rfl⟩⟩;(try first|exact⟨rfl,_,World.drewN_drewN _ _ _⟩|exact⟨rfl,_,Eq.trans (World.drewN_drewN _ _ _) (congrArg (World.drewN _) (Nat.add_assoc _ _ _))⟩))|(go_at_call 64;(with_reducible refine(impl_isValue.calls ((rd_T58 l0 B).f1) _ _ A7.out).mono ?_);rintro e w' ⟨rfl,⟨nd,rfl⟩⟩;(try first|exact⟨rfl,_,World.drewN_drewN _ _ _⟩|exact⟨rfl,_,Eq.trans (World.drewN_drewN _ _ _) (congrArg (World.drewN _) (Nat.add_assoc _ _ _))⟩);(first|(have U:0≤((J):Int):=of_decide_eq_true as_;have V:(J) < (l0.length:Int):=of_decide_eq_true as_;obtain⟨Be,e523,E,F⟩:=at_T58 X.out (J) U V;obtain rfl:O=Be:=(by injection e523);have hn523_0:O.block≠D:=Nat.ne_of_lt (Nat.lt_of_lt_of_le (by have:=World.block_lt_of_cell? _ _ E;first|rwa [add_block]at this|exact this) R.out);have hn523_1:O.block≠D:=Nat.ne_of_lt (Nat.lt_of_lt_of_le (by have:=World.block_lt_of_cell? _ _ E;first|rwa [add_block]at this|exact this) R.out);replace E:=bl_ HB.out E;replace F:=bl_ HB.out F;replace E:=(cell_far (p:=⟨D,0,none⟩) (nb_ hn523_0) (i_ ((rd_T58 l0 B).f0))).trans E;replace F:=(cell_far (p:=⟨D,0,none⟩) (nb_ hn523_0) (i_ ((rd_T58 l0 B).f0))).trans F;replace E:=(cell_far (p:=⟨D,1,none⟩) (nb_ hn523_1) (i_ ((rd_T58 l0 B).f1))).trans E;replace F:=(cell_far (p:=⟨D,1,none⟩) (nb_ hn523_1) (i_ ((rd_T58 l0 B).f1))).trans F;(try have Bk:=fun (n_:Nat)=>(show((((Y.drewN n_).setCell ⟨D,0,none⟩ (i_ ((rd_T58 l0 B).f0))).setCell ⟨D,1,none⟩ (i_ ((rd_T58 l0 B).f1)))).cell? _=some _ from E));(try have Bl:=fun (n_:Nat)=>(show((((Y.drewN n_).setCell ⟨D,0,none⟩ (i_ ((rd_T58 l0 B).f0))).setCell ⟨D,1,none⟩ (i_ ((rd_T58 l0 B).f1)))).cell? _=some _ from F));clear hn523_0;clear hn523_1;replace U:=eq_true U;replace V:=eq_true V)|skip)));try go_wp2_with (first|((with_reducible refine gate_dst (N:=4) rfl ?_);refine be_ 4 #[i_ 0,i_ 0] 58 ?_;intro D hg Y hbox hb;have Z:=am_ hbox;have R:=wk_ hg HB;replace HB:=hs_ HB hb;have Bf:=R;clear hb hbox hg;have Bi:=bc2_ Z.out;have Bj:=bf2_ Z.out)|(go_at_call 62;(with_reducible refine(impl_isKey.calls ((rd_T58 l0 B).f0) _ _ A5.out).mono ?_);rintro e w' ⟨rfl,⟨nd,rfl⟩⟩;(try first|exact⟨rfl,_,World.drewN_drewN _ _ _⟩|exact⟨rfl,_,Eq.trans (World.drewN_drewN _ _ _) (congrArg (World.drewN _) (Nat.add_assoc _ _ _))⟩))|(go_at_call 64;(with_reducible refine(impl_isValue.calls ((rd_T58 l0 B).f1) _ _ A7.out).mono ?_);rintro e w' ⟨rfl,⟨nd,rfl⟩⟩;(try first|exact⟨rfl,_,World.drewN_drewN _ _ _⟩|exact⟨rfl,_,Eq.trans (World.drewN_drewN _ _ _) (congrArg (World.drewN _) (Nat.add_assoc _ _ _))⟩);(first|(have U:0≤((J):Int):=of_decide_eq_true as_;have V:(J) < (l0.length:Int):=of_decide_eq_true as_;obtain⟨Be,e523,E,F⟩:=at_T58 X.out (J) U V;obtain rfl:O=Be:=(by injection e523);have hn523_0:O.block≠D:=Nat.ne_of_lt (Nat.lt_of_lt_of_le (by have:=World.block_lt_of_cell? _ _ E;first|rwa [add_block]at this|exact this) R.out);have hn523_1:O.block≠D:=Nat.ne_of_lt (Nat.lt_of_lt_of_le (by have:=World.block_lt_of_cell? _ _ E;first|rwa [add_block]at this|exact this) R.out);replace E:=bl_ HB.out E;replace F:=bl_ HB.out F;replace E:=(cell_far (p:=⟨D,0,none⟩) (nb_ hn523_0) (i_ ((rd_T58 l0 B).f0))).trans E;replace F:=(cell_far (p:=⟨D,0,none⟩) (nb_ hn523_0) (i_ ((rd_T58 l0 B).f0))).trans F;replace E:=(cell_far (p:=⟨D,1,none⟩) (nb_ hn523_1) (i_ ((rd_T58 l0 B).f1))).trans E;replace F:=(cell_far (p:=⟨D,1,none⟩) (nb_ hn523_1) (i_ ((rd_T58 l0 B).f1))).trans F;(try have Bk:=fun (n_:Nat)=>(show((((Y.drewN n_).setCell ⟨D,0,none⟩ (i_ ((rd_T58 l0 B).f0))).setCell ⟨D,1,none⟩ (i_ ((rd_T58 l0 B).f1)))).cell? _=some _ from E));(try have Bl:=fun (n_:Nat)=>(show((((Y.drewN n_).setCell ⟨D,0,none⟩ (i_ ((rd_T58 l0 B).f0))).setCell ⟨D,1,none⟩ (i_ ((rd_T58 l0 B).f1)))).cell? _=some _ from F));clear hn523_0;clear hn523_1;replace U:=eq_true U;replace V:=eq_true V)|skip))))
       first
       | (go_ret;exact⟨by first|rfl|(simp [errW_none,errW_some] <;> rfl)|(simp only[← Bb];first|rfl|(simp [errW_none,errW_some] <;> rfl))|(simp [*,errW_none,errW_some] <;> rfl),hq1_ HB.out Bf.out⟩)
       | (go_roundg k1;(case measure=>have:=HK1.out;omega);(case rel=>exact⟨(wrap64 (B+1)),rs_,H',⟨by have:=HK1.out;omega⟩,⟨hbw_ HB⟩⟩))
       | (go_ret;exact⟨ew_,hq1_ HB.out Bf.out⟩)
       | (go_ret;exact⟨ew_,hq0_ HB.out⟩)

end Go.Proofs.Ytacdaekigoldaaa.PFnExclusion
