-- Printed by my own myprint.py out of the translation of the seat Ytacdaekigoldaaa. Not trusted: Lean checks it.
import Derived.Test.YtacdaekigoldaaaPFnExclusionx0
import Derived.Test.YtacdaekigoldaaaPFnExclusionx2
namespace Go.Proofs.Ytacdaekigoldaaa.PFnExclusion
open Go.RowKit Go.Proofs.YtacdaekigoldaaaW.PrintWords Go.Proofs.YtacdaekigoldaaaW.PrintLast Go.Proofs.YtacdaekigoldaaaW.PrintMore
attribute [local go_sem] max2_int min2_int max_two min_two max_three min_three max_four min_four   -- for this text's walks alone
set_option linter.unusedVariables false
set_option linter.unusedSimpArgs false

/-! ### spec_IsValidStore: function 70 -/
def spec_IsValidStore.l0:Nat→Int→List (List (S77))→Option (Bool)
  | 0,_,_=>none
  | k+1,x3,x135000=>if x3 < (x135000.length:Int) then (if 0≤x3 then ((spec_IsValidChain.f k (rd_L3 x135000 x3)).bind fun t136=>(if t136=true then (if 0 < ((rd_L3 x135000 x3).length:Int) then (if ((rd_T77 (rd_L3 x135000 x3) 0).f2) > 0 then (if ((rd_L3 x135000 x3).length:Int) > 50 then (some false) else (spec_IsValidStore.l0 k (wrap64 (x3+1)) x135000)) else (if ((rd_L3 x135000 x3).length:Int) > 50 then (some false) else (spec_IsValidStore.l0 k (wrap64 (x3+1)) x135000))) else (none)) else (some false))) else (none)) else (some ((x135000.length:Int) == 6))
def spec_IsValidStore.f (k:Nat) (l0_0:List (List (S77))):Option (Bool):=spec_IsValidStore.l0 k 0 l0_0
theorem spec_IsValidStore.mono_l:∀ k,(∀ y0 y1,LeO (spec_IsValidStore.l0 k y0 y1) (spec_IsValidStore.l0 (k+1) y0 y1))
  | 0=>fun _ _ r h=>by simp [spec_IsValidStore.l0]at h
  | k+1=>by
    have ih0:=spec_IsValidStore.mono_l k
    · intro y0 y1;unfold spec_IsValidStore.l0
      repeat' first
      | (with_reducible first|apply ih0|apply spec_IsValidChain.mono|exact LeO.refl _|exact LeO.none _|refine LeO.ite ?_ ?_|refine LeO.bind ?_ (fun _=>?_))
theorem spec_IsValidStore.mono:∀ a0 k,LeO (spec_IsValidStore.f k a0) (spec_IsValidStore.f (k+1) a0):=by
  intro a0 k;have ih0:=spec_IsValidStore.mono_l k;unfold spec_IsValidStore.f
  repeat' first
      | (with_reducible first|apply ih0|apply spec_IsValidChain.mono|exact LeO.refl _|exact LeO.none _|refine LeO.ite ?_ ?_|refine LeO.bind ?_ (fun _=>?_))
set_option maxHeartbeats 8000000 in
set_option maxRecDepth 100000 in
theorem spec_IsValidStore.calls (k:Nat)(Bs:Option Addr)(Bt:Nat) (l0_0:List (List (S77))) (r:Bool) (w:World) (hr0_0:Kd.C (Kd.slice 77 k77) w Bs l0_0.length l0_0) (hc0_0:l0_0.length≤Bt) (h:spec_IsValidStore.f k l0_0=some r) :
    Calls Try.prog 70 #[.agg #[.slice Bs l0_0.length Bt]] w fun e w'=>e=.returned (.bool r)∧Below w.heap.size w w':=by
  have hu39:=Try.underlying39;have V:=am_ hr0_0;have Cw:=am_ hc0_0;clear hr0_0 hc0_0;have HB:=am_ (Below.refl w.heap.size w);unfold spec_IsValidStore.f at h;have H:=h;clear h;have H':=am_ H;clear H
  go_enter Try.func70,Try.ntmps70
  go_wp2_with (first|((with_reducible refine gate_dst (N:=1) rfl ?_);refine be_ 1 #[.slice Bs l0_0.length Bt] 39 ?_;intro Ce hg w2 hbox hb;have D:=am_ hbox;have Cf:=wk_ hg HB;replace HB:=hs_ HB hb;have Cg:=Cf;clear hb hbox hg))
  go_loopg [3] k (fun kq v3 w'=>∃ (B:Int),v3=i_ B∧Aside0 (spec_IsValidStore.l0 kq B l0_0=some r)∧Aside0 (kq≤k)∧Aside0 (w'.heap[Ce]? = some (.cells #[(.slice Bs l0_0.length Bt)] 39 (0,0)))∧Aside0 (Below w.heap.size w w'))
  case atStart=>exact⟨(0),rs_,H',⟨Nat.le_refl _⟩,⟨bq_ D.out⟩,⟨hbw_ HB⟩⟩
  case round=>
    clear H';obtain⟨B,rfl,HA,HK1,D,HB⟩:=hrel
    cases gk with
    | zero=>exact absurd HA.out (by simp [spec_IsValidStore.l0])
    | succ k1=>
      have H:=HA.out;clear HA;simp only[spec_IsValidStore.l0]at H
      refine em_ (B < (l0_0.length:Int)) ?ac3 ?bc3
      case' ac3=>
       intro c3
       rw[if_pos c3]at H;have Ch:decide (B < (l0_0.length:Int))=true:=decide_eq_true c3;clear c3
       refine em_ (0≤B) ?ac4 ?bc4
       case' ac4=>
        intro c4
        rw[if_pos c4]at H;have Cx:decide (0≤B)=true:=decide_eq_true c4;clear c4;replace H:=bi_ H;obtain⟨Ci,B2,H⟩:=H;have A5:=am_ B2;clear B2
        refine em_ (Ci=true) ?ac6 ?bc6
        case' ac6=>
         intro c6
         subst c6;rw[if_pos rfl]at H
         refine em_ (0 < ((rd_L3 l0_0 B).length:Int)) ?ac7 ?bc7
         case' ac7=>
          intro c7
          rw[if_pos c7]at H;have Cy:decide (0 < ((rd_L3 l0_0 B).length:Int))=true:=decide_eq_true c7;have Cz:decide (0 < (rd_L3 l0_0 B).length)=true:=decide_eq_true (by omega);clear c7
          refine em_ (((rd_T77 (rd_L3 l0_0 B) 0).f2) > 0) ?ac8 ?bc8
          case' ac8=>
           intro c8
           rw[if_pos c8]at H;have Cj:decide (0 < ((rd_T77 (rd_L3 l0_0 B) 0).f2))=true:=decide_eq_true c8;clear c8
           refine em_ (((rd_L3 l0_0 B).length:Int) > 50) ?ac9 ?bc9
           case' ac9=>
            intro c9
            rw[if_pos c9]at H;have Ck:decide (50 < ((rd_L3 l0_0 B).length:Int))=true:=decide_eq_true c9;have Cl:decide (50 < (rd_L3 l0_0 B).length)=true:=decide_eq_true (by omega);clear c9;obtain rfl:=Option.some.inj H;have C0:=bc1_ D.out;have C1:=blk_frozen D.out 0;have E:0≤(B:Int):=of_decide_eq_true as_;have F:B < (l0_0.length:Int):=of_decide_eq_true as_;obtain⟨X,Bk,Bl,e135,O,R,U⟩:=at_L3 V.out B E F
            cases e135
            replace O:=bl_ HB.out O;have Bm:=am_ U;have Bn:=am_ R;clear U R;replace E:=eq_true E;replace F:=eq_true F
           case' bc9=>
            intro c9
            rw[if_neg c9]at H;have Ck:decide (50 < ((rd_L3 l0_0 B).length:Int))=false:=decide_eq_false c9;have Cl:decide (50 < (rd_L3 l0_0 B).length)=false:=decide_eq_false (by omega);clear c9;have H':=am_ H;clear H;have C2:=bc1_ D.out;have C3:=blk_frozen D.out 0;have E:0≤(B:Int):=of_decide_eq_true as_;have F:B < (l0_0.length:Int):=of_decide_eq_true as_;obtain⟨X,Bk,Bl,e135,O,R,U⟩:=at_L3 V.out B E F
            cases e135
            replace O:=bl_ HB.out O;have Bm:=am_ U;have Bn:=am_ R;clear U R;replace E:=eq_true E;replace F:=eq_true F
          case' bc8=>
           intro c8
           rw[if_neg c8]at H;have Cj:decide (0 < ((rd_T77 (rd_L3 l0_0 B) 0).f2))=false:=decide_eq_false c8;clear c8
           refine em_ (((rd_L3 l0_0 B).length:Int) > 50) ?ac16 ?bc16
           case' ac16=>
            intro Bf
            rw[if_pos Bf]at H;have Cm:decide (50 < ((rd_L3 l0_0 B).length:Int))=true:=decide_eq_true Bf;have Cn:decide (50 < (rd_L3 l0_0 B).length)=true:=decide_eq_true (by omega);clear Bf;obtain rfl:=Option.some.inj H;have C4:=bc1_ D.out;have C5:=blk_frozen D.out 0;have E:0≤(B:Int):=of_decide_eq_true as_;have F:B < (l0_0.length:Int):=of_decide_eq_true as_;obtain⟨X,Bk,Bl,e135,O,R,U⟩:=at_L3 V.out B E F
            cases e135
            replace O:=bl_ HB.out O;have Bm:=am_ U;have Bn:=am_ R;clear U R;replace E:=eq_true E;replace F:=eq_true F
           case' bc16=>
            intro Bf
            rw[if_neg Bf]at H;have Cm:decide (50 < ((rd_L3 l0_0 B).length:Int))=false:=decide_eq_false Bf;have Cn:decide (50 < (rd_L3 l0_0 B).length)=false:=decide_eq_false (by omega);clear Bf;have H':=am_ H;clear H;have C6:=bc1_ D.out;have C7:=blk_frozen D.out 0;have E:0≤(B:Int):=of_decide_eq_true as_;have F:B < (l0_0.length:Int):=of_decide_eq_true as_;obtain⟨X,Bk,Bl,e135,O,R,U⟩:=at_L3 V.out B E F
            cases e135
            replace O:=bl_ HB.out O;have Bm:=am_ U;have Bn:=am_ R;clear U R;replace E:=eq_true E;replace F:=eq_true F
         case' bc7=>
          intro c7
          rw[if_neg c7]at H;exact absurd H (by simp)
        case' bc6=>
         intro c6
         replace c6:=Bool.eq_false_iff.mpr c6;subst c6;rw[if_neg nt_]at H;obtain rfl:=Option.some.inj H;have C8:=bc1_ D.out;have C9:=blk_frozen D.out 0;have E:0≤(B:Int):=of_decide_eq_true as_;have F:B < (l0_0.length:Int):=of_decide_eq_true as_;obtain⟨X,Bk,Bl,e135,O,R,U⟩:=at_L3 V.out B E F
         cases e135
         replace O:=bl_ HB.out O;have Bm:=am_ U;have Bn:=am_ R;clear U R;replace E:=eq_true E;replace F:=eq_true F
       case' bc4=>
        intro c4
        rw[if_neg c4]at H;exact absurd H (by simp)
      case' bc3=>
       intro c3
       rw[if_neg c3]at H;have Ch:decide (B < (l0_0.length:Int))=false:=decide_eq_false c3;clear c3;obtain rfl:=Option.some.inj H;have Da:=bc1_ D.out;have Db:=blk_frozen D.out 0
      all_goals
       go_wp2_with (first|((with_reducible refine gate_callee (f:=86) rfl ?_);refine goesL_ (some 16) rfl rfl Try.func86 (by kernel_rfl) rfl #[.slice Bk (rd_L3 l0_0 B).length Bl] rfl mp_ ?_;(with_reducible refine(spec_IsValidChain.calls k1 _ _ (rd_L3 l0_0 B) _ _ ?side1 ?side2 A5.out).mono ?_);(case side1=>exact cq_ Bm.out HB.out);(case side2=>exact Bn.out);rintro e Dc ⟨rfl,hb⟩;refine⟨_,rfl,?_⟩;replace D:=bb_ D hb;replace HB:=hs_ HB hb;clear hb;(first|(have B3:=bc1_ D.out;have B4:=blk_frozen D.out 0;have Y:0≤(B:Int):=of_decide_eq_true as_;have Z:B < (l0_0.length:Int):=of_decide_eq_true as_;obtain⟨Bo,B5,B6,e137,Ba,Bd,Be⟩:=at_L3 V.out B Y Z;obtain rfl:X=Bo:=(by injection e137);have Bj:=am_ Ba;replace Ba:=bl_ HB.out Ba;have Bp:=am_ Be;have B7:=am_ Bd;clear Be Bd;replace Y:=eq_true Y;replace Z:=eq_true Z;have Bb:0≤(0:Int):=(by omega);have Bc:0 < ((rd_L3 l0_0 B).length:Int):=of_decide_eq_true as_;obtain⟨B8,e138,G,I,J,L,M⟩:=at_T77 Bp.out 0 Bb Bc;cases e138;have B9:(0 < (rd_L3 l0_0 B).length)=True:=eq_true (by omega);(try rw[show((0:Int)).toNat=0 from rfl]at G);(try rw[show 0 * 5=0 from rfl]at G);(try rw[Addr.add_zero']at G);(try rw[show((0:Int)).toNat=0 from rfl]at I);(try rw[show 0 * 5=0 from rfl]at I);(try rw[Addr.add_zero']at I);(try rw[show((0:Int)).toNat=0 from rfl]at J);(try rw[show 0 * 5=0 from rfl]at J);(try rw[Addr.add_zero']at J);(try rw[show((0:Int)).toNat=0 from rfl]at L);(try rw[show 0 * 5=0 from rfl]at L);(try rw[Addr.add_zero']at L);(try rw[show((0:Int)).toNat=0 from rfl]at M);(try rw[show 0 * 5=0 from rfl]at M);(try rw[Addr.add_zero']at M);replace G:=bl_ HB.out G;replace I:=bl_ HB.out I;replace J:=bl_ HB.out J;replace L:=bl_ HB.out L;replace M:=bl_ HB.out M;replace Bb:=eq_true Bb;replace Bc:=eq_true Bc;have Bg:0≤(B:Int):=of_decide_eq_true as_;have Bh:B < (l0_0.length:Int):=of_decide_eq_true as_;obtain⟨Bu,Co,Cp,e139,Bi,Bq,Br⟩:=at_L3 V.out B Bg Bh;obtain rfl:X=Bu:=(by injection e139);have Bv:=am_ Bi;replace Bi:=bl_ HB.out Bi;have Cq:=am_ Br;have Cr:=am_ Bq;clear Br Bq;replace Bg:=eq_true Bg;replace Bh:=eq_true Bh;have ea_:=Option.some.inj (Bj.out.symm.trans Bv.out);injection ea_ with ea_ en_ ec_;subst ea_;subst ec_;clear en_;have Bw:0≤(B:Int):=of_decide_eq_true as_;have Bx:B < (l0_0.length:Int):=of_decide_eq_true as_;obtain⟨Cs,Dd,De,e140,By,Ca,Cb⟩:=at_L3 V.out B Bw Bx;obtain rfl:X=Cs:=(by injection e140);have Ct:=am_ By;replace By:=bl_ HB.out By;have Df:=am_ Cb;have Dg:=am_ Ca;clear Cb Ca;replace Bw:=eq_true Bw;replace Bx:=eq_true Bx;have ea_:=Option.some.inj (Bj.out.symm.trans Ct.out);injection ea_ with ea_ en_ ec_;subst ea_;subst ec_;clear en_)|(have B3:=bc1_ D.out;have B4:=blk_frozen D.out 0;have Y:0≤(B:Int):=of_decide_eq_true as_;have Z:B < (l0_0.length:Int):=of_decide_eq_true as_;obtain⟨Bo,B5,B6,e137,Ba,Bd,Be⟩:=at_L3 V.out B Y Z;obtain rfl:X=Bo:=(by injection e137);have Bj:=am_ Ba;replace Ba:=bl_ HB.out Ba;have Bp:=am_ Be;have B7:=am_ Bd;clear Be Bd;replace Y:=eq_true Y;replace Z:=eq_true Z;have Bb:0≤(0:Int):=(by omega);have Bc:0 < ((rd_L3 l0_0 B).length:Int):=of_decide_eq_true as_;obtain⟨B8,e138,G,I,J,L,M⟩:=at_T77 Bp.out 0 Bb Bc;cases e138;have B9:(0 < (rd_L3 l0_0 B).length)=True:=eq_true (by omega);(try rw[show((0:Int)).toNat=0 from rfl]at G);(try rw[show 0 * 5=0 from rfl]at G);(try rw[Addr.add_zero']at G);(try rw[show((0:Int)).toNat=0 from rfl]at I);(try rw[show 0 * 5=0 from rfl]at I);(try rw[Addr.add_zero']at I);(try rw[show((0:Int)).toNat=0 from rfl]at J);(try rw[show 0 * 5=0 from rfl]at J);(try rw[Addr.add_zero']at J);(try rw[show((0:Int)).toNat=0 from rfl]at L);(try rw[show 0 * 5=0 from rfl]at L);(try rw[Addr.add_zero']at L);(try rw[show((0:Int)).toNat=0 from rfl]at M);(try rw[show 0 * 5=0 from rfl]at M);(try rw[Addr.add_zero']at M);replace G:=bl_ HB.out G;replace I:=bl_ HB.out I;replace J:=bl_ HB.out J;replace L:=bl_ HB.out L;replace M:=bl_ HB.out M;replace Bb:=eq_true Bb;replace Bc:=eq_true Bc;have Bg:0≤(B:Int):=of_decide_eq_true as_;have Bh:B < (l0_0.length:Int):=of_decide_eq_true as_;obtain⟨Bu,Co,Cp,e139,Bi,Bq,Br⟩:=at_L3 V.out B Bg Bh;obtain rfl:X=Bu:=(by injection e139);have Bv:=am_ Bi;replace Bi:=bl_ HB.out Bi;have Cq:=am_ Br;have Cr:=am_ Bq;clear Br Bq;replace Bg:=eq_true Bg;replace Bh:=eq_true Bh;have ea_:=Option.some.inj (Bj.out.symm.trans Bv.out);injection ea_ with ea_ en_ ec_;subst ea_;subst ec_;clear en_)|(have B3:=bc1_ D.out;have B4:=blk_frozen D.out 0;have Y:0≤(B:Int):=of_decide_eq_true as_;have Z:B < (l0_0.length:Int):=of_decide_eq_true as_;obtain⟨Bo,B5,B6,e137,Ba,Bd,Be⟩:=at_L3 V.out B Y Z;obtain rfl:X=Bo:=(by injection e137);have Bj:=am_ Ba;replace Ba:=bl_ HB.out Ba;have Bp:=am_ Be;have B7:=am_ Bd;clear Be Bd;replace Y:=eq_true Y;replace Z:=eq_true Z;have Bb:0≤(0:Int):=(by omega);have Bc:0 < ((rd_L3 l0_0 B).length:Int):=of_decide_eq_true as_;obtain⟨B8,e138,G,I,J,L,M⟩:=at_T77 Bp.out 0 Bb Bc;cases e138;have B9:(0 < (rd_L3 l0_0 B).length)=True:=eq_true (by omega);(try rw[show((0:Int)).toNat=0 from rfl]at G);(try rw[show 0 * 5=0 from rfl]at G);(try rw[Addr.add_zero']at G);(try rw[show((0:Int)).toNat=0 from rfl]at I);(try rw[show 0 * 5=0 from rfl]at I);(try rw[Addr.add_zero']at I);(try rw[show((0:Int)).toNat=0 from rfl]at J);(try rw[show 0 * 5=0 from rfl]at J);(try rw[Addr.add_zero']at J);(try rw[show((0:Int)).toNat=0 from rfl]at L);(try rw[show 0 * 5=0 from rfl]at L);(try rw[Addr.add_zero']at L);(try rw[show((0:Int)).toNat=0 from rfl]at M);(try rw[show 0 * 5=0 from rfl]at M);(try rw[Addr.add_zero']at M);replace G:=bl_ HB.out G;replace I:=bl_ HB.out I;replace J:=bl_ HB.out J;replace L:=bl_ HB.out L;replace M:=bl_ HB.out M;replace Bb:=eq_true Bb;replace Bc:=eq_true Bc;have Bz:0≤(B:Int):=of_decide_eq_true as_;have B0:B < (l0_0.length:Int):=of_decide_eq_true as_;obtain⟨Cu,Dh,Di,e141,B1,Cc,Cd⟩:=at_L3 V.out B Bz B0;obtain rfl:X=Cu:=(by injection e141);have Cv:=am_ B1;replace B1:=bl_ HB.out B1;have Dj:=am_ Cd;have Dk:=am_ Cc;clear Cd Cc;replace Bz:=eq_true Bz;replace B0:=eq_true B0;have ea_:=Option.some.inj (Bj.out.symm.trans Cv.out);injection ea_ with ea_ en_ ec_;subst ea_;subst ec_;clear en_)|skip)))
       first
       | (go_ret;exact⟨ew_,hq1_ HB.out Cg.out⟩)
       | (go_roundg k1;(case measure=>have:=HK1.out;omega);(case rel=>exact⟨(wrap64 (B+1)),rs_,H',⟨by have:=HK1.out;omega⟩,⟨bq_ D.out⟩,⟨hbw_ HB⟩⟩))

/-! ### spec_LastStamp: function 49 -/
mutual
def spec_LastStamp.l0:Nat→Int→Int→List (List (S77))→Option (Int)
  | 0,_,_,_=>none
  | k+1,x3,x4,x143000=>if x4 < (x143000.length:Int) then ((spec_IsValidStore.f k x143000).bind fun t143=>(spec_LastStamp.j1 k x3 x4 t143 x143000)) else (spec_LastStamp.j1 k x3 x4 false x143000)
def spec_LastStamp.j1:Nat→Int→Int→Bool→List (List (S77))→Option (Int)
  | 0,_,_,_,_=>none
  | k+1,x3,x4,x14,x143000=>if x14=true then (spec_LastStamp.l1 k x3 x4 0 x143000) else (some x3)
def spec_LastStamp.l1:Nat→Int→Int→Int→List (List (S77))→Option (Int)
  | 0,_,_,_,_=>none
  | k+1,x3,x4,x5,x143000=>if 0≤x4 then (if x4 < (x143000.length:Int) then (if x5 < ((rd_L3 x143000 x4).length:Int) then (if 0≤x5 then (spec_LastStamp.l1 k (mx (mx x3 ((rd_T77 (rd_L3 x143000 x4) x5).f2)) ((rd_T77 (rd_L3 x143000 x4) x5).f3)) x4 (wrap64 (x5+1)) x143000) else (none)) else (spec_LastStamp.l0 k x3 (wrap64 (x4+1)) x143000)) else (none)) else (none)
end
def spec_LastStamp.f (k:Nat) (l0_0:List (List (S77))):Option (Int):=spec_LastStamp.l0 k 0 0 l0_0
theorem spec_LastStamp.mono_l:∀ k,(∀ y0 y1 y2,LeO (spec_LastStamp.l0 k y0 y1 y2) (spec_LastStamp.l0 (k+1) y0 y1 y2))∧(∀ y0 y1 y2 y3,LeO (spec_LastStamp.j1 k y0 y1 y2 y3) (spec_LastStamp.j1 (k+1) y0 y1 y2 y3))∧(∀ y0 y1 y2 y3,LeO (spec_LastStamp.l1 k y0 y1 y2 y3) (spec_LastStamp.l1 (k+1) y0 y1 y2 y3))
  | 0=>⟨fun _ _ _ r h=>by simp [spec_LastStamp.l0]at h,fun _ _ _ _ r h=>by simp [spec_LastStamp.j1]at h,fun _ _ _ _ r h=>by simp [spec_LastStamp.l1]at h⟩
  | k+1=>by
    obtain⟨ih0,ih1,ih2⟩:=spec_LastStamp.mono_l k;refine⟨?_,?_,?_⟩
    · intro y0 y1 y2;unfold spec_LastStamp.l0
      repeat' first
      | (with_reducible first|apply ih0|apply ih1|apply ih2|apply spec_IsValidStore.mono|exact LeO.refl _|exact LeO.none _|refine LeO.ite ?_ ?_|refine LeO.bind ?_ (fun _=>?_))
    · intro y0 y1 y2 y3;unfold spec_LastStamp.j1
      repeat' first
      | (with_reducible first|apply ih0|apply ih1|apply ih2|apply spec_IsValidStore.mono|exact LeO.refl _|exact LeO.none _|refine LeO.ite ?_ ?_|refine LeO.bind ?_ (fun _=>?_))
    · intro y0 y1 y2 y3;unfold spec_LastStamp.l1
      repeat' first
      | (with_reducible first|apply ih0|apply ih1|apply ih2|apply spec_IsValidStore.mono|exact LeO.refl _|exact LeO.none _|refine LeO.ite ?_ ?_|refine LeO.bind ?_ (fun _=>?_))
theorem spec_LastStamp.mono:∀ a0 k,LeO (spec_LastStamp.f k a0) (spec_LastStamp.f (k+1) a0):=by
  intro a0 k;obtain⟨ih0,ih1,ih2⟩:=spec_LastStamp.mono_l k;unfold spec_LastStamp.f
  repeat' first
      | (with_reducible first|apply ih0|apply ih1|apply ih2|apply spec_IsValidStore.mono|exact LeO.refl _|exact LeO.none _|refine LeO.ite ?_ ?_|refine LeO.bind ?_ (fun _=>?_))
set_option maxHeartbeats 8000000 in
set_option maxRecDepth 100000 in
theorem spec_LastStamp.calls (k:Nat)(F:Option Addr)(G:Nat) (l0_0:List (List (S77))) (r:Int) (w:World) (hr0_0:Kd.C (Kd.slice 77 k77) w F l0_0.length l0_0) (hc0_0:l0_0.length≤G) (h:spec_LastStamp.f k l0_0=some r) :
    Calls Try.prog 49 #[.agg #[.slice F l0_0.length G]] w fun e w'=>e=.returned (i_ r)∧Below w.heap.size w w':=by
  have hu39:=Try.underlying39;have I:=am_ hr0_0;have Bi:=am_ hc0_0;clear hr0_0 hc0_0;have HB:=am_ (Below.refl w.heap.size w);unfold spec_LastStamp.f at h;have H:=h;clear h;have H':=am_ H;clear H
  go_enter Try.func49,Try.ntmps49
  go_wp2_with (first|((with_reducible refine gate_dst (N:=1) rfl ?_);refine be_ 1 #[.slice F l0_0.length G] 39 ?_;intro V hg w2 hbox hb;have D:=am_ hbox;have X:=wk_ hg HB;replace HB:=hs_ HB hb;have Bj:=X;clear hb hbox hg))
  repeat(go_quiet (first|((with_reducible refine gate_dst (N:=1) rfl ?_);refine be_ 1 #[.slice F l0_0.length G] 39 ?_;intro V hg w2 hbox hb;have D:=am_ hbox;have X:=wk_ hg HB;replace HB:=hs_ HB hb;have Bj:=X;clear hb hbox hg));try go_wp2_with (first|((with_reducible refine gate_dst (N:=1) rfl ?_);refine be_ 1 #[.slice F l0_0.length G] 39 ?_;intro V hg w2 hbox hb;have D:=am_ hbox;have X:=wk_ hg HB;replace HB:=hs_ HB hb;have Bj:=X;clear hb hbox hg)))
  go_loopg [3,4] k (fun kq v3 v4 w'=>∃ (Y B:Int),v3=i_ Y∧v4=i_ B∧Aside0 (spec_LastStamp.l0 kq Y B l0_0=some r)∧Aside0 (kq≤k)∧Aside0 (w'.heap[V]? = some (.cells #[(.slice F l0_0.length G)] 39 (0,0)))∧Aside0 (Below w.heap.size w w'))
  case atStart=>exact⟨(0),(0),rs_,rs_,H',⟨Nat.le_refl _⟩,⟨bq_ D.out⟩,⟨hbw_ HB⟩⟩
  case round=>
    clear H';obtain⟨Y,B,rfl,rfl,HA,HK1,D,HB⟩:=hrel
    cases gk with
    | zero=>exact absurd HA.out (by simp [spec_LastStamp.l0])
    | succ k1=>
      have H:=HA.out;clear HA;simp only[spec_LastStamp.l0]at H;have Bk:=am_ H;clear H
      go_upto_region 3 with (fail)
      repeat(go_quiet (fail);go_upto_region 3 with (fail))
      go_cut [14] (fun v14 wc=>∃ (kq:Nat)(Bb:Bool),v14=.bool Bb∧Aside0 (spec_LastStamp.j1 kq Y B Bb l0_0=some r)∧Aside0 (kq≤k1)∧Aside0 (wc.heap[V]? = some (.cells #[(.slice F l0_0.length G)] 39 (0,0)))∧Aside0 (Below w.heap.size w wc))
      case first=>
        have H:=Bk.out;clear Bk
        by_cases c4:B < (l0_0.length:Int)
        · rw[if_pos c4]at H;have J:decide (B < (l0_0.length:Int))=true:=decide_eq_true c4;clear c4;(first|rw[J]|(simp only[i64_w,i32_w];rw[J])|skip);replace H:=bi_ H;obtain⟨Bc,By,H⟩:=H;have A5:=am_ By;clear By;have H':=am_ H;clear H;have Bz:=bc1_ D.out;have B0:=blk_frozen D.out 0
          go_wp2_with (first|(go_at_call 70;(with_reducible refine(spec_IsValidStore.calls k1 _ _ l0_0 Bc _ ?side1 ?side2 A5.out).mono ?_);(case side1=>exact cq_ I.out HB.out);(case side2=>exact Bi.out);rintro e w7 ⟨rfl,hb⟩;replace D:=bb_ D hb;replace HB:=hs_ HB hb;clear hb))
          repeat(go_quiet (first|(go_at_call 70;(with_reducible refine(spec_IsValidStore.calls k1 _ _ l0_0 Bc _ ?side1 ?side2 A5.out).mono ?_);(case side1=>exact cq_ I.out HB.out);(case side2=>exact Bi.out);rintro e w7 ⟨rfl,hb⟩;replace D:=bb_ D hb;replace HB:=hs_ HB hb;clear hb));try go_wp2_with (first|(go_at_call 70;(with_reducible refine(spec_IsValidStore.calls k1 _ _ l0_0 Bc _ ?side1 ?side2 A5.out).mono ?_);(case side1=>exact cq_ I.out HB.out);(case side2=>exact Bi.out);rintro e w7 ⟨rfl,hb⟩;replace D:=bb_ D hb;replace HB:=hs_ HB hb;clear hb)))
          go_meet
          case rel=>exact⟨_,(Bc),rs_,H',⟨by have:=HK1.out;first|omega|exact Nat.le_refl _⟩,⟨bq_ D.out⟩,⟨hbw_ HB⟩⟩
        · rw[if_neg c4]at H;have J:decide (B < (l0_0.length:Int))=false:=decide_eq_false c4;clear c4;(first|rw[J]|(simp only[i64_w,i32_w];rw[J])|skip);have H':=am_ H;clear H;have B1:=bc1_ D.out;have B2:=blk_frozen D.out 0
          go_wp2
          repeat(go_quiet (fail);try go_wp2)
          go_meet
          case rel=>exact⟨_,(false),rs_,H',⟨by have:=HK1.out;first|omega|exact Nat.le_refl _⟩,⟨bq_ D.out⟩,⟨hbw_ HB⟩⟩
      case rest=>
        clear Bk;(try clear J);(try clear Bz);(try clear B1);(try clear B0);(try clear B2);obtain⟨kq,Bb,rfl,HA,HJ2,D,HB⟩:=hcut
        cases kq with
        | zero=>exact absurd HA.out (by simp [spec_LastStamp.j1])
        | succ kj2=>
          have H:=HA.out;clear HA;simp only[spec_LastStamp.j1]at H
          by_cases c9:Bb=true
          · subst c9;rw[if_pos rfl]at H;have H':=am_ H;clear H
            go_wp2
            repeat(go_quiet (fail);try go_wp2)
            go_loopg [3,5] kj2 (fun kq v3 v5 w'=>∃ (L E:Int),v3=i_ L∧v5=i_ E∧Aside0 (spec_LastStamp.l1 kq L B E l0_0=some r)∧Aside0 (kq≤kj2)∧Aside0 (w'.heap[V]? = some (.cells #[(.slice F l0_0.length G)] 39 (0,0)))∧Aside0 (Below w.heap.size w w'))
            case atStart=>exact⟨(Y),(0),rs_,rs_,H',⟨Nat.le_refl _⟩,⟨bq_ D.out⟩,⟨hbw_ HB⟩⟩
            case round=>
              clear H';(try clear J);(try clear Bz);(try clear B1);(try clear B0);(try clear B2);obtain⟨L,E,rfl,rfl,HA,HK3,D,HB⟩:=hrel
              cases gk with
              | zero=>exact absurd HA.out (by simp [spec_LastStamp.l1])
              | succ k3=>
                have H:=HA.out;clear HA;simp only[spec_LastStamp.l1]at H
                by_cases Bd:0≤B
                · rw[if_pos Bd]at H;have Ct:decide (0≤B)=true:=decide_eq_true Bd;clear Bd
                  by_cases Be:B < (l0_0.length:Int)
                  · rw[if_pos Be]at H;have Cu:decide (B < (l0_0.length:Int))=true:=decide_eq_true Be;clear Be
                    by_cases U:E < ((rd_L3 l0_0 B).length:Int)
                    · rw[if_pos U]at H;have Ci:decide (E < ((rd_L3 l0_0 B).length:Int))=true:=decide_eq_true U;clear U
                      by_cases Bf:0≤E
                      · rw[if_pos Bf]at H;have Cv:decide (0≤E)=true:=decide_eq_true Bf;clear Bf;obtain⟨Bg,Bl⟩:∃ j_:Int,(mx L ((rd_T77 (rd_L3 l0_0 B) E).f2))=j_:=⟨_,rfl⟩;(first|rw[Bl]at H|simp only[Bl]at H);have hji14_:(if L < ((rd_T77 (rd_L3 l0_0 B) E).f2) then ((rd_T77 (rd_L3 l0_0 B) E).f2) else L)=Bg:=Bl;obtain⟨B3,Bh⟩:∃ j_:Int,(mx (Bg) ((rd_T77 (rd_L3 l0_0 B) E).f3))=j_:=⟨_,rfl⟩;(first|rw[Bh]at H|simp only[Bh]at H);have hji15_:(if (Bg) < ((rd_T77 (rd_L3 l0_0 B) E).f3) then ((rd_T77 (rd_L3 l0_0 B) E).f3) else (Bg))=B3:=Bh;have H':=am_ H;clear H;have Cw:=bc1_ D.out;have Cx:=blk_frozen D.out 0;have M:0≤(B:Int):=of_decide_eq_true as_;have O:B < (l0_0.length:Int):=of_decide_eq_true as_;obtain⟨Bm,Cj,Ck,e144,R,Z,Ba⟩:=at_L3 I.out B M O
                        cases e144
                        have Bn:=am_ R;replace R:=bl_ HB.out R;have Cl:=am_ Ba;have Cm:=am_ Z;clear Ba Z;replace M:=eq_true M;replace O:=eq_true O;have Bo:0≤(B:Int):=of_decide_eq_true as_;have Bp:B < (l0_0.length:Int):=of_decide_eq_true as_;obtain⟨Cn,Cy,Cz,e145,Bq,B4,B5⟩:=at_L3 I.out B Bo Bp;obtain rfl:Bm=Cn:=(by injection e145);have Co:=am_ Bq;replace Bq:=bl_ HB.out Bq;have Cp:=am_ B5;have C0:=am_ B4;clear B5 B4;replace Bo:=eq_true Bo;replace Bp:=eq_true Bp;have ea_:=Option.some.inj (Bn.out.symm.trans Co.out);injection ea_ with ea_ en_ ec_;subst ea_;subst ec_;clear en_;have Br:0≤(E:Int):=of_decide_eq_true as_;have Bs:E < ((rd_L3 l0_0 B).length:Int):=of_decide_eq_true as_;obtain⟨C1,e146,B6,B7,B8,B9,Ca⟩:=at_T77 Cp.out E Br Bs
                        cases e146
                        replace B6:=bl_ HB.out B6;replace B7:=bl_ HB.out B7;replace B8:=bl_ HB.out B8;replace B9:=bl_ HB.out B9;replace Ca:=bl_ HB.out Ca;replace Br:=eq_true Br;replace Bs:=eq_true Bs;have Bt:0≤(B:Int):=of_decide_eq_true as_;have Bu:B < (l0_0.length:Int):=of_decide_eq_true as_;obtain⟨Cq,C2,C3,e147,Bv,Cb,Cc⟩:=at_L3 I.out B Bt Bu;obtain rfl:Bm=Cq:=(by injection e147);have Cr:=am_ Bv;replace Bv:=bl_ HB.out Bv;have Cs:=am_ Cc;have C4:=am_ Cb;clear Cc Cb;replace Bt:=eq_true Bt;replace Bu:=eq_true Bu;have ea_:=Option.some.inj (Bn.out.symm.trans Cr.out);injection ea_ with ea_ en_ ec_;subst ea_;subst ec_;clear en_;have Bw:0≤(E:Int):=of_decide_eq_true as_;have Bx:E < ((rd_L3 l0_0 B).length:Int):=of_decide_eq_true as_;obtain⟨C5,e148,Cd,Ce,Cf,Cg,Ch⟩:=at_T77 Cs.out E Bw Bx
                        cases e148
                        replace Cd:=bl_ HB.out Cd;replace Ce:=bl_ HB.out Ce;replace Cf:=bl_ HB.out Cf;replace Cg:=bl_ HB.out Cg;replace Ch:=bl_ HB.out Ch;replace Bw:=eq_true Bw;replace Bx:=eq_true Bx
                        go_wp2
                        repeat(go_quiet (fail);try go_wp2)
                        go_roundg k3
                        case measure=>have:=HK1.out;have:=HJ2.out;have:=HK3.out;omega
                        case rel=>exact⟨(B3),(wrap64 (E+1)),(by first|rfl|(simp;done)|(simp only[← Bh] <;> (first|rfl|simp))|(simp [*];done)),rs_,H',⟨by have:=HK1.out;have:=HJ2.out;have:=HK3.out;omega⟩,⟨bq_ D.out⟩,⟨hbw_ HB⟩⟩
                      · rw[if_neg Bf]at H;exact absurd H (by simp)
                    · rw[if_neg U]at H;have Ci:decide (E < ((rd_L3 l0_0 B).length:Int))=false:=decide_eq_false U;clear U;have H':=am_ H;clear H;have C6:=bc1_ D.out;have C7:=blk_frozen D.out 0;have M:0≤(B:Int):=of_decide_eq_true as_;have O:B < (l0_0.length:Int):=of_decide_eq_true as_;obtain⟨Bm,Cj,Ck,e144,R,Z,Ba⟩:=at_L3 I.out B M O
                      cases e144
                      have Bn:=am_ R;replace R:=bl_ HB.out R;have Cl:=am_ Ba;have Cm:=am_ Z;clear Ba Z;replace M:=eq_true M;replace O:=eq_true O
                      go_wp2
                      repeat(go_quiet (fail);try go_wp2)
                      go_roundg k3
                      case measure=>have:=HK1.out;have:=HJ2.out;have:=HK3.out;omega
                      case rel=>exact⟨(L),(wrap64 (B+1)),rs_,rs_,H',⟨by have:=HK1.out;have:=HJ2.out;have:=HK3.out;omega⟩,⟨bq_ D.out⟩,⟨hbw_ HB⟩⟩
                  · rw[if_neg Be]at H;exact absurd H (by simp)
                · rw[if_neg Bd]at H;exact absurd H (by simp)
          · replace c9:=Bool.eq_false_iff.mpr c9;subst c9;rw[if_neg nt_]at H;obtain rfl:=Option.some.inj H
            go_wp2
            repeat(go_quiet (fail);try go_wp2)
            go_ret;exact⟨ew_,hq1_ HB.out Bj.out⟩

/-! ### spec_l1New: function 29 -/
def spec_l1New.l0:Nat→List Int→Int→Int→Option (List Int × Int × Int)
  | 0,_,_,_=>none
  | k+1,x0,x3,x4=>if x4 < (x0.length:Int) then (if x4 < 4000 then (if 0≤x4 then (spec_l1New.l0 k x0 (Go.bits .and .i64 (wrap64 ((wrap64 ((wrap64 (x3 * 131)) + (wrap64 (rd x0 x4))))+7)) 1073741823) (wrap64 (x4+1))) else (none)) else (some (x0,0,x3))) else (some (x0,0,x3))
def spec_l1New.f (k:Nat) (l0:List Int):Option (List Int × Int × Int):=spec_l1New.l0 k l0 (wrap64 (10101 + (l0.length:Int))) 0
theorem spec_l1New.mono_l:∀ k,(∀ y0 y1 y2,LeO (spec_l1New.l0 k y0 y1 y2) (spec_l1New.l0 (k+1) y0 y1 y2))
  | 0=>fun _ _ _ r h=>by simp [spec_l1New.l0]at h
  | k+1=>by
    have ih0:=spec_l1New.mono_l k
    · intro y0 y1 y2;unfold spec_l1New.l0
      repeat' first
      | (with_reducible first|apply ih0|exact LeO.refl _|exact LeO.none _|refine LeO.ite ?_ ?_|refine LeO.bind ?_ (fun _=>?_))
theorem spec_l1New.mono:∀ a0 k,LeO (spec_l1New.f k a0) (spec_l1New.f (k+1) a0):=by
  intro a0 k;have ih0:=spec_l1New.mono_l k;unfold spec_l1New.f
  repeat' first
      | (with_reducible first|apply ih0|exact LeO.refl _|exact LeO.none _|refine LeO.ite ?_ ?_|refine LeO.bind ?_ (fun _=>?_))
set_option maxHeartbeats 8000000 in
set_option maxRecDepth 100000 in
theorem spec_l1New.calls (k:Nat)(A0:Option Addr)(c0:Nat) (l0:List Int) (r1:List Int) (r2 r3:Int) (w0 w:World) (hB:Below w0.heap.size w0 w) (hr0:Kd.C (Kd.int .u8) w0 A0 l0.length l0) (hc0:l0.length≤c0) (h:spec_l1New.f k l0=some (r1,r2,r3)) :
    Calls Try.prog 29 #[.slice A0 l0.length c0] w fun e w'=>∃ g_:Nat,e=.returned (.pointer (some ⟨g_,0,none⟩))∧IsS87 w0 w' g_ r1 r2 r3∧Below w0.heap.size w0 w'∧Below w.heap.size w w':=by
  have hu87:=Try.underlying87;have E:=am_ hr0;have Ba:=am_ hc0;clear hr0 hc0;have HBW:=am_ (Below.refl w.heap.size w);have HW0:=am_ hB.size;have HB:=am_ hB;clear hB;unfold spec_l1New.f at h;have H:=h;clear h;have H':=am_ H;clear H
  go_enter Try.func29,Try.ntmps29
  go_wp2
  go_loopg [3,4] k (fun kq v3 v4 w'=>∃ (D B:Int),v3=i_ D∧v4=i_ B∧Aside0 (spec_l1New.l0 kq l0 D B=some (r1,r2,r3))∧Aside0 (kq≤k)∧Aside0 (Below w0.heap.size w0 w')∧Aside0 (Below w.heap.size w w'))
  case atStart=>exact⟨(wrap64 (10101 + (l0.length:Int))),(0),rs_,rs_,H',⟨Nat.le_refl _⟩,⟨hbw_ HB⟩,⟨hbw_ HBW⟩⟩
  case round=>
    clear H';obtain⟨D,B,rfl,rfl,HA,HK1,HB,HBW⟩:=hrel
    cases gk with
    | zero=>exact absurd HA.out (by simp [spec_l1New.l0])
    | succ k1=>
      have H:=HA.out;clear HA;simp only[spec_l1New.l0]at H
      by_cases c2:B < (l0.length:Int)
      · rw[if_pos c2]at H;have M:decide (B < (l0.length:Int))=true:=decide_eq_true c2;clear c2
        by_cases c3:B < 4000
        · rw[if_pos c3]at H;have O:decide (B < 4000)=true:=decide_eq_true c3;clear c3
          by_cases c4:0≤B
          · rw[if_pos c4]at H;have Bb:decide (0≤B)=true:=decide_eq_true c4;clear c4;have H':=am_ H;clear H;have F:0≤(B:Int):=of_decide_eq_true as_;have G:B < (l0.length:Int):=of_decide_eq_true as_;obtain⟨Bc,e149,L⟩:=Kd.at_int E.out B F G
            cases e149
            replace L:=pw_cell_below HB.out L;replace F:=eq_true F;replace G:=eq_true G
            go_wp2
            go_roundg k1
            case measure=>have:=HK1.out;omega
            case rel=>exact⟨(Go.bits .and .i64 (wrap64 ((wrap64 ((wrap64 (D * 131)) + (wrap64 (rd l0 B))))+7)) 1073741823),(wrap64 (B+1)),rs_,rs_,H',⟨by have:=HK1.out;omega⟩,⟨hbw_ HB⟩,⟨hbw_ HBW⟩⟩
          · rw[if_neg c4]at H;exact absurd H (by simp)
        · rw[if_neg c3]at H;have O:decide (B < 4000)=false:=decide_eq_false c3;clear c3;simp only[Option.some.injEq,Prod.mk.injEq]at H;obtain⟨rfl,rfl,rfl⟩:=H
          go_wp2_with (first|((with_reducible refine gate_dst (N:=31) rfl ?_);refine be_ 31 #[.slice A0 l0.length c0,i_ 0,i_ D] 87 ?_;intro I hg w5 hbox hb;replace HB:=hs_ HB hb;have R:=am_ hbox;have U:=am_ (ws_ hg (hbw_ HBW));have V:=am_ ((Nat.le_trans HW0.out (ws_ hg (hbw_ HBW):w.heap.size≤I):w0.heap.size≤I));replace HBW:=am_ (below_step HBW.out hb);clear hb hbox hg))
          go_ret;exact⟨_,rfl,(show IsS87 w0 _ I l0 0 D from⟨_,_,by(with_reducible repeat(first|refine blk_drewN ?_ _|refine blk_drew ?_|refine blk_alloc ?_ _));exact R.out,V.out,E.out⟩),dbq_ HB,hq1_ HBW.out U.out⟩
      · rw[if_neg c2]at H;have M:decide (B < (l0.length:Int))=false:=decide_eq_false c2;clear c2;simp only[Option.some.injEq,Prod.mk.injEq]at H;obtain⟨rfl,rfl,rfl⟩:=H
        go_wp2_with (first|((with_reducible refine gate_dst (N:=31) rfl ?_);refine be_ 31 #[.slice A0 l0.length c0,i_ 0,i_ D] 87 ?_;intro J hg w6 hbox hb;replace HB:=hs_ HB hb;have X:=am_ hbox;have Y:=am_ (ws_ hg (hbw_ HBW));have Z:=am_ ((Nat.le_trans HW0.out (ws_ hg (hbw_ HBW):w.heap.size≤J):w0.heap.size≤J));replace HBW:=am_ (below_step HBW.out hb);clear hb hbox hg))
        go_ret;exact⟨_,rfl,(show IsS87 w0 _ J l0 0 D from⟨_,_,by(with_reducible repeat(first|refine blk_drewN ?_ _|refine blk_drew ?_|refine blk_alloc ?_ _));exact X.out,Z.out,E.out⟩),dbq_ HB,hq1_ HBW.out Y.out⟩

/-! ### spec_l5Before: function 43 -/
def spec_l5Before.f (a0_0 a0_1 a1_0 a1_1:Int):Option (Bool):=if a0_0 < a1_0 then (some true) else (if a0_0=a1_0 then (some (decide (a0_1 < a1_1))) else (some false))
set_option maxHeartbeats 8000000 in
set_option maxRecDepth 100000 in
theorem spec_l5Before.calls (a0_0 a0_1 a1_0 a1_1:Int)(r:Bool) (w:World) (h:spec_l5Before.f a0_0 a0_1 a1_0 a1_1=some r) :
    Calls Try.prog 43 #[.agg #[i_ a0_0,i_ a0_1],.agg #[i_ a1_0,i_ a1_1]] w fun e w'=>e=.returned (.bool r)∧Below w.heap.size w w':=by
  have hu47:=Try.underlying47;have HB:=am_ (Below.refl w.heap.size w);unfold spec_l5Before.f at h;have H:=h;clear h
  refine em_ (a0_0 < a1_0) ?ac3 ?bc3
  case' ac3=>
   intro c3
   rw[if_pos c3]at H;have E:decide (a0_0 < a1_0)=true:=decide_eq_true c3;clear c3;obtain rfl:=Option.some.inj H
  case' bc3=>
   intro c3
   rw[if_neg c3]at H;have E:decide (a0_0 < a1_0)=false:=decide_eq_false c3;clear c3
   refine em_ (a0_0=a1_0) ?ac9 ?bc9
   case' ac9=>
    intro c9
    rw[if_pos c9]at H;have F:(a0_0 == a1_0)=true:=beq_iff_eq.mpr c9;have G:(a0_0 != a1_0)=false:=bne_eq_false_iff_eq.mpr c9;clear c9;obtain rfl:=Option.some.inj H
   case' bc9=>
    intro c9
    rw[if_neg c9]at H;have F:(a0_0 == a1_0)=false:=beq_eq_false_iff_ne.mpr c9;have G:(a0_0 != a1_0)=true:=bne_iff_ne.mpr c9;obtain rfl:=Option.some.inj H
  all_goals
   go_enter Try.func43,Try.ntmps43
   go_wp2_with (first|((with_reducible refine gate_dst (N:=2) rfl ?_);refine be_ 2 #[i_ a0_0,i_ a0_1] 47 ?_;intro R hg w4 hbox hb;have B:=am_ hbox;have I:=wk_ hg HB;replace HB:=hs_ HB hb;have J:=I;clear hb hbox hg)|((with_reducible refine gate_dst (N:=3) rfl ?_);refine be_ 3 #[i_ a1_0,i_ a1_1] 47 ?_;intro U hg w5 hbox hb;have C:=am_ hbox;have L:=wk_ hg HB;replace HB:=hs_ HB hb;have M:=L;have D:=nk_ hg B;replace B:=bb_ B hb;have O:=ny_ D;clear hb hbox hg;have V:=D.out;have X:=O.out;have Y:=bc2_ B.out;have Z:=bf2_ B.out;have Ba:=bc2_ C.out;have Bb:=bf2_ C.out))
   go_ret;exact⟨ew_,hq2_ HB.out J.out M.out⟩

end Go.Proofs.Ytacdaekigoldaaa.PFnExclusion
