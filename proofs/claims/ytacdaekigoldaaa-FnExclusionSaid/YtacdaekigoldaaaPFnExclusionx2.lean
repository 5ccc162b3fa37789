-- Printed by my own myprint.py out of the translation of the seat Ytacdaekigoldaaa. Not trusted: Lean checks it.
import Derived.Test.YtacdaekigoldaaaPFnExclusionx0
namespace Go.Proofs.Ytacdaekigoldaaa.PFnExclusion
open Go.RowKit Go.Proofs.YtacdaekigoldaaaW.PrintWords Go.Proofs.YtacdaekigoldaaaW.PrintLast Go.Proofs.YtacdaekigoldaaaW.PrintMore
attribute [local go_sem] max2_int min2_int max_two min_two max_three min_three max_four min_four   -- for this text's walks alone
set_option linter.unusedVariables false
set_option linter.unusedSimpArgs false

/-! ### laws_big: function 5 -/
def laws_big.f (l0:List Int):Option (Bool):=some (decide ((l0.length:Int) > 1048576))
set_option maxHeartbeats 8000000 in
set_option maxRecDepth 100000 in
theorem laws_big.calls (A0:Option Addr)(c0:Nat) (l0:List Int) (r:Bool) (w:World) (hr0:Kd.C (Kd.int .u8) w A0 l0.length l0) (hc0:l0.length≤c0) (h:laws_big.f l0=some r) :
    Calls Try.prog 5 #[.slice A0 l0.length c0] w fun e w'=>e=.returned (.bool r)∧Drawn0 w w':=by
  have B:=am_ hr0;have D:=am_ hc0;clear hr0 hc0;unfold laws_big.f at h;have H:=h;clear h;obtain rfl:=Option.some.inj H
  go_enter Try.func5,Try.ntmps5
  go_wp2
  go_ret;exact⟨rs_,by repeat(first|exact Drawn0.refl _|apply Drawn0.step)⟩

/-- A state of type 87 at block g of W; what its slices lead to came in by w0. -/
def IsS87 (w0 W:World) (g:Nat) (f0:List Int) (f1 f2:Int):Prop:=∃ A0 c0,W.heap[g]? = some (.cells #[.slice A0 f0.length c0,i_ f1,i_ f2] 87 (0,0))∧w0.heap.size≤g∧Kd.C (Kd.int .u8) w0 A0 f0.length f0
theorem IsS87.grown {w0 W:World} {g:Nat} {f0:List Int} {f1:Int} {f2:Int} {W1:World} {row:Option Nat} (h:IsS87 w0 W g f0 f1 f2) (hw:W.grownBy W1 row) (hne:some g≠row):IsS87 w0 W1 g f0 f1 f2:=by
  obtain⟨A0,c0,hb,hg,hr0⟩:=h;exact⟨A0,c0,blk_grown hb hw hne,hg,hr0⟩
theorem IsS87.own_neN {w0 W:World} {g:Nat} {f0:List Int} {f1:Int} {f2:Int} {α:Type} {d:Kd α} {e:Nat} {base:Nat} {ok:Nat→Prop} {v:Value} {xs:List α} (h:IsS87 w0 W g f0 f1 f2) (ho:Kd.N d e W base ok v xs) (ht:e≠87):some g≠v.ownBlock:=by
  obtain⟨A0,c0,hb,hg,hr0⟩:=h;exact Kd.N_ne ho hb ht
theorem IsS87.fresh {w0 W:World} {g:Nat} {f0:List Int} {f1:Int} {f2:Int} (h:IsS87 w0 W g f0 f1 f2):∀ k,W.heap.size≤k→k≠g:=by
  obtain⟨A0,c0,hb,hg,hr0⟩:=h;exact Kd.freshB hb
theorem IsS87.kept {w0 W:World} {g:Nat} {f0:List Int} {f1:Int} {f2:Int} {W1:World} {S:Nat→Prop} (h:IsS87 w0 W g f0 f1 f2) (hk:Kept W W1 S) (hne:¬ S g):IsS87 w0 W1 g f0 f1 f2:=by
  obtain⟨A0,c0,hb,hg,hr0⟩:=h;exact⟨A0,c0,blk_kept hb hk hne,hg,hr0⟩
theorem IsS87.below {w0 W:World} {g:Nat} {f0:List Int} {f1:Int} {f2:Int} {W1:World} (h:IsS87 w0 W g f0 f1 f2) (hw:Below W.heap.size W W1):IsS87 w0 W1 g f0 f1 f2:=h.grown (grown_of_below hw none) (by simp)
theorem IsS87.alloc {w0 W:World} {g:Nat} {f0:List Int} {f1:Int} {f2:Int} (h:IsS87 w0 W g f0 f1 f2) (o:Obj):IsS87 w0 (W.alloc o) g f0 f1 f2:=h.below (below_alloc (Below.refl _ _) o)
theorem IsS87.drewN {w0 W:World} {g:Nat} {f0:List Int} {f1:Int} {f2:Int} (h:IsS87 w0 W g f0 f1 f2) (m:Nat):IsS87 w0 (W.drewN m) g f0 f1 f2:=h
theorem IsS87.drew {w0 W:World} {g:Nat} {f0:List Int} {f1:Int} {f2:Int} (h:IsS87 w0 W g f0 f1 f2):IsS87 w0 W.drew g f0 f1 f2:=h
theorem IsS87.at_ {w0 W:World} {g:Nat} {f0:List Int} {f1:Int} {f2:Int} {w':World} {m:Nat} (hq:W.drewN m=w') (h:IsS87 w0 W g f0 f1 f2):IsS87 w0 w' g f0 f1 f2:=by subst hq;exact IsS87.drewN h m
theorem IsS87.apart {w0 W:World} {g:Nat} {f0:List Int} {f1:Int} {f2:Int} {α:Type} {d:Kd α} {e:Nat} {base:Nat} {ok:Nat→Prop} {v:Value} {xs:List α} (h:IsS87 w0 W g f0 f1 f2) (ho:d.R e W base ok v xs) (ht:∀ q,q ∈ e :: d.E→q≠87):d.R e W base (fun k=>ok k∧k≠g) v xs:=by
  obtain⟨A0,c0,hb,hg,hr0⟩:=h;exact Kd.R_types ho hb ht
theorem IsS87.own_ne {w0 W:World} {g:Nat} {f0:List Int} {f1:Int} {f2:Int} {α:Type} {d:Kd α} {e:Nat} {base:Nat} {ok:Nat→Prop} {v:Value} {xs:List α} (h:IsS87 w0 W g f0 f1 f2) (ho:d.R e W base ok v xs) (ht:e≠87):some g≠v.ownBlock:=by
  obtain⟨A0,c0,hb,hg,hr0⟩:=h;exact Kd.R_ne ho hb ht
theorem IsS87.apartQ {w0 W:World} {g:Nat} {f0:List Int} {f1:Int} {f2:Int} {α:Type} {d:Kd α} {e:Nat} {base:Nat} {ok:Nat→Prop} {v:Value} {xs:List α} (h:IsS87 w0 W g f0 f1 f2) (ho:d.Q e W base ok v xs) (ht:∀ q,q ∈ e :: d.E→q≠87):d.Q e W base (fun k=>ok k∧k≠g) v xs:=by
  obtain⟨A0,c0,hb,hg,hr0⟩:=h;exact Kd.Q_types ho hb ht
theorem IsS87.own_neQ {w0 W:World} {g:Nat} {f0:List Int} {f1:Int} {f2:Int} {α:Type} {d:Kd α} {e:Nat} {base:Nat} {ok:Nat→Prop} {v:Value} {xs:List α} (h:IsS87 w0 W g f0 f1 f2) (ho:d.Q e W base ok v xs) (ht:e≠87):some g≠v.ownBlock:=by
  obtain⟨A0,c0,hb,hg,hr0⟩:=h;exact Kd.Q_ne ho hb ht
theorem IsS87.apartS {w0 W:World} {g:Nat} {f0:List Int} {f1:Int} {f2:Int} {α:Type} {d:Kd α} {e:Nat} {base:Nat} {ok:Nat→Prop} {v:Value} {xs:List α} (h:IsS87 w0 W g f0 f1 f2) (ho:d.S e W base ok v xs) (ht:∀ q,q ∈ e :: d.E→q≠87):d.S e W base (fun k=>ok k∧k≠g) v xs:=by
  obtain⟨A0,c0,hb,hg,hr0⟩:=h;exact Kd.S_types ho hb ht
theorem IsS87.own_neS {w0 W:World} {g:Nat} {f0:List Int} {f1:Int} {f2:Int} {α:Type} {d:Kd α} {e:Nat} {base:Nat} {ok:Nat→Prop} {v:Value} {xs:List α} (h:IsS87 w0 W g f0 f1 f2) (ho:d.S e W base ok v xs) (ht:e≠87):some g≠v.ownBlock:=by
  obtain⟨A0,c0,hb,hg,hr0⟩:=h;exact Kd.S_ne ho hb ht
theorem IsS87.lt {w0 W:World} {g:Nat} {f0:List Int} {f1:Int} {f2:Int} (h:IsS87 w0 W g f0 f1 f2):g < W.heap.size:=by
  obtain⟨A0,c0,hb,hg,hr0⟩:=h;exact blk_lt hb
theorem IsS87.ge {w0 W:World} {g:Nat} {f0:List Int} {f1:Int} {f2:Int} (h:IsS87 w0 W g f0 f1 f2):w0.heap.size≤g:=by
  obtain⟨A0,c0,hb,hg,hr0⟩:=h;exact hg
theorem IsS87.ne_blk {w0 W:World} {g:Nat} {f0:List Int} {f1:Int} {f2:Int} {a:Nat} {cs:Array Value} {t:TypeId} {fr:Nat × Nat} (h:IsS87 w0 W g f0 f1 f2) (hb2:W.heap[a]? = some (.cells cs t fr)) (ht:t≠87):g≠a:=by
  obtain⟨A0,c0,hb,hg,hr0⟩:=h;rintro rfl;rw[hb]at hb2;injection hb2 with hb2;injection hb2 with _ ht2;exact ht ht2.symm
theorem IsS87.far {w0 W:World} {g:Nat} {f0:List Int} {f1:Int} {f2:Int} {p:Addr} (h:IsS87 w0 W g f0 f1 f2) (hne:g≠p.block) (u:Value):IsS87 w0 (W.setCell p u) g f0 f1 f2:=by
  obtain⟨A0,c0,hb,hg,hr0⟩:=h;exact⟨A0,c0,blk_far hb hne u,hg,hr0⟩
theorem cellS87_0 {W:World} {g:Nat} {A0:Option Addr} {c0:Nat} {f0:List Int} {f1:Int} {f2:Int} (h:W.heap[g]? = some (.cells #[.slice A0 f0.length c0,i_ f1,i_ f2] 87 (0,0))):W.cell? ⟨g,0,none⟩=some (.slice A0 f0.length c0):=(blk_cell h 0).trans rfl
theorem cellS87_1 {W:World} {g:Nat} {A0:Option Addr} {c0:Nat} {f0:List Int} {f1:Int} {f2:Int} (h:W.heap[g]? = some (.cells #[.slice A0 f0.length c0,i_ f1,i_ f2] 87 (0,0))):W.cell? ⟨g,1,none⟩=some (i_ f1):=(blk_cell h 1).trans rfl
theorem IsS87.set_1 {w0 W:World} {g:Nat} {f0:List Int} {f1:Int} {f2:Int} (h:IsS87 w0 W g f0 f1 f2) (x:Int):IsS87 w0 (W.setCell ⟨g,1,none⟩ (i_ x)) g f0 x f2:=by
  obtain⟨A0,c0,hb,hg,hr0⟩:=h;exact⟨A0,c0,by simpa using blk_set hb 1 (i_ x),hg,hr0⟩
theorem cellS87_2 {W:World} {g:Nat} {A0:Option Addr} {c0:Nat} {f0:List Int} {f1:Int} {f2:Int} (h:W.heap[g]? = some (.cells #[.slice A0 f0.length c0,i_ f1,i_ f2] 87 (0,0))):W.cell? ⟨g,2,none⟩=some (i_ f2):=(blk_cell h 2).trans rfl
theorem IsS87.set_2 {w0 W:World} {g:Nat} {f0:List Int} {f1:Int} {f2:Int} (h:IsS87 w0 W g f0 f1 f2) (x:Int):IsS87 w0 (W.setCell ⟨g,2,none⟩ (i_ x)) g f0 f1 x:=by
  obtain⟨A0,c0,hb,hg,hr0⟩:=h;exact⟨A0,c0,by simpa using blk_set hb 2 (i_ x),hg,hr0⟩
theorem IsS87.new (w0 W:World) (A0:Option Addr)(c0:Nat) (f0:List Int) (f1 f2:Int) (hB:Below w0.heap.size w0 W) (hr0:Kd.C (Kd.int .u8) w0 A0 f0.length f0):IsS87 w0 (W.alloc (.cells #[.slice A0 f0.length c0,i_ f1,i_ f2] 87)) W.heap.size f0 f1 f2:=⟨A0,c0,by simpa using heap_alloc_new W _,hB.size,hr0⟩

theorem isq_ {w0 W W':World} {g:Nat} {f0 e0:List Int} {f1 f2 e1 e2:Int} (h:Aside0 (IsS87 w0 W g f0 f1 f2)) (f:IsS87 w0 W g f0 f1 f2→IsS87 w0 W' g e0 e1 e2:=by(intro h_;repeat(first|(with_reducible first|exact h_|apply IsS87.alloc|apply IsS87.drew|apply IsS87.drewN|apply IsS87.set_1|apply IsS87.set_2|refine IsS87.far ?_ (Aside0.out (by assumption)) _)|exact h_))):IsS87 w0 W' g e0 e1 e2:=f h.out
theorem dbq_ {w W W':World} (h:Aside0 (Below w.heap.size w W)) (f:Below w.heap.size w W→Below w.heap.size w W':=by(intro h_;repeat(first|(with_reducible first|exact h_|apply below_alloc|apply pw_below_drewN|apply below_drew1|refine below_set ?_ (IsS87.ge (Aside0.out (by assumption)))|refine below_set ?_ (Aside0.out (by assumption))|refine below_set ?_ (Nat.le_trans HL.out (Aside0.out (by assumption))))|exact h_))):Below w.heap.size w W':=f h.out
/-! ### spec_l1Byte: function 74 -/
def spec_l1Byte.f (s0_0:List Int) (s0_1 s0_2:Int):Option (Int × Int × Int):=if s0_1 < (s0_0.length:Int) then (if 0≤s0_1 then (some (Go.bits .and .i64 (wrap64 ((Go.bits .and .i64 (Go.bits .xor .i64 ((wrap64 ((wrap64 (s0_2 * 6364136223846793005))+1442695040888963407)) / 8589934592) ((wrap64 ((wrap64 (s0_2 * 6364136223846793005))+1442695040888963407)) / 35184372088832)) 255) + (wrap64 (rd s0_0 s0_1)))) 255,wrap64 (s0_1+1),wrap64 ((wrap64 (s0_2 * 6364136223846793005))+1442695040888963407))) else (none)) else (some (Go.bits .and .i64 (Go.bits .xor .i64 ((wrap64 ((wrap64 (s0_2 * 6364136223846793005))+1442695040888963407)) / 8589934592) ((wrap64 ((wrap64 (s0_2 * 6364136223846793005))+1442695040888963407)) / 35184372088832)) 255,s0_1,wrap64 ((wrap64 (s0_2 * 6364136223846793005))+1442695040888963407)))
set_option maxHeartbeats 8000000 in
set_option maxRecDepth 100000 in
theorem spec_l1Byte.calls (g:Nat) (s0_0:List Int) (s0_1 s0_2 r1 r2 r3:Int) (w0 w:World) (hI:IsS87 w0 w g s0_0 s0_1 s0_2) (hB:Below w0.heap.size w0 w) (h:spec_l1Byte.f s0_0 s0_1 s0_2=some (r1,r2,r3)) :
    Calls Try.prog 74 #[.pointer (some ⟨g,0,none⟩)] w fun e w'=>e=.returned (i_ r1)∧IsS87 w0 w' g s0_0 r2 r3∧Below w0.heap.size w0 w'∧KeepBut w w' g none:=by
  have C:=am_ hI;have HK:=am_ (KeepBut.refl w g none);have HL:=am_ hB.size;clear hI;have HW0:=am_ hB.size;have HB:=am_ hB;clear hB;unfold spec_l1Byte.f at h;have H:=h;clear h
  refine em_ (s0_1 < (s0_0.length:Int)) ?ac2 ?bc2
  case' ac2=>
   intro c2
   rw[if_pos c2]at H;have F:decide (s0_1 < (s0_0.length:Int))=true:=decide_eq_true c2;clear c2
   refine em_ (0≤s0_1) ?ac3 ?bc3
   case' ac3=>
    intro c3
    rw[if_pos c3]at H;have I:decide (0≤s0_1)=true:=decide_eq_true c3;clear c3;simp only[Option.some.injEq,Prod.mk.injEq]at H;obtain⟨rfl,rfl,rfl⟩:=H;obtain⟨ASz4_0,cSz4_0,HGz4,hgz4,HSz4_0⟩:=C.out;have J:=cellS87_0 HGz4;have L:=cellS87_1 HGz4;have M:=cellS87_2 HGz4;have N:=blk_frozen HGz4 1;have O:=blk_frozen HGz4 2;clear HGz4 hgz4;have D:0≤(s0_1:Int):=of_decide_eq_true as_;have E:s0_1 < (s0_0.length:Int):=of_decide_eq_true as_;obtain⟨G,e101,B⟩:=Kd.at_int HSz4_0 s0_1 D E
    cases e101
    have hn101_0:G.block≠g:=Nat.ne_of_lt (Nat.lt_of_lt_of_le (by have:=World.block_lt_of_cell? _ _ B;first|rwa [add_block]at this|exact this) (IsS87.ge C.out));replace B:=pw_cell_below HB.out B;replace B:=(cell_far (p:=⟨g,2,none⟩) (nb_ hn101_0) (i_ (wrap64 ((wrap64 (s0_2 * 6364136223846793005))+1442695040888963407)))).trans B;(try have R:=fun (n_:Nat)=>(show(((w.drewN n_).setCell ⟨g,2,none⟩ (i_ (wrap64 ((wrap64 (s0_2 * 6364136223846793005))+1442695040888963407))))).cell? _=some _ from B));clear hn101_0;replace D:=eq_true D;replace E:=eq_true E
   case' bc3=>
    intro c3
    rw[if_neg c3]at H;exact absurd H (by simp)
  case' bc2=>
   intro c2
   rw[if_neg c2]at H;have F:decide (s0_1 < (s0_0.length:Int))=false:=decide_eq_false c2;clear c2;simp only[Option.some.injEq,Prod.mk.injEq]at H;obtain⟨rfl,rfl,rfl⟩:=H;obtain⟨ASz5_0,cSz5_0,HGz5,hgz5,HSz5_0⟩:=C.out;have U:=cellS87_0 HGz5;have V:=cellS87_1 HGz5;have X:=cellS87_2 HGz5;have Y:=blk_frozen HGz5 1;have Z:=blk_frozen HGz5 2;clear HGz5 hgz5
  all_goals
   go_enter Try.func74,Try.ntmps74
   go_wp2
   repeat(go_quiet (fail);try go_wp2)
   go_ret;exact⟨ew_,isq_ C,dbq_ HB,kpq_ HK⟩

/-! ### spec_l1Below: function 61 -/
def spec_l1Below.f (s0_0:List Int) (s0_1 s0_2 a1:Int):Option (Int × Int × Int):=if a1≤0 then (some (0,s0_1,s0_2)) else (if a1≤256 then ((spec_l1Byte.f s0_0 s0_1 s0_2).bind fun bt102=>(if a1=0 then (none) else (some (Int.tmod bt102.1 a1,bt102.2.1,bt102.2.2)))) else ((spec_l1Byte.f s0_0 s0_1 s0_2).bind fun bt105=>((spec_l1Byte.f s0_0 bt105.2.1 bt105.2.2).bind fun bt108=>((spec_l1Byte.f s0_0 bt108.2.1 bt108.2.2).bind fun bt111=>((spec_l1Byte.f s0_0 bt111.2.1 bt111.2.2).bind fun bt114=>(if a1=0 then (none) else (some (Int.tmod (wrap64 ((wrap64 ((wrap64 ((wrap64 (bt105.1 * 16777216)) + (wrap64 (bt108.1 * 65536)))) + (wrap64 (bt111.1 * 256))))+bt114.1)) a1,bt114.2.1,bt114.2.2))))))))
set_option maxHeartbeats 8000000 in
set_option maxRecDepth 100000 in
theorem spec_l1Below.calls (g:Nat) (s0_0:List Int) (s0_1 s0_2 a1 r1 r2 r3:Int) (w0 w:World) (hI:IsS87 w0 w g s0_0 s0_1 s0_2) (hB:Below w0.heap.size w0 w) (h:spec_l1Below.f s0_0 s0_1 s0_2 a1=some (r1,r2,r3)) :
    Calls Try.prog 61 #[.pointer (some ⟨g,0,none⟩),i_ a1] w fun e w'=>e=.returned (i_ r1)∧IsS87 w0 w' g s0_0 r2 r3∧Below w0.heap.size w0 w'∧KeepBut w w' g none:=by
  have B:=am_ hI;have HK:=am_ (KeepBut.refl w g none);have HL:=am_ hB.size;clear hI;have HW0:=am_ hB.size;have HB:=am_ hB;clear hB;unfold spec_l1Below.f at h;have H:=h;clear h
  by_cases c3:a1≤0
  · rw[if_pos c3]at H;have U:decide (a1≤0)=true:=decide_eq_true c3;clear c3;simp only[Option.some.injEq,Prod.mk.injEq]at H;obtain⟨rfl,rfl,rfl⟩:=H
    go_enter Try.func61,Try.ntmps61
    go_wp2
    go_ret;exact⟨ew_,isq_ B,dbq_ HB,kpq_ HK⟩
  · rw[if_neg c3]at H;have U:decide (a1≤0)=false:=decide_eq_false c3;clear c3
    by_cases c4:a1≤256
    · rw[if_pos c4]at H;have V:decide (a1≤256)=true:=decide_eq_true c4;clear c4;replace H:=bi_ H;obtain⟨⟨X,Y,Z⟩,D,H⟩:=H;(try dsimp only at H);have A5:=am_ D;clear D
      by_cases c6:a1=0
      · rw[if_pos c6]at H;exact absurd H (by simp)
      · rw[if_neg c6]at H;have Bi:(a1 == 0)=false:=beq_eq_false_iff_ne.mpr c6;have Bj:(a1 != 0)=true:=bne_iff_ne.mpr c6;simp only[Option.some.injEq,Prod.mk.injEq]at H;obtain⟨rfl,rfl,rfl⟩:=H
        go_enter Try.func61,Try.ntmps61
        go_wp2_with (first|((with_reducible refine gate_callee (f:=74) rfl ?_);refine goesL_ (some 14) rfl rfl Try.func74 (by kernel_rfl) rfl #[.pointer (some ⟨g,0,none⟩)] rfl mp_ ?_;(with_reducible refine(spec_l1Byte.calls g s0_0 s0_1 s0_2 X Y Z w0 _ ?side1 ?side2 A5.out).mono ?_);(case side1=>exact isq_ B);(case side2=>exact dbq_ HB);rintro e w7 ⟨rfl,hi,hb,hk⟩;refine⟨_,rfl,?_⟩;replace HK:=kt_ HK hk;replace HB:=am_ hb;replace B:=am_ hi;clear hb hk hi))
        go_ret;exact⟨ew_,isq_ B,dbq_ HB,kpq_ HK⟩
    · rw[if_neg c4]at H;have V:decide (a1≤256)=false:=decide_eq_false c4;clear c4;replace H:=bi_ H;obtain⟨⟨Ba,E,F⟩,G,H⟩:=H;(try dsimp only at H);have A8:=am_ G;clear G;replace H:=bi_ H;obtain⟨⟨Bb,I,J⟩,L,H⟩:=H;(try dsimp only at H);have A9:=am_ L;clear L;replace H:=bi_ H;obtain⟨⟨Bc,M,N⟩,O,H⟩:=H;(try dsimp only at H);have Bd:=am_ O;clear O;replace H:=bi_ H;obtain⟨⟨Be,Bf,Bg⟩,R,H⟩:=H;(try dsimp only at H);have Bh:=am_ R;clear R
      by_cases C:a1=0
      · rw[if_pos C]at H;exact absurd H (by simp)
      · rw[if_neg C]at H;have Bk:(a1 == 0)=false:=beq_eq_false_iff_ne.mpr C;have Bl:(a1 != 0)=true:=bne_iff_ne.mpr C;simp only[Option.some.injEq,Prod.mk.injEq]at H;obtain⟨rfl,rfl,rfl⟩:=H
        go_enter Try.func61,Try.ntmps61
        go_wp2_with (first|((with_reducible refine gate_callee (f:=74) rfl ?_);refine goesL_ (some 18) rfl rfl Try.func74 (by kernel_rfl) rfl #[.pointer (some ⟨g,0,none⟩)] rfl mp_ ?_;(with_reducible refine(spec_l1Byte.calls g s0_0 s0_1 s0_2 Ba E F w0 _ ?side1 ?side2 A8.out).mono ?_);(case side1=>exact isq_ B);(case side2=>exact dbq_ HB);rintro e Bm ⟨rfl,hi,hb,hk⟩;refine⟨_,rfl,?_⟩;replace HK:=kt_ HK hk;replace HB:=am_ hb;replace B:=am_ hi;clear hb hk hi)|((with_reducible refine gate_callee (f:=74) rfl ?_);refine goesL_ (some 20) rfl rfl Try.func74 (by kernel_rfl) rfl #[.pointer (some ⟨g,0,none⟩)] rfl mp_ ?_;(with_reducible refine(spec_l1Byte.calls g s0_0 E F Bb I J w0 _ ?side1 ?side2 A9.out).mono ?_);(case side1=>exact isq_ B);(case side2=>exact dbq_ HB);rintro e Bn ⟨rfl,hi,hb,hk⟩;refine⟨_,rfl,?_⟩;replace HK:=kt_ HK hk;replace HB:=am_ hb;replace B:=am_ hi;clear hb hk hi)|((with_reducible refine gate_callee (f:=74) rfl ?_);refine goesL_ (some 22) rfl rfl Try.func74 (by kernel_rfl) rfl #[.pointer (some ⟨g,0,none⟩)] rfl mp_ ?_;(with_reducible refine(spec_l1Byte.calls g s0_0 I J Bc M N w0 _ ?side1 ?side2 Bd.out).mono ?_);(case side1=>exact isq_ B);(case side2=>exact dbq_ HB);rintro e Bo ⟨rfl,hi,hb,hk⟩;refine⟨_,rfl,?_⟩;replace HK:=kt_ HK hk;replace HB:=am_ hb;replace B:=am_ hi;clear hb hk hi)|((with_reducible refine gate_callee (f:=74) rfl ?_);refine goesL_ (some 24) rfl rfl Try.func74 (by kernel_rfl) rfl #[.pointer (some ⟨g,0,none⟩)] rfl mp_ ?_;(with_reducible refine(spec_l1Byte.calls g s0_0 M N Be Bf Bg w0 _ ?side1 ?side2 Bh.out).mono ?_);(case side1=>exact isq_ B);(case side2=>exact dbq_ HB);rintro e Bp ⟨rfl,hi,hb,hk⟩;refine⟨_,rfl,?_⟩;replace HK:=kt_ HK hk;replace HB:=am_ hb;replace B:=am_ hi;clear hb hk hi))
        go_ret;exact⟨ew_,isq_ B,dbq_ HB,kpq_ HK⟩

/-! ### spec_l1PickInt: function 30 -/
def spec_l1PickInt.f (s0_0:List Int) (s0_1 s0_2:Int) (l1:List Int):Option (Int × Int × Int):=(spec_l1Below.f s0_0 s0_1 s0_2 (l1.length:Int)).bind fun bt117=>(if 0≤bt117.1 then (if bt117.1 < (l1.length:Int) then (some (rd l1 bt117.1,bt117.2.1,bt117.2.2)) else (none)) else (none))
set_option maxHeartbeats 8000000 in
set_option maxRecDepth 100000 in
theorem spec_l1PickInt.calls (g:Nat) (s0_0:List Int) (s0_1 s0_2:Int)(A1:Option Addr)(c1:Nat) (l1:List Int) (r1 r2 r3:Int) (w0 w:World) (hI:IsS87 w0 w g s0_0 s0_1 s0_2) (hB:Below w0.heap.size w0 w) (hr1:Kd.C (Kd.int .i64) w A1 l1.length l1) (hc1:l1.length≤c1) (hf1:∀ ad,A1=some ad→0 < l1.length→ad.block≠g) (h:spec_l1PickInt.f s0_0 s0_1 s0_2 l1=some (r1,r2,r3)) :
    Calls Try.prog 30 #[.pointer (some ⟨g,0,none⟩),.slice A1 l1.length c1] w fun e w'=>e=.returned (i_ r1)∧IsS87 w0 w' g s0_0 r2 r3∧Below w0.heap.size w0 w'∧KeepBut w w' g none:=by
  have J:=am_ hr1;have O:=am_ hc1;clear hr1 hc1;have D:=am_ hI;have HK:=am_ (KeepBut.refl w g none);have HL:=am_ hB.size;clear hI;have HW0:=am_ hB.size;have HB:=am_ hB;clear hB;unfold spec_l1PickInt.f at h;have H:=h;clear h;replace H:=bi_ H;obtain⟨⟨B,L,M⟩,G,H⟩:=H;(try dsimp only at H);have A3:=am_ G;clear G
  by_cases c4:0≤B
  · rw[if_pos c4]at H;have R:decide (0≤B)=true:=decide_eq_true c4;clear c4
    by_cases c5:B < (l1.length:Int)
    · rw[if_pos c5]at H;have U:decide (B < (l1.length:Int))=true:=decide_eq_true c5;clear c5;simp only[Option.some.injEq,Prod.mk.injEq]at H;obtain⟨rfl,rfl,rfl⟩:=H
      go_enter Try.func30,Try.ntmps30
      go_wp2_with (first|((with_reducible refine gate_callee (f:=61) rfl ?_);refine goesL_ (some 9) rfl rfl Try.func61 (by kernel_rfl) rfl #[.pointer (some ⟨g,0,none⟩),i_ (l1.length:Int)] rfl mp_ ?_;(with_reducible refine(spec_l1Below.calls g s0_0 s0_1 s0_2 (l1.length:Int) B L M w0 _ ?side1 ?side2 A3.out).mono ?_);(case side1=>exact isq_ D);(case side2=>exact dbq_ HB);rintro e w6 ⟨rfl,hi,hb,hk⟩;refine⟨_,rfl,?_⟩;replace HK:=kt_ HK hk;replace HB:=am_ hb;replace D:=am_ hi;clear hb hk hi;have E:0≤(B:Int):=of_decide_eq_true as_;have F:B < (l1.length:Int):=of_decide_eq_true as_;obtain⟨N,e120,I⟩:=Kd.at_int J.out B E F;cases e120;replace I:=keep_cell HK.out I (by first|(rw[add_block];exact hf1 _ rfl (by omega))|exact hf1 _ rfl (by omega)|exact hf1 N rfl (by omega));replace E:=eq_true E;replace F:=eq_true F))
      go_ret;exact⟨ew_,isq_ D,dbq_ HB,kpq_ HK⟩
    · rw[if_neg c5]at H;exact absurd H (by simp)
  · rw[if_neg c4]at H;exact absurd H (by simp)

/-! ### spec_l1In: function 34 -/
def spec_l1In.f (a0 a1 a2:Int):Option (Bool):=if a0 ≥ a1 then (some (decide (a0≤a2))) else (some false)
set_option maxHeartbeats 8000000 in
set_option maxRecDepth 100000 in
theorem spec_l1In.calls (a0 a1 a2:Int)(r:Bool) (w:World) (h:spec_l1In.f a0 a1 a2=some r) :
    Calls Try.prog 34 #[i_ a0,i_ a1,i_ a2] w fun e w'=>e=.returned (.bool r)∧Drawn0 w w':=by
  unfold spec_l1In.f at h;have H:=h;clear h
  refine em_ (a0 ≥ a1) ?ac4 ?bc4
  case' ac4=>
   intro c4
   rw[if_pos c4]at H;have B:decide (a1≤a0)=true:=decide_eq_true c4;clear c4;obtain rfl:=Option.some.inj H
  case' bc4=>
   intro c4
   rw[if_neg c4]at H;have B:decide (a1≤a0)=false:=decide_eq_false c4;clear c4;obtain rfl:=Option.some.inj H
  all_goals
   go_enter Try.func34,Try.ntmps34
   go_wp2
   go_ret;exact⟨rs_,by repeat(first|exact Drawn0.refl _|apply Drawn0.step)⟩

/-! ### spec_IsValidVersion: function 93 -/
def spec_IsValidVersion.j0:Nat→Bool→Int→Int→Int→Int→Int→Option (Bool)
  | 0,_,_,_,_,_,_=>none
  | k+1,x26,x122000,x122001,x122002,x122003,x122004=>if x26=true then (some false) else (if x122002=0 then (if x122000=0 then (some (x122001 == (-1))) else (some false)) else ((spec_l1In.f x122000 1 9).bind fun t126=>(some t126)))
def spec_IsValidVersion.f (k:Nat)(a0_0 a0_1 a0_2 a0_3 a0_4:Int):Option (Bool):=(spec_l1In.f a0_1 (-1) 99).bind fun t122=>(if t122=true then ((spec_l1In.f a0_2 0 999).bind fun t123=>(if t123=true then ((spec_l1In.f a0_3 a0_2 999).bind fun t124=>(if t124=true then ((spec_l1In.f a0_4 1 1000).bind fun t125=>(spec_IsValidVersion.j0 k (!t125) a0_0 a0_1 a0_2 a0_3 a0_4)) else (spec_IsValidVersion.j0 k true a0_0 a0_1 a0_2 a0_3 a0_4))) else (spec_IsValidVersion.j0 k true a0_0 a0_1 a0_2 a0_3 a0_4))) else (spec_IsValidVersion.j0 k true a0_0 a0_1 a0_2 a0_3 a0_4))
theorem spec_IsValidVersion.mono_l:∀ k,(∀ y0 y1 y2 y3 y4 y5,LeO (spec_IsValidVersion.j0 k y0 y1 y2 y3 y4 y5) (spec_IsValidVersion.j0 (k+1) y0 y1 y2 y3 y4 y5))
  | 0=>fun _ _ _ _ _ _ r h=>by simp [spec_IsValidVersion.j0]at h
  | k+1=>by
    have ih0:=spec_IsValidVersion.mono_l k
    · intro y0 y1 y2 y3 y4 y5;unfold spec_IsValidVersion.j0
      repeat' first
      | (with_reducible first|apply ih0|exact LeO.refl _|exact LeO.none _|refine LeO.ite ?_ ?_|refine LeO.bind ?_ (fun _=>?_))
theorem spec_IsValidVersion.mono:∀ a0 a1 a2 a3 a4 k,LeO (spec_IsValidVersion.f k a0 a1 a2 a3 a4) (spec_IsValidVersion.f (k+1) a0 a1 a2 a3 a4):=by
  intro a0 a1 a2 a3 a4 k;have ih0:=spec_IsValidVersion.mono_l k;unfold spec_IsValidVersion.f
  repeat' first
      | (with_reducible first|apply ih0|exact LeO.refl _|exact LeO.none _|refine LeO.ite ?_ ?_|refine LeO.bind ?_ (fun _=>?_))
set_option maxHeartbeats 8000000 in
set_option maxRecDepth 100000 in
theorem spec_IsValidVersion.calls (k:Nat)(a0_0 a0_1 a0_2 a0_3 a0_4:Int)(r:Bool) (w:World) (h:spec_IsValidVersion.f k a0_0 a0_1 a0_2 a0_3 a0_4=some r) :
    Calls Try.prog 93 #[.agg #[i_ a0_0,i_ a0_1,i_ a0_2,i_ a0_3,i_ a0_4]] w fun e w'=>e=.returned (.bool r)∧Below w.heap.size w w':=by
  have hu77:=Try.underlying77;have HB:=am_ (Below.refl w.heap.size w);unfold spec_IsValidVersion.f at h;have H:=h;clear h;have I:=am_ H;clear H
  go_enter Try.func93,Try.ntmps93
  go_upto_region 1 with (first|((with_reducible refine gate_dst (N:=1) rfl ?_);refine be_ 1 #[i_ a0_0,i_ a0_1,i_ a0_2,i_ a0_3,i_ a0_4] 77 ?_;intro V hg w3 hbox hb;have B:=am_ hbox;have X:=wk_ hg HB;replace HB:=hs_ HB hb;have E:=X;clear hb hbox hg))
  (try simp only[Act.put,List.setIfInBounds_toArray,List.set_cons_zero,List.set_cons_succ])
  go_cut [26] (fun v26 wc=>∃ (kq:Nat)(F:Bool),v26=.bool F∧Aside0 (spec_IsValidVersion.j0 kq F a0_0 a0_1 a0_2 a0_3 a0_4=some r)∧Aside0 (kq≤k)∧Aside0 (wc.heap[V]? = some (.cells #[i_ a0_0,i_ a0_1,i_ a0_2,i_ a0_3,i_ a0_4] 77 (0,0)))∧Aside0 (Below w.heap.size w wc))
  case first=>
    have H:=I.out;clear I;replace H:=bi_ H;obtain⟨Y,J,H⟩:=H;have A4:=am_ J;clear J
    refine em_ (Y=true) ?ac5 ?bc5
    case' ac5=>
     intro c5
     subst c5;rw[if_pos rfl]at H;replace H:=bi_ H;obtain⟨Z,L,H⟩:=H;have A6:=am_ L;clear L
     refine em_ (Z=true) ?ac7 ?bc7
     case' ac7=>
      intro c7
      subst c7;rw[if_pos rfl]at H;replace H:=bi_ H;obtain⟨Ba,M,H⟩:=H;have A8:=am_ M;clear M
      refine em_ (Ba=true) ?ac9 ?bc9
      case' ac9=>
       intro c9
       subst c9;rw[if_pos rfl]at H;replace H:=bi_ H;obtain⟨O,R,H⟩:=H;have Bb:=am_ R;clear R;have H':=am_ H;clear H;have Bi:=bc5_ B.out;have Bj:=bf5_ B.out
      case' bc9=>
       intro c9
       replace c9:=Bool.eq_false_iff.mpr c9;subst c9;rw[if_neg nt_]at H;have H':=am_ H;clear H;have Bk:=bc5_ B.out;have Bl:=bf5_ B.out
     case' bc7=>
      intro c7
      replace c7:=Bool.eq_false_iff.mpr c7;subst c7;rw[if_neg nt_]at H;have H':=am_ H;clear H;have Bm:=bc5_ B.out;have Bn:=bf5_ B.out
    case' bc5=>
     intro c5
     replace c5:=Bool.eq_false_iff.mpr c5;subst c5;rw[if_neg nt_]at H;have H':=am_ H;clear H;have Bo:=bc5_ B.out;have Bp:=bf5_ B.out
    all_goals
     go_wp2_with (first|((with_reducible refine gate_callee (f:=34) rfl ?_);refine goesL_ (some 5) rfl rfl Try.func34 (by kernel_rfl) rfl #[i_ a0_1,i_ (-1),i_ 99] rfl mp_ ?_;(with_reducible refine(spec_l1In.calls a0_1 (-1) 99 _ _ A4.out).mono ?_);rintro e w' ⟨rfl,⟨nd,rfl⟩⟩;refine⟨_,rfl,?_⟩)|(go_at_call 34;(with_reducible refine(spec_l1In.calls a0_2 0 999 _ _ A6.out).mono ?_);rintro e w' ⟨rfl,⟨nd,rfl⟩⟩)|(go_at_call 34;(with_reducible refine(spec_l1In.calls a0_3 a0_2 999 _ _ A8.out).mono ?_);rintro e w' ⟨rfl,⟨nd,rfl⟩⟩)|(go_at_call 34;(with_reducible refine(spec_l1In.calls a0_4 1 1000 O _ Bb.out).mono ?_);rintro e w' ⟨rfl,⟨nd,rfl⟩⟩))
     first
     | (go_meet;(case rel=>exact⟨_,(!O),rs_,H',⟨by first|omega|exact Nat.le_refl _⟩,⟨bq_ B.out⟩,⟨hbw_ HB⟩⟩))
     | (go_meet;(case rel=>exact⟨_,(true),rs_,H',⟨by first|omega|exact Nat.le_refl _⟩,⟨bq_ B.out⟩,⟨hbw_ HB⟩⟩))
  case rest=>
    clear I;obtain⟨kq,F,rfl,HA,HJ1,B,HB⟩:=hcut
    cases kq with
    | zero=>exact absurd HA.out (by simp [spec_IsValidVersion.j0])
    | succ kj1=>
      have H:=HA.out;clear HA;simp only[spec_IsValidVersion.j0]at H
      by_cases G:F=true
      · subst G;rw[if_pos rfl]at H;obtain rfl:=Option.some.inj H
        go_wp2
        go_ret;exact⟨ew_,hq1_ HB.out E.out⟩
      · replace G:=Bool.eq_false_iff.mpr G;subst G;rw[if_neg nt_]at H
        by_cases C:a0_2=0
        · rw[if_pos C]at H;have Bc:(a0_2 == 0)=true:=beq_iff_eq.mpr C;have Bd:(a0_2 != 0)=false:=bne_eq_false_iff_eq.mpr C;clear C
          by_cases D:a0_0=0
          · rw[if_pos D]at H;have Be:(a0_0 == 0)=true:=beq_iff_eq.mpr D;have Bf:(a0_0 != 0)=false:=bne_eq_false_iff_eq.mpr D;clear D;obtain rfl:=Option.some.inj H;have Bq:=bc5_ B.out;have Br:=bf5_ B.out
            go_wp2
            go_ret;exact⟨ew_,hq1_ HB.out E.out⟩
          · rw[if_neg D]at H;have Be:(a0_0 == 0)=false:=beq_eq_false_iff_ne.mpr D;have Bf:(a0_0 != 0)=true:=bne_iff_ne.mpr D;obtain rfl:=Option.some.inj H;have Bs:=bc5_ B.out;have Bt:=bf5_ B.out
            go_wp2
            go_ret;exact⟨ew_,hq1_ HB.out E.out⟩
        · rw[if_neg C]at H;have Bc:(a0_2 == 0)=false:=beq_eq_false_iff_ne.mpr C;have Bd:(a0_2 != 0)=true:=bne_iff_ne.mpr C;replace H:=bi_ H;obtain⟨Bg,U,H⟩:=H;have Bh:=am_ U;clear U;obtain rfl:=Option.some.inj H;have Bu:=bc5_ B.out;have Bv:=bf5_ B.out
          go_wp2_with (first|((with_reducible refine gate_callee (f:=34) rfl ?_);refine goesL_ (some 40) rfl rfl Try.func34 (by kernel_rfl) rfl #[i_ a0_0,i_ 1,i_ 9] rfl mp_ ?_;(with_reducible refine(spec_l1In.calls a0_0 1 9 Bg _ Bh.out).mono ?_);rintro e w' ⟨rfl,⟨nd,rfl⟩⟩;refine⟨_,rfl,?_⟩))
          go_ret;exact⟨ew_,hq1_ HB.out E.out⟩

/-! ### spec_IsValidChain: function 86 -/
def spec_IsValidChain.l0:Nat→List (S77)→Int→Option (Bool)
  | 0,_,_=>none
  | k+1,x0,x3=>if x3 < (x0.length:Int) then (if 0≤x3 then ((spec_IsValidVersion.f k ((rd_T77 x0 x3).f0) ((rd_T77 x0 x3).f1) ((rd_T77 x0 x3).f2) ((rd_T77 x0 x3).f3) ((rd_T77 x0 x3).f4)).bind fun t129=>(if t129=true then (if (wrap64 (x3+1)) < (x0.length:Int) then (if 0≤(wrap64 (x3+1)) then (if ((rd_T77 x0 x3).f2) ≥ ((rd_T77 x0 (wrap64 (x3+1))).f2) then (some false) else (if ((rd_T77 x0 x3).f4) > ((rd_T77 x0 (wrap64 (x3+1))).f2) then (some false) else (spec_IsValidChain.l0 k x0 (wrap64 (x3+1))))) else (none)) else (spec_IsValidChain.l0 k x0 (wrap64 (x3+1)))) else (some false))) else (none)) else (if (x0.length:Int) > 0 then (if 0≤(wrap64 ((x0.length:Int) - 1)) then (if (wrap64 ((x0.length:Int) - 1)) < (x0.length:Int) then (some (((rd_T77 x0 (wrap64 ((x0.length:Int) - 1))).f4) == 1000)) else (none)) else (none)) else (some false))
def spec_IsValidChain.f (k:Nat) (l0:List (S77)):Option (Bool):=spec_IsValidChain.l0 k l0 0
theorem spec_IsValidChain.mono_l:∀ k,(∀ y0 y1,LeO (spec_IsValidChain.l0 k y0 y1) (spec_IsValidChain.l0 (k+1) y0 y1))
  | 0=>fun _ _ r h=>by simp [spec_IsValidChain.l0]at h
  | k+1=>by
    have ih0:=spec_IsValidChain.mono_l k
    · intro y0 y1;unfold spec_IsValidChain.l0
      repeat' first
      | (with_reducible first|apply ih0|apply spec_IsValidVersion.mono|exact LeO.refl _|exact LeO.none _|refine LeO.ite ?_ ?_|refine LeO.bind ?_ (fun _=>?_))
theorem spec_IsValidChain.mono:∀ a0 k,LeO (spec_IsValidChain.f k a0) (spec_IsValidChain.f (k+1) a0):=by
  intro a0 k;have ih0:=spec_IsValidChain.mono_l k;unfold spec_IsValidChain.f
  repeat' first
      | (with_reducible first|apply ih0|apply spec_IsValidVersion.mono|exact LeO.refl _|exact LeO.none _|refine LeO.ite ?_ ?_|refine LeO.bind ?_ (fun _=>?_))
set_option maxHeartbeats 8000000 in
set_option maxRecDepth 100000 in
theorem spec_IsValidChain.calls (k:Nat)(A0:Option Addr)(c0:Nat) (l0:List (S77)) (r:Bool) (w:World) (hr0:Kd.C k77 w A0 l0.length l0) (hc0:l0.length≤c0) (h:spec_IsValidChain.f k l0=some r) :
    Calls Try.prog 86 #[.slice A0 l0.length c0] w fun e w'=>e=.returned (.bool r)∧Below w.heap.size w w':=by
  have hu77:=Try.underlying77;have E:=am_ hr0;have Cn:=am_ hc0;clear hr0 hc0;have HB:=am_ (Below.refl w.heap.size w);unfold spec_IsValidChain.f at h;have H:=h;clear h;have H':=am_ H;clear H
  go_enter Try.func86,Try.ntmps86
  go_wp2
  repeat(go_quiet (fail);try go_wp2)
  go_loopg [3] k (fun kq v3 w'=>∃ (B:Int),v3=i_ B∧Aside0 (spec_IsValidChain.l0 kq l0 B=some r)∧Aside0 (kq≤k)∧Aside0 (Below w.heap.size w w'))
  case atStart=>exact⟨(0),rs_,H',⟨Nat.le_refl _⟩,⟨hbw_ HB⟩⟩
  case round=>
    clear H';obtain⟨B,rfl,HA,HK1,HB⟩:=hrel
    cases gk with
    | zero=>exact absurd HA.out (by simp [spec_IsValidChain.l0])
    | succ k1=>
      have H:=HA.out;clear HA;simp only[spec_IsValidChain.l0]at H
      refine em_ (B < (l0.length:Int)) ?ac2 ?bc2
      case' ac2=>
       intro c2
       rw[if_pos c2]at H;have Ch:decide (B < (l0.length:Int))=true:=decide_eq_true c2;clear c2
       refine em_ (0≤B) ?ac3 ?bc3
       case' ac3=>
        intro c3
        rw[if_pos c3]at H;have Co:decide (0≤B)=true:=decide_eq_true c3;clear c3;replace H:=bi_ H;obtain⟨Ci,B9,H⟩:=H;have A4:=am_ B9;clear B9
        refine em_ (Ci=true) ?ac5 ?bc5
        case' ac5=>
         intro c5
         subst c5;rw[if_pos rfl]at H
         refine em_ ((wrap64 (B+1)) < (l0.length:Int)) ?ac6 ?bc6
         case' ac6=>
          intro c6
          rw[if_pos c6]at H;have Ca:decide ((wrap64 (B+1)) < (l0.length:Int))=true:=decide_eq_true c6;clear c6;obtain⟨D,Bz⟩:∃ j_:Int,(wrap64 (B+1))=j_:=⟨_,rfl⟩;(first|rw[Bz]at H|simp only[Bz]at H);(try rw[Bz]at Ca);(try rw[Bz]at A4);have Cp:(IntKind.i64.wrap (B+1))=D:=(i64_w _).trans Bz
          refine em_ (0≤(D)) ?ac8 ?bc8
          case' ac8=>
           intro c8
           rw[if_pos c8]at H;have Cq:decide (0≤(D))=true:=decide_eq_true c8;clear c8
           refine em_ (((rd_T77 l0 B).f2) ≥ ((rd_T77 l0 (D)).f2)) ?ac9 ?bc9
           case' ac9=>
            intro c9
            rw[if_pos c9]at H;have Cj:decide (((rd_T77 l0 (D)).f2)≤((rd_T77 l0 B).f2))=true:=decide_eq_true c9;clear c9;obtain rfl:=Option.some.inj H;have M:0≤(B:Int):=of_decide_eq_true as_;have N:B < (l0.length:Int):=of_decide_eq_true as_;obtain⟨L,e128,Bd,Be,Bf,Bg,Bh⟩:=at_T77 E.out B M N
            cases e128
            replace Bd:=bl_ HB.out Bd;replace Be:=bl_ HB.out Be;replace Bf:=bl_ HB.out Bf;replace Bg:=bl_ HB.out Bg;replace Bh:=bl_ HB.out Bh;replace M:=eq_true M;replace N:=eq_true N
           case' bc9=>
            intro c9
            rw[if_neg c9]at H;have Cj:decide (((rd_T77 l0 (D)).f2)≤((rd_T77 l0 B).f2))=false:=decide_eq_false c9;clear c9
            refine em_ (((rd_T77 l0 B).f4) > ((rd_T77 l0 (D)).f2)) ?ac11 ?bc11
            case' ac11=>
             intro B0
             rw[if_pos B0]at H;have Ck:decide (((rd_T77 l0 (D)).f2) < ((rd_T77 l0 B).f4))=true:=decide_eq_true B0;clear B0;obtain rfl:=Option.some.inj H;have M:0≤(B:Int):=of_decide_eq_true as_;have N:B < (l0.length:Int):=of_decide_eq_true as_;obtain⟨L,e128,Bd,Be,Bf,Bg,Bh⟩:=at_T77 E.out B M N
             cases e128
             replace Bd:=bl_ HB.out Bd;replace Be:=bl_ HB.out Be;replace Bf:=bl_ HB.out Bf;replace Bg:=bl_ HB.out Bg;replace Bh:=bl_ HB.out Bh;replace M:=eq_true M;replace N:=eq_true N
            case' bc11=>
             intro B0
             rw[if_neg B0]at H;have Ck:decide (((rd_T77 l0 (D)).f2) < ((rd_T77 l0 B).f4))=false:=decide_eq_false B0;clear B0;have H':=am_ H;clear H;have M:0≤(B:Int):=of_decide_eq_true as_;have N:B < (l0.length:Int):=of_decide_eq_true as_;obtain⟨L,e128,Bd,Be,Bf,Bg,Bh⟩:=at_T77 E.out B M N
             cases e128
             replace Bd:=bl_ HB.out Bd;replace Be:=bl_ HB.out Be;replace Bf:=bl_ HB.out Bf;replace Bg:=bl_ HB.out Bg;replace Bh:=bl_ HB.out Bh;replace M:=eq_true M;replace N:=eq_true N
          case' bc8=>
           intro c8
           rw[if_neg c8]at H;exact absurd H (by simp)
         case' bc6=>
          intro c6
          rw[if_neg c6]at H;have Ca:decide ((wrap64 (B+1)) < (l0.length:Int))=false:=decide_eq_false c6;clear c6;have H':=am_ H;clear H;have M:0≤(B:Int):=of_decide_eq_true as_;have N:B < (l0.length:Int):=of_decide_eq_true as_;obtain⟨L,e128,Bd,Be,Bf,Bg,Bh⟩:=at_T77 E.out B M N
          cases e128
          replace Bd:=bl_ HB.out Bd;replace Be:=bl_ HB.out Be;replace Bf:=bl_ HB.out Bf;replace Bg:=bl_ HB.out Bg;replace Bh:=bl_ HB.out Bh;replace M:=eq_true M;replace N:=eq_true N
        case' bc5=>
         intro c5
         replace c5:=Bool.eq_false_iff.mpr c5;subst c5;rw[if_neg nt_]at H;obtain rfl:=Option.some.inj H;have M:0≤(B:Int):=of_decide_eq_true as_;have N:B < (l0.length:Int):=of_decide_eq_true as_;obtain⟨L,e128,Bd,Be,Bf,Bg,Bh⟩:=at_T77 E.out B M N
         cases e128
         replace Bd:=bl_ HB.out Bd;replace Be:=bl_ HB.out Be;replace Bf:=bl_ HB.out Bf;replace Bg:=bl_ HB.out Bg;replace Bh:=bl_ HB.out Bh;replace M:=eq_true M;replace N:=eq_true N
       case' bc3=>
        intro c3
        rw[if_neg c3]at H;exact absurd H (by simp)
      case' bc2=>
       intro c2
       rw[if_neg c2]at H;have Ch:decide (B < (l0.length:Int))=false:=decide_eq_false c2;clear c2
       refine em_ ((l0.length:Int) > 0) ?ac16 ?bc16
       case' ac16=>
        intro B1
        rw[if_pos B1]at H;have Cl:decide (0 < (l0.length:Int))=true:=decide_eq_true B1;have Cm:decide (0 < l0.length)=true:=decide_eq_true (by omega);clear B1;obtain⟨Bo,B6⟩:∃ j_:Int,(wrap64 ((l0.length:Int) - 1))=j_:=⟨_,rfl⟩;(first|rw[B6]at H|simp only[B6]at H);have Cr:(IntKind.i64.wrap ((l0.length:Int) - 1))=Bo:=(i64_w _).trans B6
        refine em_ (0≤(Bo)) ?ac18 ?bc18
        case' ac18=>
         intro B2
         rw[if_pos B2]at H;have Cs:decide (0≤(Bo))=true:=decide_eq_true B2;clear B2
         refine em_ ((Bo) < (l0.length:Int)) ?ac19 ?bc19
         case' ac19=>
          intro B3
          rw[if_pos B3]at H;have Ct:decide ((Bo) < (l0.length:Int))=true:=decide_eq_true B3;clear B3;obtain rfl:=Option.some.inj H;have B7:0≤((Bo):Int):=of_decide_eq_true as_;have B8:(Bo) < (l0.length:Int):=of_decide_eq_true as_;obtain⟨Cu,e127,Cb,Cc,Cd,Ce,Cf⟩:=at_T77 E.out (Bo) B7 B8
          cases e127
          replace Cb:=bl_ HB.out Cb;replace Cc:=bl_ HB.out Cc;replace Cd:=bl_ HB.out Cd;replace Ce:=bl_ HB.out Ce;replace Cf:=bl_ HB.out Cf;replace B7:=eq_true B7;replace B8:=eq_true B8
         case' bc19=>
          intro B3
          rw[if_neg B3]at H;exact absurd H (by simp)
        case' bc18=>
         intro B2
         rw[if_neg B2]at H;exact absurd H (by simp)
       case' bc16=>
        intro B1
        rw[if_neg B1]at H;have Cl:decide (0 < (l0.length:Int))=false:=decide_eq_false B1;have Cm:decide (0 < l0.length)=false:=decide_eq_false (by omega);clear B1;obtain rfl:=Option.some.inj H
      all_goals
       go_wp2_with (first|(go_at_call 93;(with_reducible refine(spec_IsValidVersion.calls k1 ((rd_T77 l0 B).f0) ((rd_T77 l0 B).f1) ((rd_T77 l0 B).f2) ((rd_T77 l0 B).f3) ((rd_T77 l0 B).f4) _ _ A4.out).mono ?_);rintro e Cg ⟨rfl,hb⟩;replace HB:=hs_ HB hb;clear hb;(first|(have F:0≤(B:Int):=of_decide_eq_true as_;have G:B < (l0.length:Int):=of_decide_eq_true as_;obtain⟨Bi,e130,O,R,U,V,X⟩:=at_T77 E.out B F G;obtain rfl:L=Bi:=(by injection e130);replace O:=bl_ HB.out O;replace R:=bl_ HB.out R;replace U:=bl_ HB.out U;replace V:=bl_ HB.out V;replace X:=bl_ HB.out X;replace F:=eq_true F;replace G:=eq_true G;have I:0≤((D):Int):=of_decide_eq_true as_;have J:(D) < (l0.length:Int):=of_decide_eq_true as_;obtain⟨Bj,e131,Y,Z,Ba,Bb,Bc⟩:=at_T77 E.out (D) I J;obtain rfl:L=Bj:=(by injection e131);replace Y:=bl_ HB.out Y;replace Z:=bl_ HB.out Z;replace Ba:=bl_ HB.out Ba;replace Bb:=bl_ HB.out Bb;replace Bc:=bl_ HB.out Bc;replace I:=eq_true I;replace J:=eq_true J;have Bk:0≤(B:Int):=of_decide_eq_true as_;have Bl:B < (l0.length:Int):=of_decide_eq_true as_;obtain⟨B4,e132,Bp,Bq,Br,Bs,Bt⟩:=at_T77 E.out B Bk Bl;obtain rfl:L=B4:=(by injection e132);replace Bp:=bl_ HB.out Bp;replace Bq:=bl_ HB.out Bq;replace Br:=bl_ HB.out Br;replace Bs:=bl_ HB.out Bs;replace Bt:=bl_ HB.out Bt;replace Bk:=eq_true Bk;replace Bl:=eq_true Bl;have Bm:0≤((D):Int):=of_decide_eq_true as_;have Bn:(D) < (l0.length:Int):=of_decide_eq_true as_;obtain⟨B5,e133,Bu,Bv,Bw,Bx,By⟩:=at_T77 E.out (D) Bm Bn;obtain rfl:L=B5:=(by injection e133);replace Bu:=bl_ HB.out Bu;replace Bv:=bl_ HB.out Bv;replace Bw:=bl_ HB.out Bw;replace Bx:=bl_ HB.out Bx;replace By:=bl_ HB.out By;replace Bm:=eq_true Bm;replace Bn:=eq_true Bn)|(have F:0≤(B:Int):=of_decide_eq_true as_;have G:B < (l0.length:Int):=of_decide_eq_true as_;obtain⟨Bi,e130,O,R,U,V,X⟩:=at_T77 E.out B F G;obtain rfl:L=Bi:=(by injection e130);replace O:=bl_ HB.out O;replace R:=bl_ HB.out R;replace U:=bl_ HB.out U;replace V:=bl_ HB.out V;replace X:=bl_ HB.out X;replace F:=eq_true F;replace G:=eq_true G;have I:0≤((D):Int):=of_decide_eq_true as_;have J:(D) < (l0.length:Int):=of_decide_eq_true as_;obtain⟨Bj,e131,Y,Z,Ba,Bb,Bc⟩:=at_T77 E.out (D) I J;obtain rfl:L=Bj:=(by injection e131);replace Y:=bl_ HB.out Y;replace Z:=bl_ HB.out Z;replace Ba:=bl_ HB.out Ba;replace Bb:=bl_ HB.out Bb;replace Bc:=bl_ HB.out Bc;replace I:=eq_true I;replace J:=eq_true J)|skip)))
       repeat(go_quiet (first|(go_at_call 93;(with_reducible refine(spec_IsValidVersion.calls k1 ((rd_T77 l0 B).f0) ((rd_T77 l0 B).f1) ((rd_T77 l0 B).f2) ((rd_T77 l0 B).f3) ((rd_T77 l0 B).f4) _ _ A4.out).mono ?_);rintro e Cg ⟨rfl,hb⟩;replace HB:=hs_ HB hb;clear hb;(first|(have F:0≤(B:Int):=of_decide_eq_true as_;have G:B < (l0.length:Int):=of_decide_eq_true as_;obtain⟨Bi,e130,O,R,U,V,X⟩:=at_T77 E.out B F G;obtain rfl:L=Bi:=(by injection e130);replace O:=bl_ HB.out O;replace R:=bl_ HB.out R;replace U:=bl_ HB.out U;replace V:=bl_ HB.out V;replace X:=bl_ HB.out X;replace F:=eq_true F;replace G:=eq_true G;have I:0≤((D):Int):=of_decide_eq_true as_;have J:(D) < (l0.length:Int):=of_decide_eq_true as_;obtain⟨Bj,e131,Y,Z,Ba,Bb,Bc⟩:=at_T77 E.out (D) I J;obtain rfl:L=Bj:=(by injection e131);replace Y:=bl_ HB.out Y;replace Z:=bl_ HB.out Z;replace Ba:=bl_ HB.out Ba;replace Bb:=bl_ HB.out Bb;replace Bc:=bl_ HB.out Bc;replace I:=eq_true I;replace J:=eq_true J;have Bk:0≤(B:Int):=of_decide_eq_true as_;have Bl:B < (l0.length:Int):=of_decide_eq_true as_;obtain⟨B4,e132,Bp,Bq,Br,Bs,Bt⟩:=at_T77 E.out B Bk Bl;obtain rfl:L=B4:=(by injection e132);replace Bp:=bl_ HB.out Bp;replace Bq:=bl_ HB.out Bq;replace Br:=bl_ HB.out Br;replace Bs:=bl_ HB.out Bs;replace Bt:=bl_ HB.out Bt;replace Bk:=eq_true Bk;replace Bl:=eq_true Bl;have Bm:0≤((D):Int):=of_decide_eq_true as_;have Bn:(D) < (l0.length:Int):=of_decide_eq_true as_;obtain⟨B5,e133,Bu,Bv,Bw,Bx,By⟩:=at_T77 E.out (D) Bm Bn;obtain rfl:L=B5:=(by injection e133);replace Bu:=bl_ HB.out Bu;replace Bv:=bl_ HB.out Bv;replace Bw:=bl_ HB.out Bw;replace Bx:=bl_ HB.out Bx;replace By:=bl_ HB.out By;replace Bm:=eq_true Bm;replace Bn:=eq_true Bn)|(have F:0≤(B:Int):=of_decide_eq_true as_;have G:B < (l0.length:Int):=of_decide_eq_true as_;obtain⟨Bi,e130,O,R,U,V,X⟩:=at_T77 E.out B F G;obtain rfl:L=Bi:=(by injection e130);replace O:=bl_ HB.out O;replace R:=bl_ HB.out R;replace U:=bl_ HB.out U;replace V:=bl_ HB.out V;replace X:=bl_ HB.out X;replace F:=eq_true F;replace G:=eq_true G;have I:0≤((D):Int):=of_decide_eq_true as_;have J:(D) < (l0.length:Int):=of_decide_eq_true as_;obtain⟨Bj,e131,Y,Z,Ba,Bb,Bc⟩:=at_T77 E.out (D) I J;obtain rfl:L=Bj:=(by injection e131);replace Y:=bl_ HB.out Y;replace Z:=bl_ HB.out Z;replace Ba:=bl_ HB.out Ba;replace Bb:=bl_ HB.out Bb;replace Bc:=bl_ HB.out Bc;replace I:=eq_true I;replace J:=eq_true J)|skip)));try go_wp2_with (first|(go_at_call 93;(with_reducible refine(spec_IsValidVersion.calls k1 ((rd_T77 l0 B).f0) ((rd_T77 l0 B).f1) ((rd_T77 l0 B).f2) ((rd_T77 l0 B).f3) ((rd_T77 l0 B).f4) _ _ A4.out).mono ?_);rintro e Cg ⟨rfl,hb⟩;replace HB:=hs_ HB hb;clear hb;(first|(have F:0≤(B:Int):=of_decide_eq_true as_;have G:B < (l0.length:Int):=of_decide_eq_true as_;obtain⟨Bi,e130,O,R,U,V,X⟩:=at_T77 E.out B F G;obtain rfl:L=Bi:=(by injection e130);replace O:=bl_ HB.out O;replace R:=bl_ HB.out R;replace U:=bl_ HB.out U;replace V:=bl_ HB.out V;replace X:=bl_ HB.out X;replace F:=eq_true F;replace G:=eq_true G;have I:0≤((D):Int):=of_decide_eq_true as_;have J:(D) < (l0.length:Int):=of_decide_eq_true as_;obtain⟨Bj,e131,Y,Z,Ba,Bb,Bc⟩:=at_T77 E.out (D) I J;obtain rfl:L=Bj:=(by injection e131);replace Y:=bl_ HB.out Y;replace Z:=bl_ HB.out Z;replace Ba:=bl_ HB.out Ba;replace Bb:=bl_ HB.out Bb;replace Bc:=bl_ HB.out Bc;replace I:=eq_true I;replace J:=eq_true J;have Bk:0≤(B:Int):=of_decide_eq_true as_;have Bl:B < (l0.length:Int):=of_decide_eq_true as_;obtain⟨B4,e132,Bp,Bq,Br,Bs,Bt⟩:=at_T77 E.out B Bk Bl;obtain rfl:L=B4:=(by injection e132);replace Bp:=bl_ HB.out Bp;replace Bq:=bl_ HB.out Bq;replace Br:=bl_ HB.out Br;replace Bs:=bl_ HB.out Bs;replace Bt:=bl_ HB.out Bt;replace Bk:=eq_true Bk;replace Bl:=eq_true Bl;have Bm:0≤((D):Int):=of_decide_eq_true as_;have Bn:(D) < (l0.length:Int):=of_decide_eq_true as_;obtain⟨B5,e133,Bu,Bv,Bw,Bx,By⟩:=at_T77 E.out (D) Bm Bn;obtain rfl:L=B5:=(by injection e133);replace Bu:=bl_ HB.out Bu;replace Bv:=bl_ HB.out Bv;replace Bw:=bl_ HB.out Bw;replace Bx:=bl_ HB.out Bx;replace By:=bl_ HB.out By;replace Bm:=eq_true Bm;replace Bn:=eq_true Bn)|(have F:0≤(B:Int):=of_decide_eq_true as_;have G:B < (l0.length:Int):=of_decide_eq_true as_;obtain⟨Bi,e130,O,R,U,V,X⟩:=at_T77 E.out B F G;obtain rfl:L=Bi:=(by injection e130);replace O:=bl_ HB.out O;replace R:=bl_ HB.out R;replace U:=bl_ HB.out U;replace V:=bl_ HB.out V;replace X:=bl_ HB.out X;replace F:=eq_true F;replace G:=eq_true G;have I:0≤((D):Int):=of_decide_eq_true as_;have J:(D) < (l0.length:Int):=of_decide_eq_true as_;obtain⟨Bj,e131,Y,Z,Ba,Bb,Bc⟩:=at_T77 E.out (D) I J;obtain rfl:L=Bj:=(by injection e131);replace Y:=bl_ HB.out Y;replace Z:=bl_ HB.out Z;replace Ba:=bl_ HB.out Ba;replace Bb:=bl_ HB.out Bb;replace Bc:=bl_ HB.out Bc;replace I:=eq_true I;replace J:=eq_true J)|skip))))
       first
       | (go_ret;exact⟨by first|rfl|(simp [errW_none,errW_some] <;> rfl)|(simp only[← Bz];first|rfl|(simp [errW_none,errW_some] <;> rfl))|(simp [*,errW_none,errW_some] <;> rfl),hq0_ HB.out⟩)
       | (go_roundg k1;(case measure=>have:=HK1.out;omega);(case rel=>exact⟨(D),(by first|rfl|(simp;done)|(simp only[← Bz] <;> (first|rfl|simp))|(simp [*];done)),H',⟨by have:=HK1.out;omega⟩,⟨hbw_ HB⟩⟩))
       | (go_roundg k1;(case measure=>have:=HK1.out;omega);(case rel=>exact⟨(wrap64 (B+1)),rs_,H',⟨by have:=HK1.out;omega⟩,⟨hbw_ HB⟩⟩))
       | (go_ret;exact⟨ew_,hq0_ HB.out⟩)
       | (go_ret;exact⟨by first|rfl|(simp [errW_none,errW_some] <;> rfl)|(simp only[← B6];first|rfl|(simp [errW_none,errW_some] <;> rfl))|(simp [*,errW_none,errW_some] <;> rfl),hq0_ HB.out⟩)

end Go.Proofs.Ytacdaekigoldaaa.PFnExclusion
