-- Printed by my own myprint.py out of the translation of the seat Ytacdaekigoldaaa. Not trusted: Lean checks it.
import Derived.Test.YtacdaekigoldaaaPFnExclusionx0
import Derived.Test.YtacdaekigoldaaaPFnExclusionx14
import Derived.Test.YtacdaekigoldaaaPFnExclusionx16
namespace Go.Proofs.Ytacdaekigoldaaa.PFnExclusion
open Go.RowKit Go.Proofs.YtacdaekigoldaaaW.PrintWords Go.Proofs.YtacdaekigoldaaaW.PrintLast Go.Proofs.YtacdaekigoldaaaW.PrintMore
attribute [local go_sem] max2_int min2_int max_two min_two max_three min_three max_four min_four   -- for this text's walks alone
set_option linter.unusedVariables false
set_option linter.unusedSimpArgs false

/-! ### impl_IsValidStore_1: function 82 -/
def impl_IsValidStore_1.f (k:Nat) (l0:List (S77)):Option (Bool):=(impl_IsValidChain.f k l0).bind fun t546=>(if t546=true then (some (decide ((l0.length:Int) > 50))) else (some true))
theorem impl_IsValidStore_1.mono:∀ a0 k,LeO (impl_IsValidStore_1.f k a0) (impl_IsValidStore_1.f (k+1) a0):=by
  intro a0 k;unfold impl_IsValidStore_1.f
  repeat' first
      | (with_reducible first|apply impl_IsValidChain.mono|exact LeO.refl _|exact LeO.none _|refine LeO.ite ?_ ?_|refine LeO.bind ?_ (fun _=>?_))
set_option maxHeartbeats 8000000 in
set_option maxRecDepth 100000 in
theorem impl_IsValidStore_1.calls (k:Nat)(A0:Option Addr)(c0:Nat) (l0:List (S77)) (r:Bool) (w:World) (hr0:Kd.C k77 w A0 l0.length l0) (hc0:l0.length≤c0) (h:impl_IsValidStore_1.f k l0=some r) :
    Calls Try.prog 82 #[.slice A0 l0.length c0] w fun e w'=>e=.returned (.bool r)∧Below w.heap.size w w':=by
  have D:=am_ hr0;have E:=am_ hc0;clear hr0 hc0;have HB:=am_ (Below.refl w.heap.size w);unfold impl_IsValidStore_1.f at h;have H:=h;clear h;replace H:=bi_ H;obtain⟨F,B,H⟩:=H;have A2:=am_ B;clear B
  refine em_ (F=true) ?ac3 ?bc3
  case' ac3=>
   intro c3
   subst c3;rw[if_pos rfl]at H;obtain rfl:=Option.some.inj H
  case' bc3=>
   intro c3
   replace c3:=Bool.eq_false_iff.mpr c3;subst c3;rw[if_neg nt_]at H;obtain rfl:=Option.some.inj H
  all_goals
   go_enter Try.func82,Try.ntmps82
   go_wp2_with (first|((with_reducible refine gate_callee (f:=83) rfl ?_);refine goesL_ (some 4) rfl rfl Try.func83 (by kernel_rfl) rfl #[.slice A0 l0.length c0] rfl mp_ ?_;(with_reducible refine(impl_IsValidChain.calls k _ _ l0 _ _ ?side1 ?side2 A2.out).mono ?_);(case side1=>repeat(first|exact D.out|(with_reducible refine Kd.C_alloc ?_ _)|(with_reducible refine Kd.C_drewN ?_ _)|(with_reducible refine Kd.C_drew ?_)));(case side2=>exact E.out);rintro e w4 ⟨rfl,hb⟩;refine⟨_,rfl,?_⟩;replace HB:=hs_ HB hb;clear hb))
   go_ret;exact⟨ew_,hq0_ HB.out⟩

/-! ### impl_IsValidStore: function 68 -/
-- FLAGS ROUNDS
/-- Is there a chain that is not right? -/
def impl_IsValidStore.any (k:Nat):List (List S77)→Option Bool
  | []=>some false
  | x :: l=>(impl_IsValidStore_1.f k x).bind fun b=>if b=true then some true else impl_IsValidStore.any k l
def impl_IsValidStore.f (k:Nat) (l0_0:List (List S77)):Option Bool:=if l0_0.length=6 then (impl_IsValidStore.any k l0_0).bind (fun t=>some (!t)) else some false
theorem impl_IsValidStore.mono_any (k:Nat):∀ l,LeO (impl_IsValidStore.any k l) (impl_IsValidStore.any (k+1) l)
  | []=>LeO.refl _
  | x :: l=>by
    unfold impl_IsValidStore.any;exact LeO.bind (impl_IsValidStore_1.mono _ _) (fun _=>LeO.ite (LeO.refl _) (impl_IsValidStore.mono_any k l))
theorem impl_IsValidStore.mono:∀ a0 k,LeO (impl_IsValidStore.f k a0) (impl_IsValidStore.f (k+1) a0):=by
  intro a0 k;unfold impl_IsValidStore.f;exact LeO.ite (LeO.bind (impl_IsValidStore.mono_any k a0) (fun _=>LeO.refl _)) (LeO.refl _)
/-- The index that the search gives says whether there is one. -/
def impl_IsValidStore.Post (r:Bool) (w:World) (e:Ending) (w':World):Prop:=∃ m:Int,e=.returned (i_ m)∧decide (m ≥ 0)=r∧Below w.heap.size w w'
set_option maxHeartbeats 2000000 in
set_option maxRecDepth 100000 in
theorem impl_IsValidStore.idx (k:Nat)(A0:Option Addr)(c0:Nat) (l0:List (List S77)) (r:Bool) (w:World) (hr0:Kd.C (Kd.slice 77 k77) w A0 l0.length l0) (hc0:l0.length≤c0) (h:impl_IsValidStore.any k l0=some r) :
    Calls Try.prog 91 #[.slice A0 l0.length c0,.func (.func 82) #[] #[]] w (impl_IsValidStore.Post r w):=by
  have hlen:=hr0.2.1;have HR0:=am_ hr0;have HF0:=am_ h;clear hr0 h
  go_enter Try.func91,Try.ntmps91
  go_wp2
  go_loopg [8] l0.length (fun kq v8 w'=>∃ (i:Nat),v8=i_ (i:Int)∧i≤l0.length∧Aside0 (impl_IsValidStore.any k (l0.drop i)=some r)∧Aside0 (kq+i=l0.length)∧Aside0 (Below w.heap.size w w'))
  case atStart=>exact⟨0,rfl,Nat.zero_le _,⟨by rw[List.drop_zero];exact HF0.out⟩,⟨by omega⟩,⟨Below.refl _ _⟩⟩
  case round=>
    clear HF0;obtain⟨i,rfl,hi,HF,HK,HB⟩:=hrel
    by_cases hlt:i < l0.length
    · obtain⟨k1,rfl⟩:∃ m,gk=m+1:=⟨gk - 1,by have:=HK.out;omega⟩;obtain⟨ad,A1,c1,e_,hx,hl1,hi1⟩:=at_L3 HR0.out (i:Int) (by omega) (by omega)
      cases e_
      replace hx:=bl_ HB.out hx;simp only[Int.toNat_natCast]at hx
      have hd:l0.drop i=rd_L3 l0 (i:Int) :: l0.drop (i+1):=by
        rw[List.drop_eq_getElem_cons hlt];unfold rd_L3;rw[Int.toNat_natCast,List.getD_eq_getElem?_getD,List.getElem?_eq_getElem hlt];rfl
      have hf:=HF.out;rw[hd]at hf;unfold impl_IsValidStore.any at hf;obtain⟨b,hb,hf⟩:=bi_ hf;have HBB:=am_ hb;have HI1:=am_ hi1;have HL1:=am_ hl1;clear hd hb HF hi1 hl1
      cases b with
      | true=>
        rw[if_pos rfl]at hf;have HF:=am_ (Option.some.inj hf);clear hf
        go_wp2_with (go_at_call 82;(with_reducible refine(impl_IsValidStore_1.calls k _ _ (rd_L3 l0 (i:Int)) true _ ?s1 ?s2 HBB.out).mono ?_);(case s1=>exact Kd.C_below HI1.out HB.out);(case s2=>exact HL1.out);rintro e w1 ⟨rfl,hb1⟩;have HB2:=am_ (below_step HB.out hb1);clear hb1)
        go_ret;exact⟨(i:Int),rfl,by rw[← HF.out];exact decide_eq_true (by omega),HB2.out⟩
      | false=>
        rw[if_neg (by decide)]at hf;have HF:=am_ hf;clear hf
        go_wp2_with (go_at_call 82;(with_reducible refine(impl_IsValidStore_1.calls k _ _ (rd_L3 l0 (i:Int)) false _ ?s1 ?s2 HBB.out).mono ?_);(case s1=>exact Kd.C_below HI1.out HB.out);(case s2=>exact HL1.out);rintro e w1 ⟨rfl,hb1⟩;have HB2:=am_ (below_step HB.out hb1);clear hb1)
        go_roundg k1
        case measure=>have:=HK.out;omega
        case rel=>exact⟨i+1,by go_num,by omega,HF,⟨by have:=HK.out;omega⟩,HB2⟩
    · have hf:=HF.out;rw[List.drop_eq_nil_of_le (by omega)]at hf;have HF2:=am_ (Option.some.inj hf);clear hf
      go_wp2
      go_ret;exact⟨-1,rfl,by rw[← HF2.out];decide,HB.out⟩
set_option maxHeartbeats 2000000 in
set_option maxRecDepth 100000 in
theorem impl_IsValidStore.con (k:Nat)(A0:Option Addr)(c0:Nat) (l0:List (List S77)) (r:Bool) (w:World) (hr0:Kd.C (Kd.slice 77 k77) w A0 l0.length l0) (hc0:l0.length≤c0) (h:impl_IsValidStore.any k l0=some r) :
    Calls Try.prog 81 #[.slice A0 l0.length c0,.func (.func 82) #[] #[]] w fun e w'=>e=.returned (.bool r)∧Below w.heap.size w w':=by
  have HR0:=am_ hr0;have HF0:=am_ h;clear hr0 h
  go_enter Try.func81,Try.ntmps81
  go_wp2_with (go_at_call 91;(with_reducible refine(impl_IsValidStore.idx k A0 c0 l0 r _ HR0.out hc0 HF0.out).mono ?_);rintro e w1 ⟨m,rfl,hm,hb1⟩;have HM:=am_ hm;have HB2:=am_ hb1;clear hb1 hm)
  go_ret;exact⟨by rw[← HM.out];rfl,HB2.out⟩
set_option maxHeartbeats 2000000 in
set_option maxRecDepth 100000 in
theorem impl_IsValidStore.calls (k:Nat)(B:Option Addr)(D:Nat) (l0_0:List (List S77)) (r:Bool) (w:World) (hr0_0:Kd.C (Kd.slice 77 k77) w B l0_0.length l0_0) (hc0_0:l0_0.length≤D) (h:impl_IsValidStore.f k l0_0=some r) :
    Calls Try.prog 68 #[.agg #[.slice B l0_0.length D]] w fun e w'=>e=.returned (.bool r)∧Below w.heap.size w w':=by
  have hu:=Try.underlying39;have E:=am_ hr0_0;clear hr0_0;unfold impl_IsValidStore.f at h
  by_cases h6:l0_0.length=6
  · rw[if_pos h6]at h;obtain⟨t,ht,hq⟩:=bi_ h;obtain rfl:=Option.some.inj hq;have HT:=am_ ht;(have hg:((l0_0.length:Int) == 6)=true:=by rw[beq_iff_eq];omega);clear h h6 ht hq
    go_enter Try.func68,Try.ntmps68
    go_wp2_with (go_at_call 81;(with_reducible refine(impl_IsValidStore.con k B D l0_0 t _ ?s1 hc0_0 HT.out).mono ?_);(case s1=>exact Kd.C_alloc E.out _);rintro e w1 ⟨rfl,hb1⟩;have HB2:=am_ (below_step (below_alloc (Below.refl _ _) _) hb1);clear hb1)
    go_ret;exact⟨rfl,HB2.out⟩
  · rw[if_neg h6]at h;obtain rfl:=Option.some.inj h;(have hg:((l0_0.length:Int) == 6)=false:=by rw[beq_eq_false_iff_ne];omega);clear h h6
    go_enter Try.func68,Try.ntmps68
    go_wp2
    go_ret;exact⟨rfl,below_alloc (Below.refl _ _) _⟩


-- NOT PRINTED: function 84 (impl_ReadMark_84)

-- NOT PRINTED: function 87 (impl_Version_87)

-- NOT PRINTED: function 88 (impl_FindVersion_1)

/-! ### impl_FindVersion: function 72 -/
/-- What is found from place i on. -/
def impl_FindVersion.frm (l:List S77) (c:Int)(i:Nat):Int:=match (List.range' i (l.length - i)).find? (fun j=>decide ((l.getD j z77).f2=c)) with|some j=>(j:Int)|none=>-1
theorem impl_FindVersion.frm_end (l:List S77) (c:Int)(i:Nat) (h:¬ i < l.length):impl_FindVersion.frm l c i = -1:=by
  unfold impl_FindVersion.frm;rw[show l.length - i=0 by omega];rfl
theorem impl_FindVersion.frm_hit (l:List S77) (c:Int)(i:Nat) (h:i < l.length) (hp:(l.getD i z77).f2=c):impl_FindVersion.frm l c i=i:=by
  unfold impl_FindVersion.frm;rw[show l.length - i=(l.length - i - 1)+1 by omega,List.range'_succ,List.find?_cons,decide_eq_true hp]
theorem impl_FindVersion.frm_miss (l:List S77) (c:Int)(i:Nat) (h:i < l.length) (hp:¬ (l.getD i z77).f2=c):impl_FindVersion.frm l c i=impl_FindVersion.frm l c (i+1):=by
  unfold impl_FindVersion.frm;rw[show l.length - i=(l.length - (i+1))+1 by omega,List.range'_succ,List.find?_cons,decide_eq_false hp]
set_option maxHeartbeats 1000000 in
set_option maxRecDepth 100000 in
theorem impl_FindVersion.clo (v:S77) (g:Nat)(c:Int) (w:World) (hg:w.cell? ⟨g,0,none⟩=some (i_ c)) (hl:g < w.heap.size) :
    Calls Try.prog 88 #[.agg #[i_ v.f0,i_ v.f1,i_ v.f2,i_ v.f3,i_ v.f4],.pointer (some ⟨g,0,none⟩)] w fun e w'=>e=.returned (.bool (v.f2 == c))∧Below w.heap.size w w':=by
  have hu:=Try.underlying77;(have hg':∀ o,(w.alloc o).cell? ⟨g,0,none⟩=some (i_ c):=fun o=>(World.cell?_alloc_lt _ _ _ hl).trans hg)
  go_enter Try.func88,Try.ntmps88
  go_wp2
  go_ret;exact⟨rfl,below_alloc (Below.refl _ _) _⟩
set_option maxHeartbeats 2000000 in
set_option maxRecDepth 100000 in
theorem impl_FindVersion.idx (g:Nat)(c:Int)(A0:Option Addr)(c0:Nat) (l0:List S77) (w:World) (hr0:Kd.C k77 w A0 l0.length l0) (hc0:l0.length≤c0) (hg:w.cell? ⟨g,0,none⟩=some (i_ c)) :
    Calls Try.prog 87 #[.slice A0 l0.length c0,.func (.func 88) #[] #[.pointer (some ⟨g,0,none⟩)]] w fun e w'=>e=.returned (i_ (impl_FindVersion.frm l0 c 0))∧Below w.heap.size w w':=by
  have hu:=Try.underlying77;have hlen:=hr0.2.1;have HR0:=am_ hr0;have HG:=am_ hg;clear hr0 hg;obtain⟨r,hr⟩:∃ r,r=impl_FindVersion.frm l0 c 0:=⟨_,rfl⟩;rw[← hr];have HF:=am_ hr.symm;clear hr
  go_enter Try.func87,Try.ntmps87
  go_wp2
  go_loopg [8] l0.length (fun kq v8 w'=>∃ (i:Nat),v8=i_ (i:Int)∧i≤l0.length∧Aside0 (impl_FindVersion.frm l0 c i=r)∧Aside0 (kq+i=l0.length)∧Aside0 (Below w.heap.size w w'))
  case atStart=>exact⟨0,rfl,Nat.zero_le _,HF,⟨by omega⟩,⟨Below.refl _ _⟩⟩
  case round=>
    clear HF;obtain⟨i,rfl,hi,HF,HK,HB⟩:=hrel
    by_cases hlt:i < l0.length
    · obtain⟨k1,rfl⟩:∃ m,gk=m+1:=⟨gk - 1,by have:=HK.out;omega⟩;obtain⟨ad,e_,hx0,hx1,hx2,hx3,hx4⟩:=at_T77 HR0.out (i:Int) (by omega) (by omega)
      cases e_
      replace hx0:=bl_ HB.out hx0;replace hx1:=bl_ HB.out hx1;replace hx2:=bl_ HB.out hx2;replace hx3:=bl_ HB.out hx3;replace hx4:=bl_ HB.out hx4;simp only[Int.toNat_natCast]at hx0 hx1 hx2 hx3 hx4;(have hv:rd_T77 l0 (i:Int)=l0.getD i z77:=by unfold rd_T77;rw[Int.toNat_natCast]);have HV:=am_ hv;clear hv
      by_cases hp:(l0.getD i z77).f2=c
      · (have hb:((rd_T77 l0 (i:Int)).f2 == c)=true:=by rw[HV.out];exact beq_iff_eq.2 hp);have HP:=am_ hp;clear hp
        go_wp2_with (go_at_call 88;(with_reducible refine(impl_FindVersion.clo (rd_T77 l0 (i:Int)) g c _ ?s1 ?s2).mono ?_);(case s1=>exact(HB.out.cell (World.block_lt_of_cell? w _ HG.out)).trans HG.out);(case s2=>exact Nat.lt_of_lt_of_le (World.block_lt_of_cell? w _ HG.out) HB.out.size);rintro e w1 ⟨rfl,hb1⟩;have HB2:=am_ (below_step HB.out hb1);clear hb1)
        go_ret;exact⟨by rw[← HF.out,impl_FindVersion.frm_hit _ _ _ hlt HP.out];rfl,HB2.out⟩
      · (have hb:((rd_T77 l0 (i:Int)).f2 == c)=false:=by rw[HV.out];exact beq_eq_false_iff_ne.2 hp);have HP:=am_ hp;clear hp
        go_wp2_with (go_at_call 88;(with_reducible refine(impl_FindVersion.clo (rd_T77 l0 (i:Int)) g c _ ?s1 ?s2).mono ?_);(case s1=>exact(HB.out.cell (World.block_lt_of_cell? w _ HG.out)).trans HG.out);(case s2=>exact Nat.lt_of_lt_of_le (World.block_lt_of_cell? w _ HG.out) HB.out.size);rintro e w1 ⟨rfl,hb1⟩;have HB2:=am_ (below_step HB.out hb1);clear hb1)
        go_roundg k1
        case measure=>have:=HK.out;omega
        case rel=>exact⟨i+1,by go_num,by omega,⟨by rw[← HF.out,impl_FindVersion.frm_miss _ _ _ hlt HP.out]⟩,⟨by have:=HK.out;omega⟩,HB2⟩
    · go_wp2
      go_ret;exact⟨by rw[← HF.out,impl_FindVersion.frm_end _ _ _ hlt];rfl,HB.out⟩
def impl_FindVersion.f (l0:List S77) (a1:Int):Option Int:=some (impl_FindVersion.frm l0 a1 0)
set_option maxHeartbeats 2000000 in
set_option maxRecDepth 100000 in
theorem impl_FindVersion.calls (A0:Option Addr)(c0:Nat) (l0:List S77) (a1 r:Int) (w:World) (hr0:Kd.C k77 w A0 l0.length l0) (hc0:l0.length≤c0) (h:impl_FindVersion.f l0 a1=some r) :
    Calls Try.prog 72 #[.slice A0 l0.length c0,i_ a1] w fun e w'=>e=.returned (i_ r)∧Below w.heap.size w w':=by
  obtain rfl:=Option.some.inj h;have B:=am_ hr0;clear hr0 h
  go_enter Try.func72,Try.ntmps72
  go_wp2_with (go_at_call 87;(with_reducible refine(impl_FindVersion.idx _ a1 A0 c0 l0 _ ?s1 hc0 ?s2).mono ?_);(case s1=>exact Kd.C_alloc B.out _);(case s2=>simp);rintro e w1 ⟨rfl,hb1⟩;have HB2:=am_ (below_step (below_alloc (Below.refl _ _) _) hb1);clear hb1)
  go_ret;exact⟨rfl,HB2.out⟩


/-! ### impl_Store_find: function 58 -/
-- FLAGS PTR
/-- The cells of a version. -/
def CellsF (w:World) (p:Addr) (v:S77):Prop:=
  w.cell? p=some (i_ v.f0)∧w.cell? ⟨p.block,p.off+1,none⟩=some (i_ v.f1)∧w.cell? ⟨p.block,p.off+2,none⟩=some (i_ v.f2)∧w.cell? ⟨p.block,p.off+3,none⟩=some (i_ v.f3)∧w.cell? ⟨p.block,p.off+4,none⟩=some (i_ v.f4)
theorem impl_Store_find.bd (l:List S77) (c:Int)(i:Nat):-1≤impl_FindVersion.frm l c i∧impl_FindVersion.frm l c i < (l.length:Int):=by
  unfold impl_FindVersion.frm
  cases h:(List.range' i (l.length - i)).find? (fun j=>decide ((l.getD j z77).f2=c)) with
  | none=>exact⟨Int.le_refl _,by show(-1:Int) < _;omega⟩
  | some j=>
    have:=List.mem_range'_1.1 (List.mem_of_find?_eq_some h);exact⟨by show(-1:Int)≤(j:Int);omega,by show(j:Int) < _;omega⟩
set_option maxHeartbeats 2000000 in
set_option maxRecDepth 100000 in
/-- Where the version of a mark stands, or nil. -/
theorem impl_Store_find.told (A0:Option Addr)(c0:Nat) (l0:List (List S77)) (m0 m1:Int) (w:World) (hr0:Kd.C (Kd.slice 77 k77) w A0 l0.length l0) (hk0:0≤m0) (hk1:m0 < (l0.length:Int)) :
    Calls Try.prog 58 #[.agg #[.slice A0 l0.length c0],.agg #[i_ m0,i_ m1]] w fun e w'=>Below w.heap.size w w'∧((impl_FindVersion.frm (rd_L3 l0 m0) m1 0 < 0∧e=.returned (.pointer none))∨(0≤impl_FindVersion.frm (rd_L3 l0 m0) m1 0∧∃ p:Addr,e=.returned (.pointer (some p))∧CellsF w' p (rd_T77 (rd_L3 l0 m0) (impl_FindVersion.frm (rd_L3 l0 m0) m1 0)))):=by
  have hu:=Try.underlying39;have hv:=Try.underlying47;have hb:=below_alloc (below_alloc (Below.refl w.heap.size w) (.cells #[.slice A0 l0.length c0] 39)) (.cells #[i_ m0,i_ m1] 47);obtain⟨ad1,A2,c2,e1,hx,hl2,hC⟩:=at_L3 hr0 m0 hk0 hk1
  cases e1
  replace hx:=(hb.cell (World.block_lt_of_cell? w _ hx)).trans hx;have HB:=am_ hb;have HC:=am_ hC;have HL:=am_ hl2;obtain⟨hi0,hi1⟩:=impl_Store_find.bd (rd_L3 l0 m0) m1 0;clear hb hC hr0 hl2;have d1:=decide_eq_true hk0;have d2:=decide_eq_true hk1;replace hk0:=eq_true hk0;replace hk1:=eq_true hk1;obtain⟨i,hi⟩:∃ i,impl_FindVersion.frm (rd_L3 l0 m0) m1 0=i:=⟨_,rfl⟩;rw[hi]at hi0 hi1 ⊢;have HI:=am_ hi;clear hi
  by_cases hneg:i < 0
  · have d3:=decide_eq_true hneg;have HN:=am_ hneg;clear hi0 hi1 hneg
    go_enter Try.func58,Try.ntmps58
    go_wp2_with (go_at_call 72;(with_reducible refine(impl_FindVersion.calls A2 c2 (rd_L3 l0 m0) m1 i _ ?s1 HL.out ?s2).mono ?_);(case s1=>exact Kd.C_below HC.out HB.out);(case s2=>exact congrArg some HI.out);rintro e w1 ⟨rfl,hb1⟩;have HB1:=am_ (below_step HB.out hb1);clear hb1)
    go_ret;exact⟨HB1.out,Or.inl ⟨HN.out,rfl⟩⟩
  · have d3:=decide_eq_false hneg;(have hge:0≤i:=by omega);obtain⟨ad2,e2,hx0,hx1,hx2,hx3,hx4⟩:=at_T77 HC.out i hge hi1
    cases e2
    have HX:=am_ (show CellsF w _ (rd_T77 (rd_L3 l0 m0) i) from⟨hx0,hx1,hx2,hx3,hx4⟩);have HG:=am_ hge;have d4:=decide_eq_true hge;have d5:=decide_eq_true hi1;replace hge:=eq_true hge;replace hi1:=eq_true hi1;clear hx0 hx1 hx2 hx3 hx4 hi0 hneg
    go_enter Try.func58,Try.ntmps58
    go_wp2_with (go_at_call 72;(with_reducible refine(impl_FindVersion.calls _ c2 (rd_L3 l0 m0) m1 i _ ?s1 HL.out ?s2).mono ?_);(case s1=>exact Kd.C_below HC.out HB.out);(case s2=>exact congrArg some HI.out);rintro e w1 ⟨rfl,hb1⟩;have HB1:=am_ (below_step HB.out hb1);clear hb1)
    go_ret;obtain⟨q0,q1,q2,q3,q4⟩:=HX.out;have hb:=HB1.out;exact⟨hb,Or.inr ⟨HG.out,_,rfl,(hb.cell (World.block_lt_of_cell? w _ q0)).trans q0,(hb.cell (World.block_lt_of_cell? w _ q1)).trans q1,(hb.cell (World.block_lt_of_cell? w _ q2)).trans q2,(hb.cell (World.block_lt_of_cell? w _ q3)).trans q3,(hb.cell (World.block_lt_of_cell? w _ q4)).trans q4⟩⟩
/-- The version of a mark, where there is one. -/
def impl_Store_find.f (l0:List (List S77)) (m0 m1:Int):Option (Int × Int × Int × Int × Int):=
  if 0≤m0∧m0 < (l0.length:Int)∧0≤impl_FindVersion.frm (rd_L3 l0 m0) m1 0 then
    some ((rd_T77 (rd_L3 l0 m0) (impl_FindVersion.frm (rd_L3 l0 m0) m1 0)).f0,(rd_T77 (rd_L3 l0 m0) (impl_FindVersion.frm (rd_L3 l0 m0) m1 0)).f1,(rd_T77 (rd_L3 l0 m0) (impl_FindVersion.frm (rd_L3 l0 m0) m1 0)).f2,(rd_T77 (rd_L3 l0 m0) (impl_FindVersion.frm (rd_L3 l0 m0) m1 0)).f3,(rd_T77 (rd_L3 l0 m0) (impl_FindVersion.frm (rd_L3 l0 m0) m1 0)).f4)
  else none
theorem impl_Store_find.calls (A0:Option Addr)(c0:Nat) (l0:List (List S77)) (m0 m1 r1 r2 r3 r4 r5:Int) (w0 w:World) (hb0:Below w0.heap.size w0 w) (hr0:Kd.C (Kd.slice 77 k77) w0 A0 l0.length l0) (hc0:l0.length≤c0) (h:impl_Store_find.f l0 m0 m1=some (r1,r2,r3,r4,r5)) :
    Calls Try.prog 58 #[.agg #[.slice A0 l0.length c0],.agg #[i_ m0,i_ m1]] w fun e w'=>∃ p:Addr,e=.returned (.pointer (some p))∧CellsF w' p ⟨r1,r2,r3,r4,r5⟩∧Below w0.heap.size w0 w'∧Below w.heap.size w w':=by
  unfold impl_Store_find.f at h
  by_cases hk:0≤m0∧m0 < (l0.length:Int)∧0≤impl_FindVersion.frm (rd_L3 l0 m0) m1 0
  · rw[if_pos hk]at h;have h:=Option.some.inj h;simp only[Prod.mk.injEq]at h;obtain⟨rfl,rfl,rfl,rfl,rfl⟩:=h;refine(impl_Store_find.told A0 c0 l0 m0 m1 w (Kd.C_below hr0 hb0) hk.1 hk.2.1).mono ?_;rintro e w' ⟨hb,h|⟨_,p,rfl,hp⟩⟩
    · exact absurd hk.2.2 (by omega)
    · exact⟨p,rfl,hp,below_step hb0 hb,hb⟩
  · rw[if_neg hk]at h
    cases h


-- NOT PRINTED: function 85 (impl_Store_readsExist_1)

/-! ### impl_Store_readsExist: function 69 -/
-- FLAGS
/-- What is found from place i on. -/
def impl_Store_readsExist.frm (p:S47→Bool) (l:List S47) (i:Nat):Int:=match (List.range' i (l.length - i)).find? (fun j=>p (l.getD j z47)) with|some j=>(j:Int)|none=>-1
theorem impl_Store_readsExist.frm_end (p:S47→Bool) (l:List S47) (i:Nat) (h:¬ i < l.length):impl_Store_readsExist.frm p l i = -1:=by
  unfold impl_Store_readsExist.frm;rw[show l.length - i=0 by omega];rfl
theorem impl_Store_readsExist.frm_hit (p:S47→Bool) (l:List S47) (i:Nat) (h:i < l.length) (hp:p (l.getD i z47)=true):impl_Store_readsExist.frm p l i=i:=by
  unfold impl_Store_readsExist.frm;rw[show l.length - i=(l.length - i - 1)+1 by omega,List.range'_succ,List.find?_cons,hp]
theorem impl_Store_readsExist.frm_miss (p:S47→Bool) (l:List S47) (i:Nat) (h:i < l.length) (hp:p (l.getD i z47)=false):impl_Store_readsExist.frm p l i=impl_Store_readsExist.frm p l (i+1):=by
  unfold impl_Store_readsExist.frm;rw[show l.length - i=(l.length - (i+1))+1 by omega,List.range'_succ,List.find?_cons,hp]
set_option maxHeartbeats 2000000 in
set_option maxRecDepth 100000 in
/-- The search, by what the closure answers at each world behind the first. -/
theorem impl_Store_readsExist.idx (fv:Array Value) (p:S47→Bool) (A0:Option Addr)(c0:Nat) (l0:List S47) (w:World) (hr0:Kd.C k47 w A0 l0.length l0) (hc0:l0.length≤c0)
    (hclo:∀ j,j < l0.length→∀ W,Below w.heap.size w W→Calls Try.prog 85 (#[.agg #[i_ (rd_T47 l0 (j:Int)).f0,i_ (rd_T47 l0 (j:Int)).f1]]++fv) W fun e w'=>e=.returned (.bool (p (rd_T47 l0 (j:Int))))∧Below W.heap.size W w') :
    Calls Try.prog 56 #[.slice A0 l0.length c0,.func (.func 85) #[] fv] w fun e w'=>e=.returned (i_ (impl_Store_readsExist.frm p l0 0))∧Below w.heap.size w w':=by
  have hu:=Try.underlying47;have hlen:=hr0.2.1;have HR0:=am_ hr0;have HC:=am_ hclo;clear hr0 hclo;obtain⟨r,hr⟩:∃ r,r=impl_Store_readsExist.frm p l0 0:=⟨_,rfl⟩;rw[← hr];have HF:=am_ hr.symm;clear hr
  go_enter Try.func56,Try.ntmps56
  go_wp2
  go_loopg [8] l0.length (fun kq v8 w'=>∃ (i:Nat),v8=i_ (i:Int)∧i≤l0.length∧Aside0 (impl_Store_readsExist.frm p l0 i=r)∧Aside0 (kq+i=l0.length)∧Aside0 (Below w.heap.size w w'))
  case atStart=>exact⟨0,rfl,Nat.zero_le _,HF,⟨by omega⟩,⟨Below.refl _ _⟩⟩
  case round=>
    clear HF;obtain⟨i,rfl,hi,HF,HK,HB⟩:=hrel
    by_cases hlt:i < l0.length
    · obtain⟨k1,rfl⟩:∃ m,gk=m+1:=⟨gk - 1,by have:=HK.out;omega⟩;obtain⟨ad,e_,hx0,hx1⟩:=at_T47 HR0.out (i:Int) (by omega) (by omega)
      cases e_
      replace hx0:=bl_ HB.out hx0;replace hx1:=bl_ HB.out hx1;simp only[Int.toNat_natCast]at hx0 hx1;have HCI:=am_ (HC.out i hlt);(have hv:rd_T47 l0 (i:Int)=l0.getD i z47:=by unfold rd_T47;rw[Int.toNat_natCast]);have HV:=am_ hv;clear hv
      cases hp:p (l0.getD i z47) with
      | true=>
        (have hb:p (rd_T47 l0 (i:Int))=true:=by rw[HV.out];exact hp);have HP:=am_ hp;clear hp
        go_wp2_with (go_at_call 85;(with_reducible refine(HCI.out _ HB.out).mono ?_);rintro e w1 ⟨rfl,hb1⟩;have HB2:=am_ (below_step HB.out hb1);clear hb1)
        go_ret;exact⟨by rw[← HF.out,impl_Store_readsExist.frm_hit _ _ _ hlt HP.out];rfl,HB2.out⟩
      | false=>
        (have hb:p (rd_T47 l0 (i:Int))=false:=by rw[HV.out];exact hp);have HP:=am_ hp;clear hp
        go_wp2_with (go_at_call 85;(with_reducible refine(HCI.out _ HB.out).mono ?_);rintro e w1 ⟨rfl,hb1⟩;have HB2:=am_ (below_step HB.out hb1);clear hb1)
        go_roundg k1
        case measure=>have:=HK.out;omega
        case rel=>exact⟨i+1,by go_num,by omega,⟨by rw[← HF.out,impl_Store_readsExist.frm_miss _ _ _ hlt HP.out]⟩,⟨by have:=HK.out;omega⟩,HB2⟩
    · go_wp2
      go_ret;exact⟨by rw[← HF.out,impl_Store_readsExist.frm_end _ _ _ hlt];rfl,HB.out⟩
/-- Is there no version of this mark? -/
def impl_Store_readsExist.miss (l:List (List S77)) (v:S47):Bool:=decide (impl_FindVersion.frm (rd_L3 l v.f0) v.f1 0 < 0)
set_option maxHeartbeats 2000000 in
set_option maxRecDepth 100000 in
theorem impl_Store_readsExist.clo (v:S47) (g:Nat)(A0:Option Addr)(c0:Nat) (l0:List (List S77)) (w:World) (hr0:Kd.C (Kd.slice 77 k77) w A0 l0.length l0) (hk0:0≤v.f0) (hk1:v.f0 < (l0.length:Int)) (hg:w.cell? ⟨g,0,none⟩=some (.slice A0 l0.length c0)) (hl:g < w.heap.size) :
    Calls Try.prog 85 #[.agg #[i_ v.f0,i_ v.f1],.pointer (some ⟨g,0,none⟩)] w fun e w'=>e=.returned (.bool (impl_Store_readsExist.miss l0 v))∧Below w.heap.size w w':=by
  have hu:=Try.underlying47;have hv:=Try.underlying39;(have hg':∀ o,(w.alloc o).cell? ⟨g,0,none⟩=some (.slice A0 l0.length c0):=fun o=>(World.cell?_alloc_lt _ _ _ hl).trans hg);have HR:=am_ hr0;have HK0:=am_ hk0;have HK1:=am_ hk1;have HB:=am_ (below_alloc (Below.refl w.heap.size w) (.cells #[i_ v.f0,i_ v.f1] 47));clear hr0 hk0 hk1;obtain⟨r,hr⟩:∃ r,r=impl_Store_readsExist.miss l0 v:=⟨_,rfl⟩;have HM:=am_ hr;rw[← hr];clear hr
  cases r with
  | true=>
    go_enter Try.func85,Try.ntmps85
    go_wp2_with (go_at_call 58;(with_reducible refine(impl_Store_find.told A0 c0 l0 v.f0 v.f1 _ ?s1 HK0.out HK1.out).mono ?_);(case s1=>exact Kd.C_below HR.out HB.out);rintro e w1 ⟨hb1,hd⟩;obtain⟨hn,rfl⟩:=hd.resolve_right (fun hn=>absurd (of_decide_eq_true HM.out.symm) (by have:=hn.1;omega));clear hd;have HB1:=am_ (below_step HB.out hb1);clear hb1 hn)
    go_ret;exact⟨rfl,HB1.out⟩
  | false=>
    go_enter Try.func85,Try.ntmps85
    go_wp2_with (go_at_call 58;(with_reducible refine(impl_Store_find.told A0 c0 l0 v.f0 v.f1 _ ?s1 HK0.out HK1.out).mono ?_);(case s1=>exact Kd.C_below HR.out HB.out);rintro e w1 ⟨hb1,hd⟩;obtain⟨hn,p,rfl,hp⟩:=hd.resolve_left (fun hn=>absurd hn.1 (of_decide_eq_false HM.out.symm));clear hd;have HB1:=am_ (below_step HB.out hb1);clear hb1 hn hp)
    go_ret;exact⟨rfl,HB1.out⟩
set_option maxHeartbeats 2000000 in
set_option maxRecDepth 100000 in
theorem impl_Store_readsExist.con (p:S47→Bool) (fv:Array Value) (A0:Option Addr)(c0:Nat) (l0:List S47) (w:World) (hr0:Kd.C k47 w A0 l0.length l0) (hc0:l0.length≤c0)
    (hclo:∀ j,j < l0.length→∀ W,Below w.heap.size w W→Calls Try.prog 85 (#[.agg #[i_ (rd_T47 l0 (j:Int)).f0,i_ (rd_T47 l0 (j:Int)).f1]]++fv) W fun e w'=>e=.returned (.bool (p (rd_T47 l0 (j:Int))))∧Below W.heap.size W w') :
    Calls Try.prog 84 #[.slice A0 l0.length c0,.func (.func 85) #[] fv] w fun e w'=>e=.returned (.bool (decide (impl_Store_readsExist.frm p l0 0 ≥ 0)))∧Below w.heap.size w w':=by
  have HR0:=am_ hr0;have HC:=am_ hclo;clear hr0 hclo
  go_enter Try.func84,Try.ntmps84
  go_wp2_with (go_at_call 56;(with_reducible refine(impl_Store_readsExist.idx fv p A0 c0 l0 _ HR0.out hc0 HC.out).mono ?_);rintro e w1 ⟨rfl,hb1⟩;have HB2:=am_ hb1;clear hb1)
  go_ret;exact⟨rfl,HB2.out⟩
/-- Are there versions of all marks? -/
def impl_Store_readsExist.f (l0_0:List (List S77)) (l1:List S47):Option Bool:=if (∀ j,j < l1.length→0≤(l1.getD j z47).f0∧(l1.getD j z47).f0 < (l0_0.length:Int)) then some (decide (impl_Store_readsExist.frm (impl_Store_readsExist.miss l0_0) l1 0 < 0)) else none
set_option maxHeartbeats 2000000 in
set_option maxRecDepth 100000 in
theorem impl_Store_readsExist.calls (B:Option Addr)(D:Nat) (l0_0:List (List S77)) (A1:Option Addr)(c1:Nat) (l1:List S47) (r:Bool) (w:World) (hr0_0:Kd.C (Kd.slice 77 k77) w B l0_0.length l0_0) (hc0_0:l0_0.length≤D) (hr1:Kd.C k47 w A1 l1.length l1) (hc1:l1.length≤c1) (h:impl_Store_readsExist.f l0_0 l1=some r) :
    Calls Try.prog 69 #[.agg #[.slice B l0_0.length D],.slice A1 l1.length c1] w fun e w'=>e=.returned (.bool r)∧Below w.heap.size w w':=by
  have hu:=Try.underlying39;unfold impl_Store_readsExist.f at h
  by_cases hk:∀ j,j < l1.length→0≤(l1.getD j z47).f0∧(l1.getD j z47).f0 < (l0_0.length:Int)
  · rw[if_pos hk]at h;obtain rfl:=Option.some.inj h;have HR:=am_ hr0_0;have E:=am_ hr1;have F:=am_ hc1;have HK:=am_ hk;have HB:=am_ (below_alloc (Below.refl w.heap.size w) (.cells #[.slice B l0_0.length D] 39));have HG:=am_ (show(w.alloc (.cells #[.slice B l0_0.length D] 39)).cell? ⟨w.heap.size,0,none⟩=some (.slice B l0_0.length D) by simp);have HL:=am_ (show w.heap.size < (w.alloc (.cells #[.slice B l0_0.length D] 39)).heap.size from Nat.lt_of_lt_of_eq (Nat.lt_succ_self _) (Array.size_push _).symm);clear hr0_0 hr1 hc1 hk h
    go_enter Try.func69,Try.ntmps69
    go_wp2_with (go_at_call 84;(with_reducible refine(impl_Store_readsExist.con (impl_Store_readsExist.miss l0_0) #[.pointer (some ⟨w.heap.size,0,none⟩)] A1 c1 l1 _ ?s1 F.out ?s2).mono ?_);(case s1=>exact Kd.C_below E.out HB.out);(case s2=>(intro j hj W hbW;have hv:rd_T47 l1 (j:Int)=l1.getD j z47:=(by unfold rd_T47;rw[Int.toNat_natCast]);rw[hv];exact impl_Store_readsExist.clo _ _ B D l0_0 W (Kd.C_below (Kd.C_below HR.out HB.out) hbW) (HK.out j hj).1 (HK.out j hj).2 ((hbW.cell (World.block_lt_of_cell? _ _ HG.out)).trans HG.out) (Nat.lt_of_lt_of_le HL.out hbW.size)));rintro e w1 ⟨rfl,hb1⟩;have HB2:=am_ (below_step HB.out hb1);clear hb1)
    go_ret;exact⟨congrArg (fun b=>Ending.returned (.bool b)) (by rw[← decide_not];exact decide_eq_decide.2 (by omega)),HB2.out⟩
  · rw[if_neg hk]at h
    cases h


/-! ### impl_ReadsExist: function 45 -/
def impl_ReadsExist.f (k:Nat) (l0_0:List (List (S77))) (a1_0 a1_1 a1_2 a1_3 a1_4 a1_5 a1_6:Int) (l1_7:List (S47)) (l1_8:List (S58)):Option (Bool):=(impl_IsValidStore.f k l0_0).bind fun t551=>(if t551=true then ((impl_IsValidTransaction.f k a1_0 a1_1 a1_2 a1_3 a1_4 a1_5 a1_6 l1_7 l1_8).bind fun t552=>(if t552=true then ((impl_Store_readsExist.f l0_0 l1_7).bind fun t553=>(some t553)) else (some false))) else (some false))
theorem impl_ReadsExist.mono:∀ a0 a1 a2 a3 a4 a5 a6 a7 a8 a9 k,LeO (impl_ReadsExist.f k a0 a1 a2 a3 a4 a5 a6 a7 a8 a9) (impl_ReadsExist.f (k+1) a0 a1 a2 a3 a4 a5 a6 a7 a8 a9):=by
  intro a0 a1 a2 a3 a4 a5 a6 a7 a8 a9 k;unfold impl_ReadsExist.f
  repeat' first
      | (with_reducible first|apply impl_IsValidStore.mono|apply impl_IsValidTransaction.mono|exact LeO.refl _|exact LeO.none _|refine LeO.ite ?_ ?_|refine LeO.bind ?_ (fun _=>?_))
set_option maxHeartbeats 8000000 in
set_option maxRecDepth 100000 in
theorem impl_ReadsExist.calls (k:Nat)(E:Option Addr)(F:Nat) (l0_0:List (List (S77))) (a1_0 a1_1 a1_2 a1_3 a1_4 a1_5 a1_6:Int)(G:Option Addr)(I:Nat) (l1_7:List (S47)) (J:Option Addr)(L:Nat) (l1_8:List (S58)) (r:Bool) (w:World) (hr0_0:Kd.C (Kd.slice 77 k77) w E l0_0.length l0_0) (hc0_0:l0_0.length≤F) (hr1_7:Kd.C k47 w G l1_7.length l1_7) (hc1_7:l1_7.length≤I) (hr1_8:Kd.C k58 w J l1_8.length l1_8) (hc1_8:l1_8.length≤L) (h:impl_ReadsExist.f k l0_0 a1_0 a1_1 a1_2 a1_3 a1_4 a1_5 a1_6 l1_7 l1_8=some r) :
    Calls Try.prog 45 #[.agg #[.slice E l0_0.length F],.agg #[i_ a1_0,i_ a1_1,i_ a1_2,i_ a1_3,i_ a1_4,i_ a1_5,i_ a1_6,.slice G l1_7.length I,.slice J l1_8.length L]] w fun e w'=>e=.returned (.bool r)∧Below w.heap.size w w':=by
  have hu39:=Try.underlying39;have hu29:=Try.underlying29;have M:=am_ hr0_0;have O:=am_ hc0_0;clear hr0_0 hc0_0;have R:=am_ hr1_7;have U:=am_ hc1_7;clear hr1_7 hc1_7;have Ba:=am_ hr1_8;have Bb:=am_ hc1_8;clear hr1_8 hc1_8;have HB:=am_ (Below.refl w.heap.size w);unfold impl_ReadsExist.f at h;have H:=h;clear h;replace H:=bi_ H;obtain⟨Bc,V,H⟩:=H;have A3:=am_ V;clear V
  refine em_ (Bc=true) ?ac4 ?bc4
  case' ac4=>
   intro c4
   subst c4;rw[if_pos rfl]at H;replace H:=bi_ H;obtain⟨Bd,X,H⟩:=H;have A5:=am_ X;clear X
   refine em_ (Bd=true) ?ac6 ?bc6
   case' ac6=>
    intro c6
    subst c6;rw[if_pos rfl]at H;replace H:=bi_ H;obtain⟨Be,Y,H⟩:=H;have A7:=am_ Y;clear Y;obtain rfl:=Option.some.inj H
   case' bc6=>
    intro c6
    replace c6:=Bool.eq_false_iff.mpr c6;subst c6;rw[if_neg nt_]at H;obtain rfl:=Option.some.inj H
  case' bc4=>
   intro c4
   replace c4:=Bool.eq_false_iff.mpr c4;subst c4;rw[if_neg nt_]at H;obtain rfl:=Option.some.inj H
  all_goals
   go_enter Try.func45,Try.ntmps45
   go_wp2_with (first|((with_reducible refine gate_dst (N:=2) rfl ?_);refine be_ 2 #[.slice E l0_0.length F] 39 ?_;intro Bk hg w8 hbox hb;have B:=am_ hbox;have Bf:=wk_ hg HB;replace HB:=hs_ HB hb;have Bg:=Bf;clear hb hbox hg)|((with_reducible refine gate_dst (N:=3) rfl ?_);refine be_ 3 #[i_ a1_0,i_ a1_1,i_ a1_2,i_ a1_3,i_ a1_4,i_ a1_5,i_ a1_6,.slice G l1_7.length I,.slice J l1_8.length L] 29 ?_;intro Bl hg w9 hbox hb;have D:=am_ hbox;have Bh:=wk_ hg HB;replace HB:=hs_ HB hb;have Bi:=Bh;have Z:=nk_ hg B;replace B:=bb_ B hb;have Bj:=ny_ Z;clear hb hbox hg;have Bm:=Z.out;have Bn:=Bj.out;have Bo:=bc1_ B.out;have Bp:=blk_frozen B.out 0)|((with_reducible refine gate_callee (f:=68) rfl ?_);refine goesL_ (some 6) rfl rfl Try.func68 (by kernel_rfl) rfl #[.agg #[.slice E l0_0.length F]] rfl mp_ ?_;(with_reducible refine(impl_IsValidStore.calls k _ _ l0_0 _ _ ?side1 ?side2 A3.out).mono ?_);(case side1=>exact cq_ M.out HB.out);(case side2=>exact O.out);rintro e Bq ⟨rfl,hb⟩;refine⟨_,rfl,?_⟩;replace B:=bb_ B hb;replace D:=bb_ D hb;replace HB:=hs_ HB hb;clear hb;(first|(have Br:=bc9_ D.out;have Bs:=bf9_ D.out)|skip))|(go_at_call 12;(with_reducible refine(impl_IsValidTransaction.calls k a1_0 a1_1 a1_2 a1_3 a1_4 a1_5 a1_6 _ _ l1_7 _ _ l1_8 _ _ ?side1 ?side2 ?side3 ?side4 A5.out).mono ?_);(case side1=>exact cq_ R.out HB.out);(case side2=>exact U.out);(case side3=>exact cq_ Ba.out HB.out);(case side4=>exact Bb.out);rintro e Bt ⟨rfl,hb⟩;replace B:=bb_ B hb;replace D:=bb_ D hb;replace HB:=hs_ HB hb;clear hb;(first|(have Bu:=bc1_ B.out;have Bv:=blk_frozen B.out 0;have Bw:=bc9_ D.out;have Bx:=bf9_ D.out)|skip))|(go_at_call 69;(with_reducible refine(impl_Store_readsExist.calls _ _ l0_0 _ _ l1_7 Be _ ?side1 ?side2 ?side3 ?side4 A7.out).mono ?_);(case side1=>exact cq_ M.out HB.out);(case side2=>exact O.out);(case side3=>exact cq_ R.out HB.out);(case side4=>exact U.out);rintro e By ⟨rfl,hb⟩;replace B:=bb_ B hb;replace D:=bb_ D hb;replace HB:=hs_ HB hb;clear hb))
   go_ret;exact⟨ew_,hq2_ HB.out Bg.out Bi.out⟩

/-! ### impl_Store_lastStamp: function 46 -/
mutual
def impl_Store_lastStamp.l0:Nat→Int→List (List (S77))→Int→Int→Option (Int)
  | 0,_,_,_,_=>none
  | k+1,x3,x9,x10,x11=>if x11 < x10 then (if 0≤x11 then (if x11 < (x9.length:Int) then (impl_Store_lastStamp.l1 k x3 x9 x10 x11 (rd_L3 x9 x11) ((rd_L3 x9 x11).length:Int) 0) else (none)) else (none)) else (some x3)
def impl_Store_lastStamp.l1:Nat→Int→List (List (S77))→Int→Int→List (S77)→Int→Int→Option (Int)
  | 0,_,_,_,_,_,_,_=>none
  | k+1,x3,x9,x10,x11,x15,x16,x17=>if x17 < x16 then (if 0≤x17 then (if x17 < (x15.length:Int) then (impl_Store_lastStamp.l1 k (mx x3 ((rd_T77 x15 x17).f3)) x9 x10 x11 x15 x16 (wrap64 (x17+1))) else (none)) else (none)) else (impl_Store_lastStamp.l0 k x3 x9 x10 (wrap64 (x11+1)))
end
def impl_Store_lastStamp.f (k:Nat) (l0_0:List (List (S77))):Option (Int):=impl_Store_lastStamp.l0 k 0 l0_0 (l0_0.length:Int) 0
theorem impl_Store_lastStamp.mono_l:∀ k,(∀ y0 y1 y2 y3,LeO (impl_Store_lastStamp.l0 k y0 y1 y2 y3) (impl_Store_lastStamp.l0 (k+1) y0 y1 y2 y3))∧(∀ y0 y1 y2 y3 y4 y5 y6,LeO (impl_Store_lastStamp.l1 k y0 y1 y2 y3 y4 y5 y6) (impl_Store_lastStamp.l1 (k+1) y0 y1 y2 y3 y4 y5 y6))
  | 0=>⟨fun _ _ _ _ r h=>by simp [impl_Store_lastStamp.l0]at h,fun _ _ _ _ _ _ _ r h=>by simp [impl_Store_lastStamp.l1]at h⟩
  | k+1=>by
    obtain⟨ih0,ih1⟩:=impl_Store_lastStamp.mono_l k;refine⟨?_,?_⟩
    · intro y0 y1 y2 y3;unfold impl_Store_lastStamp.l0
      repeat' first
      | (with_reducible first|apply ih0|apply ih1|exact LeO.refl _|exact LeO.none _|refine LeO.ite ?_ ?_|refine LeO.bind ?_ (fun _=>?_))
    · intro y0 y1 y2 y3 y4 y5 y6;unfold impl_Store_lastStamp.l1
      repeat' first
      | (with_reducible first|apply ih0|apply ih1|exact LeO.refl _|exact LeO.none _|refine LeO.ite ?_ ?_|refine LeO.bind ?_ (fun _=>?_))
theorem impl_Store_lastStamp.mono:∀ a0 k,LeO (impl_Store_lastStamp.f k a0) (impl_Store_lastStamp.f (k+1) a0):=by
  intro a0 k;obtain⟨ih0,ih1⟩:=impl_Store_lastStamp.mono_l k;unfold impl_Store_lastStamp.f
  repeat' first
      | (with_reducible first|apply ih0|apply ih1|exact LeO.refl _|exact LeO.none _|refine LeO.ite ?_ ?_|refine LeO.bind ?_ (fun _=>?_))
set_option maxHeartbeats 8000000 in
set_option maxRecDepth 100000 in
theorem impl_Store_lastStamp.calls (k:Nat)(I:Option Addr)(G:Nat) (l0_0:List (List (S77))) (r:Int) (w:World) (hr0_0:Kd.C (Kd.slice 77 k77) w I l0_0.length l0_0) (hc0_0:l0_0.length≤G) (h:impl_Store_lastStamp.f k l0_0=some r) :
    Calls Try.prog 46 #[.agg #[.slice I l0_0.length G]] w fun e w'=>e=.returned (i_ r)∧Below w.heap.size w w':=by
  have hu39:=Try.underlying39;have hu77:=Try.underlying77;have Bl:=am_ hr0_0;have Bv:=am_ hc0_0;clear hr0_0 hc0_0;have HB:=am_ (Below.refl w.heap.size w);unfold impl_Store_lastStamp.f at h;have H:=h;clear h;have H':=am_ H;clear H
  go_enter Try.func46,Try.ntmps46
  go_wp2_with (first|((with_reducible refine gate_dst (N:=1) rfl ?_);refine be_ 1 #[.slice I l0_0.length G] 39 ?_;intro Y hg w2 hbox hb;have E:=am_ hbox;have Bm:=wk_ hg HB;replace HB:=hs_ HB hb;have Bn:=Bm;clear hb hbox hg;have Z:=bc1_ E.out;have Ba:=blk_frozen E.out 0))
  go_loopg [3,11] k (fun kq v3 v11 w'=>∃ (J B:Int),v3=i_ J∧v11=i_ B∧Aside0 (impl_Store_lastStamp.l0 kq J l0_0 (l0_0.length:Int) B=some r)∧Aside0 (kq≤k)∧Aside0 (w'.heap[Y]? = some (.cells #[(.slice I l0_0.length G)] 39 (0,0)))∧Aside0 (Below w.heap.size w w'))
  case atStart=>exact⟨(0),(0),rs_,rs_,H',⟨Nat.le_refl _⟩,⟨bq_ E.out⟩,⟨hbw_ HB⟩⟩
  case round=>
    clear H';(try clear Z);(try clear Ba);obtain⟨J,B,rfl,rfl,HA,HK1,E,HB⟩:=hrel
    cases gk with
    | zero=>exact absurd HA.out (by simp [impl_Store_lastStamp.l0])
    | succ k1=>
      have H:=HA.out;clear HA;simp only[impl_Store_lastStamp.l0]at H
      by_cases c4:B < (l0_0.length:Int)
      · rw[if_pos c4]at H;have Bb:decide (B < (l0_0.length:Int))=true:=decide_eq_true c4;clear c4
        by_cases c5:0≤B
        · rw[if_pos c5]at H;have Bo:decide (0≤B)=true:=decide_eq_true c5;clear c5
          by_cases c6:B < (l0_0.length:Int)
          · rw[if_pos c6]at H;have Bp:decide (B < (l0_0.length:Int))=true:=decide_eq_true c6;clear c6;have H':=am_ H;clear H;have M:0≤(B:Int):=of_decide_eq_true as_;have O:B < (l0_0.length:Int):=of_decide_eq_true as_;obtain⟨Bq,Bw,Bx,e555,R,Bc,Bd⟩:=at_L3 Bl.out B M O
            cases e555
            replace R:=bl_ HB.out R;have Br:=am_ Bd;have By:=am_ Bc;clear Bd Bc;replace M:=eq_true M;replace O:=eq_true O
            go_wp2
            go_loopg [3,17] k1 (fun kq v3 v17 w'=>∃ (F D:Int),v3=i_ F∧v17=i_ D∧Aside0 (impl_Store_lastStamp.l1 kq F l0_0 (l0_0.length:Int) B (rd_L3 l0_0 B) ((rd_L3 l0_0 B).length:Int) D=some r)∧Aside0 (kq≤k1)∧Aside0 (w'.heap[Y]? = some (.cells #[(.slice (some Bq) l0_0.length G)] 39 (0,0)))∧Aside0 (Below w.heap.size w w'))
            case atStart=>exact⟨(J),(0),rs_,rs_,H',⟨Nat.le_refl _⟩,⟨bq_ E.out⟩,⟨hbw_ HB⟩⟩
            case round=>
              clear H';(try clear Bb);(try clear Bo);(try clear Bp);(try clear Z);(try clear Ba);(try clear R);obtain⟨F,D,rfl,rfl,HA,HK2,E,HB⟩:=hrel
              cases gk with
              | zero=>exact absurd HA.out (by simp [impl_Store_lastStamp.l1])
              | succ k2=>
                have H:=HA.out;clear HA;simp only[impl_Store_lastStamp.l1]at H
                by_cases c7:D < ((rd_L3 l0_0 B).length:Int)
                · rw[if_pos c7]at H;have Bs:decide (D < ((rd_L3 l0_0 B).length:Int))=true:=decide_eq_true c7;clear c7
                  by_cases c8:0≤D
                  · rw[if_pos c8]at H;have Bz:decide (0≤D)=true:=decide_eq_true c8;clear c8
                    by_cases c9:D < ((rd_L3 l0_0 B).length:Int)
                    · rw[if_pos c9]at H;have B0:decide (D < ((rd_L3 l0_0 B).length:Int))=true:=decide_eq_true c9;clear c9;obtain⟨Be,L⟩:∃ j_:Int,(mx F ((rd_T77 (rd_L3 l0_0 B) D).f3))=j_:=⟨_,rfl⟩;(first|rw[L]at H|simp only[L]at H);have hji10_:(if F < ((rd_T77 (rd_L3 l0_0 B) D).f3) then ((rd_T77 (rd_L3 l0_0 B) D).f3) else F)=Be:=L;have H':=am_ H;clear H;have U:0≤(D:Int):=of_decide_eq_true as_;have V:D < ((rd_L3 l0_0 B).length:Int):=of_decide_eq_true as_;obtain⟨B1,e556,Bf,Bg,Bh,Bi,Bj⟩:=at_T77 Br.out D U V
                      cases e556
                      replace Bf:=bl_ HB.out Bf;replace Bg:=bl_ HB.out Bg;replace Bh:=bl_ HB.out Bh;replace Bi:=bl_ HB.out Bi;replace Bj:=bl_ HB.out Bj;replace U:=eq_true U;replace V:=eq_true V
                      go_wp2_with (first|((with_reducible refine gate_dst (N:=7) rfl ?_);refine be_ 7 #[i_ 0,i_ 0,i_ 0,i_ 0,i_ 0] 77 ?_;intro B2 hg B3 hbox hb;have Bk:=am_ hbox;have Bt:=wk_ hg HB;replace HB:=hs_ HB hb;have B4:=Bt;have X:=nk_ hg E;replace E:=bb_ E hb;have Bu:=ny_ X;clear hb hbox hg;have B5:=Bu.out;have B6:=X.out;have B7:=bc5_ Bk.out;have B8:=bf5_ Bk.out))
                      go_roundg k2
                      case measure=>have:=HK1.out;have:=HK2.out;omega
                      case rel=>exact⟨(Be),(wrap64 (D+1)),(by first|rfl|(simp;done)|(simp only[← L] <;> (first|rfl|simp))|(simp [*];done)),rs_,H',⟨by have:=HK1.out;have:=HK2.out;omega⟩,⟨bk1_ E.out X.out⟩,⟨hbw_ HB⟩⟩
                    · rw[if_neg c9]at H;exact absurd H (by simp)
                  · rw[if_neg c8]at H;exact absurd H (by simp)
                · rw[if_neg c7]at H;have Bs:decide (D < ((rd_L3 l0_0 B).length:Int))=false:=decide_eq_false c7;clear c7;have H':=am_ H;clear H
                  go_wp2
                  go_roundg k2
                  case measure=>have:=HK1.out;have:=HK2.out;omega
                  case rel=>exact⟨(F),(wrap64 (B+1)),rs_,rs_,H',⟨by have:=HK1.out;have:=HK2.out;omega⟩,⟨bq_ E.out⟩,⟨hbw_ HB⟩⟩
          · rw[if_neg c6]at H;exact absurd H (by simp)
        · rw[if_neg c5]at H;exact absurd H (by simp)
      · rw[if_neg c4]at H;have Bb:decide (B < (l0_0.length:Int))=false:=decide_eq_false c4;clear c4;obtain rfl:=Option.some.inj H
        go_wp2
        go_ret;exact⟨ew_,hq1_ HB.out Bn.out⟩

/-! ### impl_Store_latest: function 55 -/
-- FLAGS PTR
/-- The cells of a version. -/
def CellsV (w:World) (p:Addr) (v:S77):Prop:=
  w.cell? p=some (i_ v.f0)∧w.cell? ⟨p.block,p.off+1,none⟩=some (i_ v.f1)∧w.cell? ⟨p.block,p.off+2,none⟩=some (i_ v.f2)∧w.cell? ⟨p.block,p.off+3,none⟩=some (i_ v.f3)∧w.cell? ⟨p.block,p.off+4,none⟩=some (i_ v.f4)
set_option maxHeartbeats 2000000 in
set_option maxRecDepth 100000 in
/-- Where the last version of a key stands; its cells are told of an elder world. -/
theorem impl_Store_latest.told0 (A0:Option Addr)(c0:Nat) (l0:List (List S77)) (key i:Int) (w0 w:World) (hb0:Below w0.heap.size w0 w) (hr0:Kd.C (Kd.slice 77 k77) w0 A0 l0.length l0) (hk0:0≤key) (hk1:key < (l0.length:Int)) (hi:wrap64 (((rd_L3 l0 key).length:Int) - 1)=i) (hi0:0≤i) (hi1:i < ((rd_L3 l0 key).length:Int)) :
    Calls Try.prog 55 #[.agg #[.slice A0 l0.length c0],i_ key] w fun e w'=>∃ p:Addr,e=.returned (.pointer (some p))∧Below w.heap.size w w'∧CellsV w0 p (rd_T77 (rd_L3 l0 key) i):=by
  have hu:=Try.underlying39;have hb:=below_alloc (Below.refl w.heap.size w) (.cells #[.slice A0 l0.length c0] 39);obtain⟨ad1,A2,c2,e1,hx,hl2,hC⟩:=at_L3 hr0 key hk0 hk1
  cases e1
  obtain⟨ad2,e2,hx0,hx1,hx2,hx3,hx4⟩:=at_T77 hC i hi0 hi1
  cases e2
  replace hx:=(hb0.cell (World.block_lt_of_cell? w0 _ hx)).trans hx;replace hx:=(hb.cell (World.block_lt_of_cell? w _ hx)).trans hx;have HB:=am_ hb;have HC:=am_ (show CellsV w0 _ (rd_T77 (rd_L3 l0 key) i) from⟨hx0,hx1,hx2,hx3,hx4⟩);clear hb hx0 hx1 hx2 hx3 hx4 hC hr0 hb0;have d1:=decide_eq_true hk0;have d2:=decide_eq_true hk1;have d3:=decide_eq_true hi0;have d4:=decide_eq_true hi1;replace hk0:=eq_true hk0;replace hk1:=eq_true hk1;replace hi0:=eq_true hi0;replace hi1:=eq_true hi1
  go_enter Try.func55,Try.ntmps55
  go_wp2
  go_ret;exact⟨_,rfl,HB.out,HC.out⟩
theorem impl_Store_latest.told (A0:Option Addr)(c0:Nat) (l0:List (List S77)) (key i:Int) (w:World) (hr0:Kd.C (Kd.slice 77 k77) w A0 l0.length l0) (hk0:0≤key) (hk1:key < (l0.length:Int)) (hi:wrap64 (((rd_L3 l0 key).length:Int) - 1)=i) (hi0:0≤i) (hi1:i < ((rd_L3 l0 key).length:Int)) :
    Calls Try.prog 55 #[.agg #[.slice A0 l0.length c0],i_ key] w fun e w'=>∃ p:Addr,e=.returned (.pointer (some p))∧Below w.heap.size w w'∧CellsV w p (rd_T77 (rd_L3 l0 key) i):=
  impl_Store_latest.told0 A0 c0 l0 key i w w (Below.refl _ _) hr0 hk0 hk1 hi hi0 hi1
/-- The last version of a key, where there is one. -/
def impl_Store_latest.f (l0:List (List S77)) (key:Int):Option (Int × Int × Int × Int × Int):=
  if 0≤key∧key < (l0.length:Int)∧0≤wrap64 (((rd_L3 l0 key).length:Int) - 1)∧wrap64 (((rd_L3 l0 key).length:Int) - 1) < ((rd_L3 l0 key).length:Int) then
    some ((rd_T77 (rd_L3 l0 key) (wrap64 (((rd_L3 l0 key).length:Int) - 1))).f0,(rd_T77 (rd_L3 l0 key) (wrap64 (((rd_L3 l0 key).length:Int) - 1))).f1,(rd_T77 (rd_L3 l0 key) (wrap64 (((rd_L3 l0 key).length:Int) - 1))).f2,(rd_T77 (rd_L3 l0 key) (wrap64 (((rd_L3 l0 key).length:Int) - 1))).f3,(rd_T77 (rd_L3 l0 key) (wrap64 (((rd_L3 l0 key).length:Int) - 1))).f4)
  else none
theorem impl_Store_latest.calls (A0:Option Addr)(c0:Nat) (l0:List (List S77)) (key r1 r2 r3 r4 r5:Int) (w0 w:World) (hb0:Below w0.heap.size w0 w) (hr0:Kd.C (Kd.slice 77 k77) w0 A0 l0.length l0) (hc0:l0.length≤c0) (h:impl_Store_latest.f l0 key=some (r1,r2,r3,r4,r5)) :
    Calls Try.prog 55 #[.agg #[.slice A0 l0.length c0],i_ key] w fun e w'=>∃ p:Addr,e=.returned (.pointer (some p))∧CellsV w' p ⟨r1,r2,r3,r4,r5⟩∧Below w0.heap.size w0 w'∧Below w.heap.size w w':=by
  unfold impl_Store_latest.f at h
  by_cases hk:0≤key∧key < (l0.length:Int)∧0≤wrap64 (((rd_L3 l0 key).length:Int) - 1)∧wrap64 (((rd_L3 l0 key).length:Int) - 1) < ((rd_L3 l0 key).length:Int)
  · rw[if_pos hk]at h;have h:=Option.some.inj h;simp only[Prod.mk.injEq]at h;obtain⟨rfl,rfl,rfl,rfl,rfl⟩:=h;refine(impl_Store_latest.told A0 c0 l0 key _ w (Kd.C_below hr0 hb0) hk.1 hk.2.1 rfl hk.2.2.1 hk.2.2.2).mono ?_;rintro e w' ⟨p,rfl,hb,q0,q1,q2,q3,q4⟩;exact⟨p,rfl,⟨(hb.cell (World.block_lt_of_cell? w _ q0)).trans q0,(hb.cell (World.block_lt_of_cell? w _ q1)).trans q1,(hb.cell (World.block_lt_of_cell? w _ q2)).trans q2,(hb.cell (World.block_lt_of_cell? w _ q3)).trans q3,(hb.cell (World.block_lt_of_cell? w _ q4)).trans q4⟩,below_step hb0 hb,hb⟩
  · rw[if_neg hk]at h
    cases h
theorem impl_Store_latest.calls0 (A0:Option Addr)(c0:Nat) (l0:List (List S77)) (key r1 r2 r3 r4 r5:Int) (w0 w:World) (hb0:Below w0.heap.size w0 w) (hr0:Kd.C (Kd.slice 77 k77) w0 A0 l0.length l0) (h:impl_Store_latest.f l0 key=some (r1,r2,r3,r4,r5)) :
    Calls Try.prog 55 #[.agg #[.slice A0 l0.length c0],i_ key] w fun e w'=>∃ p:Addr,e=.returned (.pointer (some p))∧CellsV w0 p ⟨r1,r2,r3,r4,r5⟩∧Below w0.heap.size w0 w'∧Below w.heap.size w w':=by
  unfold impl_Store_latest.f at h
  by_cases hk:0≤key∧key < (l0.length:Int)∧0≤wrap64 (((rd_L3 l0 key).length:Int) - 1)∧wrap64 (((rd_L3 l0 key).length:Int) - 1) < ((rd_L3 l0 key).length:Int)
  · rw[if_pos hk]at h;have h:=Option.some.inj h;simp only[Prod.mk.injEq]at h;obtain⟨rfl,rfl,rfl,rfl,rfl⟩:=h;refine(impl_Store_latest.told0 A0 c0 l0 key _ w0 w hb0 hr0 hk.1 hk.2.1 rfl hk.2.2.1 hk.2.2.2).mono ?_;rintro e w' ⟨p,rfl,hb,hc⟩;exact⟨p,rfl,hc,below_step hb0 hb,hb⟩
  · rw[if_neg hk]at h
    cases h


end Go.Proofs.Ytacdaekigoldaaa.PFnExclusion
