/- FnExclusion holds: the final window, the room and the excluding pair agree. -/
import Derived.Test.YtacdaekigoldaaaPFnExclusionx29
import Derived.Test.YtacdaekigoldaaaMEv
namespace Go.Proofs.Ytacdaekigoldaaa.Pure
open Go Go.RowKit Go.Proofs.Ytacdaekigoldaaa.PFnExclusion Go.Proofs.YtacdaekigoldaaaW.PrintWords Go.Proofs.YtacdaekigoldaaaW.PrintLast Go.Proofs.YtacdaekigoldaaaW.PrintMore Go.Proofs.YtacdaekigoldaaaM
set_option linter.unusedVariables false
set_option linter.unusedSimpArgs false

theorem spec_in (a b c:Int):spec_l1In.f a b c=some (decide (b≤a∧a≤c)):=by
  unfold spec_l1In.f
  by_cases h:b≤a <;> simp [h]
theorem impl_in_ (a b c:Int):impl_in.f a b c=some (decide (b≤a∧a≤c)):=by
  unfold impl_in.f
  by_cases h:b≤a <;> simp [h]
/-- What a right version is. -/
def vv (a0 a1 a2 a3 a4:Int):Bool:=decide ((-1≤a1∧a1≤99)∧(0≤a2∧a2≤999)∧(a2≤a3∧a3≤999)∧(1≤a4∧a4≤1000)∧(a2=0→a0=0∧a1 = -1)∧(a2≠0→1≤a0∧a0≤9))
theorem spec_vv (a0 a1 a2 a3 a4:Int):Ev (fun k=>spec_IsValidVersion.f k a0 a1 a2 a3 a4) (vv a0 a1 a2 a3 a4):=by
  unfold spec_IsValidVersion.f
  simp only [spec_in,Option.bind_some]
  have hj:∀ b:Bool,Ev (fun k=>spec_IsValidVersion.j0 k b a0 a1 a2 a3 a4) (!b && decide ((a2=0→a0=0∧a1 = -1)∧(a2≠0→1≤a0∧a0≤9))):=by
    intro b
    refine Ev.step (fun k=>spec_IsValidVersion.j0.eq_2 ..) ?_
    simp only [spec_in,Option.bind_some]
    repeat' refine ev_ite (fun h=>?_) (fun h=>?_)
    all_goals
      refine ev_eq (Ev.now _) ?_
      rw [Bool.eq_iff_iff]
      simp only [decide_eq_true_eq,beq_iff_eq,Bool.not_eq_true',Bool.and_eq_true,Bool.not_eq_true,Bool.false_eq_true,false_iff,true_iff] at *
      simp [*] <;> omega
  repeat' refine ev_ite (fun h=>?_) (fun h=>?_)
  all_goals
    refine ev_eq (hj _) ?_
    rw [Bool.eq_iff_iff]
    simp only [vv,decide_eq_true_eq,Bool.not_not,Bool.not_true,Bool.false_and,Bool.and_eq_true,Bool.false_eq_true,false_iff] at *
    omega
theorem impl_vv (a0 a1 a2 a3 a4:Int):Ev (fun k=>impl_IsValidVersion.f k a0 a1 a2 a3 a4) (vv a0 a1 a2 a3 a4):=by
  unfold impl_IsValidVersion.f
  simp only [impl_isValue.f,impl_isID.f,impl_in_,Option.bind_some]
  have hj:∀ b:Bool,Ev (fun k=>impl_IsValidVersion.j0 k b a0 a1 a2 a3 a4) (!b && decide ((a2=0→a0=0∧a1 = -1)∧(a2≠0→1≤a0∧a0≤9))):=by
    intro b
    refine Ev.step (fun k=>impl_IsValidVersion.j0.eq_2 ..) ?_
    simp only [impl_isValue.f,impl_isID.f,impl_in_,Option.bind_some]
    repeat' refine ev_ite (fun h=>?_) (fun h=>?_)
    all_goals
      refine ev_eq (Ev.now _) ?_
      rw [Bool.eq_iff_iff]
      simp only [decide_eq_true_eq,beq_iff_eq,Bool.not_eq_true',Bool.and_eq_true,Bool.not_eq_true,Bool.false_eq_true,false_iff,true_iff] at *
      simp [*] <;> omega
  repeat' refine ev_ite (fun h=>?_) (fun h=>?_)
  all_goals
    refine ev_eq (hj _) ?_
    rw [Bool.eq_iff_iff]
    simp only [vv,decide_eq_true_eq,Bool.not_not,Bool.not_true,Bool.false_and,Bool.and_eq_true,Bool.false_eq_true,false_iff] at *
    omega
theorem rd_L3_at (l:List (List S77)) (i:Nat) (h:i < l.length):rd_L3 l (i:Int)=l[i]:=by unfold rd_L3;exact get_eq l _ i h
/-- One version after another. -/
def Ord (u v:S77):Prop:=¬ u.f2 ≥ v.f2∧¬ u.f4 > v.f2
instance (u v:S77):Decidable (Ord u v):=by unfold Ord;exact inferInstance
def vvS (v:S77):Bool:=vv v.f0 v.f1 v.f2 v.f3 v.f4
def lastOk (l:List S77):Bool:=decide (0 < l.length) && (l.getD (l.length - 1) z77).f4 == 1000
/-- What a right chain is. -/
def vc (l:List S77):Bool:=decide (∀ j,j < l.length→vvS (l.getD j z77)=true∧(j+1 < l.length→Ord (l.getD j z77) (l.getD (j+1) z77))) && lastOk l
theorem rd_nat (l:List S77) (i:Nat):rd_T77 l (i:Int)=l.getD i z77:=by unfold rd_T77;rw [Int.toNat_natCast]
theorem last_ev (l:List S77) (hl:l.length≤9223372036854775806):Ev (fun _=>if (l.length:Int) > 0 then (if 0≤(wrap64 ((l.length:Int) - 1)) then (if (wrap64 ((l.length:Int) - 1)) < (l.length:Int) then (some (((rd_T77 l (wrap64 ((l.length:Int) - 1))).f4) == 1000)) else (none)) else (none)) else (some false)) (lastOk l):=by
  by_cases h:0 < l.length
  · have e:wrap64 ((l.length:Int) - 1)=((l.length - 1:Nat):Int):=by rw [w64 (by omega) (by omega)];omega
    rw [e]
    refine ev_pos (by omega) (ev_pos (by omega) (ev_pos (by omega) ?_))
    rw [rd_nat]
    refine ev_eq (Ev.now _) ?_
    unfold lastOk
    rw [decide_eq_true h,Bool.true_and]
  · refine ev_neg (by omega) ?_
    refine ev_eq (Ev.now _) ?_
    unfold lastOk
    rw [decide_eq_false h,Bool.false_and]
theorem spec_vc (l:List S77) (hl:l.length≤9223372036854775806):Ev (fun k=>spec_IsValidChain.f k l) (vc l):=by
  unfold spec_IsValidChain.f vc
  refine all_loop0 (g:=fun k i=>spec_IsValidChain.l0 k l i) l.length (fun j=>vvS (l.getD j z77)=true∧(j+1 < l.length→Ord (l.getD j z77) (l.getD (j+1) z77))) ?_ ?_ ?_
  · exact Ev.step (fun k=>spec_IsValidChain.l0.eq_2 ..) (ev_neg (by omega) (last_ev l hl))
  · intro i hi hp r hr
    refine Ev.step (fun k=>spec_IsValidChain.l0.eq_2 ..) (ev_pos (by omega) (ev_pos (by omega) ?_))
    rw [rd_nat,up i (by omega),rd_nat]
    refine Ev.bind (spec_vv _ _ _ _ _) (ev_pos hp.1 (ev_ite (fun h=>?_) (fun _=>hr)))
    have ho:=hp.2 (by omega)
    exact ev_pos (by omega) (ev_neg ho.1 (ev_neg ho.2 hr))
  · intro i hi hp
    refine Ev.step (fun k=>spec_IsValidChain.l0.eq_2 ..) (ev_pos (by omega) (ev_pos (by omega) ?_))
    rw [rd_nat,up i (by omega),rd_nat]
    refine Ev.bind (spec_vv _ _ _ _ _) (ev_ite (fun h1=>ev_ite (fun h2=>ev_pos (by omega) (ev_ite (fun h3=>Ev.now _) (fun h3=>ev_ite (fun h4=>Ev.now _) (fun h4=>?_)))) (fun h2=>?_)) (fun _=>Ev.now _))
    · exact absurd ⟨h1,fun _=>⟨h3,h4⟩⟩ hp
    · exact absurd ⟨h1,fun h=>absurd h (by omega)⟩ hp
theorem impl_vc (l:List S77) (hl:l.length≤9223372036854775806):Ev (fun k=>impl_IsValidChain.f k l) (vc l):=by
  have hv:vc l=(decide (∀ j,j < l.length→vvS (l.getD j z77)=true∧(0 < j→Ord (l.getD (j - 1) z77) (l.getD j z77))) && lastOk l):=by
    unfold vc
    congr 1
    rw [decide_eq_decide]
    constructor
    · intro h j hj
      refine ⟨(h j hj).1,fun h0=>?_⟩
      have:=(h (j - 1) (by omega)).2 (by omega)
      rwa [show j - 1+1=j by omega] at this
    · intro h j hj
      refine ⟨(h j hj).1,fun h0=>?_⟩
      have:=(h (j+1) h0).2 (by omega)
      rwa [show j+1 - 1=j by omega] at this
  rw [hv]
  have ht:∀ i:Int,Ev (fun k=>impl_IsValidChain.j1 k l l (l.length:Int) i true) false:=fun i=>Ev.step (fun k=>impl_IsValidChain.j1.eq_2 ..) (ev_pos rfl (Ev.now _))
  have hn:∀ (i:Nat) (r:Bool),i < l.length→Ev (fun k=>impl_IsValidChain.l0 k l l (l.length:Int) ((i+1:Nat):Int)) r→Ev (fun k=>impl_IsValidChain.j1 k l l (l.length:Int) (i:Int) false) r:=fun i r hi hr=>Ev.step (fun k=>impl_IsValidChain.j1.eq_2 ..) (ev_neg (by simp) (by rw [up i (by omega)];exact hr))
  unfold impl_IsValidChain.f
  refine all_loop0 (g:=fun k i=>impl_IsValidChain.l0 k l l (l.length:Int) i) l.length (fun j=>vvS (l.getD j z77)=true∧(0 < j→Ord (l.getD (j - 1) z77) (l.getD j z77))) ?_ ?_ ?_
  · exact Ev.step (fun k=>impl_IsValidChain.l0.eq_2 ..) (ev_neg (by omega) (last_ev l hl))
  · intro i hi hp r hr
    refine Ev.step (fun k=>impl_IsValidChain.l0.eq_2 ..) (ev_pos (by omega) (ev_pos (by omega) (ev_pos (by omega) ?_)))
    rw [rd_nat]
    refine Ev.bind (impl_vv _ _ _ _ _) (ev_pos hp.1 (ev_ite (fun h=>?_) (fun _=>hn i r hi hr)))
    have e:wrap64 ((i:Int) - 1)=((i - 1:Nat):Int):=by rw [w64 (by omega) (by omega)];omega
    rw [e,rd_nat]
    have ho:=hp.2 (by omega)
    exact ev_pos (by omega) (ev_pos (by omega) (ev_neg ho.1 (by rw [decide_eq_false ho.2];exact hn i r hi hr)))
  · intro i hi hp
    refine Ev.step (fun k=>impl_IsValidChain.l0.eq_2 ..) (ev_pos (by omega) (ev_pos (by omega) (ev_pos (by omega) ?_)))
    rw [rd_nat]
    refine Ev.bind (impl_vv _ _ _ _ _) (ev_ite (fun h1=>ev_ite (fun h2=>?_) (fun h2=>?_)) (fun _=>ht i))
    · have e:wrap64 ((i:Int) - 1)=((i - 1:Nat):Int):=by rw [w64 (by omega) (by omega)];omega
      rw [e,rd_nat]
      exact ev_pos (by omega) (ev_pos (by omega) (ev_ite (fun h3=>ht i) (fun h3=>by
        by_cases h4:(l.getD (i - 1) z77).f4 > (l.getD i z77).f2
        · rw [decide_eq_true h4];exact ht i
        · exact absurd ⟨h1,fun _=>⟨h3,h4⟩⟩ hp)))
    · exact absurd ⟨h1,fun h=>absurd h (by omega)⟩ hp
theorem vc_pos {l:List S77} (h:vc l=true):0 < l.length:=by
  unfold vc lastOk at h
  simp only [Bool.and_eq_true,decide_eq_true_eq] at h
  exact h.2.1
def chainOk (l:List S77):Bool:=vc l && decide (l.length≤50)
/-- What a right store is. -/
def vs (l:List (List S77)):Bool:=decide (l.length=6) && l.all chainOk
theorem all_get {α:Type} (l:List α) (p:α→Bool):l.all p=decide (∀ j (h:j < l.length),p l[j]=true):=by
  rw [Bool.eq_iff_iff,List.all_eq_true,decide_eq_true_eq]
  constructor
  · intro h j hj
    exact h _ (List.getElem_mem hj)
  · intro h x hx
    obtain ⟨j,hj,rfl⟩:=List.mem_iff_getElem.1 hx
    exact h j hj
theorem spec_vs (l:List (List S77)) (hl:l.length≤9223372036854775806) (hin:∀ x ∈ l,x.length≤9223372036854775806):Ev (fun k=>spec_IsValidStore.f k l) (vs l):=by
  have e:vs l=(decide (∀ j,j < l.length→chainOk (l.getD j [])=true) && ((l.length:Int) == 6)):=by
    unfold vs
    rw [all_get,Bool.and_comm]
    congr 1
    · rw [decide_eq_decide]
      constructor
      · intro h j hj
        rw [List.getD_eq_getElem?_getD,List.getElem?_eq_getElem hj]
        exact h j hj
      · intro h j hj
        have:=h j hj
        rwa [List.getD_eq_getElem?_getD,List.getElem?_eq_getElem hj] at this
    · rw [Bool.eq_iff_iff,decide_eq_true_eq,beq_iff_eq]
      omega
  rw [e]
  unfold spec_IsValidStore.f
  have hr:∀ i,i < l.length→rd_L3 l (i:Int)=l.getD i []:=by intro i hi;unfold rd_L3;rw [Int.toNat_natCast]
  have hi':∀ i,i < l.length→(l.getD i []).length≤9223372036854775806:=by
    intro i hi
    rw [List.getD_eq_getElem?_getD,List.getElem?_eq_getElem hi]
    exact hin _ (List.getElem_mem hi)
  refine all_loop0 (g:=fun k i=>spec_IsValidStore.l0 k i l) l.length _ ?_ ?_ ?_
  · exact Ev.step (fun k=>spec_IsValidStore.l0.eq_2 ..) (ev_neg (by omega) (Ev.now _))
  · intro i hi hp r h
    unfold chainOk at hp
    simp only [Bool.and_eq_true,decide_eq_true_eq] at hp
    have h0:=vc_pos hp.1
    refine Ev.step (fun k=>spec_IsValidStore.l0.eq_2 ..) (ev_pos (by omega) (ev_pos (by omega) ?_))
    rw [hr i hi,up i (by omega)]
    exact Ev.bind (spec_vc _ (hi' i hi)) (ev_pos hp.1 (ev_pos (by omega) (ev_ite (fun _=>ev_neg (by omega) h) (fun _=>ev_neg (by omega) h))))
  · intro i hi hp
    unfold chainOk at hp
    simp only [Bool.and_eq_true,decide_eq_true_eq] at hp
    refine Ev.step (fun k=>spec_IsValidStore.l0.eq_2 ..) (ev_pos (by omega) (ev_pos (by omega) ?_))
    rw [hr i hi,up i (by omega)]
    refine Ev.bind (spec_vc _ (hi' i hi)) (ev_ite (fun h=>?_) (fun _=>Ev.now _))
    have h0:=vc_pos h
    have h1:¬ (l.getD i []).length≤50:=fun h2=>hp ⟨h,h2⟩
    exact ev_pos (by omega) (ev_ite (fun _=>ev_pos (by omega) (Ev.now _)) (fun _=>ev_pos (by omega) (Ev.now _)))
theorem impl_chainOk (l:List S77) (hl:l.length≤9223372036854775806):Ev (fun k=>impl_IsValidStore_1.f k l) (!chainOk l):=by
  unfold impl_IsValidStore_1.f chainOk
  refine Ev.bind (impl_vc l hl) (ev_ite (fun h=>?_) (fun h=>?_))
  · rw [h]
    refine ev_eq (Ev.now _) ?_
    rw [Bool.eq_iff_iff]
    simp
    omega
  · rw [Bool.not_eq_true] at h
    rw [h]
    exact Ev.now _
theorem impl_any (l:List (List S77)) (hin:∀ x ∈ l,x.length≤9223372036854775806):Ev (fun k=>impl_IsValidStore.any k l) (!l.all chainOk):=by
  induction l with
  | nil=>exact Ev.now _
  | cons x l ih=>
    refine Ev.congr (fun k=>impl_IsValidStore.any.eq_2 ..) ?_
    refine Ev.bind (impl_chainOk x (hin x (by simp))) (ev_ite (fun h=>?_) (fun h=>?_))
    · refine ev_eq (Ev.now _) ?_
      simp at h
      simp [h]
    · refine ev_eq (ih (fun y hy=>hin y (by simp [hy]))) ?_
      simp at h
      simp [h]
theorem impl_vs (l:List (List S77)) (hin:∀ x ∈ l,x.length≤9223372036854775806):Ev (fun k=>impl_IsValidStore.f k l) (vs l):=by
  unfold impl_IsValidStore.f vs
  refine ev_ite (fun h=>?_) (fun h=>?_)
  · refine Ev.bind (impl_any l hin) (ev_eq (Ev.now _) ?_)
    simp [h]
  · refine ev_eq (Ev.now _) ?_
    simp [h]
theorem vs_len {l:List (List S77)} (h:vs l=true):l.length=6:=by
  unfold vs at h
  simp only [Bool.and_eq_true,decide_eq_true_eq] at h
  exact h.1
theorem vs_chain {l:List (List S77)} (h:vs l=true) (i:Nat) (hi:i < l.length):vc l[i]=true∧l[i].length≤50:=by
  unfold vs at h
  simp only [Bool.and_eq_true] at h
  have:=List.all_eq_true.1 h.2 _ (List.getElem_mem hi)
  unfold chainOk at this
  simpa only [Bool.and_eq_true,decide_eq_true_eq] using this
theorem vc_at {l:List S77} (h:vc l=true) (j:Nat) (hj:j < l.length):vvS (l.getD j z77)=true:=by
  unfold vc at h
  simp only [Bool.and_eq_true,decide_eq_true_eq] at h
  exact (h.1 j hj).1
theorem vvS_use {v:S77} (h:vvS v=true):(-1≤v.f1∧v.f1≤99)∧(0≤v.f2∧v.f2≤999)∧(v.f2≤v.f3∧v.f3≤999)∧(1≤v.f4∧v.f4≤1000):=by
  unfold vvS vv at h
  rw [decide_eq_true_eq] at h
  omega
/-- What a chain's latest version is told as. -/
def latestOf (l:List S77):Int × Int × Int × Int × Int:=
  if vc l=true then ((l.getD (l.length - 1) z77).f0,(l.getD (l.length - 1) z77).f1,(l.getD (l.length - 1) z77).f2,(l.getD (l.length - 1) z77).f3,(l.getD (l.length - 1) z77).f4) else (0,0,0,0,0)
theorem spec_latest (l:List S77) (hl:l.length≤9223372036854775806):Ev (fun k=>spec_LatestVersion.f k l) (latestOf l):=by
  unfold spec_LatestVersion.f latestOf
  refine Ev.bind (spec_vc l hl) (ev_ite (fun h=>?_) (fun h=>?_))
  · have h0:=vc_pos h
    rw [if_pos h,down l.length h0 (by omega),rd_nat]
    exact ev_pos (by omega) (ev_pos (by omega) (Ev.now _))
  · rw [if_neg h]
    exact Ev.now _
/-- One mark lies before another. -/
def Bef (a b c d:Int):Prop:=a < c∨a=c∧b < d
instance (a b c d:Int):Decidable (Bef a b c d):=by unfold Bef;exact inferInstance
theorem rdr (l:List S47) (i:Nat):rd_T47 l (i:Int)=l.getD i z47:=by unfold rd_T47;rw [Int.toNat_natCast]
theorem rdw (l:List S58) (i:Nat):rd_T58 l (i:Int)=l.getD i z58:=by unfold rd_T58;rw [Int.toNat_natCast]
def ROk (l:List S47) (j:Nat):Prop:=(0≤(l.getD j z47).f0∧(l.getD j z47).f0≤5)∧(0≤(l.getD j z47).f1∧(l.getD j z47).f1≤999)∧(0 < j→Bef (l.getD (j - 1) z47).f0 (l.getD (j - 1) z47).f1 (l.getD j z47).f0 (l.getD j z47).f1)
instance (l:List S47):DecidablePred (ROk l):=fun j=>by unfold ROk;exact inferInstance
def WOk (l:List S58) (j:Nat):Prop:=(0≤(l.getD j z58).f0∧(l.getD j z58).f0≤5)∧(-1≤(l.getD j z58).f1∧(l.getD j z58).f1≤99)∧(0 < j→(l.getD (j - 1) z58).f0 < (l.getD j z58).f0)
instance (l:List S58):DecidablePred (WOk l):=fun j=>by unfold WOk;exact inferInstance
def Hd (a0 a1 a2 a3 a4 a5 a6:Int):Prop:=(1≤a0∧a0≤9)∧(1≤a1∧a1≤4)∧(1≤a2∧a2≤3)∧(0≤a3∧a3≤999)∧(0≤a4∧a4≤999)∧(1≤a5∧a5≤1000)∧(a2=2→1≤a6∧a6≤999)∧(a2≠2→a6=0)
instance (a0 a1 a2 a3 a4 a5 a6:Int):Decidable (Hd a0 a1 a2 a3 a4 a5 a6):=by unfold Hd;exact inferInstance
/-- What a right transaction is. -/
def vt (a0 a1 a2 a3 a4 a5 a6:Int) (rs:List S47) (ws:List S58):Bool:=
  decide (∀ j,j < rs.length→ROk rs j) && (decide (∀ j,j < ws.length→WOk ws j) && (decide (Hd a0 a1 a2 a3 a4 a5 a6) && decide (rs.length≤60)))
theorem spec_bef (a b c d:Int):spec_l5Before.f a b c d=some (decide (Bef a b c d)):=by
  unfold spec_l5Before.f
  by_cases hb:Bef a b c d
  · rw [decide_eq_true hb]
    rcases hb with h|⟨h,h2⟩
    · rw [if_pos h]
    · rw [if_neg (by omega),if_pos h,decide_eq_true h2]
  · rw [decide_eq_false hb]
    have h1:¬ a < c:=fun h=>hb (Or.inl h)
    rw [if_neg h1]
    by_cases h:a=c
    · rw [if_pos h,decide_eq_false (fun h2=>hb (Or.inr ⟨h,h2⟩))]
    · rw [if_neg h]
theorem spec_hd (a0 a1 a2 a3 a4 a5 a6:Int) (rs:List S47) (ws:List S58) (b:Bool) (hb:b = !decide ((1≤a0∧a0≤9)∧(1≤a1∧a1≤4)∧(0≤a3∧a3≤999))) :
    Ev (fun k=>spec_IsValidTransaction.j4 k b a0 a1 a2 a3 a4 a5 a6 rs ws) (decide (Hd a0 a1 a2 a3 a4 a5 a6) && decide (rs.length≤60)):=by
  have hno:¬ Hd a0 a1 a2 a3 a4 a5 a6→Ev (fun _:Nat=>some false) (decide (Hd a0 a1 a2 a3 a4 a5 a6) && decide (rs.length≤60)):=fun h=>by
    rw [decide_eq_false h];exact Ev.now _
  refine Ev.step (fun k=>spec_IsValidTransaction.j4.eq_2 ..) ?_
  simp only [spec_in,Option.bind_some]
  have hB:b=true↔¬ ((1≤a0∧a0≤9)∧(1≤a1∧a1≤4)∧(0≤a3∧a3≤999)):=by
    rw [hb,Bool.not_eq_true',decide_eq_false_iff_not]
  have hC:((a2 == 2) == (decide (a6 > 0)))=true↔(a2=2↔a6 > 0):=by
    rw [beq_iff_eq,Bool.eq_iff_iff,beq_iff_eq,decide_eq_true_eq]
  refine ev_ite (fun h0=>hno ?_) (fun h0=>ev_ite (fun h1=>ev_ite (fun h2=>ev_ite (fun h3=>ev_ite (fun h4=>ev_ite (fun h5=>?_) (fun h5=>hno ?_)) (fun h4=>hno ?_)) (fun h3=>hno ?_)) (fun h2=>hno ?_)) (fun h1=>hno ?_))
  all_goals
    simp only [hB,hC,decide_eq_true_eq] at *
    clear hno hb hB hC
  case refine_2=>
    rw [decide_eq_true (show Hd a0 a1 a2 a3 a4 a5 a6 by unfold Hd;omega),Bool.true_and]
    refine ev_eq (Ev.now _) ?_
    rw [decide_eq_decide]
    omega
  all_goals
    unfold Hd
    omega
theorem spec_ws (a0 a1 a2 a3 a4 a5 a6:Int) (rs:List S47) (ws:List S58) (hw:ws.length≤9223372036854775806) :
    Ev (fun k=>spec_IsValidTransaction.l1 k 0 a0 a1 a2 a3 a4 a5 a6 rs ws) (decide (∀ j,j < ws.length→WOk ws j) && (decide (Hd a0 a1 a2 a3 a4 a5 a6) && decide (rs.length≤60))):=by
  have hno:∀ i,Ev (fun k=>spec_IsValidTransaction.j3 k i true a0 a1 a2 a3 a4 a5 a6 rs ws) false:=fun i=>Ev.step (fun k=>spec_IsValidTransaction.j3.eq_2 ..) (ev_pos rfl (Ev.now _))
  have hgo:∀ i:Nat,i < ws.length→∀ r,Ev (fun k=>spec_IsValidTransaction.l1 k ((i+1:Nat):Int) a0 a1 a2 a3 a4 a5 a6 rs ws) r→Ev (fun k=>spec_IsValidTransaction.j3 k (i:Int) false a0 a1 a2 a3 a4 a5 a6 rs ws) r:=by
    intro i hi r h
    refine Ev.step (fun k=>spec_IsValidTransaction.j3.eq_2 ..) (ev_neg (by simp) ?_)
    rw [up i (by omega)]
    exact h
  refine all_loop0 (g:=fun k i=>spec_IsValidTransaction.l1 k i a0 a1 a2 a3 a4 a5 a6 rs ws) ws.length (WOk ws) ?_ ?_ ?_
  · refine Ev.step (fun k=>spec_IsValidTransaction.l1.eq_2 ..) (ev_neg (by omega) ?_)
    simp only [spec_in,Option.bind_some]
    refine ev_ite (fun h1=>ev_ite (fun h2=>?_) (fun h2=>?_)) (fun h1=>?_)
    · refine spec_hd a0 a1 a2 a3 a4 a5 a6 rs ws _ ?_
      simp only [decide_eq_true_eq] at h1 h2
      congr 1
      rw [decide_eq_decide]
      exact ⟨fun h=>⟨h1,h2,h⟩,fun h=>h.2.2⟩
    · refine spec_hd a0 a1 a2 a3 a4 a5 a6 rs ws _ ?_
      simp only [decide_eq_true_eq] at h1 h2
      symm
      rw [Bool.not_eq_true',decide_eq_false_iff_not]
      exact fun h=>h2 h.2.1
    · refine spec_hd a0 a1 a2 a3 a4 a5 a6 rs ws _ ?_
      simp only [decide_eq_true_eq] at h1
      symm
      rw [Bool.not_eq_true',decide_eq_false_iff_not]
      exact fun h=>h1 h.1
  · intro i hi hp r h
    refine Ev.step (fun k=>spec_IsValidTransaction.l1.eq_2 ..) (ev_pos (by omega) (ev_pos (by omega) ?_))
    simp only [spec_in,Option.bind_some,rdw]
    refine ev_pos (decide_eq_true hp.1) (ev_pos (decide_eq_true hp.2.1) (ev_ite (fun h0=>?_) (fun h0=>hgo i hi r h)))
    rw [down i (by omega) (by omega),rdw]
    refine ev_pos (by omega) (ev_pos (by omega) ?_)
    have:=hp.2.2 (by omega)
    rw [decide_eq_false (by omega)]
    exact hgo i hi r h
  · intro i hi hp
    refine Ev.step (fun k=>spec_IsValidTransaction.l1.eq_2 ..) (ev_pos (by omega) (ev_pos (by omega) ?_))
    simp only [spec_in,Option.bind_some,rdw]
    refine ev_ite (fun h1=>ev_ite (fun h2=>ev_ite (fun h0=>?_) (fun h0=>?_)) (fun _=>hno _)) (fun _=>hno _)
    · rw [down i (by omega) (by omega),rdw]
      refine ev_pos (by omega) (ev_pos (by omega) ?_)
      rw [decide_eq_true (?_:(ws.getD (i - 1) z58).f0 ≥ (ws.getD i z58).f0)]
      · exact hno _
      · rcases Int.lt_or_le (ws.getD (i - 1) z58).f0 (ws.getD i z58).f0 with h3|h3
        · exact absurd ⟨of_decide_eq_true h1,of_decide_eq_true h2,fun _=>h3⟩ hp
        · exact h3
    · exact absurd ⟨of_decide_eq_true h1,of_decide_eq_true h2,fun h=>absurd h (by omega)⟩ hp
theorem spec_vt (a0 a1 a2 a3 a4 a5 a6:Int) (rs:List S47) (ws:List S58) (hr:rs.length≤9223372036854775806) (hw:ws.length≤9223372036854775806) :
    Ev (fun k=>spec_IsValidTransaction.f k a0 a1 a2 a3 a4 a5 a6 rs ws) (vt a0 a1 a2 a3 a4 a5 a6 rs ws):=by
  unfold spec_IsValidTransaction.f vt
  have hno:∀ i,Ev (fun k=>spec_IsValidTransaction.j1 k i true a0 a1 a2 a3 a4 a5 a6 rs ws) false:=fun i=>Ev.step (fun k=>spec_IsValidTransaction.j1.eq_2 ..) (ev_pos rfl (Ev.now _))
  have hgo:∀ i:Nat,i < rs.length→∀ r,Ev (fun k=>spec_IsValidTransaction.l0 k ((i+1:Nat):Int) a0 a1 a2 a3 a4 a5 a6 rs ws) r→Ev (fun k=>spec_IsValidTransaction.j1 k (i:Int) false a0 a1 a2 a3 a4 a5 a6 rs ws) r:=by
    intro i hi r h
    refine Ev.step (fun k=>spec_IsValidTransaction.j1.eq_2 ..) (ev_neg (by simp) ?_)
    rw [up i (by omega)]
    exact h
  refine all_loop0 (g:=fun k i=>spec_IsValidTransaction.l0 k i a0 a1 a2 a3 a4 a5 a6 rs ws) rs.length (ROk rs) ?_ ?_ ?_
  · exact Ev.step (fun k=>spec_IsValidTransaction.l0.eq_2 ..) (ev_neg (by omega) (spec_ws a0 a1 a2 a3 a4 a5 a6 rs ws hw))
  · intro i hi hp r h
    refine Ev.step (fun k=>spec_IsValidTransaction.l0.eq_2 ..) (ev_pos (by omega) (ev_pos (by omega) ?_))
    simp only [spec_in,Option.bind_some,rdr]
    refine ev_pos (decide_eq_true hp.1) (ev_pos (decide_eq_true hp.2.1) (ev_ite (fun h0=>?_) (fun h0=>hgo i hi r h)))
    rw [down i (by omega) (by omega),rdr]
    refine ev_pos (by omega) (ev_pos (by omega) ?_)
    simp only [spec_bef,Option.bind_some]
    rw [decide_eq_true (hp.2.2 (by omega))]
    exact hgo i hi r h
  · intro i hi hp
    refine Ev.step (fun k=>spec_IsValidTransaction.l0.eq_2 ..) (ev_pos (by omega) (ev_pos (by omega) ?_))
    simp only [spec_in,Option.bind_some,rdr]
    refine ev_ite (fun h1=>ev_ite (fun h2=>ev_ite (fun h0=>?_) (fun h0=>?_)) (fun _=>hno _)) (fun _=>hno _)
    · rw [down i (by omega) (by omega),rdr]
      refine ev_pos (by omega) (ev_pos (by omega) ?_)
      simp only [spec_bef,Option.bind_some]
      rw [decide_eq_false (fun h3=>hp ⟨of_decide_eq_true h1,of_decide_eq_true h2,fun _=>h3⟩)]
      exact hno _
    · exact absurd ⟨of_decide_eq_true h1,of_decide_eq_true h2,fun h=>absurd h (by omega)⟩ hp
/-- How one number stands to another. -/
def cmpv (a b:Int):Int:=if a < b then -1 else if a > b then 1 else 0
theorem cmp_ev (a b:Int):cmp_Compare_int.f a b=some (cmpv a b):=by
  unfold cmp_Compare_int.f cmp_isNaN_int.f cmpv
  simp only [Option.bind_some,bne_self_eq_false,Bool.false_eq_true,if_false]
  by_cases h:a < b
  · simp [h]
  · by_cases h2:a > b <;> simp [h,h2]
def cmpM (a b c d:Int):Int:=if cmpv a c=0 then cmpv b d else cmpv a c
theorem impl_cmpM (a b c d:Int):Ev (fun k=>impl_compareMarks.f k a b c d) (cmpM a b c d):=by
  unfold impl_compareMarks.f
  simp only [cmp_ev,Option.bind_some]
  refine Ev.bind (a:=cmpM a b c d) ?_ (Ev.now _)
  unfold cmp_Or_int.f cmpM
  refine Ev.step (fun k=>cmp_Or_int.l0.eq_2 ..) (ev_pos (by simp) (ev_pos (by omega) (ev_pos (by simp) ?_)))
  refine ev_ite (fun h=>?_) (fun h=>?_)
  · have h':cmpv a c=0:=h
    rw [if_pos h',w64 (by omega) (by omega)]
    refine Ev.step (fun k=>cmp_Or_int.l0.eq_2 ..) (ev_pos (by simp) (ev_pos (by omega) (ev_pos (by simp) ?_)))
    refine ev_ite (fun h2=>?_) (fun h2=>?_)
    · have h2':cmpv b d=0:=h2
      rw [h2',w64 (by omega) (by omega)]
      exact Ev.step (fun k=>cmp_Or_int.l0.eq_2 ..) (ev_neg (by simp) (Ev.now _))
    · exact Ev.now _
  · have h':¬ cmpv a c=0:=h
    rw [if_neg h']
    exact Ev.now _
theorem cmpM_bef (a b c d:Int):cmpM a b c d ≥ 0↔¬ Bef a b c d:=by
  unfold cmpM cmpv Bef
  by_cases h1:a < c
  · simp [h1]
  · by_cases h2:a > c
    · simp [h1,h2];omega
    · have:a=c:=by omega
      subst this
      by_cases h3:b < d
      · simp [h3]
      · by_cases h4:b > d <;> simp [h3,h4]
theorem impl_rs (l:List S47) (hl:l.length≤9223372036854775806):Ev (fun k=>impl_areReads.f k l) (decide (∀ j,j < l.length→ROk l j) && decide (l.length≤60)):=by
  have ht:∀ i:Int,Ev (fun k=>impl_areReads.j1 k l l (l.length:Int) i true) false:=fun i=>Ev.step (fun k=>impl_areReads.j1.eq_2 ..) (ev_pos rfl (Ev.now _))
  have hn:∀ (i:Nat) (r:Bool),i < l.length→Ev (fun k=>impl_areReads.l0 k l l (l.length:Int) ((i+1:Nat):Int)) r→Ev (fun k=>impl_areReads.j1 k l l (l.length:Int) (i:Int) false) r:=fun i r hi hr=>Ev.step (fun k=>impl_areReads.j1.eq_2 ..) (ev_neg (by simp) (by rw [up i (by omega)];exact hr))
  unfold impl_areReads.f
  refine all_loop0 (g:=fun k i=>impl_areReads.l0 k l l (l.length:Int) i) l.length (ROk l) ?_ ?_ ?_
  · refine Ev.step (fun k=>impl_areReads.l0.eq_2 ..) (ev_neg (by omega) (ev_eq (Ev.now _) ?_))
    rw [decide_eq_decide]
    omega
  · intro i hi hp r h
    refine Ev.step (fun k=>impl_areReads.l0.eq_2 ..) (ev_pos (by omega) (ev_pos (by omega) (ev_pos (by omega) ?_)))
    simp only [impl_isKey.f,impl_in_,Option.bind_some,rdr]
    refine ev_pos (decide_eq_true hp.1) (ev_pos (decide_eq_true hp.2.1) (ev_ite (fun h0=>?_) (fun h0=>hn i r hi h)))
    rw [down i (by omega) (by omega),rdr]
    refine ev_pos (by omega) (ev_pos (by omega) (Ev.bind (impl_cmpM _ _ _ _) (by rw [decide_eq_false (by rw [cmpM_bef];exact fun h2=>h2 (hp.2.2 (by omega)))];exact hn i r hi h)))
  · intro i hi hp
    refine Ev.step (fun k=>impl_areReads.l0.eq_2 ..) (ev_pos (by omega) (ev_pos (by omega) (ev_pos (by omega) ?_)))
    simp only [impl_isKey.f,impl_in_,Option.bind_some,rdr]
    refine ev_ite (fun h1=>ev_ite (fun h2=>ev_ite (fun h0=>?_) (fun h0=>?_)) (fun _=>ht i)) (fun _=>ht i)
    · rw [down i (by omega) (by omega),rdr]
      refine ev_pos (by omega) (ev_pos (by omega) (Ev.bind (impl_cmpM _ _ _ _) (by rw [decide_eq_true (by rw [cmpM_bef];exact fun h3=>hp ⟨of_decide_eq_true h1,of_decide_eq_true h2,fun _=>h3⟩)];exact ht i)))
    · exact absurd ⟨of_decide_eq_true h1,of_decide_eq_true h2,fun h=>absurd h (by omega)⟩ hp
theorem impl_ws (l:List S58) (hl:l.length≤9223372036854775806):Ev (fun k=>impl_areWrites.f k l) (decide (∀ j,j < l.length→WOk l j) && true):=by
  unfold impl_areWrites.f
  refine all_loop0 (g:=fun k i=>impl_areWrites.l0 k l l (l.length:Int) i) l.length (WOk l) ?_ ?_ ?_
  · exact Ev.step (fun k=>impl_areWrites.l0.eq_2 ..) (ev_neg (by omega) (Ev.now _))
  · intro i hi hp r h
    refine Ev.step (fun k=>impl_areWrites.l0.eq_2 ..) (ev_pos (by omega) (ev_pos (by omega) (ev_pos (by omega) ?_)))
    simp only [impl_isKey.f,impl_isValue.f,impl_in_,Option.bind_some,rdw]
    rw [up i (by omega)]
    refine ev_pos (decide_eq_true hp.1) (ev_pos (decide_eq_true hp.2.1) (ev_ite (fun h0=>?_) (fun h0=>h)))
    rw [down i (by omega) (by omega),rdw]
    have:=hp.2.2 (by omega)
    exact ev_pos (by omega) (ev_pos (by omega) (ev_neg (by omega) h))
  · intro i hi hp
    refine Ev.step (fun k=>impl_areWrites.l0.eq_2 ..) (ev_pos (by omega) (ev_pos (by omega) (ev_pos (by omega) ?_)))
    simp only [impl_isKey.f,impl_isValue.f,impl_in_,Option.bind_some,rdw]
    rw [up i (by omega)]
    refine ev_ite (fun h1=>ev_ite (fun h2=>ev_ite (fun h0=>?_) (fun h0=>?_)) (fun _=>Ev.now _)) (fun _=>Ev.now _)
    · rw [down i (by omega) (by omega),rdw]
      refine ev_pos (by omega) (ev_pos (by omega) (ev_pos ?_ (Ev.now _)))
      rcases Int.lt_or_le (l.getD (i - 1) z58).f0 (l.getD i z58).f0 with h3|h3
      · exact absurd ⟨of_decide_eq_true h1,of_decide_eq_true h2,fun _=>h3⟩ hp
      · exact h3
    · exact absurd ⟨of_decide_eq_true h1,of_decide_eq_true h2,fun h=>absurd h (by omega)⟩ hp
theorem impl_vt (a0 a1 a2 a3 a4 a5 a6:Int) (rs:List S47) (ws:List S58) (hr:rs.length≤9223372036854775806) (hw:ws.length≤9223372036854775806) :
    Ev (fun k=>impl_IsValidTransaction.f k a0 a1 a2 a3 a4 a5 a6 rs ws) (vt a0 a1 a2 a3 a4 a5 a6 rs ws):=by
  have h1:∀ b:Bool,Ev (fun k=>impl_IsValidTransaction.j1 k b a0 a1 a2 a3 a4 a5 a6 rs ws) (!b && ((decide (∀ j,j < rs.length→ROk rs j) && decide (rs.length≤60)) && (decide (∀ j,j < ws.length→WOk ws j) && true))):=by
    intro b
    refine Ev.step (fun k=>impl_IsValidTransaction.j1.eq_2 ..) (ev_ite (fun h=>?_) (fun h=>?_))
    · rw [h];exact Ev.now _
    · rw [Bool.not_eq_true] at h
      rw [h]
      refine Ev.bind (impl_rs rs hr) (ev_ite (fun g=>?_) (fun g=>?_))
      · rw [g]
        exact Ev.bind (impl_ws ws hw) (ev_eq (Ev.now _) (by simp))
      · rw [Bool.not_eq_true] at g
        rw [g]
        exact ev_eq (Ev.now _) (by simp)
  have h0:∀ b:Bool,Ev (fun k=>impl_IsValidTransaction.j0 k b a0 a1 a2 a3 a4 a5 a6 rs ws) (!b && (decide ((a2=2→1≤a6∧a6≤999)∧(a2≠2→a6=0)) && ((decide (∀ j,j < rs.length→ROk rs j) && decide (rs.length≤60)) && (decide (∀ j,j < ws.length→WOk ws j) && true)))):=by
    intro b
    refine Ev.step (fun k=>impl_IsValidTransaction.j0.eq_2 ..) (ev_ite (fun h=>?_) (fun h=>?_))
    · rw [h];exact Ev.now _
    · rw [Bool.not_eq_true] at h
      rw [h]
      simp only [impl_IsStamp.f,impl_in_,Option.bind_some]
      refine ev_ite (fun g=>ev_ite (fun g2=>?_) (fun g2=>?_)) (fun g=>?_)
      · refine ev_eq (h1 false) ?_
        rw [decide_eq_true (show (a2=2→1≤a6∧a6≤999)∧(a2≠2→a6=0) from ⟨fun _=>of_decide_eq_true g2,fun h=>absurd g h⟩)]
        simp
      · refine ev_eq (h1 true) ?_
        rw [decide_eq_false (show ¬ ((a2=2→1≤a6∧a6≤999)∧(a2≠2→a6=0)) from fun h=>g2 (decide_eq_true (h.1 g)))]
        simp
      · refine ev_eq (h1 _) ?_
        by_cases e:a6=0
        · rw [decide_eq_true (show (a2=2→1≤a6∧a6≤999)∧(a2≠2→a6=0) from ⟨fun h=>absurd h g,fun _=>e⟩)]
          simp [e]
        · rw [decide_eq_false (show ¬ ((a2=2→1≤a6∧a6≤999)∧(a2≠2→a6=0)) from fun h=>e (h.2 g))]
          simp [e]
  unfold impl_IsValidTransaction.f
  simp only [impl_isID.f,impl_isScheme.f,impl_in_,Option.bind_some]
  have key:∀ (p:Prop) [Decidable p] (b:Bool),(b = !decide p)→(Hd a0 a1 a2 a3 a4 a5 a6↔p∧((a2=2→1≤a6∧a6≤999)∧(a2≠2→a6=0)))→(!b && (decide ((a2=2→1≤a6∧a6≤999)∧(a2≠2→a6=0)) && ((decide (∀ j,j < rs.length→ROk rs j) && decide (rs.length≤60)) && (decide (∀ j,j < ws.length→WOk ws j) && true))))=vt a0 a1 a2 a3 a4 a5 a6 rs ws:=by
    intro p _ b hb hp
    unfold vt
    rw [show decide (Hd a0 a1 a2 a3 a4 a5 a6)=(decide p && decide ((a2=2→1≤a6∧a6≤999)∧(a2≠2→a6=0))) by rw [← Bool.decide_and,decide_eq_decide];exact hp,hb,Bool.not_not,Bool.and_true]
    generalize decide (∀ j,j < rs.length→ROk rs j)=x1
    generalize decide (rs.length≤60)=x2
    generalize decide (∀ j,j < ws.length→WOk ws j)=x3
    generalize decide ((a2=2→1≤a6∧a6≤999)∧(a2≠2→a6=0))=x4
    generalize decide p=x5
    cases x1 <;> cases x2 <;> cases x3 <;> cases x4 <;> cases x5 <;> rfl
  refine ev_ite (fun g0=>ev_ite (fun g1=>ev_ite (fun g2=>ev_ite (fun g3=>ev_ite (fun g4=>?_) (fun g4=>?_)) (fun g3=>?_)) (fun g2=>?_)) (fun g1=>?_)) (fun g0=>?_)
  · simp only [decide_eq_true_eq] at g0 g1 g2 g3 g4
    exact ev_eq (h0 _) (key (1≤a5∧a5≤1000) _ rfl (by unfold Hd;exact ⟨fun h=>⟨h.2.2.2.2.2.1,h.2.2.2.2.2.2⟩,fun h=>⟨g0,g1,g2,g3,g4,h.1,h.2⟩⟩))
  all_goals
    simp only [decide_eq_true_eq] at *
    refine ev_eq (h0 true) (key False _ rfl ?_)
    unfold Hd
    simp only [false_and,iff_false]
  · exact fun h=>g4 h.2.2.2.2.1
  · exact fun h=>g3 h.2.2.2.1
  · exact fun h=>g2 h.2.2.1
  · exact fun h=>g1 h.2.1
  · exact fun h=>g0 h.1
theorem vt_use {a0 a1 a2 a3 a4 a5 a6:Int} {rs:List S47} {ws:List S58} (h:vt a0 a1 a2 a3 a4 a5 a6 rs ws=true) :
    (∀ j,j < rs.length→ROk rs j)∧(∀ j,j < ws.length→WOk ws j)∧Hd a0 a1 a2 a3 a4 a5 a6∧rs.length≤60:=by
  unfold vt at h
  simp only [Bool.and_eq_true,decide_eq_true_eq] at h
  exact ⟨h.1,h.2.1,h.2.2.1,h.2.2.2⟩
/-- What a loop's fold comes to. -/
def fN (step:Int→Nat→Int):Nat→Int→Int
  | 0,a=>a
  | n+1,a=>step (fN step n a) n
theorem fold_loop {β:Type} {g:Nat→Int→Int→Option β} {r:β} (n:Nat) (step:Int→Nat→Int) (a:Int) (hend:Ev (fun k=>g k (fN step n a) (n:Int)) r)
    (hs:∀ i,i < n→∀ x,Ev (fun k=>g k (step x i) ((i+1:Nat):Int)) r→Ev (fun k=>g k x (i:Int)) r):Ev (fun k=>g k a 0) r:=by
  have h:∀ d i,i+d=n→Ev (fun k=>g k (fN step i a) (i:Int)) r:=by
    intro d
    induction d with
    | zero=>
      intro i hi
      obtain rfl:i=n:=by omega
      exact hend
    | succ d ih=>
      intro i hi
      exact hs i (by omega) _ (ih (i+1) (by omega))
  exact h n 0 (by omega)
theorem rdl_ok {l:List (List S77)} (hv:vs l=true) {key:Int} (h0:0≤key) (h5:key≤5):vc (rd_L3 l key)=true∧(rd_L3 l key).length≤50:=by
  have h6:=vs_len hv
  obtain ⟨i,rfl⟩:∃ i:Nat,key=(i:Int):=⟨key.toNat,by omega⟩
  have hi:i < l.length:=by omega
  rw [rd_L3_at l i hi]
  exact vs_chain hv i hi
theorem latest_at {l:List (List S77)} (hv:vs l=true) {key:Int} (h0:0≤key) (h5:key≤5):impl_Store_latest.f l key=some (latestOf (rd_L3 l key)):=by
  have h6:=vs_len hv
  obtain ⟨i,rfl⟩:∃ i:Nat,key=(i:Int):=⟨key.toNat,by omega⟩
  have hi:i < l.length:=by omega
  obtain ⟨hc,h50⟩:=vs_chain hv i hi
  have hp:=vc_pos hc
  unfold impl_Store_latest.f latestOf
  rw [rd_L3_at l i hi,if_pos hc,down l[i].length hp (by omega),rd_nat,if_pos (by omega)]
/-- The greatest stamp that was read. -/
def lowR (rs:List S47):Int:=fN (fun a i=>mx a (rs.getD i z47).f1) rs.length 0
/-- The greatest mark that a transaction has to follow. -/
def lowOf (l:List (List S77)) (rs:List S47) (ws:List S58):Int:=fN (fun a i=>mx a (latestOf (rd_L3 l (ws.getD i z58).f0)).2.2.2.1) ws.length (lowR rs)
theorem impl_low (l:List (List S77)) (a0 a1 a2 a3 a4 a5 a6:Int) (rs:List S47) (ws:List S58) (hr:rs.length≤9223372036854775806) (hw:ws.length≤9223372036854775806)
    (hv:vs l=true) (ht:vt a0 a1 a2 a3 a4 a5 a6 rs ws=true):Ev (fun k=>impl_Store_refreshLow.f k l a0 a1 a2 a3 a4 a5 a6 rs ws) (lowOf l rs ws):=by
  obtain ⟨hR,hW,_,_⟩:=vt_use ht
  unfold impl_Store_refreshLow.f
  refine fold_loop (g:=fun k x i=>impl_Store_refreshLow.l0 k x rs (rs.length:Int) i l a0 a1 a2 a3 a4 a5 a6 rs ws) rs.length (fun a i=>mx a (rs.getD i z47).f1) 0 ?_ ?_
  · refine Ev.step (fun k=>impl_Store_refreshLow.l0.eq_2 ..) (ev_neg (by omega) ?_)
    refine fold_loop (g:=fun k x i=>impl_Store_refreshLow.l1 k x ws (ws.length:Int) i l) ws.length (fun a i=>mx a (latestOf (rd_L3 l (ws.getD i z58).f0)).2.2.2.1) _ ?_ ?_
    · exact Ev.step (fun k=>impl_Store_refreshLow.l1.eq_2 ..) (ev_neg (by omega) (Ev.now _))
    · intro i hi x h
      have hk:=(hW i hi).1
      refine Ev.step (fun k=>impl_Store_refreshLow.l1.eq_2 ..) (ev_pos (by omega) (ev_pos (by omega) (ev_pos (by omega) ?_)))
      rw [rdw,up i (by omega)]
      exact ev_bindo (latest_at hv hk.1 hk.2) h
  · intro i hi x h
    refine Ev.step (fun k=>impl_Store_refreshLow.l0.eq_2 ..) (ev_pos (by omega) (ev_pos (by omega) (ev_pos (by omega) ?_)))
    rw [rdr,up i (by omega)]
    exact h
theorem spec_low (l:List (List S77)) (a0 a1 a2 a3 a4 a5 a6:Int) (rs:List S47) (ws:List S58) (hl:l.length≤9223372036854775806) (hin:∀ x ∈ l,x.length≤9223372036854775806) (hr:rs.length≤9223372036854775806) (hw:ws.length≤9223372036854775806) :
    Ev (fun k=>spec_RefreshLow.f k l a0 a1 a2 a3 a4 a5 a6 rs ws) (if vs l=true∧vt a0 a1 a2 a3 a4 a5 a6 rs ws=true then lowOf l rs ws else 0):=by
  unfold spec_RefreshLow.f
  by_cases hv:vs l=true
  · refine Ev.bind (spec_vs l hl hin) (ev_pos hv (Ev.bind (spec_vt a0 a1 a2 a3 a4 a5 a6 rs ws hr hw) ?_))
    by_cases ht:vt a0 a1 a2 a3 a4 a5 a6 rs ws=true
    · rw [if_pos ⟨hv,ht⟩]
      obtain ⟨hR,hW,_,_⟩:=vt_use ht
      have h6:=vs_len hv
      refine Ev.step (fun k=>spec_RefreshLow.j0.eq_2 ..) (ev_neg (by simp [ht]) ?_)
      refine fold_loop (g:=fun k x i=>spec_RefreshLow.l0 k x i l a0 a1 a2 a3 a4 a5 a6 rs ws) rs.length (fun a i=>mx a (rs.getD i z47).f1) 0 ?_ ?_
      · refine Ev.step (fun k=>spec_RefreshLow.l0.eq_2 ..) (ev_neg (by omega) ?_)
        refine fold_loop (g:=fun k x i=>spec_RefreshLow.l1 k x i l a0 a1 a2 a3 a4 a5 a6 rs ws) ws.length (fun a i=>mx a (latestOf (rd_L3 l (ws.getD i z58).f0)).2.2.2.1) _ ?_ ?_
        · exact Ev.step (fun k=>spec_RefreshLow.l1.eq_2 ..) (ev_neg (by omega) (Ev.now _))
        · intro i hi x h
          have hk:=(hW i hi).1
          refine Ev.step (fun k=>spec_RefreshLow.l1.eq_2 ..) (ev_pos (by omega) (ev_pos (by omega) ?_))
          rw [rdw,up i (by omega)]
          refine ev_pos (by omega) (ev_pos (by omega) ?_)
          have hc:=rdl_ok hv hk.1 hk.2
          exact Ev.bind (spec_latest _ (by omega)) h
      · intro i hi x h
        refine Ev.step (fun k=>spec_RefreshLow.l0.eq_2 ..) (ev_pos (by omega) (ev_pos (by omega) ?_))
        rw [rdr,up i (by omega)]
        exact h
    · rw [if_neg (fun h=>ht h.2)]
      exact Ev.step (fun k=>spec_RefreshLow.j0.eq_2 ..) (ev_pos (by simp [ht]) (Ev.now _))
  · rw [if_neg (fun h=>hv h.1)]
    exact Ev.bind (spec_vs l hl hin) (ev_neg hv (Ev.step (fun k=>spec_RefreshLow.j0.eq_2 ..) (ev_pos rfl (Ev.now _))))
theorem spec_find (l:List S77) (hl:l.length≤9223372036854775806) (c:Int):Ev (fun k=>spec_FindVersion.f k l c) (impl_FindVersion.frm l c 0):=by
  unfold spec_FindVersion.f
  have h:∀ d i,i+d=l.length→Ev (fun k=>spec_FindVersion.l0 k l c (i:Int)) (impl_FindVersion.frm l c i):=by
    intro d
    induction d with
    | zero=>
      intro i hi
      rw [impl_FindVersion.frm_end l c i (by omega)]
      exact Ev.step (fun k=>spec_FindVersion.l0.eq_2 ..) (ev_neg (by omega) (Ev.now _))
    | succ d ih=>
      intro i hi
      refine Ev.step (fun k=>spec_FindVersion.l0.eq_2 ..) (ev_pos (by omega) (ev_pos (by omega) ?_))
      rw [show rd_T77 l (i:Int)=l.getD i z77 by unfold rd_T77;rw [Int.toNat_natCast],up i (by omega)]
      by_cases hp:(l.getD i z77).f2=c
      · rw [impl_FindVersion.frm_hit l c i (by omega) hp]
        exact ev_pos hp (Ev.now _)
      · rw [impl_FindVersion.frm_miss l c i (by omega) hp]
        exact ev_neg hp (ih (i+1) (by omega))
  exact h l.length 0 (by omega)
/-- Are there versions of all marks? -/
def exq (l:List (List S77)) (rs:List S47):Bool:=decide (impl_Store_readsExist.frm (impl_Store_readsExist.miss l) rs 0 < 0)
theorem impl_exist (l:List (List S77)) {a0 a1 a2 a3 a4 a5 a6:Int} {rs:List S47} {ws:List S58} (hv:vs l=true) (ht:vt a0 a1 a2 a3 a4 a5 a6 rs ws=true):impl_Store_readsExist.f l rs=some (exq l rs):=by
  obtain ⟨hR,_,_,_⟩:=vt_use ht
  have h6:=vs_len hv
  unfold impl_Store_readsExist.f exq
  rw [if_pos (fun j hj=>by have:=(hR j hj).1;omega)]
/-- What the reference and the program say of the reads. -/
def exOf (l:List (List S77)) (a0 a1 a2 a3 a4 a5 a6:Int) (rs:List S47) (ws:List S58):Bool:=vs l && (vt a0 a1 a2 a3 a4 a5 a6 rs ws && exq l rs)
theorem spec_exist (l:List (List S77)) (a0 a1 a2 a3 a4 a5 a6:Int) (rs:List S47) (ws:List S58) (hl:l.length≤9223372036854775806) (hin:∀ x ∈ l,x.length≤9223372036854775806) (hr:rs.length≤9223372036854775806) (hw:ws.length≤9223372036854775806) :
    Ev (fun k=>spec_ReadsExist.f k l a0 a1 a2 a3 a4 a5 a6 rs ws) (exOf l a0 a1 a2 a3 a4 a5 a6 rs ws):=by
  unfold spec_ReadsExist.f exOf
  by_cases hv:vs l=true
  · refine Ev.bind (spec_vs l hl hin) (ev_pos hv (Ev.bind (spec_vt a0 a1 a2 a3 a4 a5 a6 rs ws hr hw) ?_))
    by_cases ht:vt a0 a1 a2 a3 a4 a5 a6 rs ws=true
    · rw [hv,ht,Bool.true_and,Bool.true_and]
      obtain ⟨hR,_,_,_⟩:=vt_use ht
      have h6:=vs_len hv
      refine Ev.step (fun k=>spec_ReadsExist.j0.eq_2 ..) (ev_neg (by simp) ?_)
      have h:∀ d i,i+d=rs.length→Ev (fun k=>spec_ReadsExist.l0 k (i:Int) l a0 a1 a2 a3 a4 a5 a6 rs ws) (decide (impl_Store_readsExist.frm (impl_Store_readsExist.miss l) rs i < 0)):=by
        intro d
        induction d with
        | zero=>
          intro i hi
          rw [impl_Store_readsExist.frm_end _ rs i (by omega)]
          exact Ev.step (fun k=>spec_ReadsExist.l0.eq_2 ..) (ev_neg (by omega) (Ev.now _))
        | succ d ih=>
          intro i hi
          have hk:=(hR i (by omega)).1
          refine Ev.step (fun k=>spec_ReadsExist.l0.eq_2 ..) (ev_pos (by omega) (ev_pos (by omega) ?_))
          rw [rdr,up i (by omega)]
          have hc:=rdl_ok hv hk.1 hk.2
          refine ev_pos (by omega) (ev_pos (by omega) (Ev.bind (spec_find _ (by omega) _) ?_))
          by_cases hp:impl_FindVersion.frm (rd_L3 l (rs.getD i z47).f0) (rs.getD i z47).f1 0 < 0
          · rw [impl_Store_readsExist.frm_hit _ rs i (by omega) (decide_eq_true hp)]
            exact ev_pos hp (ev_eq (Ev.now _) (decide_eq_false (by omega)).symm)
          · rw [impl_Store_readsExist.frm_miss _ rs i (by omega) (decide_eq_false hp)]
            exact ev_neg hp (ih (i+1) (by omega))
      exact h rs.length 0 (by omega)
    · rw [hv,Bool.eq_false_iff.2 ht,Bool.true_and,Bool.false_and]
      exact Ev.step (fun k=>spec_ReadsExist.j0.eq_2 ..) (ev_pos (by simp) (Ev.now _))
  · rw [Bool.eq_false_iff.2 hv,Bool.false_and]
    exact Ev.bind (spec_vs l hl hin) (ev_neg hv (Ev.step (fun k=>spec_ReadsExist.j0.eq_2 ..) (ev_pos rfl (Ev.now _))))
theorem impl_Exist (l:List (List S77)) (a0 a1 a2 a3 a4 a5 a6:Int) (rs:List S47) (ws:List S58) (hin:∀ x ∈ l,x.length≤9223372036854775806) (hr:rs.length≤9223372036854775806) (hw:ws.length≤9223372036854775806) :
    Ev (fun k=>impl_ReadsExist.f k l a0 a1 a2 a3 a4 a5 a6 rs ws) (exOf l a0 a1 a2 a3 a4 a5 a6 rs ws):=by
  unfold impl_ReadsExist.f exOf
  by_cases hv:vs l=true
  · refine Ev.bind (impl_vs l hin) (ev_pos hv (Ev.bind (impl_vt a0 a1 a2 a3 a4 a5 a6 rs ws hr hw) ?_))
    by_cases ht:vt a0 a1 a2 a3 a4 a5 a6 rs ws=true
    · rw [hv,ht,Bool.true_and,Bool.true_and]
      exact ev_pos rfl (ev_bindo (impl_exist l hv ht) (Ev.now _))
    · rw [hv,Bool.eq_false_iff.2 ht,Bool.true_and,Bool.false_and]
      exact ev_neg (by simp) (Ev.now _)
  · rw [Bool.eq_false_iff.2 hv,Bool.false_and]
    exact Ev.bind (impl_vs l hin) (ev_neg hv (Ev.now _))
theorem exOf_use {l:List (List S77)} {a0 a1 a2 a3 a4 a5 a6:Int} {rs:List S47} {ws:List S58} (h:exOf l a0 a1 a2 a3 a4 a5 a6 rs ws=true):vs l=true∧vt a0 a1 a2 a3 a4 a5 a6 rs ws=true∧exq l rs=true:=by
  unfold exOf at h
  simp only [Bool.and_eq_true] at h
  exact h
theorem exq_use {l:List (List S77)} {rs:List S47} (h:exq l rs=true) (j:Nat) (hj:j < rs.length):0≤impl_FindVersion.frm (rd_L3 l (rs.getD j z47).f0) (rs.getD j z47).f1 0:=by
  unfold exq impl_Store_readsExist.frm at h
  have h:=of_decide_eq_true h
  cases hf:(List.range' 0 (rs.length - 0)).find? (fun j=>impl_Store_readsExist.miss l (rs.getD j z47)) with
  | some k=>
    rw [hf] at h
    have h2:(k:Int) < 0:=h
    omega
  | none=>
    have h2:=List.find?_eq_none.1 hf j (List.mem_range'_1.2 (by omega))
    unfold impl_Store_readsExist.miss at h2
    simp only [decide_eq_true_eq] at h2
    omega
/-- The version that a read tells. -/
def verOf (l:List (List S77)) (m:S47):S77:=rd_T77 (rd_L3 l m.f0) (impl_FindVersion.frm (rd_L3 l m.f0) m.f1 0)
/-- The least successor of what was read. -/
def highOf (l:List (List S77)) (rs:List S47):Int:=fN (fun a i=>mn a (verOf l (rs.getD i z47)).f4) rs.length 1000
theorem find_at {l:List (List S77)} {a0 a1 a2 a3 a4 a5 a6:Int} {rs:List S47} {ws:List S58} (h:exOf l a0 a1 a2 a3 a4 a5 a6 rs ws=true) (j:Nat) (hj:j < rs.length) :
    impl_Store_find.f l (rs.getD j z47).f0 (rs.getD j z47).f1=some ((verOf l (rs.getD j z47)).f0,(verOf l (rs.getD j z47)).f1,(verOf l (rs.getD j z47)).f2,(verOf l (rs.getD j z47)).f3,(verOf l (rs.getD j z47)).f4):=by
  obtain ⟨hv,ht,he⟩:=exOf_use h
  have hk:=((vt_use ht).1 j hj).1
  have h6:=vs_len hv
  unfold impl_Store_find.f
  rw [if_pos ⟨by omega,by omega,exq_use he j hj⟩]
  rfl
theorem impl_high {l:List (List S77)} {a0 a1 a2 a3 a4 a5 a6:Int} {rs:List S47} {ws:List S58} (h:exOf l a0 a1 a2 a3 a4 a5 a6 rs ws=true):Ev (fun k=>impl_Store_refreshHigh.f k l a0 a1 a2 a3 a4 a5 a6 rs ws) (highOf l rs):=by
  have hr60:=(vt_use (exOf_use h).2.1).2.2.2
  unfold impl_Store_refreshHigh.f
  refine fold_loop (g:=fun k x i=>impl_Store_refreshHigh.l0 k x rs (rs.length:Int) i l) rs.length (fun a i=>mn a (verOf l (rs.getD i z47)).f4) 1000 ?_ ?_
  · exact Ev.step (fun k=>impl_Store_refreshHigh.l0.eq_2 ..) (ev_neg (by omega) (Ev.now _))
  · intro i hi x hx
    refine Ev.step (fun k=>impl_Store_refreshHigh.l0.eq_2 ..) (ev_pos (by omega) (ev_pos (by omega) (ev_pos (by omega) ?_)))
    rw [rdr,up i (by omega)]
    exact ev_bindo (find_at h i hi) hx
theorem spec_high (l:List (List S77)) (a0 a1 a2 a3 a4 a5 a6:Int) (rs:List S47) (ws:List S58) (hl:l.length≤9223372036854775806) (hin:∀ x ∈ l,x.length≤9223372036854775806) (hr:rs.length≤9223372036854775806) (hw:ws.length≤9223372036854775806) :
    Ev (fun k=>spec_RefreshHigh.f k l a0 a1 a2 a3 a4 a5 a6 rs ws) (if exOf l a0 a1 a2 a3 a4 a5 a6 rs ws=true then highOf l rs else 0):=by
  unfold spec_RefreshHigh.f
  refine Ev.bind (spec_exist l a0 a1 a2 a3 a4 a5 a6 rs ws hl hin hr hw) ?_
  by_cases h:exOf l a0 a1 a2 a3 a4 a5 a6 rs ws=true
  · rw [if_pos h]
    obtain ⟨hv,ht,he⟩:=exOf_use h
    have hR:=(vt_use ht).1
    have h6:=vs_len hv
    refine ev_pos h (fold_loop (g:=fun k x i=>spec_RefreshHigh.l0 k x i l a0 a1 a2 a3 a4 a5 a6 rs ws) rs.length (fun a i=>mn a (verOf l (rs.getD i z47)).f4) 1000 ?_ ?_)
    · exact Ev.step (fun k=>spec_RefreshHigh.l0.eq_2 ..) (ev_neg (by omega) (Ev.now _))
    · intro i hi x hx
      have hk:=(hR i hi).1
      refine Ev.step (fun k=>spec_RefreshHigh.l0.eq_2 ..) (ev_pos (by omega) (ev_pos (by omega) ?_))
      rw [rdr,up i (by omega)]
      have hc:=rdl_ok hv hk.1 hk.2
      have hb:=impl_Store_find.bd (rd_L3 l (rs.getD i z47).f0) (rs.getD i z47).f1 0
      exact ev_pos (by omega) (ev_pos (by omega) (Ev.bind (spec_find _ (by omega) _) (ev_pos (exq_use he i hi) (ev_pos hb.2 hx))))
  · rw [if_neg h]
    exact ev_neg h (Ev.now _)
theorem last_both (l:List (List S77)) (hv:vs l=true) (hin:∀ x ∈ l,x.length≤9223372036854775806) :
    ∃ r,Ev (fun k=>spec_LastStamp.l0 k 0 0 l) r∧Ev (fun k=>impl_Store_lastStamp.l0 k 0 l (l.length:Int) 0) r∧0≤r∧r≤999:=by
  have h6:=vs_len hv
  have hin':=hin
  have h:∀ d (i:Nat) (m:Int),i+d=l.length→0≤m→m≤999→∃ r,Ev (fun k=>spec_LastStamp.l0 k m (i:Int) l) r∧Ev (fun k=>impl_Store_lastStamp.l0 k m l (l.length:Int) (i:Int)) r∧0≤r∧r≤999:=by
    intro d
    induction d with
    | zero=>
      intro i m hi m0 m9
      exact ⟨m,Ev.step (fun k=>spec_LastStamp.l0.eq_2 ..) (ev_neg (by omega) (Ev.step (fun k=>spec_LastStamp.j1.eq_2 ..) (ev_neg (by simp) (Ev.now _)))),Ev.step (fun k=>impl_Store_lastStamp.l0.eq_2 ..) (ev_neg (by omega) (Ev.now _)),m0,m9⟩
    | succ d ih=>
      intro i m hi m0 m9
      have hi':i < l.length:=by omega
      obtain ⟨hc,h50⟩:=vs_chain hv i hi'
      have hr:=rd_L3_at l i hi'
      have inner:∀ d (j:Nat) (m:Int),j+d=l[i].length→0≤m→m≤999→∃ r,Ev (fun k=>spec_LastStamp.l1 k m (i:Int) (j:Int) l) r∧Ev (fun k=>impl_Store_lastStamp.l1 k m l (l.length:Int) (i:Int) (rd_L3 l (i:Int)) ((rd_L3 l (i:Int)).length:Int) (j:Int)) r∧0≤r∧r≤999:=by
        intro d
        induction d with
        | zero=>
          intro j m hj m0 m9
          obtain ⟨r,h1,h2,h3⟩:=ih (i+1) m (by omega) m0 m9
          refine ⟨r,Ev.step (fun k=>spec_LastStamp.l1.eq_2 ..) (ev_pos (by omega) (ev_pos (by omega) (ev_neg (by rw [hr];omega) ?_))),Ev.step (fun k=>impl_Store_lastStamp.l1.eq_2 ..) (ev_neg (by rw [hr];omega) ?_),h3⟩
          · rw [up i (by omega)];exact h1
          · rw [up i (by omega)];exact h2
        | succ d ihd=>
          intro j m hj m0 m9
          have hv1:=vvS_use (vc_at hc j (by omega))
          obtain ⟨r,h1,h2,h3⟩:=ihd (j+1) (mx m (l[i].getD j z77).f3) (by omega) (by unfold mx;omega) (by unfold mx;omega)
          refine ⟨r,Ev.step (fun k=>spec_LastStamp.l1.eq_2 ..) (ev_pos (by omega) (ev_pos (by omega) (ev_pos (by rw [hr];omega) (ev_pos (by omega) ?_)))),Ev.step (fun k=>impl_Store_lastStamp.l1.eq_2 ..) (ev_pos (by rw [hr];omega) (ev_pos (by omega) (ev_pos (by rw [hr];omega) ?_))),h3⟩
          · rw [up j (by omega)]
            rw [show mx (mx m (rd_T77 (rd_L3 l (i:Int)) (j:Int)).f2) (rd_T77 (rd_L3 l (i:Int)) (j:Int)).f3=mx m (l[i].getD j z77).f3 by rw [hr,rd_nat];unfold mx;omega]
            exact h1
          · rw [up j (by omega)]
            rw [show (rd_T77 (rd_L3 l (i:Int)) (j:Int)).f3=(l[i].getD j z77).f3 by rw [hr,rd_nat]]
            exact h2
      obtain ⟨r,h1,h2,h3⟩:=inner l[i].length 0 m (by omega) m0 m9
      exact ⟨r,Ev.step (fun k=>spec_LastStamp.l0.eq_2 ..) (ev_pos (by omega) (Ev.bind (spec_vs l (by omega) hin') (Ev.step (fun k=>spec_LastStamp.j1.eq_2 ..) (ev_pos hv h1)))),Ev.step (fun k=>impl_Store_lastStamp.l0.eq_2 ..) (ev_pos (by omega) (ev_pos (by omega) (ev_pos (by omega) h2))),h3⟩
  exact h l.length 0 0 (by omega) (by omega) (by omega)
/-- The window of a transaction, told by the reference and by the program alike. -/
theorem window_both (l:List (List S77)) (a0 a1 a2 a3 a4 a5 a6:Int) (rs:List S47) (ws:List S58) (s:Int) (hl:l.length≤9223372036854775806) (hin:∀ x ∈ l,x.length≤9223372036854775806) (hr:rs.length≤9223372036854775806) (hw:ws.length≤9223372036854775806) :
    ∃ r,Ev (fun k=>spec_FinalWindow.f k l a0 a1 a2 a3 a4 a5 a6 rs ws s) r∧Ev (fun k=>impl_FinalWindow.f k l a0 a1 a2 a3 a4 a5 a6 rs ws s) r∧(r.2.2=false→r.1=0∧r.2.1=0)∧(r.2.2=true→exOf l a0 a1 a2 a3 a4 a5 a6 rs ws=true∧r.1=mx a4 (lowOf l rs ws)∧r.2.1=mn (mn a5 (highOf l rs)) s∧1≤s∧s≤999):=by
  unfold spec_FinalWindow.f impl_FinalWindow.f
  have e1:=spec_exist l a0 a1 a2 a3 a4 a5 a6 rs ws hl hin hr hw
  have e2:=impl_Exist l a0 a1 a2 a3 a4 a5 a6 rs ws hin hr hw
  have hno:Ev (fun k=>spec_FinalWindow.j0 k s true l a0 a1 a2 a3 a4 a5 a6 rs ws) (0,0,false):=Ev.step (fun k=>spec_FinalWindow.j0.eq_2 ..) (ev_pos rfl (Ev.now _))
  by_cases h:exOf l a0 a1 a2 a3 a4 a5 a6 rs ws=true
  · by_cases h2:a2=1
    · obtain ⟨hv,ht,he⟩:=exOf_use h
      obtain ⟨m,m1,m2,m3,m4⟩:=last_both l hv hin
      have m1:Ev (fun k=>spec_LastStamp.f k l) m:=m1
      have m2:Ev (fun k=>impl_Store_lastStamp.f k l) m:=m2
      simp only [spec_in,impl_in_,Option.bind_some]
      by_cases h3:wrap64 (m+1)≤s∧s≤999
      · have g1:=spec_low l a0 a1 a2 a3 a4 a5 a6 rs ws hl hin hr hw
        rw [if_pos ⟨hv,ht⟩] at g1
        have g2:=spec_high l a0 a1 a2 a3 a4 a5 a6 rs ws hl hin hr hw
        rw [if_pos h] at g2
        refine ⟨(mx a4 (lowOf l rs ws),mn (mn a5 (highOf l rs)) s,true),Ev.bind e1 (ev_pos h (ev_pos h2 (Ev.bind m1 ?_))),Ev.bind e2 (ev_pos h (ev_pos h2 (Ev.bind m2 (ev_pos (decide_eq_true h3) ?_)))),(fun h=>by cases h),(fun _=>⟨h,rfl,rfl,by rw [w64 (by omega) (by omega)] at h3;omega,h3.2⟩)⟩
        · exact Ev.step (fun k=>spec_FinalWindow.j0.eq_2 ..) (ev_neg (by simp [h3]) (Ev.bind g1 (Ev.bind g2 (Ev.now _))))
        · unfold impl_Store_window.f
          exact Ev.bind (Ev.bind (impl_low l a0 a1 a2 a3 a4 a5 a6 rs ws hr hw hv ht) (Ev.bind (impl_high h) (Ev.now _))) (Ev.now _)
      · refine ⟨(0,0,false),Ev.bind e1 (ev_pos h (ev_pos h2 (Ev.bind m1 ?_))),Ev.bind e2 (ev_pos h (ev_pos h2 (Ev.bind m2 (ev_neg (by rw [decide_eq_false h3];simp) (Ev.now _))))),fun _=>⟨rfl,rfl⟩,fun h=>by cases h⟩
        exact Ev.step (fun k=>spec_FinalWindow.j0.eq_2 ..) (ev_pos (by rw [decide_eq_false h3];rfl) (Ev.now _))
    · exact ⟨(0,0,false),Ev.bind e1 (ev_pos h (ev_neg h2 hno)),Ev.bind e2 (ev_pos h (ev_neg h2 (Ev.now _))),fun _=>⟨rfl,rfl⟩,fun h=>by cases h⟩
  · exact ⟨(0,0,false),Ev.bind e1 (ev_neg h hno),Ev.bind e2 (ev_neg h (Ev.now _)),fun _=>⟨rfl,rfl⟩,fun h=>by cases h⟩
/-- What a loop's fold comes to. -/
def fNg {α:Type} (step:α→Nat→α):Nat→α→α
  | 0,a=>a
  | n+1,a=>step (fNg step n a) n
theorem fold_loopg {α β:Type} {g:Nat→α→Int→Option β} {r:β} (n:Nat) (step:α→Nat→α) (a:α) (hend:Ev (fun k=>g k (fNg step n a) (n:Int)) r)
    (hs:∀ i,i < n→Ev (fun k=>g k (step (fNg step i a) i) ((i+1:Nat):Int)) r→Ev (fun k=>g k (fNg step i a) (i:Int)) r):Ev (fun k=>g k a 0) r:=by
  have h:∀ d i,i+d=n→Ev (fun k=>g k (fNg step i a) (i:Int)) r:=by
    intro d
    induction d with
    | zero=>
      intro i hi
      obtain rfl:i=n:=by omega
      exact hend
    | succ d ih=>
      intro i hi
      exact hs i (by omega) (ih (i+1) (by omega))
  exact h n 0 (by omega)
/-- The marks of the latest versions of the keys that are written. -/
def ovOf (l:List (List S77)) (ws:List S58):List S47:=fNg (fun a i=>a++[(⟨(ws.getD i z58).f0,(latestOf (rd_L3 l (ws.getD i z58).f0)).2.2.1⟩:S47)]) ws.length []
theorem fNg_len {α:Type} (f:Nat→α) (n:Nat):(fNg (fun a i=>a++[f i]) n []).length=n:=by
  induction n with
  | zero=>rfl
  | succ n ih=>simp only [fNg,List.length_append,ih,List.length_singleton]
theorem ov_len (l:List (List S77)) (ws:List S58):(ovOf l ws).length=ws.length:=fNg_len _ _
theorem impl_over (l:List (List S77)) (a0 a1 a2 a3 a4 a5 a6:Int) (rs:List S47) (ws:List S58) (hw:ws.length≤1048576) (hv:vs l=true) (ht:vt a0 a1 a2 a3 a4 a5 a6 rs ws=true):Ev (fun k=>impl_Store_overwritten.f k l a0 a1 a2 a3 a4 a5 a6 rs ws) (ovOf l ws):=by
  obtain ⟨_,hW,_,_⟩:=vt_use ht
  unfold impl_Store_overwritten.f
  refine fold_loopg (g:=fun k x i=>impl_Store_overwritten.l0 k x i l ws) ws.length (fun a i=>a++[(⟨(ws.getD i z58).f0,(latestOf (rd_L3 l (ws.getD i z58).f0)).2.2.1⟩:S47)]) [] ?_ ?_
  · exact Ev.step (fun k=>impl_Store_overwritten.l0.eq_2 ..) (ev_neg (by omega) (Ev.now _))
  · intro i hi h
    have hk:=(hW i hi).1
    refine Ev.step (fun k=>impl_Store_overwritten.l0.eq_2 ..) (ev_pos (by omega) (ev_pos (by omega) ?_))
    rw [rdw,up i (by omega)]
    refine ev_bindo (latest_at hv hk.1 hk.2) (ev_pos ?_ h)
    rw [fNg_len]
    omega
def ovAll (l:List (List S77)) (a0 a1 a2 a3 a4 a5 a6:Int) (rs:List S47) (ws:List S58):List S47:=if vs l=true∧vt a0 a1 a2 a3 a4 a5 a6 rs ws=true then ovOf l ws else []
theorem spec_over (l:List (List S77)) (a0 a1 a2 a3 a4 a5 a6:Int) (rs:List S47) (ws:List S58) (hl:l.length≤9223372036854775806) (hin:∀ x ∈ l,x.length≤9223372036854775806) (hr:rs.length≤9223372036854775806) (hw:ws.length≤1048576) :
    Ev (fun k=>spec_OverwrittenVersions.f k l a0 a1 a2 a3 a4 a5 a6 rs ws) (ovAll l a0 a1 a2 a3 a4 a5 a6 rs ws):=by
  unfold spec_OverwrittenVersions.f ovAll
  have sv:=spec_vs l hl hin
  have st:=spec_vt a0 a1 a2 a3 a4 a5 a6 rs ws hr (by omega)
  by_cases hv:vs l=true
  · by_cases ht:vt a0 a1 a2 a3 a4 a5 a6 rs ws=true
    · rw [if_pos ⟨hv,ht⟩]
      obtain ⟨_,hW,_,_⟩:=vt_use ht
      have h6:=vs_len hv
      refine fold_loopg (g:=fun k x i=>spec_OverwrittenVersions.l0 k x i l a0 a1 a2 a3 a4 a5 a6 rs ws) ws.length (fun a i=>a++[(⟨(ws.getD i z58).f0,(latestOf (rd_L3 l (ws.getD i z58).f0)).2.2.1⟩:S47)]) [] ?_ ?_
      · exact Ev.step (fun k=>spec_OverwrittenVersions.l0.eq_2 ..) (ev_neg (by omega) (Ev.now _))
      · intro i hi h
        have hk:=(hW i hi).1
        have hc:=rdl_ok hv hk.1 hk.2
        refine Ev.step (fun k=>spec_OverwrittenVersions.l0.eq_2 ..) (ev_pos (by omega) (Ev.bind sv (ev_pos hv (Ev.bind st (ev_pos ht (ev_pos (by omega) ?_))))))
        rw [rdw,up i (by omega)]
        refine ev_pos (by omega) (ev_pos (by omega) (Ev.bind (spec_latest _ (by omega)) (ev_pos ?_ h)))
        rw [fNg_len]
        omega
    · rw [if_neg (fun h=>ht h.2)]
      exact Ev.step (fun k=>spec_OverwrittenVersions.l0.eq_2 ..) (ev_ite (fun _=>Ev.bind sv (ev_pos hv (Ev.bind st (ev_neg ht (Ev.now _))))) (fun _=>Ev.now _))
  · rw [if_neg (fun h=>hv h.1)]
    exact Ev.step (fun k=>spec_OverwrittenVersions.l0.eq_2 ..) (ev_ite (fun _=>Ev.bind sv (ev_neg hv (Ev.now _))) (fun _=>Ev.now _))
theorem fNg_at {α:Type} (f:Nat→α) (z:α) (n i:Nat) (hi:i < n):(fNg (fun a i=>a++[f i]) n []).getD i z=f i:=by
  induction n with
  | zero=>omega
  | succ n ih=>
    simp only [fNg]
    by_cases h:i < n
    · rw [List.getD_eq_getElem?_getD,List.getElem?_append_left (by rw [fNg_len];exact h),← List.getD_eq_getElem?_getD]
      exact ih h
    · obtain rfl:i=n:=by omega
      rw [List.getD_eq_getElem?_getD,List.getElem?_append_right (by rw [fNg_len];omega),fNg_len]
      simp
theorem ov_at (l:List (List S77)) (ws:List S58) (i:Nat) (hi:i < ws.length):(ovOf l ws).getD i z47=⟨(ws.getD i z58).f0,(latestOf (rd_L3 l (ws.getD i z58).f0)).2.2.1⟩:=fNg_at _ _ _ _ hi
/-- The mark that sets the low end: the greatest mark, and the version that bears it; of the reads, and of the overwritten versions. -/
def lowA (rs:List S47):Int × Int × Int:=fNg (fun (a:Int × Int × Int) i=>if (rs.getD i z47).f1 > a.1 then ((rs.getD i z47).f1,(rs.getD i z47).f0,(rs.getD i z47).f1) else a) rs.length (-1,0,0)
def lowB (l:List (List S77)) (rs:List S47) (ws:List S58):Int × Int × Int:=fNg (fun (a:Int × Int × Int) i=>if (latestOf (rd_L3 l ((ovOf l ws).getD i z47).f0)).2.2.2.1 > a.1 then ((latestOf (rd_L3 l ((ovOf l ws).getD i z47).f0)).2.2.2.1,((ovOf l ws).getD i z47).f0,((ovOf l ws).getD i z47).f1) else a) (ovOf l ws).length (lowA rs)
theorem spec_l8 (l:List (List S77)) (a0 a1 a2 a3 a4 a5 a6:Int) (rs:List S47) (ws:List S58) (hl:l.length≤9223372036854775806) (hin:∀ x ∈ l,x.length≤9223372036854775806) (hr:rs.length≤9223372036854775806) (hw:ws.length≤1048576) (hv:vs l=true) (ht:vt a0 a1 a2 a3 a4 a5 a6 rs ws=true):Ev (fun k=>spec_l8Low.f k l a0 a1 a2 a3 a4 a5 a6 rs ws) ((lowB l rs ws).2.1,(lowB l rs ws).2.2):=by
  obtain ⟨_,hW,_,_⟩:=vt_use ht
  have h6:=vs_len hv
  have so:=spec_over l a0 a1 a2 a3 a4 a5 a6 rs ws hl hin hr hw
  unfold ovAll at so
  rw [if_pos ⟨hv,ht⟩] at so
  unfold spec_l8Low.f
  refine fold_loopg (α:=Int × Int × Int) (g:=fun k x i=>spec_l8Low.l0 k x.1 i l a0 a1 a2 a3 a4 a5 a6 rs ws x.2.1 x.2.2) rs.length (fun (a:Int × Int × Int) i=>if (rs.getD i z47).f1 > a.1 then ((rs.getD i z47).f1,(rs.getD i z47).f0,(rs.getD i z47).f1) else a) (-1,0,0) ?_ ?_
  · refine Ev.step (fun k=>spec_l8Low.l0.eq_2 ..) (ev_neg (by omega) (Ev.bind so ?_))
    refine fold_loopg (α:=Int × Int × Int) (g:=fun k x i=>spec_l8Low.l1 k x.1 (ovOf l ws) i l x.2.1 x.2.2) (ovOf l ws).length (fun (a:Int × Int × Int) i=>if (latestOf (rd_L3 l ((ovOf l ws).getD i z47).f0)).2.2.2.1 > a.1 then ((latestOf (rd_L3 l ((ovOf l ws).getD i z47).f0)).2.2.2.1,((ovOf l ws).getD i z47).f0,((ovOf l ws).getD i z47).f1) else a) (lowA rs) ?_ ?_
    · exact Ev.step (fun k=>spec_l8Low.l1.eq_2 ..) (ev_neg (by omega) (Ev.now _))
    · intro i hi h
      have hi2:i < ws.length:=by rw [← ov_len l ws];exact hi
      have hk:=(hW i hi2).1
      have ho:((ovOf l ws).getD i z47).f0=(ws.getD i z58).f0:=by rw [ov_at l ws i hi2]
      have hc:=rdl_ok hv hk.1 hk.2
      refine Ev.step (fun k=>spec_l8Low.l1.eq_2 ..) (ev_pos (by omega) (ev_pos (by omega) ?_))
      rw [rdr,up i (by omega)]
      refine ev_pos (by omega) (ev_pos (by omega) (Ev.bind (spec_latest _ (by rw [ho];omega)) ?_))
      by_cases hp:(latestOf (rd_L3 l ((ovOf l ws).getD i z47).f0)).2.2.2.1 > (fNg (fun (a:Int × Int × Int) i=>if (latestOf (rd_L3 l ((ovOf l ws).getD i z47).f0)).2.2.2.1 > a.1 then ((latestOf (rd_L3 l ((ovOf l ws).getD i z47).f0)).2.2.2.1,((ovOf l ws).getD i z47).f0,((ovOf l ws).getD i z47).f1) else a) i (lowA rs)).1
      · rw [if_pos hp] at h
        exact ev_pos hp h
      · rw [if_neg hp] at h
        exact ev_neg hp h
  · intro i hi h
    refine Ev.step (fun k=>spec_l8Low.l0.eq_2 ..) (ev_pos (by omega) (ev_pos (by omega) ?_))
    rw [rdr,up i (by omega)]
    by_cases hp:(rs.getD i z47).f1 > (fNg (fun (a:Int × Int × Int) i=>if (rs.getD i z47).f1 > a.1 then ((rs.getD i z47).f1,(rs.getD i z47).f0,(rs.getD i z47).f1) else a) i (-1,0,0)).1
    · rw [if_pos hp] at h
      exact ev_pos hp h
    · rw [if_neg hp] at h
      exact ev_neg hp h
/-- The pair that is told when the read at place n ends the window. -/
def pairAt (l:List (List S77)) (rs:List S47) (ws:List S58) (n:Int):Int × Int × Int × Int × Bool:=if n < 0 then (0,0,0,0,false) else ((lowB l rs ws).2.1,(lowB l rs ws).2.2,(rs.getD n.toNat z47).f0,(rs.getD n.toNat z47).f1,true)
def hitOf (l:List (List S77)) (rs:List S47) (i:Nat):Int:=impl_Store_readsExist.frm (fun m=>impl_ExcludingPair_at.suc l m == highOf l rs) rs i
theorem spec_pair (l:List (List S77)) (a0 a1 a2 a3 a4 a5 a6:Int) (rs:List S47) (ws:List S58) (hl:l.length≤9223372036854775806) (hin:∀ x ∈ l,x.length≤9223372036854775806) (hr:rs.length≤9223372036854775806) (hw:ws.length≤1048576) (h:exOf l a0 a1 a2 a3 a4 a5 a6 rs ws=true):Ev (fun k=>spec_ExcludingPair.l0 k (highOf l rs) 0 l a0 a1 a2 a3 a4 a5 a6 rs ws) (pairAt l rs ws (hitOf l rs 0)):=by
  obtain ⟨hv,ht,he⟩:=exOf_use h
  have hR:=(vt_use ht).1
  have h6:=vs_len hv
  have h8:=spec_l8 l a0 a1 a2 a3 a4 a5 a6 rs ws hl hin hr hw hv ht
  have hh:∀ d i,i+d=rs.length→Ev (fun k=>spec_ExcludingPair.l0 k (highOf l rs) (i:Int) l a0 a1 a2 a3 a4 a5 a6 rs ws) (pairAt l rs ws (hitOf l rs i)):=by
    intro d
    induction d with
    | zero=>
      intro i hi
      unfold hitOf
      rw [impl_Store_readsExist.frm_end _ rs i (by omega)]
      exact Ev.step (fun k=>spec_ExcludingPair.l0.eq_2 ..) (ev_neg (by omega) (Ev.now _))
    | succ d ih=>
      intro i hi
      have hi2:i < rs.length:=by omega
      have hk:=(hR i hi2).1
      have hc:=rdl_ok hv hk.1 hk.2
      have hb:=impl_Store_find.bd (rd_L3 l (rs.getD i z47).f0) (rs.getD i z47).f1 0
      refine Ev.step (fun k=>spec_ExcludingPair.l0.eq_2 ..) (ev_pos (by omega) (ev_pos (by omega) ?_))
      rw [rdr,up i (by omega)]
      refine ev_pos (by omega) (ev_pos (by omega) (Ev.bind (spec_find _ (by omega) _) (ev_pos (exq_use he i hi2) (ev_pos hb.2 ?_))))
      by_cases hp:(verOf l (rs.getD i z47)).f4=highOf l rs
      · have e1:hitOf l rs i=(i:Int):=impl_Store_readsExist.frm_hit _ rs i hi2 (beq_iff_eq.2 hp)
        rw [e1]
        refine ev_pos hp (Ev.bind h8 (ev_eq (Ev.now _) ?_))
        unfold pairAt
        rw [if_neg (by omega),Int.toNat_natCast]
      · have e1:hitOf l rs i=hitOf l rs (i+1):=impl_Store_readsExist.frm_miss _ rs i hi2 (beq_eq_false_iff_ne.2 hp)
        rw [e1]
        exact ev_neg hp (ih (i+1) (by omega))
  exact hh rs.length 0 (by omega)
theorem hit_bd (l:List (List S77)) (rs:List S47):hitOf l rs 0 < (rs.length:Int):=by
  unfold hitOf impl_Store_readsExist.frm
  cases h:(List.range' 0 (rs.length - 0)).find? (fun j=>(fun m=>impl_ExcludingPair_at.suc l m == highOf l rs) (rs.getD j z47)) with
  | none=>show (-1:Int) < _;omega
  | some j=>
    have:=List.mem_range'_1.1 (List.mem_of_find?_eq_some h)
    show (j:Int) < _
    omega
theorem impl_pair (l:List (List S77)) (a0 a1 a2 a3 a4 a5 a6:Int) (rs:List S47) (ws:List S58) (hl:l.length≤9223372036854775806) (hin:∀ x ∈ l,x.length≤9223372036854775806) (hr:rs.length≤9223372036854775806) (hw:ws.length≤1048576) (h:exOf l a0 a1 a2 a3 a4 a5 a6 rs ws=true):Ev (fun k=>impl_ExcludingPair.j0 k false l a0 a1 a2 a3 a4 a5 a6 rs ws) (pairAt l rs ws (hitOf l rs 0)):=by
  obtain ⟨hv,ht,he⟩:=exOf_use h
  obtain ⟨hR,hW,_,_⟩:=vt_use ht
  have h6:=vs_len hv
  have ha:Ev (fun k=>impl_ExcludingPair_at.f k l a0 a1 a2 a3 a4 a5 a6 rs ws) (hitOf l rs 0):=by
    unfold impl_ExcludingPair_at.f
    refine Ev.bind (impl_high h) (ev_pos (fun j hj=>?_) (Ev.now _))
    have hk:=(hR j hj).1
    exact ⟨by omega,by omega,exq_use he j hj⟩
  have hb:=hit_bd l rs
  refine Ev.step (fun k=>impl_ExcludingPair.j0.eq_2 ..) (ev_neg (by simp) ?_)
  refine fold_loopg (α:=Int × Int × Int) (g:=fun k x i=>impl_ExcludingPair.l0 k x.1 rs (rs.length:Int) i l a0 a1 a2 a3 a4 a5 a6 rs ws x.2.1 x.2.2) rs.length (fun (a:Int × Int × Int) i=>if (rs.getD i z47).f1 > a.1 then ((rs.getD i z47).f1,(rs.getD i z47).f0,(rs.getD i z47).f1) else a) (-1,0,0) ?_ ?_
  · refine Ev.step (fun k=>impl_ExcludingPair.l0.eq_2 ..) (ev_neg (by omega) (Ev.bind (impl_over l a0 a1 a2 a3 a4 a5 a6 rs ws hw hv ht) ?_))
    refine fold_loopg (α:=Int × Int × Int) (g:=fun k x i=>impl_ExcludingPair.l1 k x.1 (ovOf l ws) ((ovOf l ws).length:Int) i l a0 a1 a2 a3 a4 a5 a6 rs ws x.2.1 x.2.2) (ovOf l ws).length (fun (a:Int × Int × Int) i=>if (latestOf (rd_L3 l ((ovOf l ws).getD i z47).f0)).2.2.2.1 > a.1 then ((latestOf (rd_L3 l ((ovOf l ws).getD i z47).f0)).2.2.2.1,((ovOf l ws).getD i z47).f0,((ovOf l ws).getD i z47).f1) else a) (lowA rs) ?_ ?_
    · refine Ev.step (fun k=>impl_ExcludingPair.l1.eq_2 ..) (ev_neg (by omega) (Ev.bind ha ?_))
      by_cases hn:hitOf l rs 0 < 0
      · refine ev_pos hn (ev_eq (Ev.now _) ?_)
        unfold pairAt
        rw [if_pos hn]
      · refine ev_neg hn (ev_pos (by omega) (ev_pos hb (ev_eq (Ev.now _) ?_)))
        unfold pairAt
        rw [if_neg hn]
        rfl
    · intro i hi h
      have hi2:i < ws.length:=by rw [← ov_len l ws];exact hi
      have hk:=(hW i hi2).1
      have ho:((ovOf l ws).getD i z47).f0=(ws.getD i z58).f0:=by rw [ov_at l ws i hi2]
      refine Ev.step (fun k=>impl_ExcludingPair.l1.eq_2 ..) (ev_pos (by omega) (ev_pos (by omega) (ev_pos (by omega) ?_)))
      rw [rdr,up i (by omega)]
      refine ev_bindo (latest_at hv (by omega) (by omega)) ?_
      by_cases hp:(latestOf (rd_L3 l ((ovOf l ws).getD i z47).f0)).2.2.2.1 > (fNg (fun (a:Int × Int × Int) i=>if (latestOf (rd_L3 l ((ovOf l ws).getD i z47).f0)).2.2.2.1 > a.1 then ((latestOf (rd_L3 l ((ovOf l ws).getD i z47).f0)).2.2.2.1,((ovOf l ws).getD i z47).f0,((ovOf l ws).getD i z47).f1) else a) i (lowA rs)).1
      · rw [if_pos hp] at h
        exact ev_pos hp h
      · rw [if_neg hp] at h
        exact ev_neg hp h
  · intro i hi h
    refine Ev.step (fun k=>impl_ExcludingPair.l0.eq_2 ..) (ev_pos (by omega) (ev_pos (by omega) (ev_pos (by omega) ?_)))
    rw [rdr,up i (by omega)]
    by_cases hp:(rs.getD i z47).f1 > (fNg (fun (a:Int × Int × Int) i=>if (rs.getD i z47).f1 > a.1 then ((rs.getD i z47).f1,(rs.getD i z47).f0,(rs.getD i z47).f1) else a) i (-1,0,0)).1
    · rw [if_pos hp] at h
      exact ev_pos hp h
    · rw [if_neg hp] at h
      exact ev_neg hp h
/-- The mark stands there. -/
def IsAt (l:List S47) (m0 m1:Int) (j:Nat):Prop:=(l.getD j z47).f0=m0∧(l.getD j z47).f1=m1
instance (l:List S47) (m0 m1:Int):DecidablePred (IsAt l m0 m1):=fun j=>by unfold IsAt;exact inferInstance
theorem spec_has (a0 a1 a2 a3 a4 a5 a6:Int) (rs:List S47) (ws:List S58) (m0 m1:Int) (hr:rs.length≤9223372036854775806) :
    Ev (fun k=>spec_HasRead.f k a0 a1 a2 a3 a4 a5 a6 rs ws m0 m1) (match fnd rs.length (IsAt rs m0 m1) with|some j=>true|none=>false):=by
  unfold spec_HasRead.f
  refine search_loop0 (g:=fun k i=>spec_HasRead.l0 k i a0 a1 a2 a3 a4 a5 a6 rs ws m0 m1) rs.length (IsAt rs m0 m1) (fun _=>true) ?_ ?_ ?_
  · exact Ev.step (fun k=>spec_HasRead.l0.eq_2 ..) (ev_neg (by omega) (Ev.now _))
  · intro i hi hp
    refine Ev.step (fun k=>spec_HasRead.l0.eq_2 ..) (ev_pos (by omega) (ev_pos (by omega) ?_))
    rw [rdr]
    exact ev_pos (by simpa [IsAt] using hp) (Ev.now _)
  · intro i hi hp r h
    refine Ev.step (fun k=>spec_HasRead.l0.eq_2 ..) (ev_pos (by omega) (ev_pos (by omega) ?_))
    rw [rdr,up i (by omega)]
    exact ev_neg (by simpa [IsAt] using hp) h
/-- The excluding pair, told by the reference and by the program alike. -/
theorem pair_both (l:List (List S77)) (a0 a1 a2 a3 a4 a5 a6:Int) (rs:List S47) (ws:List S58) (s:Int) (hl:l.length≤9223372036854775806) (hin:∀ x ∈ l,x.length≤9223372036854775806) (hr:rs.length≤9223372036854775806) (hw:ws.length≤1048576) {p:Int × Int × Bool} (g1:Ev (fun k=>spec_FinalWindow.f k l a0 a1 a2 a3 a4 a5 a6 rs ws s) p) (g2:Ev (fun k=>impl_FinalWindow.f k l a0 a1 a2 a3 a4 a5 a6 rs ws s) p) (g4:p.2.2=true→exOf l a0 a1 a2 a3 a4 a5 a6 rs ws=true):∃ r,Ev (fun k=>spec_ExcludingPair.f k l a0 a1 a2 a3 a4 a5 a6 rs ws s) r∧Ev (fun k=>impl_ExcludingPair.f k l a0 a1 a2 a3 a4 a5 a6 rs ws s) r∧(r.2.2.2.2=true→p.2.2=true∧¬ lowOf l rs ws < highOf l rs∧∃ j,j < rs.length∧IsAt rs r.2.2.1 r.2.2.2.1 j):=by
  have sh:=spec_high l a0 a1 a2 a3 a4 a5 a6 rs ws hl hin hr (by omega)
  unfold spec_ExcludingPair.f impl_ExcludingPair.f
  have ns:∀ x,Ev (fun k=>spec_ExcludingPair.j0 k x true l a0 a1 a2 a3 a4 a5 a6 rs ws) (0,0,0,0,false):=fun x=>Ev.step (fun k=>spec_ExcludingPair.j0.eq_2 ..) (ev_pos rfl (Ev.now _))
  have ni:Ev (fun k=>impl_ExcludingPair.j0 k true l a0 a1 a2 a3 a4 a5 a6 rs ws) (0,0,0,0,false):=Ev.step (fun k=>impl_ExcludingPair.j0.eq_2 ..) (ev_pos rfl (Ev.now _))
  by_cases hp:p.2.2=true
  · have he:=g4 hp
    obtain ⟨hv,ht,hq⟩:=exOf_use he
    rw [if_pos he] at sh
    have sl:=spec_low l a0 a1 a2 a3 a4 a5 a6 rs ws hl hin hr (by omega)
    rw [if_pos ⟨hv,ht⟩] at sl
    have il:=impl_low l a0 a1 a2 a3 a4 a5 a6 rs ws hr (by omega) hv ht
    by_cases hc:lowOf l rs ws < highOf l rs
    · refine ⟨(0,0,0,0,false),Ev.bind g1 (Ev.bind sh (ev_pos hp (Ev.bind sl ?_))),Ev.bind g2 (ev_pos hp (Ev.bind il (Ev.bind (impl_high he) ?_))),fun h=>by cases h⟩
      · rw [decide_eq_true hc]
        exact ns _
      · rw [decide_eq_true hc]
        exact ni
    · refine ⟨pairAt l rs ws (hitOf l rs 0),Ev.bind g1 (Ev.bind sh (ev_pos hp (Ev.bind sl ?_))),Ev.bind g2 (ev_pos hp (Ev.bind il (Ev.bind (impl_high he) ?_))),fun h=>⟨hp,hc,?_⟩⟩
      · rw [decide_eq_false hc]
        exact Ev.step (fun k=>spec_ExcludingPair.j0.eq_2 ..) (ev_neg (by simp) (spec_pair l a0 a1 a2 a3 a4 a5 a6 rs ws hl hin hr hw he))
      · rw [decide_eq_false hc]
        exact impl_pair l a0 a1 a2 a3 a4 a5 a6 rs ws hl hin hr hw he
      · have hb:=hit_bd l rs
        unfold pairAt at h ⊢
        by_cases hn:hitOf l rs 0 < 0
        · rw [if_pos hn] at h;cases h
        · rw [if_neg hn];exact ⟨(hitOf l rs 0).toNat,by omega,rfl,rfl⟩
  · exact ⟨(0,0,0,0,false),Ev.bind g1 (Ev.bind sh (ev_neg hp (ns _))),Ev.bind g2 (ev_neg hp ni),fun h=>by cases h⟩
theorem i64_and255 (n:Int):Go.bits .and .i64 n 255=n % 256:=by
  have h255:(BitVec.ofInt 64 255).toNat=2 ^ 8 - 1:=by decide
  have key:(BitVec.ofInt 64 n &&& BitVec.ofInt 64 255).toNat=(n % ((2 ^ 64:Nat):Int)).toNat % 2 ^ 8:=by
    rw [BitVec.toNat_and,BitVec.toNat_ofInt,h255,Nat.and_two_pow_sub_one_eq_mod]
  show IntKind.i64.wrap ((BitVec.ofInt 64 n &&& BitVec.ofInt 64 255).toNat:Nat)=n % 256
  rw [key,IntKind.wrap_i64]
  omega
/-- A reader's place stands in its text. -/
def Cur (l:List Int) (p:Int):Prop:=0≤p∧p≤(l.length:Int)
theorem byte_ok (l:List Int) (hl:l.length≤140737488351232) (p s:Int) (hp:Cur l p):∃ b q t,spec_l1Byte.f l p s=some (b,q,t)∧0≤b∧b≤255∧Cur l q:=by
  unfold spec_l1Byte.f
  simp only [i64_and255]
  by_cases h:p < (l.length:Int)
  · rw [if_pos h,if_pos hp.1]
    exact ⟨_,_,_,rfl,by omega,by omega,by rw [w64 (by have:=hp.1;omega) (by omega)];exact ⟨by have:=hp.1;omega,by omega⟩⟩
  · rw [if_neg h]
    exact ⟨_,_,_,rfl,by omega,by omega,hp⟩
theorem tmod_bd {b a:Int} (h0:0≤b) (h:0 < a):0≤Int.tmod b a∧Int.tmod b a < a:=by
  rw [Int.tmod_eq_emod_of_nonneg h0]
  exact ⟨Int.emod_nonneg _ (by omega),Int.emod_lt_of_pos _ h⟩
theorem below_ok (l:List Int) (hl:l.length≤140737488351232) (p s:Int) (hp:Cur l p) (a:Int) (h0:0 < a) (h1:a≤4294967296):∃ b q t,spec_l1Below.f l p s a=some (b,q,t)∧0≤b∧b < a∧Cur l q:=by
  unfold spec_l1Below.f
  rw [if_neg (by omega)]
  by_cases h:a≤256
  · rw [if_pos h]
    obtain ⟨b,q,t,e,b0,b1,hq⟩:=byte_ok l hl p s hp
    rw [e,Option.bind_some,if_neg (by omega)]
    have:=tmod_bd b0 h0
    exact ⟨_,_,_,rfl,this.1,this.2,hq⟩
  · rw [if_neg h]
    obtain ⟨b,q,t,e,b0,b1,hq⟩:=byte_ok l hl p s hp
    obtain ⟨c,q2,t2,e2,c0,c1,hq2⟩:=byte_ok l hl q t hq
    obtain ⟨d,q3,t3,e3,d0,d1,hq3⟩:=byte_ok l hl q2 t2 hq2
    obtain ⟨f,q4,t4,e4,f0,f1,hq4⟩:=byte_ok l hl q3 t3 hq3
    rw [e,Option.bind_some,e2,Option.bind_some,e3,Option.bind_some,e4,Option.bind_some,if_neg (by omega)]
    have hw:wrap64 ((wrap64 ((wrap64 ((wrap64 (b * 16777216)) + (wrap64 (c * 65536)))) + (wrap64 (d * 256))))+f)=b * 16777216+c * 65536+d * 256+f:=by
      rw [w64 (n:=b * 16777216) (by omega) (by omega),w64 (n:=c * 65536) (by omega) (by omega),w64 (n:=d * 256) (by omega) (by omega),w64 (n:=b * 16777216+c * 65536) (by omega) (by omega),w64 (n:=b * 16777216+c * 65536+d * 256) (by omega) (by omega),w64 (by omega) (by omega)]
    have hz:0≤b * 16777216+c * 65536+d * 256+f:=by omega
    have:=tmod_bd hz h0
    exact ⟨_,_,_,rfl,by show 0≤Int.tmod (wrap64 _) a;rw [hw];exact this.1,by show Int.tmod (wrap64 _) a < a;rw [hw];exact this.2,hq4⟩
theorem pick_ok (l:List Int) (hl:l.length≤140737488351232) (p s:Int) (hp:Cur l p) (m:List Int) (h0:0 < m.length) (h1:m.length≤1000):∃ b q t,spec_l1PickInt.f l p s m=some (b,q,t)∧b ∈ m∧Cur l q:=by
  unfold spec_l1PickInt.f
  obtain ⟨b,q,t,e,b0,b1,hq⟩:=below_ok l hl p s hp (m.length:Int) (by omega) (by omega)
  rw [e,Option.bind_some,if_pos b0,if_pos b1]
  refine ⟨_,_,_,rfl,?_,hq⟩
  show rd m b ∈ m
  unfold rd
  have hb:b.toNat < m.length:=by omega
  rw [show m.getD b.toNat _=m[b.toNat] from by simp [List.getD,hb]]
  exact List.getElem_mem hb
theorem wrap_bd (x:Int):-9223372036854775808≤wrap64 x∧wrap64 x≤9223372036854775807:=by unfold wrap64;omega
theorem new_loop (l:List Int) (d:Nat):∀ (i:Nat) (x:Int),i+d=min l.length 4000→∃ t,Ev (fun k=>spec_l1New.l0 k l x (i:Int)) (l,0,t):=by
  induction d with
  | zero=>
    intro i x hi
    by_cases h:(i:Int) < (l.length:Int)
    · exact ⟨_,Ev.step (fun k=>spec_l1New.l0.eq_2 ..) (ev_pos h (ev_neg (by omega) (Ev.now _)))⟩
    · exact ⟨_,Ev.step (fun k=>spec_l1New.l0.eq_2 ..) (ev_neg h (Ev.now _))⟩
  | succ d ih=>
    intro i x hi
    obtain ⟨t,ht⟩:=ih (i+1) (Go.bits .and .i64 (wrap64 ((wrap64 ((wrap64 (x * 131)) + (wrap64 (rd l (i:Int)))))+7)) 1073741823) (by omega)
    refine ⟨t,Ev.step (fun k=>spec_l1New.l0.eq_2 ..) (ev_pos (by omega) (ev_pos (by omega) (ev_pos (by omega) ?_)))⟩
    rw [w64 (n:=(i:Int)+1) (by omega) (by omega)]
    exact ht
theorem new_ok (l:List Int):∃ t,Ev (fun k=>spec_l1New.f k l) (l,0,t):=new_loop l (min l.length 4000) 0 _ (by omega)
theorem cur0 (l:List Int):Cur l 0:=⟨Int.le_refl _,Int.natCast_nonneg _⟩
theorem chain_draw (l:List Int) (hl:l.length≤140737488351232) (d:Nat):∀ (x:List S77) (st p s:Int),0 < x.length→x.length+d≤1000→Cur l p →
    ∃ m q t,Ev (fun k=>spec_l3Chain.l0 k x st (d:Int) l p s) (m,q,t)∧0 < m.length∧m.length≤x.length+d∧Cur l q:=by
  induction d with
  | zero=>
    intro x st p s h0 h1 hp
    exact ⟨x,p,s,Ev.step (fun k=>spec_l3Chain.l0.eq_2 ..) (ev_neg (by omega) (Ev.now _)),h0,by omega,hp⟩
  | succ d ih=>
    intro x st p s h0 h1 hp
    have e0:wrap64 ((x.length:Int) - 1)=(x.length:Int) - 1:=w64 (by omega) (by omega)
    obtain ⟨b1,q1,s1,e1,_,_,hq1⟩:=below_ok l hl p s hp 3 (by omega) (by omega)
    obtain ⟨b2,q2,s2,e2,_,_,hq2⟩:=below_ok l hl q1 s1 hq1 2 (by omega) (by omega)
    obtain ⟨b3,q3,s3,e3,_,_,hq3⟩:=below_ok l hl q2 s2 hq2 4 (by omega) (by omega)
    obtain ⟨b4,q4,s4,e4,_,_,hq4⟩:=below_ok l hl q3 s3 hq3 9 (by omega) (by omega)
    obtain ⟨b5,q5,s5,e5,_,hq5⟩:=pick_ok l hl q4 s4 hq4 ([(-1),0,5,7,42,99]:List Int) (by decide) (by decide)
    have key:∀ (y:List S77) (st':Int),y.length=x.length+1→∃ m q t,Ev (fun k=>spec_l3Chain.l0 k y st' (wrap64 (((d+1:Nat):Int) - 1)) l q5 s5) (m,q,t)∧0 < m.length∧m.length≤x.length + (d+1)∧Cur l q:=by
      intro y st' hy
      obtain ⟨m,q,t,g1,g2,g3,g4⟩:=ih y st' q5 s5 (by omega) (by omega) hq5
      refine ⟨m,q,t,?_,g2,by omega,g4⟩
      rw [w64 (by omega) (by omega),show ((d+1:Nat):Int) - 1=(d:Int) by omega]
      exact g1
    have go:∀ (m:List S77) (q t:Int) (y:List S77) (z:S77) (st':Int),True:=fun _ _ _ _ _ _=>trivial
    refine (fun (H:∃ r:List S77 × Int × Int,Ev (fun k=>spec_l3Chain.l0 k x st ((d+1:Nat):Int) l p s) r∧0 < r.1.length∧r.1.length≤x.length + (d+1)∧Cur l r.2.1)=>⟨H.choose.1,H.choose.2.1,H.choose.2.2,H.choose_spec.1,H.choose_spec.2.1,H.choose_spec.2.2.1,H.choose_spec.2.2.2⟩) ?_
    have fin:∀ (g:Nat→Option (List S77 × Int × Int)) (y:List S77) (st':Int),y.length=x.length+1→(∀ r,Ev (fun k=>spec_l3Chain.l0 k y st' (wrap64 (((d+1:Nat):Int) - 1)) l q5 s5) r→Ev g r)→∃ r:List S77 × Int × Int,Ev g r∧0 < r.1.length∧r.1.length≤x.length + (d+1)∧Cur l r.2.1:=by
      intro g y st' hy h
      obtain ⟨m,q,t,g1,g2,g3,g4⟩:=key y st' hy
      exact ⟨(m,q,t),h _ g1,g2,g3,g4⟩
    refine fin _ _ _ ?_ (fun r h=>Ev.step (fun k=>spec_l3Chain.l0.eq_2 ..) (ev_pos (by omega) (ev_pos (by rw [e0];omega) (ev_pos (by rw [e0];omega) (ev_bindo e1 (ev_bindo rfl (ev_bindo e2 (ev_bindo e3 (ev_bindo rfl (ev_bindo e4 (ev_bindo e5 (ev_pos (by simp;omega) h))))))))))))
    simp
theorem any_draw (l:List Int) (hl:l.length≤140737488351232) (p s:Int) (hp:Cur l p):∃ m q t,Ev (fun k=>spec_l3Any.f k l p s) (m,q,t)∧m.length≤100∧Cur l q:=by
  obtain ⟨b0,q0,s0,e0,c0,c1,hq0⟩:=below_ok l hl p s hp 5 (by omega) (by omega)
  obtain ⟨m,q,t,h1,h2,h3,hq⟩:=chain_draw l hl b0.toNat ([(⟨0,(-1),0,0,1000⟩:S77)]:List S77) 0 q0 s0 (by simp) (by simp;omega) hq0
  rw [Int.toNat_of_nonneg c0] at h1
  have hc:Ev (fun k=>spec_l3Chain.f k l p s) (m,q,t):=by
    unfold spec_l3Chain.f
    exact ev_bindo e0 h1
  have hm:m.length≤100:=by simp only [List.length_singleton] at h3;omega
  obtain ⟨i,q1,s1,e1,i0,i1,hq1⟩:=below_ok l hl q t hq (m.length:Int) (by omega) (by omega)
  obtain ⟨c,q2,s2,e2,c2,c3,hq2⟩:=below_ok l hl q1 s1 hq1 16 (by omega) (by omega)
  refine (fun (H:∃ r:List S77 × Int × Int,Ev (fun k=>spec_l3Any.f k l p s) r∧r.1.length≤100∧Cur l r.2.1)=>⟨H.choose.1,H.choose.2.1,H.choose.2.2,H.choose_spec.1,H.choose_spec.2.1,H.choose_spec.2.2⟩) ?_
  have base:∀ r,Ev (fun k=>if c=0 then ((spec_l1PickInt.f l q2 s2 (([0,1,3,1000,1001]:List Int))).bind fun b=>(if 0≤i then (if i < (m.length:Int) then (some ((m.set (i:Int).toNat (⟨(rd_T77 m i).f0,(rd_T77 m i).f1,(rd_T77 m i).f2,(rd_T77 m i).f3,b.1⟩:S77)),b.2.1,b.2.2)) else (none)) else (none))) else (if c=1 then ((spec_l1PickInt.f l q2 s2 (([(-1),0,999,1000]:List Int))).bind fun b=>(if 0≤i then (if i < (m.length:Int) then (some ((m.set (i:Int).toNat (⟨(rd_T77 m i).f0,(rd_T77 m i).f1,(rd_T77 m i).f2,b.1,(rd_T77 m i).f4⟩:S77)),b.2.1,b.2.2)) else (none)) else (none))) else (if c=2 then ((spec_l1PickInt.f l q2 s2 (([(-2),100,99]:List Int))).bind fun b=>(if 0≤i then (if i < (m.length:Int) then (some ((m.set (i:Int).toNat (⟨(rd_T77 m i).f0,b.1,(rd_T77 m i).f2,(rd_T77 m i).f3,(rd_T77 m i).f4⟩:S77)),b.2.1,b.2.2)) else (none)) else (none))) else (if c=3 then (if 1≤(m.length:Int) then (some ((m.drop (1:Int).toNat),q2,s2)) else (none)) else (if c=4 then ((spec_l1PickInt.f l q2 s2 (([0,9,10]:List Int))).bind fun b=>(if 0≤i then (if i < (m.length:Int) then (some ((m.set (i:Int).toNat (⟨b.1,(rd_T77 m i).f1,(rd_T77 m i).f2,(rd_T77 m i).f3,(rd_T77 m i).f4⟩:S77)),b.2.1,b.2.2)) else (none)) else (none))) else (some (m,q2,s2))))))) r→Ev (fun k=>spec_l3Any.f k l p s) r:=by
    intro r h
    unfold spec_l3Any.f
    exact Ev.bind hc (ev_bindo e1 (ev_bindo e2 h))
  have set_len:∀ z:S77,(m.set (i:Int).toNat z).length≤100:=fun z=>by rw [List.length_set];exact hm
  by_cases h:c=0
  · obtain ⟨b,q3,s3,e3,_,hq3⟩:=pick_ok l hl q2 s2 hq2 ([0,1,3,1000,1001]:List Int) (by decide) (by decide)
    exact ⟨_,base _ (ev_pos h (ev_bindo e3 (ev_pos i0 (ev_pos i1 (Ev.now _))))),set_len _,hq3⟩
  · by_cases g:c=1
    · obtain ⟨b,q3,s3,e3,_,hq3⟩:=pick_ok l hl q2 s2 hq2 ([(-1),0,999,1000]:List Int) (by decide) (by decide)
      exact ⟨_,base _ (ev_neg h (ev_pos g (ev_bindo e3 (ev_pos i0 (ev_pos i1 (Ev.now _)))))),set_len _,hq3⟩
    · by_cases g2:c=2
      · obtain ⟨b,q3,s3,e3,_,hq3⟩:=pick_ok l hl q2 s2 hq2 ([(-2),100,99]:List Int) (by decide) (by decide)
        exact ⟨_,base _ (ev_neg h (ev_neg g (ev_pos g2 (ev_bindo e3 (ev_pos i0 (ev_pos i1 (Ev.now _))))))),set_len _,hq3⟩
      · by_cases g3:c=3
        · exact ⟨_,base _ (ev_neg h (ev_neg g (ev_neg g2 (ev_pos g3 (ev_pos (by omega) (Ev.now _)))))),by show (m.drop _).length≤100;rw [List.length_drop];omega,hq2⟩
        · by_cases g4:c=4
          · obtain ⟨b,q3,s3,e3,_,hq3⟩:=pick_ok l hl q2 s2 hq2 ([0,9,10]:List Int) (by decide) (by decide)
            exact ⟨_,base _ (ev_neg h (ev_neg g (ev_neg g2 (ev_neg g3 (ev_pos g4 (ev_bindo e3 (ev_pos i0 (ev_pos i1 (Ev.now _))))))))),set_len _,hq3⟩
          · exact ⟨_,base _ (ev_neg h (ev_neg g (ev_neg g2 (ev_neg g3 (ev_neg g4 (Ev.now _)))))),hm,hq2⟩
theorem chain_whole (l:List Int) (hl:l.length≤140737488351232) (p s:Int) (hp:Cur l p):∃ m q t,Ev (fun k=>spec_l3Chain.f k l p s) (m,q,t)∧m.length≤100∧Cur l q:=by
  obtain ⟨b0,q0,s0,e0,c0,c1,hq0⟩:=below_ok l hl p s hp 5 (by omega) (by omega)
  obtain ⟨m,q,t,h1,h2,h3,hq⟩:=chain_draw l hl b0.toNat ([(⟨0,(-1),0,0,1000⟩:S77)]:List S77) 0 q0 s0 (by simp) (by simp;omega) hq0
  rw [Int.toNat_of_nonneg c0] at h1
  refine ⟨m,q,t,?_,by simp only [List.length_singleton] at h3;omega,hq⟩
  unfold spec_l3Chain.f
  exact ev_bindo e0 h1
theorem store_draw (l:List Int) (hl:l.length≤140737488351232) (d:Nat):∀ (i:Nat) (p s:Int) (acc:List (List S77)),i+d=6→acc.length=i→(∀ x ∈ acc,x.length≤100)→Cur l p →
    ∃ m q t,Ev (fun k=>spec_l4Store.l0 k (i:Int) l p s acc) (m,q,t)∧m.length=6∧(∀ x ∈ m,x.length≤100)∧Cur l q:=by
  induction d with
  | zero=>
    intro i p s acc hi ha hx hp
    exact ⟨acc,p,s,Ev.step (fun k=>spec_l4Store.l0.eq_2 ..) (ev_neg (by omega) (Ev.now _)),by omega,hx,hp⟩
  | succ d ih=>
    intro i p s acc hi ha hx hp
    obtain ⟨c,q,t,h1,h2,hq⟩:=chain_whole l hl p s hp
    obtain ⟨m,q2,t2,g1,g2,g3,g4⟩:=ih (i+1) q t (acc++[c]) (by omega) (by simp;omega) (by
      intro x hx'
      rw [List.mem_append,List.mem_singleton] at hx'
      rcases hx' with h|h
      · exact hx x h
      · rw [h];exact h2) hq
    refine ⟨m,q2,t2,Ev.step (fun k=>spec_l4Store.l0.eq_2 ..) (ev_pos (by omega) (Ev.bind h1 (ev_pos (by omega) ?_))),g2,g3,g4⟩
    rw [up i (by omega)]
    exact g1
theorem any4_draw (l:List Int) (hl:l.length≤140737488351232) (p s:Int) (hp:Cur l p):∃ m q t,Ev (fun k=>spec_l4Any.f k l p s) (m,q,t)∧m.length≤6∧(∀ x ∈ m,x.length≤100)∧Cur l q:=by
  obtain ⟨m,q,t,h1,h2,h3,hq⟩:=store_draw l hl 6 0 p s [] (by omega) rfl (by simp) hp
  have hs:Ev (fun k=>spec_l4Store.f k l p s) (m,q,t):=h1
  obtain ⟨c,q1,s1,e1,c0,c1,hq1⟩:=below_ok l hl q t hq 12 (by omega) (by omega)
  by_cases h:c=0
  · obtain ⟨i,q2,s2,e2,i0,i1,hq2⟩:=below_ok l hl q1 s1 hq1 6 (by omega) (by omega)
    obtain ⟨x,q3,s3,e3,hx,hq3⟩:=any_draw l hl q2 s2 hq2
    refine ⟨m.set i.toNat x,q3,s3,?_,by rw [List.length_set];omega,?_,hq3⟩
    · unfold spec_l4Any.f
      exact Ev.bind hs (ev_bindo e1 (ev_pos h (ev_bindo e2 (Ev.bind e3 (ev_pos i0 (ev_pos (by show i < (m.length:Int);omega) (Ev.now _)))))))
    · intro y hy
      rcases List.mem_or_eq_of_mem_set hy with hy|rfl
      · exact h3 y hy
      · exact hx
  · by_cases g:c=1
    · refine ⟨m.drop 1,q1,s1,?_,by rw [List.length_drop];omega,fun y hy=>h3 y (List.mem_of_mem_drop hy),hq1⟩
      unfold spec_l4Any.f
      exact Ev.bind hs (ev_bindo e1 (ev_neg h (ev_pos g (ev_pos (by show 1≤(m.length:Int);omega) (Ev.now _)))))
    · refine ⟨m,q1,s1,?_,by omega,h3,hq1⟩
      unfold spec_l4Any.f
      exact Ev.bind hs (ev_bindo e1 (ev_neg h (ev_neg g (Ev.now _))))
theorem dn (d:Nat) (h:d < 1000):wrap64 (((d+1:Nat):Int) - 1)=(d:Int):=by rw [w64 (by omega) (by omega)];omega
theorem once_ok (l:List Int) (hl:l.length≤140737488351232) (p s:Int) (hp:Cur l p) (a:Int) (h0:0 < a) (h1:a≤4294967296):∃ b q t,spec_l1Once.f l p s a=some (b,q,t)∧Cur l q:=by
  obtain ⟨b,q,t,e,_,_,hq⟩:=below_ok l hl p s hp a h0 h1
  exact ⟨_,q,t,by unfold spec_l1Once.f;rw [e];rfl,hq⟩
theorem before_ok (a b c d:Int):∃ r,spec_l5Before.f a b c d=some r:=by
  unfold spec_l5Before.f
  by_cases h:a < c
  · exact ⟨_,by rw [if_pos h]⟩
  · by_cases g:a=c
    · exact ⟨_,by rw [if_neg h,if_pos g]⟩
    · exact ⟨_,by rw [if_neg h,if_neg g]⟩
theorem rdl_len (st:List (List S77)) (h:∀ x ∈ st,x.length≤100) (b:Int):(rd_L3 st b).length≤100:=by
  unfold rd_L3
  rw [List.getD_eq_getElem?_getD]
  cases hq:st[b.toNat]? with
  | none=>simp
  | some y=>simpa using h y (List.mem_of_getElem? hq)
theorem putr_loop (x:List S47) (hx:x.length≤1000) (a b:Int) (d:Nat):∀ i:Nat,i+d=x.length→∃ m,Ev (fun k=>spec_l5PutRead.l0 k x (i:Int) a b) m∧m.length≤x.length+1:=by
  induction d with
  | zero=>
    intro i hi
    refine ⟨_,Ev.step (fun k=>spec_l5PutRead.l0.eq_2 ..) (ev_neg (by omega) (ev_bindo rfl (ev_pos (by omega) (ev_pos (by omega) (ev_bindo rfl (ev_pos (by simp;omega) (ev_bindo rfl (ev_bindo rfl (ev_pos (by simp;omega) (ev_bindo rfl (ev_bindo rfl (ev_pos (by simp;omega) (Ev.now _))))))))))))),?_⟩
    simp;omega
  | succ d ih=>
    intro i hi
    obtain ⟨m,hm,hm2⟩:=ih (i+1) (by omega)
    obtain ⟨c,hc⟩:=before_ok (rd_T47 x (i:Int)).f0 (rd_T47 x (i:Int)).f1 a b
    by_cases h:c=true
    · refine ⟨m,Ev.step (fun k=>spec_l5PutRead.l0.eq_2 ..) (ev_pos (by omega) (ev_pos (by omega) (ev_bindo hc (ev_pos h ?_)))),hm2⟩
      rw [up i (by omega)]
      exact hm
    · by_cases g:(((rd_T47 x (i:Int)).f0) == a && (((rd_T47 x (i:Int)).f1) == b))=true
      · exact ⟨_,Ev.step (fun k=>spec_l5PutRead.l0.eq_2 ..) (ev_pos (by omega) (ev_pos (by omega) (ev_bindo hc (ev_neg h (ev_pos g (ev_bindo rfl (ev_pos (by simp;omega) (Ev.now _)))))))),by simp⟩
      · refine ⟨_,Ev.step (fun k=>spec_l5PutRead.l0.eq_2 ..) (ev_pos (by omega) (ev_pos (by omega) (ev_bindo hc (ev_neg h (ev_neg g (ev_bindo rfl (ev_pos (by omega) (ev_bindo rfl (ev_pos (by simp;omega) (ev_bindo rfl (ev_bindo rfl (ev_pos (by simp;omega) (ev_bindo rfl (ev_bindo rfl (ev_pos (by simp;omega) (Ev.now _)))))))))))))))),?_⟩
        simp;omega
theorem putw_j2 (x y:List S58) (hx:x.length≤1000) (hy:y.length≤1001) (i:Nat) (hi:i≤x.length):Ev (fun k=>spec_l5PutWrite.j2 k x (i:Int) y) (y++x.drop i):=Ev.step (fun k=>spec_l5PutWrite.j2.eq_2 ..) (ev_pos (by omega) (ev_pos (by omega) (ev_bindo rfl (ev_pos (by simp;omega) (ev_eq (Ev.now _) (by rw [Int.toNat_natCast]))))))
theorem putw_j1 (x:List S58) (hx:x.length≤1000) (a b:Int) (i:Nat) (hi:i≤x.length):∃ m,Ev (fun k=>spec_l5PutWrite.j1 k x (i:Int) a b) m∧m.length≤x.length+1:=by
  by_cases h:i < x.length
  · by_cases g:(rd_T58 x (i:Int)).f0=a
    · refine ⟨_,Ev.step (fun k=>spec_l5PutWrite.j1.eq_2 ..) (ev_bindo rfl (ev_pos (by omega) (ev_pos (by omega) (ev_bindo rfl (ev_pos (by simp;omega) (ev_bindo rfl (ev_bindo rfl (ev_pos (by simp;omega) (ev_bindo rfl (ev_pos (by omega) (ev_pos g (by rw [up i (by omega)];exact putw_j2 x _ hx (by simp;omega) (i+1) h)))))))))))),?_⟩
      simp;omega
    · refine ⟨_,Ev.step (fun k=>spec_l5PutWrite.j1.eq_2 ..) (ev_bindo rfl (ev_pos (by omega) (ev_pos (by omega) (ev_bindo rfl (ev_pos (by simp;omega) (ev_bindo rfl (ev_bindo rfl (ev_pos (by simp;omega) (ev_bindo rfl (ev_pos (by omega) (ev_neg g (putw_j2 x _ hx (by simp;omega) i hi)))))))))))),?_⟩
      simp;omega
  · refine ⟨_,Ev.step (fun k=>spec_l5PutWrite.j1.eq_2 ..) (ev_bindo rfl (ev_pos (by omega) (ev_pos (by omega) (ev_bindo rfl (ev_pos (by simp;omega) (ev_bindo rfl (ev_bindo rfl (ev_pos (by simp;omega) (ev_bindo rfl (ev_neg (by omega) (ev_bindo rfl (ev_pos (by simp;omega) (Ev.now _))))))))))))),?_⟩
    simp;omega
theorem putw_loop (x:List S58) (hx:x.length≤1000) (a b:Int) (d:Nat):∀ i:Nat,i+d=x.length→∃ m,Ev (fun k=>spec_l5PutWrite.l0 k x (i:Int) a b) m∧m.length≤x.length+1:=by
  induction d with
  | zero=>
    intro i hi
    obtain ⟨m,hm,hm2⟩:=putw_j1 x hx a b i (by omega)
    exact ⟨m,Ev.step (fun k=>spec_l5PutWrite.l0.eq_2 ..) (ev_neg (by omega) hm),hm2⟩
  | succ d ih=>
    intro i hi
    by_cases h:(rd_T58 x (i:Int)).f0 < a
    · obtain ⟨m,hm,hm2⟩:=ih (i+1) (by omega)
      exact ⟨m,Ev.step (fun k=>spec_l5PutWrite.l0.eq_2 ..) (ev_pos (by omega) (ev_pos (by omega) (ev_pos h (by rw [up i (by omega)];exact hm)))),hm2⟩
    · obtain ⟨m,hm,hm2⟩:=putw_j1 x hx a b i (by omega)
      exact ⟨m,Ev.step (fun k=>spec_l5PutWrite.l0.eq_2 ..) (ev_pos (by omega) (ev_pos (by omega) (ev_neg h hm))),hm2⟩
theorem putr_ok (x:List S47) (hx:x.length≤1000) (a b:Int):∃ m,Ev (fun k=>spec_l5PutRead.f k x a b) m∧m.length≤x.length+1:=putr_loop x hx a b x.length 0 (by omega)
theorem putw_ok (x:List S58) (hx:x.length≤1000) (a b:Int):∃ m,Ev (fun k=>spec_l5PutWrite.f k x a b) m∧m.length≤x.length+1:=putw_loop x hx a b x.length 0 (by omega)
theorem on_l1 (l:List Int) (hl:l.length≤140737488351232) (a0 a1 a2 a3 a4 a5 a6:Int) (rs:List S47) (d:Nat):∀ (ws:List S58) (p s:Int),ws.length+d≤100→Cur l p →
    ∃ m q t,Ev (fun k=>spec_l5On.l1 k (d:Int) l p s a0 a1 a2 a3 a4 a5 a6 rs ws) (a0,a1,a2,a3,a4,a5,a6,rs,m,q,t)∧m.length≤ws.length+d∧Cur l q:=by
  induction d with
  | zero=>
    intro ws p s h0 hp
    exact ⟨ws,p,s,Ev.step (fun k=>spec_l5On.l1.eq_2 ..) (ev_neg (by omega) (Ev.now _)),by omega,hp⟩
  | succ d ih=>
    intro ws p s h0 hp
    obtain ⟨b1,q1,s1,e1,_,_,hq1⟩:=below_ok l hl p s hp 6 (by omega) (by omega)
    obtain ⟨b2,q2,s2,e2,_,hq2⟩:=pick_ok l hl q1 s1 hq1 ([(-1),0,7,50,99]:List Int) (by decide) (by decide)
    obtain ⟨y,e3,hy⟩:=putw_ok ws (by omega) b1 b2
    obtain ⟨m,q,t,g1,g2,g3⟩:=ih y q2 s2 (by omega) hq2
    refine ⟨m,q,t,Ev.step (fun k=>spec_l5On.l1.eq_2 ..) (ev_pos (by omega) (ev_bindo e1 (ev_bindo e2 (Ev.bind e3 ?_)))),by omega,g3⟩
    rw [dn d (by omega)]
    exact g1
theorem on_l0 (l:List Int) (hl:l.length≤140737488351232) (st:List (List S77)) (hs:∀ x ∈ st,x.length≤100) (a0 a1 a2 a3 a5 a6:Int) (d:Nat):∀ (a4:Int) (rs:List S47) (p s:Int),rs.length+d≤100→Cur l p →
    ∃ a4' rs' ws' q t,Ev (fun k=>spec_l5On.l0 k (d:Int) l p s st a0 a1 a2 a3 a4 a5 a6 rs) (a0,a1,a2,a3,a4',a5,a6,rs',ws',q,t)∧rs'.length≤rs.length+d∧ws'.length≤3∧Cur l q:=by
  induction d with
  | zero=>
    intro a4 rs p s h0 hp
    obtain ⟨b,q,t,e,b0,b1,hq⟩:=below_ok l hl p s hp 3 (by omega) (by omega)
    obtain ⟨m,q2,t2,g1,g2,g3⟩:=on_l1 l hl a0 a1 a2 a3 a4 a5 a6 rs b.toNat ([]:List S58) q t (by simp;omega) hq
    rw [Int.toNat_of_nonneg b0] at g1
    simp only [List.length_nil] at g2
    exact ⟨a4,rs,m,q2,t2,Ev.step (fun k=>spec_l5On.l0.eq_2 ..) (ev_neg (by omega) (ev_bindo e g1)),by omega,by omega,g3⟩
  | succ d ih=>
    intro a4 rs p s h0 hp
    obtain ⟨b,q,t,e,b0,b1,hq⟩:=below_ok l hl p s hp 6 (by omega) (by omega)
    by_cases h:b < (st.length:Int)
    · by_cases g:((rd_L3 st b).length:Int) > 0
      · have hb:=rdl_len st hs b
        obtain ⟨i,q2,t2,e2,i0,i1,hq2⟩:=below_ok l hl q t hq ((rd_L3 st b).length:Int) (by omega) (by omega)
        obtain ⟨y,e3,hy⟩:=putr_ok rs (by omega) b (rd_T77 (rd_L3 st b) i).f2
        obtain ⟨c,r',w',q3,t3,g1,g2,g3,g4⟩:=ih (mx a4 (rd_T77 (rd_L3 st b) i).f2) y q2 t2 (by omega) hq2
        refine ⟨c,r',w',q3,t3,Ev.step (fun k=>spec_l5On.l0.eq_2 ..) (ev_pos (by omega) (ev_bindo e (ev_pos h (ev_pos b0 (Ev.step (fun k=>spec_l5On.j1.eq_2 ..) (ev_pos (decide_eq_true g) (ev_pos b0 (ev_pos h (ev_bindo e2 (ev_pos i0 (ev_pos i1 (Ev.bind e3 ?_)))))))))))),by omega,g3,g4⟩
        rw [dn d (by omega)]
        exact g1
      · obtain ⟨c,r',w',q3,t3,g1,g2,g3,g4⟩:=ih a4 rs q t (by omega) hq
        refine ⟨c,r',w',q3,t3,Ev.step (fun k=>spec_l5On.l0.eq_2 ..) (ev_pos (by omega) (ev_bindo e (ev_pos h (ev_pos b0 (Ev.step (fun k=>spec_l5On.j1.eq_2 ..) (ev_neg (by rw [decide_eq_false g];simp) ?_)))))),by omega,g3,g4⟩
        rw [dn d (by omega)]
        exact g1
    · obtain ⟨c,r',w',q3,t3,g1,g2,g3,g4⟩:=ih a4 rs q t (by omega) hq
      refine ⟨c,r',w',q3,t3,Ev.step (fun k=>spec_l5On.l0.eq_2 ..) (ev_pos (by omega) (ev_bindo e (ev_neg h (Ev.step (fun k=>spec_l5On.j1.eq_2 ..) (ev_neg (by simp) ?_))))),by omega,g3,g4⟩
      rw [dn d (by omega)]
      exact g1
theorem on_ok (l:List Int) (hl:l.length≤140737488351232) (st:List (List S77)) (hs:∀ x ∈ st,x.length≤100) (p s:Int) (hp:Cur l p):∃ a0 a1 a2 a3 a4 a5 a6 rs ws q t,Ev (fun k=>spec_l5On.f k l p s st) (a0,a1,a2,a3,a4,a5,a6,rs,ws,q,t)∧rs.length≤4∧ws.length≤3∧Cur l q:=by
  obtain ⟨b1,q1,s1,e1,_,_,hq1⟩:=below_ok l hl p s hp 6 (by omega) (by omega)
  obtain ⟨b2,q2,s2,e2,_,_,hq2⟩:=below_ok l hl q1 s1 hq1 4 (by omega) (by omega)
  obtain ⟨b3,q3,s3,e3,_,_,hq3⟩:=below_ok l hl q2 s2 hq2 8 (by omega) (by omega)
  obtain ⟨b4,q4,s4,e4,c0,c1,hq4⟩:=below_ok l hl q3 s3 hq3 4 (by omega) (by omega)
  obtain ⟨c,r',w',q,t,g1,g2,g3,g4⟩:=on_l0 l hl st hs (wrap64 (1+b1)) (wrap64 (1+b2)) 1 b3 1000 0 b4.toNat 0 ([]:List S47) q4 s4 (by simp;omega) hq4
  rw [Int.toNat_of_nonneg c0] at g1
  simp only [List.length_nil] at g2
  refine ⟨wrap64 (1+b1),wrap64 (1+b2),1,b3,c,1000,0,r',w',q,t,?_,by omega,g3,g4⟩
  unfold spec_l5On.f
  exact ev_bindo e1 (ev_bindo e2 (ev_bindo e3 (ev_bindo e4 g1)))
/-- A transaction is drawn: its rows are short. -/
theorem any5_ok (l:List Int) (hl:l.length≤140737488351232) (p s:Int) (hp:Cur l p):∃ a0 a1 a2 a3 a4 a5 a6 rs ws q t,Ev (fun k=>spec_l5Any.f k l p s) (a0,a1,a2,a3,a4,a5,a6,rs,ws,q,t)∧rs.length≤5∧ws.length≤4∧Cur l q:=by
  obtain ⟨m,q0,t0,h1,h2,h3,hq0⟩:=store_draw l hl 6 0 p s [] (by omega) rfl (by simp) hp
  have hs:Ev (fun k=>spec_l4Store.f k l p s) (m,q0,t0):=h1
  obtain ⟨a0,a1,a2,a3,a4,a5,a6,rs,ws,q1,t1,ho,hr,hw,hq1⟩:=on_ok l hl m h3 q0 t0 hq0
  obtain ⟨c,q2,t2,e2,c0,c1,hq2⟩:=below_ok l hl q1 t1 hq1 16 (by omega) (by omega)
  unfold spec_l5Any.f
  by_cases n0:c=0
  · obtain ⟨b,q3,t3,e3,_,hq3⟩:=pick_ok l hl q2 t2 hq2 ([0,9,10]:List Int) (by decide) (by decide)
    exact ⟨_,_,_,_,_,_,_,_,_,_,_,Ev.bind hs (Ev.bind ho (ev_bindo e2 (ev_pos n0 (ev_bindo e3 (Ev.now _))))),by show rs.length≤5;omega,by show ws.length≤4;omega,hq3⟩
  by_cases n1:c=1
  · obtain ⟨b,q3,t3,e3,_,hq3⟩:=pick_ok l hl q2 t2 hq2 ([0,5]:List Int) (by decide) (by decide)
    exact ⟨_,_,_,_,_,_,_,_,_,_,_,Ev.bind hs (Ev.bind ho (ev_bindo e2 (ev_neg n0 (ev_pos n1 (ev_bindo e3 (Ev.now _)))))),by show rs.length≤5;omega,by show ws.length≤4;omega,hq3⟩
  by_cases n2:c=2
  · obtain ⟨b,q3,t3,e3,_,_,hq3⟩:=below_ok l hl q2 t2 hq2 5 (by omega) (by omega)
    obtain ⟨b4,q4,t4,e4,_,_,hq4⟩:=below_ok l hl q3 t3 hq3 3 (by omega) (by omega)
    exact ⟨_,_,_,_,_,_,_,_,_,_,_,Ev.bind hs (Ev.bind ho (ev_bindo e2 (ev_neg n0 (ev_neg n1 (ev_pos n2 (ev_bindo e3 (ev_bindo e4 (Ev.now _)))))))),by show rs.length≤5;omega,by show ws.length≤4;omega,hq4⟩
  by_cases n3:c=3
  · obtain ⟨b,q3,t3,e3,_,hq3⟩:=pick_ok l hl q2 t2 hq2 ([(-1),999,1000]:List Int) (by decide) (by decide)
    obtain ⟨b4,q4,t4,e4,_,hq4⟩:=pick_ok l hl q3 t3 hq3 ([0,1,1000,1001]:List Int) (by decide) (by decide)
    exact ⟨_,_,_,_,_,_,_,_,_,_,_,Ev.bind hs (Ev.bind ho (ev_bindo e2 (ev_neg n0 (ev_neg n1 (ev_neg n2 (ev_pos n3 (ev_bindo e3 (ev_bindo e4 (Ev.now _))))))))),by show rs.length≤5;omega,by show ws.length≤4;omega,hq4⟩
  by_cases n4:c=4
  · obtain ⟨b,q3,t3,e3,_,_,hq3⟩:=below_ok l hl q2 t2 hq2 7 (by omega) (by omega)
    obtain ⟨b4,q4,t4,e4,_,hq4⟩:=pick_ok l hl q3 t3 hq3 ([(-1),0,3,1000]:List Int) (by decide) (by decide)
    exact ⟨_,_,_,_,_,_,_,_,_,_,_,Ev.bind hs (Ev.bind ho (ev_bindo e2 (ev_neg n0 (ev_neg n1 (ev_neg n2 (ev_neg n3 (ev_pos n4 (ev_bindo e3 (ev_bindo e4 (ev_pos (by show rs.length < _;omega) (Ev.now _))))))))))),by show (rs++_).length≤5;simp;omega,by show ws.length≤4;omega,hq4⟩
  by_cases n5:c=5
  · obtain ⟨b,q3,t3,e3,_,_,hq3⟩:=below_ok l hl q2 t2 hq2 7 (by omega) (by omega)
    obtain ⟨b4,q4,t4,e4,_,hq4⟩:=pick_ok l hl q3 t3 hq3 ([(-2),100,0]:List Int) (by decide) (by decide)
    exact ⟨_,_,_,_,_,_,_,_,_,_,_,Ev.bind hs (Ev.bind ho (ev_bindo e2 (ev_neg n0 (ev_neg n1 (ev_neg n2 (ev_neg n3 (ev_neg n4 (ev_pos n5 (ev_bindo e3 (ev_bindo e4 (ev_pos (by show ws.length < _;omega) (Ev.now _)))))))))))),by show rs.length≤5;omega,by show (ws++_).length≤4;simp;omega,hq4⟩
  exact ⟨_,_,_,_,_,_,_,_,_,_,_,Ev.bind hs (Ev.bind ho (ev_bindo e2 (ev_neg n0 (ev_neg n1 (ev_neg n2 (ev_neg n3 (ev_neg n4 (ev_neg n5 (Ev.now _))))))))),by show rs.length≤5;omega,by show ws.length≤4;omega,hq2⟩
theorem fN_bd {f:Int→Nat→Int} {lo hi:Int} (n:Nat) (a:Int) (h0:lo≤a∧a≤hi) (h:∀ i x,i < n→lo≤x∧x≤hi→lo≤f x i∧f x i≤hi):lo≤fN f n a∧fN f n a≤hi:=by
  induction n with
  | zero=>exact h0
  | succ n ih=>exact h n _ (by omega) (ih fun i x hi=>h i x (by omega))
theorem low_bd (l:List (List S77)) (a0 a1 a2 a3 a4 a5 a6:Int) (rs:List S47) (ws:List S58) (hv:vs l=true) (ht:vt a0 a1 a2 a3 a4 a5 a6 rs ws=true):0≤lowOf l rs ws∧lowOf l rs ws≤999:=by
  obtain ⟨hR,hW,_,_⟩:=vt_use ht
  refine fN_bd _ _ (fN_bd _ _ ⟨by omega,by omega⟩ fun i x hi hx=>?_) fun i x hi hx=>?_
  · have:=(hR i hi).2.1
    unfold mx;omega
  · obtain ⟨hc,h50⟩:=rdl_ok hv (hW i hi).1.1 (hW i hi).1.2
    have hp:=vc_pos hc
    have:=vvS_use (vc_at hc ((rd_L3 l (ws.getD i z58).f0).length - 1) (by omega))
    unfold latestOf
    rw [if_pos hc]
    dsimp only
    unfold mx;omega
theorem high_bd {l:List (List S77)} {a0 a1 a2 a3 a4 a5 a6:Int} {rs:List S47} {ws:List S58} (h:exOf l a0 a1 a2 a3 a4 a5 a6 rs ws=true):0≤highOf l rs∧highOf l rs≤1000:=by
  obtain ⟨hv,ht,he⟩:=exOf_use h
  refine fN_bd _ _ ⟨by omega,by omega⟩ fun i x hi hx=>?_
  have hk:=((vt_use ht).1 i hi).1
  obtain ⟨hc,_⟩:=rdl_ok hv hk.1 hk.2
  have hb:=impl_Store_find.bd (rd_L3 l (rs.getD i z47).f0) (rs.getD i z47).f1 0
  have h0:=exq_use he i hi
  unfold verOf
  obtain ⟨j,hj⟩:∃ j:Nat,impl_FindVersion.frm (rd_L3 l (rs.getD i z47).f0) (rs.getD i z47).f1 0=(j:Int):=⟨_,(Int.toNat_of_nonneg h0).symm⟩
  have h2:=hb.2
  rw [hj] at h2 ⊢
  rw [rd_nat]
  have:=vvS_use (vc_at hc j (by omega))
  unfold mn;omega
/-- What is drawn: short rows. -/
theorem three_draw (l:List Int) (hl:l.length≤140737488351232):∃ m a0 a1 a2 a3 a4 a5 a6 rs ws n,Ev (fun k=>spec_DrawFinalWindow.f k l) (m,a0,a1,a2,a3,a4,a5,a6,rs,ws,n)∧m.length≤6∧(∀ x ∈ m,x.length≤100)∧rs.length≤5∧ws.length≤4:=by
  obtain ⟨t,h0⟩:=new_ok l
  obtain ⟨m,q1,t1,h1,m1,m2,c1⟩:=any4_draw l hl 0 t (cur0 l)
  obtain ⟨a0,a1,a2,a3,a4,a5,a6,rs,ws,q2,t2,h2,r2,w2,c2⟩:=on_ok l hl m m2 q1 t1 c1
  obtain ⟨b,q3,t3,h3,c3⟩:=once_ok l hl q2 t2 c2 8 (by omega) (by omega)
  obtain ⟨z,hz⟩:∃ z,Ev (fun k=>spec_LastStamp.f k m) z:=by
    have hin:∀ x ∈ m,x.length≤9223372036854775806:=fun x hx=>by have:=m2 x hx;omega
    by_cases hv:vs m=true
    · obtain ⟨r,h1,_⟩:=last_both m hv hin
      exact ⟨r,h1⟩
    · refine ⟨0,Ev.step (fun k=>spec_LastStamp.l0.eq_2 ..) (ev_ite (fun h=>?_) (fun h=>?_))⟩
      · exact Ev.bind (spec_vs m (by omega) hin) (Ev.step (fun k=>spec_LastStamp.j1.eq_2 ..) (ev_neg hv (Ev.now _)))
      · exact Ev.step (fun k=>spec_LastStamp.j1.eq_2 ..) (ev_neg (by simp) (Ev.now _))
  have fin:∀ (a0 a1 a2 a3 a4 a5 a6:Int) (rs:List S47) (ws:List S58) (q t:Int),Cur l q→rs.length≤5→ws.length≤4→Ev (fun k=>spec_l6Pair.f k l) (l,q,t,m,a0,a1,a2,a3,a4,a5,a6,rs,ws) →
      ∃ m a0 a1 a2 a3 a4 a5 a6 rs ws n,Ev (fun k=>spec_DrawFinalWindow.f k l) (m,a0,a1,a2,a3,a4,a5,a6,rs,ws,n)∧m.length≤6∧(∀ x ∈ m,x.length≤100)∧rs.length≤5∧ws.length≤4:=by
    intro a0 a1 a2 a3 a4 a5 a6 rs ws q t hq hr hw h
    obtain ⟨n,q4,t4,h4,_,_⟩:=pick_ok l hl q t hq ([1,1,1,2,0,999]:List Int) (by decide) (by decide)
    refine ⟨m,a0,a1,a2,a3,a4,a5,a6,rs,ws,wrap64 (z+n),?_,m1,m2,hr,hw⟩
    unfold spec_DrawFinalWindow.f spec_l8Three.f
    exact Ev.bind (Ev.bind h (Ev.bind hz (ev_bindo h4 (Ev.now _)))) (Ev.now _)
  by_cases hb:b=true
  · obtain ⟨b0,b1,b2,b3,b4,b5,b6,rs',ws',q5,t5,h5,r5,w5,c5⟩:=any5_ok l hl q3 t3 c3
    exact fin b0 b1 b2 b3 b4 b5 b6 rs' ws' q5 t5 c5 r5 w5 (by unfold spec_l6Pair.f;exact Ev.bind h0 (Ev.bind h1 (Ev.bind h2 (ev_bindo h3 (ev_pos hb (Ev.bind h5 (Ev.now _)))))))
  · exact fin a0 a1 a2 a3 a4 a5 a6 rs ws q3 t3 c3 (by omega) (by omega) (by unfold spec_l6Pair.f;exact Ev.bind h0 (Ev.bind h1 (Ev.bind h2 (ev_bindo h3 (ev_neg hb (Ev.now _))))))
theorem FnExclusion:laws_FnExclusion.Pure:=by
  intro l hlm hl hwf
  refine Ev.rounds (g:=fun k=>laws_FnExclusion.f k l) ?_
  have hl:l.length≤140737488351232:=by omega
  unfold laws_FnExclusion.f laws_big.f
  refine ev_bindo rfl (ev_ite (fun _=>Ev.now _) (fun _=>?_))
  obtain ⟨m,a0,a1,a2,a3,a4,a5,a6,rs,ws,s,hd,m1,m2,hr,hw⟩:=three_draw l hl
  have hin:∀ x ∈ m,x.length≤9223372036854775806:=fun x hx=>by have:=m2 x hx;omega
  obtain ⟨p,g1,g2,g3,g4⟩:=window_both m a0 a1 a2 a3 a4 a5 a6 rs ws s (by omega) hin (by omega) (by omega)
  have k1:Ev (fun k=>spec_MayCommit.f k m a0 a1 a2 a3 a4 a5 a6 rs ws s) (p.2.2 && decide (p.1 < p.2.1)):=by
    unfold spec_MayCommit.f
    exact Ev.bind g1 (ev_ite (fun h=>ev_eq (Ev.now _) (by rw [h];rfl)) (fun h=>ev_eq (Ev.now _) (by rw [Bool.eq_false_iff.2 h];rfl)))
  have k2:Ev (fun k=>impl_MayCommit.f k m a0 a1 a2 a3 a4 a5 a6 rs ws s) (p.2.2 && decide (p.1 < p.2.1)):=by
    unfold impl_MayCommit.f
    exact Ev.bind g2 (ev_ite (fun h=>ev_eq (Ev.now _) (by rw [h];rfl)) (fun h=>ev_eq (Ev.now _) (by rw [Bool.eq_false_iff.2 h];rfl)))
  have r1:Ev (fun k=>spec_WindowRoom.f k m a0 a1 a2 a3 a4 a5 a6 rs ws s) (wrap64 (p.2.1 - p.1)):=by
    unfold spec_WindowRoom.f
    refine Ev.bind g1 (ev_ite (fun h=>Ev.now _) (fun h=>ev_eq (Ev.now _) ?_))
    obtain ⟨e1,e2⟩:=g3 (Bool.eq_false_iff.2 h)
    rw [e1,e2,w64 (by omega) (by omega)]
    rfl
  have r2:Ev (fun k=>impl_WindowRoom.f k m a0 a1 a2 a3 a4 a5 a6 rs ws s) (wrap64 (p.2.1 - p.1)):=by
    unfold impl_WindowRoom.f
    exact Ev.bind g2 (Ev.now _)
  obtain ⟨r,e1,e2,e3⟩:=pair_both m a0 a1 a2 a3 a4 a5 a6 rs ws s (by omega) hin (by omega) (by omega) g1 g2 (fun h=>(g4 h).1)
  have room:(decide (wrap64 (p.2.1 - p.1) > 0))=(p.2.2 && decide (p.1 < p.2.1)):=by
    by_cases hp:p.2.2=true
    · obtain ⟨x1,x2,x3,x4,x5⟩:=g4 hp
      obtain ⟨hv,ht,_⟩:=exOf_use x1
      have hL:=low_bd m a0 a1 a2 a3 a4 a5 a6 rs ws hv ht
      have hH:=high_bd x1
      obtain ⟨_,_,hh,_⟩:=vt_use ht
      unfold Hd at hh
      have q1:0≤p.1∧p.1≤999:=by rw [x2];unfold mx;omega
      have q2:0≤p.2.1∧p.2.1≤999:=by rw [x3];unfold mn;omega
      rw [hp,w64 (by omega) (by omega),Bool.true_and,decide_eq_decide]
      omega
    · obtain ⟨z1,z2⟩:=g3 (Bool.eq_false_iff.2 hp)
      rw [Bool.eq_false_iff.2 hp,z1,z2,w64 (by omega) (by omega)]
      rfl
  refine Ev.bind hd (Ev.bind g2 (Ev.bind g1 (Ev.bind k2 (ev_neg (by simp) (ev_pos rfl (ev_pos rfl (Ev.bind k1 (ev_neg (by simp) (Ev.bind r2 (Ev.bind r1 ?_))))))))))
  refine Ev.step (fun k=>laws_FnExclusion.j0.eq_2 ..) (ev_neg (by simp) (Ev.bind e2 (Ev.bind e1 (ev_neg (by simp) (ev_neg (by simp) (ev_neg (by simp) ?_))))))
  by_cases hp:r.2.2.2.2=true
  · obtain ⟨x1,x2,j,x3,x4⟩:=e3 hp
    obtain ⟨y1,y2,y3,_⟩:=g4 x1
    have hm:(p.2.2 && decide (p.1 < p.2.1))=false:=by
      rw [x1,Bool.true_and,decide_eq_false_iff_not,y2,y3]
      unfold mx mn;omega
    refine ev_pos hp (ev_neg (by rw [hm];simp) (Ev.bind (spec_has a0 a1 a2 a3 a4 a5 a6 rs ws _ _ (by omega)) (ev_pos ?_ (ev_pos x1 (ev_pos (by rw [x1];simp) (Ev.bind r2 (ev_eq (Ev.now _) (by rw [room];simp))))))))
    cases hf:fnd rs.length (IsAt rs r.2.2.1 r.2.2.2.1) with
    | some i=>rfl
    | none=>exact absurd x4 (fnd_none hf j x3)
  · by_cases hq:p.2.2=true
    · exact ev_neg hp (ev_pos hq (ev_pos (by rw [hq];simp) (Ev.bind r2 (ev_eq (Ev.now _) (by rw [room];simp)))))
    · exact ev_neg hp (ev_neg hq (ev_pos (by rw [Bool.eq_false_iff.2 hq];simp) (Ev.bind r2 (ev_eq (Ev.now _) (by rw [room];simp)))))


end Go.Proofs.Ytacdaekigoldaaa.Pure
