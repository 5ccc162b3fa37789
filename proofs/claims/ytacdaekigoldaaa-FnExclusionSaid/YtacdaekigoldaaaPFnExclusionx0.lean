-- Printed by my own myprint.py out of the translation of the seat Ytacdaekigoldaaa. Not trusted: Lean checks it.
import Derived.Test.YtacdaekigoldaaaProg
import Derived.Below
import Derived.Deep.Draws
import Derived.Deep.AppendLies
import Derived.Maps.AppendAt
import Derived.OwnWalk
import Derived.Laws.BytesArg
import Derived.Laws.MakeOwn
import Derived.Laws.OwnMore
import Derived.Deep.OwnRows
import Derived.Tactics
import Derived.Lib.ConvBytes
import Derived.Laws.Slices
import Derived.WalkKit
import Derived.KernelRfl
import Derived.RowKit3
import Derived.Deep.LoopGhost
import Derived.Deep.QuietTactic
import Derived.BigQuiet
import Derived.WideLaws
import Derived.Deep.DeepCutAuto
import Derived.Deep.CutBlock
import Derived.Deep.RegionHeld3
import Derived.Laws.Rows
import Derived.Lib.AppendStr
import Derived.ArgAppend
import Derived.Laws.IdiomCopy
import Derived.OrdersHeld
import Derived.Laws.BitsLemmas
import Derived.RowKit
import Derived.Test.YtacdaekigoldaaaWSlimMore
namespace Go.Proofs.Ytacdaekigoldaaa.PFnExclusion
open Go.RowKit Go.Proofs.YtacdaekigoldaaaW.PrintWords Go.Proofs.YtacdaekigoldaaaW.PrintLast Go.Proofs.YtacdaekigoldaaaW.PrintMore
attribute [local go_sem] max2_int min2_int max_two min_two max_three min_three max_four min_four   -- for this text's walks alone
set_option linter.unusedVariables false
set_option linter.unusedSimpArgs false



def errW:Option Int→Value
  | none=>.nilIface
  | some c=>.iface 0 (i_ c)
theorem errW_none:errW none=.nilIface:=rfl
theorem errW_some (c:Int):errW (some c)=.iface 0 (i_ c):=rfl

theorem info3:(Try.prog.info? 3).map (fun i=>(i.zero,i.size,i.bytes))=some (some (i_ 0),1,8):=by kernel_rfl
theorem info47:(Try.prog.info? 47).map (fun i=>(i.zero,i.size,i.bytes))=some (some (.agg #[(i_ 0),(i_ 0)]),2,16):=by kernel_rfl
theorem info58:(Try.prog.info? 58).map (fun i=>(i.zero,i.size,i.bytes))=some (some (.agg #[(i_ 0),(i_ 0)]),2,16):=by kernel_rfl
theorem info77:(Try.prog.info? 77).map (fun i=>(i.zero,i.size,i.bytes))=some (some (.agg #[(i_ 0),(i_ 0),(i_ 0),(i_ 0),(i_ 0)]),5,40):=by kernel_rfl
theorem info83:(Try.prog.info? 83).map (fun i=>(i.zero,i.size,i.bytes))=some (some (.slice none 0 0),1,24):=by kernel_rfl
-- the values' own types
/-! #### struct type 77 -/
structure S77 where
  f0:Int
  f1:Int
  f2:Int
  f3:Int
  f4:Int
def z77:S77:=⟨(0:Int),(0:Int),(0:Int),(0:Int),(0:Int)⟩
def k77:Kd S77:=Kd.iso (Kd.pair (Kd.int .i64) (Kd.pair (Kd.int .i64) (Kd.pair (Kd.int .i64) (Kd.pair (Kd.int .i64) (Kd.int .i64))))) (fun x:S77=>(x.f0,x.f1,x.f2,x.f3,x.f4))
theorem k77_open {w:World} {x:S77} {cs:List Value} (h:k77.K w x cs):cs=[i_ x.f0,i_ x.f1,i_ x.f2,i_ x.f3,i_ x.f4]:=by
  obtain⟨_,_,rfl,rfl,⟨_,_,rfl,rfl,⟨_,_,rfl,rfl,⟨_,_,rfl,rfl,rfl⟩⟩⟩⟩:=h;exact rfl
theorem k77_openM {w:World} {base:Nat} {ok:Nat→Prop} {x:S77} {cs:List Value} (h:k77.M w base ok x cs):cs=[i_ x.f0,i_ x.f1,i_ x.f2,i_ x.f3,i_ x.f4]:=by
  obtain⟨_,_,rfl,rfl,⟨_,_,rfl,rfl,⟨_,_,rfl,rfl,⟨_,_,rfl,rfl,rfl⟩⟩⟩⟩:=h;exact rfl
theorem k77_mk (w:World) (x:S77)  : k77.K w x [i_ x.f0,i_ x.f1,i_ x.f2,i_ x.f3,i_ x.f4]:=⟨[i_ x.f0],[i_ x.f1,i_ x.f2,i_ x.f3,i_ x.f4],rfl,rfl,⟨[i_ x.f1],[i_ x.f2,i_ x.f3,i_ x.f4],rfl,rfl,⟨[i_ x.f2],[i_ x.f3,i_ x.f4],rfl,rfl,⟨[i_ x.f3],[i_ x.f4],rfl,rfl,rfl⟩⟩⟩⟩
theorem k77_mkM (w:World) (base:Nat) (ok:Nat→Prop) (x:S77)  : k77.M w base ok x [i_ x.f0,i_ x.f1,i_ x.f2,i_ x.f3,i_ x.f4]:=⟨[i_ x.f0],[i_ x.f1,i_ x.f2,i_ x.f3,i_ x.f4],rfl,rfl,⟨[i_ x.f1],[i_ x.f2,i_ x.f3,i_ x.f4],rfl,rfl,⟨[i_ x.f2],[i_ x.f3,i_ x.f4],rfl,rfl,⟨[i_ x.f3],[i_ x.f4],rfl,rfl,rfl⟩⟩⟩⟩
theorem k77_mkF (W:World) (ok:Nat→Prop) (x:S77):Kd.FK k77 W ok x [i_ x.f0,i_ x.f1,i_ x.f2,i_ x.f3,i_ x.f4]:=fun W2 _=>k77_mk W2 x
def rd_T77 (xs:List S77) (i:Int):S77:=xs.getD i.toNat z77
theorem at_T77 {w:World} {A:Option Addr} {n:Nat} {xs:List S77} (h:Kd.C k77 w A n xs) (i:Int) (h0:0≤i) (h1:i < n):∃ ad,A=some ad∧w.cell? (ad.add (i.toNat * 5))=some (i_ (rd_T77 xs i).f0)∧w.cell? ⟨(ad.add (i.toNat * 5)).block,(ad.add (i.toNat * 5)).off+1,none⟩=some (i_ (rd_T77 xs i).f1)∧w.cell? ⟨(ad.add (i.toNat * 5)).block,(ad.add (i.toNat * 5)).off+2,none⟩=some (i_ (rd_T77 xs i).f2)∧w.cell? ⟨(ad.add (i.toNat * 5)).block,(ad.add (i.toNat * 5)).off+3,none⟩=some (i_ (rd_T77 xs i).f3)∧w.cell? ⟨(ad.add (i.toNat * 5)).block,(ad.add (i.toNat * 5)).off+4,none⟩=some (i_ (rd_T77 xs i).f4):=by
  obtain⟨ad,c,e,_,hK,hc0⟩:=Kd.C_get h z77 i h0 h1;have hc:∀ j u,c[j]? = some u→w.cell? (ad.add (i.toNat * 5+j))=some u:=hc0;obtain rfl:=k77_open hK;exact⟨ad,e,hc 0 _ rfl,by rw[← add_field _ _ 1 (by omega)];exact hc 1 _ rfl,by rw[← add_field _ _ 2 (by omega)];exact hc 2 _ rfl,by rw[← add_field _ _ 3 (by omega)];exact hc 3 _ rfl,by rw[← add_field _ _ 4 (by omega)];exact hc 4 _ rfl⟩

def rd_L3 (xs:List (List S77)) (i:Int):(List S77):=xs.getD i.toNat ([]:List S77)
theorem at_L3 {w:World} {A:Option Addr} {n:Nat} {xs:List (List S77)} (h:Kd.C (Kd.slice 77 k77) w A n xs) (i:Int) (h0:0≤i) (h1:i < n):∃ ad A0 c0,A=some ad∧w.cell? (ad.add i.toNat)=some (.slice A0 (rd_L3 xs i).length c0)∧(rd_L3 xs i).length≤c0∧k77.C w A0 (rd_L3 xs i).length (rd_L3 xs i):=by
  obtain⟨ad,c,e,_,hK,hc0⟩:=Kd.C_get h ([]:List S77) i h0 h1;have hc:∀ j u,c[j]? = some u→w.cell? (ad.add (i.toNat * 1+j))=some u:=hc0;obtain⟨A0,c0,rfl,l0,g0⟩:=hK;exact⟨ad,A0,c0,e,by have hq:=hc 0 _ rfl;rwa [Nat.mul_one,Nat.add_zero]at hq,l0,g0⟩

/-! #### struct type 47 -/
structure S47 where
  f0:Int
  f1:Int
def z47:S47:=⟨(0:Int),(0:Int)⟩
def k47:Kd S47:=Kd.iso (Kd.pair (Kd.int .i64) (Kd.int .i64)) (fun x:S47=>(x.f0,x.f1))
theorem k47_open {w:World} {x:S47} {cs:List Value} (h:k47.K w x cs):cs=[i_ x.f0,i_ x.f1]:=by
  obtain⟨_,_,rfl,rfl,rfl⟩:=h;exact rfl
theorem k47_openM {w:World} {base:Nat} {ok:Nat→Prop} {x:S47} {cs:List Value} (h:k47.M w base ok x cs):cs=[i_ x.f0,i_ x.f1]:=by
  obtain⟨_,_,rfl,rfl,rfl⟩:=h;exact rfl
theorem k47_mk (w:World) (x:S47)  : k47.K w x [i_ x.f0,i_ x.f1]:=⟨[i_ x.f0],[i_ x.f1],rfl,rfl,rfl⟩
theorem k47_mkM (w:World) (base:Nat) (ok:Nat→Prop) (x:S47)  : k47.M w base ok x [i_ x.f0,i_ x.f1]:=⟨[i_ x.f0],[i_ x.f1],rfl,rfl,rfl⟩
theorem k47_mkF (W:World) (ok:Nat→Prop) (x:S47):Kd.FK k47 W ok x [i_ x.f0,i_ x.f1]:=fun W2 _=>k47_mk W2 x
def rd_T47 (xs:List S47) (i:Int):S47:=xs.getD i.toNat z47
theorem at_T47 {w:World} {A:Option Addr} {n:Nat} {xs:List S47} (h:Kd.C k47 w A n xs) (i:Int) (h0:0≤i) (h1:i < n):∃ ad,A=some ad∧w.cell? (ad.add (i.toNat * 2))=some (i_ (rd_T47 xs i).f0)∧w.cell? ⟨(ad.add (i.toNat * 2)).block,(ad.add (i.toNat * 2)).off+1,none⟩=some (i_ (rd_T47 xs i).f1):=by
  obtain⟨ad,c,e,_,hK,hc0⟩:=Kd.C_get h z47 i h0 h1;have hc:∀ j u,c[j]? = some u→w.cell? (ad.add (i.toNat * 2+j))=some u:=hc0;obtain rfl:=k47_open hK;exact⟨ad,e,hc 0 _ rfl,by rw[← add_field _ _ 1 (by omega)];exact hc 1 _ rfl⟩

/-! #### struct type 58 -/
structure S58 where
  f0:Int
  f1:Int
def z58:S58:=⟨(0:Int),(0:Int)⟩
def k58:Kd S58:=Kd.iso (Kd.pair (Kd.int .i64) (Kd.int .i64)) (fun x:S58=>(x.f0,x.f1))
theorem k58_open {w:World} {x:S58} {cs:List Value} (h:k58.K w x cs):cs=[i_ x.f0,i_ x.f1]:=by
  obtain⟨_,_,rfl,rfl,rfl⟩:=h;exact rfl
theorem k58_openM {w:World} {base:Nat} {ok:Nat→Prop} {x:S58} {cs:List Value} (h:k58.M w base ok x cs):cs=[i_ x.f0,i_ x.f1]:=by
  obtain⟨_,_,rfl,rfl,rfl⟩:=h;exact rfl
theorem k58_mk (w:World) (x:S58)  : k58.K w x [i_ x.f0,i_ x.f1]:=⟨[i_ x.f0],[i_ x.f1],rfl,rfl,rfl⟩
theorem k58_mkM (w:World) (base:Nat) (ok:Nat→Prop) (x:S58)  : k58.M w base ok x [i_ x.f0,i_ x.f1]:=⟨[i_ x.f0],[i_ x.f1],rfl,rfl,rfl⟩
theorem k58_mkF (W:World) (ok:Nat→Prop) (x:S58):Kd.FK k58 W ok x [i_ x.f0,i_ x.f1]:=fun W2 _=>k58_mk W2 x
def rd_T58 (xs:List S58) (i:Int):S58:=xs.getD i.toNat z58
theorem at_T58 {w:World} {A:Option Addr} {n:Nat} {xs:List S58} (h:Kd.C k58 w A n xs) (i:Int) (h0:0≤i) (h1:i < n):∃ ad,A=some ad∧w.cell? (ad.add (i.toNat * 2))=some (i_ (rd_T58 xs i).f0)∧w.cell? ⟨(ad.add (i.toNat * 2)).block,(ad.add (i.toNat * 2)).off+1,none⟩=some (i_ (rd_T58 xs i).f1):=by
  obtain⟨ad,c,e,_,hK,hc0⟩:=Kd.C_get h z58 i h0 h1;have hc:∀ j u,c[j]? = some u→w.cell? (ad.add (i.toNat * 2+j))=some u:=hc0;obtain rfl:=k58_open hK;exact⟨ad,e,hc 0 _ rfl,by rw[← add_field _ _ 1 (by omega)];exact hc 1 _ rfl⟩

def rd_L6 (xs:List (List (List S77))) (i:Int):(List (List S77)):=xs.getD i.toNat ([]:List (List S77))
theorem at_L6 {w:World} {A:Option Addr} {n:Nat} {xs:List (List (List S77))} (h:Kd.C (Kd.slice 83 (Kd.slice 77 k77)) w A n xs) (i:Int) (h0:0≤i) (h1:i < n):∃ ad A0 c0,A=some ad∧w.cell? (ad.add i.toNat)=some (.slice A0 (rd_L6 xs i).length c0)∧(rd_L6 xs i).length≤c0∧(Kd.slice 77 k77).C w A0 (rd_L6 xs i).length (rd_L6 xs i):=by
  obtain⟨ad,c,e,_,hK,hc0⟩:=Kd.C_get h ([]:List (List S77)) i h0 h1;have hc:∀ j u,c[j]? = some u→w.cell? (ad.add (i.toNat * 1+j))=some u:=hc0;obtain⟨A0,c0,rfl,l0,g0⟩:=hK;exact⟨ad,A0,c0,e,by have hq:=hc 0 _ rfl;rwa [Nat.mul_one,Nat.add_zero]at hq,l0,g0⟩

/-! #### struct type 39 -/
structure S39 where
  f0:(List (List S77))
def z39:S39:=⟨([]:List (List S77))⟩
def k39:Kd S39:=Kd.iso (Kd.slice 83 (Kd.slice 77 k77)) (fun x:S39=>x.f0)
theorem k39_open {w:World} {x:S39} {cs:List Value} (h:k39.K w x cs):∃ A0 c0,cs=[.slice A0 x.f0.length c0]∧x.f0.length≤c0∧(Kd.slice 77 k77).C w A0 x.f0.length x.f0:=by
  obtain⟨A0,c0,rfl,l0,g0⟩:=h;exact⟨A0,c0,rfl,l0,g0⟩
theorem k39_openM {w:World} {base:Nat} {ok:Nat→Prop} {x:S39} {cs:List Value} (h:k39.M w base ok x cs):∃ v0,cs=[v0]∧(Kd.slice 77 k77).R 83 w base ok v0 x.f0:=by
  obtain⟨v0,rfl,g0⟩:=h;exact⟨v0,rfl,g0⟩
theorem k39_mk (w:World) (x:S39) {A0:Option Addr} {c0:Nat} (l0:x.f0.length≤c0) (g0:(Kd.slice 77 k77).C w A0 x.f0.length x.f0):k39.K w x [.slice A0 x.f0.length c0]:=⟨A0,c0,rfl,l0,g0⟩
theorem k39_mkM (w:World) (base:Nat) (ok:Nat→Prop) (x:S39) {v0:Value} (g0:(Kd.slice 77 k77).R 83 w base ok v0 x.f0):k39.M w base ok x [v0]:=⟨v0,rfl,g0⟩
theorem k39_openF {W:World} {ok:Nat→Prop} {x:S39} {cs:List Value} (h:Kd.FK k39 W ok x cs):∃ A0 c0,cs=[.slice A0 x.f0.length c0]∧x.f0.length≤c0∧Kd.F (Kd.slice 77 k77) W ok A0 x.f0.length x.f0:=by
  obtain⟨A0,c0,rfl,l0,_⟩:=k39_open (Kd.FK_now h);exact⟨A0,c0,rfl,l0,(fun W' hW=>by obtain⟨A0_,c0_,he,l0_,g0_⟩:=k39_open (h W' hW);injection (Option.some.inj (show some (Value.slice A0 x.f0.length c0)=some (Value.slice A0_ x.f0.length c0_) from congrArg (fun l=>l[0]?) he)) with ha_ _ _;rw[ha_];exact g0_)⟩
theorem k39_mkF (W:World) (ok:Nat→Prop) (x:S39) {A0:Option Addr} {c0:Nat} (l0:x.f0.length≤c0) (g0:Kd.F (Kd.slice 77 k77) W ok A0 x.f0.length x.f0):Kd.FK k39 W ok x [.slice A0 x.f0.length c0]:=fun W2 hW=>k39_mk W2 x l0 (g0 W2 hW)
def rd_T39 (xs:List S39) (i:Int):S39:=xs.getD i.toNat z39
theorem at_T39 {w:World} {A:Option Addr} {n:Nat} {xs:List S39} (h:Kd.C k39 w A n xs) (i:Int) (h0:0≤i) (h1:i < n):∃ ad A0 c0,A=some ad∧w.cell? (ad.add i.toNat)=some (.slice A0 (rd_T39 xs i).f0.length c0)∧(rd_T39 xs i).f0.length≤c0∧(Kd.slice 77 k77).C w A0 (rd_T39 xs i).f0.length (rd_T39 xs i).f0:=by
  obtain⟨ad,c,e,_,hK,hc0⟩:=Kd.C_get h z39 i h0 h1;have hc:∀ j u,c[j]? = some u→w.cell? (ad.add (i.toNat * 1+j))=some u:=hc0;obtain⟨A0,c0,rfl,l0,g0⟩:=k39_open hK;exact⟨ad,A0,c0,e,by have hq:=hc 0 _ rfl;rwa [Nat.mul_one,Nat.add_zero]at hq,l0,g0⟩

def rd_L8 (xs:List (List S47)) (i:Int):(List S47):=xs.getD i.toNat ([]:List S47)
theorem at_L8 {w:World} {A:Option Addr} {n:Nat} {xs:List (List S47)} (h:Kd.C (Kd.slice 47 k47) w A n xs) (i:Int) (h0:0≤i) (h1:i < n):∃ ad A0 c0,A=some ad∧w.cell? (ad.add i.toNat)=some (.slice A0 (rd_L8 xs i).length c0)∧(rd_L8 xs i).length≤c0∧k47.C w A0 (rd_L8 xs i).length (rd_L8 xs i):=by
  obtain⟨ad,c,e,_,hK,hc0⟩:=Kd.C_get h ([]:List S47) i h0 h1;have hc:∀ j u,c[j]? = some u→w.cell? (ad.add (i.toNat * 1+j))=some u:=hc0;obtain⟨A0,c0,rfl,l0,g0⟩:=hK;exact⟨ad,A0,c0,e,by have hq:=hc 0 _ rfl;rwa [Nat.mul_one,Nat.add_zero]at hq,l0,g0⟩

def rd_L9 (xs:List (List S58)) (i:Int):(List S58):=xs.getD i.toNat ([]:List S58)
theorem at_L9 {w:World} {A:Option Addr} {n:Nat} {xs:List (List S58)} (h:Kd.C (Kd.slice 58 k58) w A n xs) (i:Int) (h0:0≤i) (h1:i < n):∃ ad A0 c0,A=some ad∧w.cell? (ad.add i.toNat)=some (.slice A0 (rd_L9 xs i).length c0)∧(rd_L9 xs i).length≤c0∧k58.C w A0 (rd_L9 xs i).length (rd_L9 xs i):=by
  obtain⟨ad,c,e,_,hK,hc0⟩:=Kd.C_get h ([]:List S58) i h0 h1;have hc:∀ j u,c[j]? = some u→w.cell? (ad.add (i.toNat * 1+j))=some u:=hc0;obtain⟨A0,c0,rfl,l0,g0⟩:=hK;exact⟨ad,A0,c0,e,by have hq:=hc 0 _ rfl;rwa [Nat.mul_one,Nat.add_zero]at hq,l0,g0⟩

/-! #### struct type 29 -/
structure S29 where
  f0:Int
  f1:Int
  f2:Int
  f3:Int
  f4:Int
  f5:Int
  f6:Int
  f7:(List S47)
  f8:(List S58)
def z29:S29:=⟨(0:Int),(0:Int),(0:Int),(0:Int),(0:Int),(0:Int),(0:Int),([]:List S47),([]:List S58)⟩
def k29:Kd S29:=Kd.iso (Kd.pair (Kd.int .i64) (Kd.pair (Kd.int .i64) (Kd.pair (Kd.int .i64) (Kd.pair (Kd.int .i64) (Kd.pair (Kd.int .i64) (Kd.pair (Kd.int .i64) (Kd.pair (Kd.int .i64) (Kd.pair (Kd.slice 47 k47) (Kd.slice 58 k58))))))))) (fun x:S29=>(x.f0,x.f1,x.f2,x.f3,x.f4,x.f5,x.f6,x.f7,x.f8))
theorem k29_open {w:World} {x:S29} {cs:List Value} (h:k29.K w x cs):∃ A7 c7 A8 c8,cs=[i_ x.f0,i_ x.f1,i_ x.f2,i_ x.f3,i_ x.f4,i_ x.f5,i_ x.f6,.slice A7 x.f7.length c7,.slice A8 x.f8.length c8]∧x.f7.length≤c7∧k47.C w A7 x.f7.length x.f7∧x.f8.length≤c8∧k58.C w A8 x.f8.length x.f8:=by
  obtain⟨_,_,rfl,rfl,⟨_,_,rfl,rfl,⟨_,_,rfl,rfl,⟨_,_,rfl,rfl,⟨_,_,rfl,rfl,⟨_,_,rfl,rfl,⟨_,_,rfl,rfl,⟨_,_,rfl,⟨A7,c7,rfl,l7,g7⟩,⟨A8,c8,rfl,l8,g8⟩⟩⟩⟩⟩⟩⟩⟩⟩:=h;exact⟨A7,c7,A8,c8,rfl,l7,g7,l8,g8⟩
theorem k29_openM {w:World} {base:Nat} {ok:Nat→Prop} {x:S29} {cs:List Value} (h:k29.M w base ok x cs):∃ v7 v8,cs=[i_ x.f0,i_ x.f1,i_ x.f2,i_ x.f3,i_ x.f4,i_ x.f5,i_ x.f6,v7,v8]∧k47.R 47 w base ok v7 x.f7∧k58.R 58 w base ok v8 x.f8:=by
  obtain⟨_,_,rfl,rfl,⟨_,_,rfl,rfl,⟨_,_,rfl,rfl,⟨_,_,rfl,rfl,⟨_,_,rfl,rfl,⟨_,_,rfl,rfl,⟨_,_,rfl,rfl,⟨_,_,rfl,⟨v7,rfl,g7⟩,⟨v8,rfl,g8⟩⟩⟩⟩⟩⟩⟩⟩⟩:=h;exact⟨v7,v8,rfl,g7,g8⟩
theorem k29_mk (w:World) (x:S29) {A7:Option Addr} {c7:Nat} (l7:x.f7.length≤c7) (g7:k47.C w A7 x.f7.length x.f7) {A8:Option Addr} {c8:Nat} (l8:x.f8.length≤c8) (g8:k58.C w A8 x.f8.length x.f8):k29.K w x [i_ x.f0,i_ x.f1,i_ x.f2,i_ x.f3,i_ x.f4,i_ x.f5,i_ x.f6,.slice A7 x.f7.length c7,.slice A8 x.f8.length c8]:=⟨[i_ x.f0],[i_ x.f1,i_ x.f2,i_ x.f3,i_ x.f4,i_ x.f5,i_ x.f6,.slice A7 x.f7.length c7,.slice A8 x.f8.length c8],rfl,rfl,⟨[i_ x.f1],[i_ x.f2,i_ x.f3,i_ x.f4,i_ x.f5,i_ x.f6,.slice A7 x.f7.length c7,.slice A8 x.f8.length c8],rfl,rfl,⟨[i_ x.f2],[i_ x.f3,i_ x.f4,i_ x.f5,i_ x.f6,.slice A7 x.f7.length c7,.slice A8 x.f8.length c8],rfl,rfl,⟨[i_ x.f3],[i_ x.f4,i_ x.f5,i_ x.f6,.slice A7 x.f7.length c7,.slice A8 x.f8.length c8],rfl,rfl,⟨[i_ x.f4],[i_ x.f5,i_ x.f6,.slice A7 x.f7.length c7,.slice A8 x.f8.length c8],rfl,rfl,⟨[i_ x.f5],[i_ x.f6,.slice A7 x.f7.length c7,.slice A8 x.f8.length c8],rfl,rfl,⟨[i_ x.f6],[.slice A7 x.f7.length c7,.slice A8 x.f8.length c8],rfl,rfl,⟨[.slice A7 x.f7.length c7],[.slice A8 x.f8.length c8],rfl,⟨A7,c7,rfl,l7,g7⟩,⟨A8,c8,rfl,l8,g8⟩⟩⟩⟩⟩⟩⟩⟩⟩
theorem k29_mkM (w:World) (base:Nat) (ok:Nat→Prop) (x:S29) {v7:Value} (g7:k47.R 47 w base ok v7 x.f7) {v8:Value} (g8:k58.R 58 w base ok v8 x.f8):k29.M w base ok x [i_ x.f0,i_ x.f1,i_ x.f2,i_ x.f3,i_ x.f4,i_ x.f5,i_ x.f6,v7,v8]:=⟨[i_ x.f0],[i_ x.f1,i_ x.f2,i_ x.f3,i_ x.f4,i_ x.f5,i_ x.f6,v7,v8],rfl,rfl,⟨[i_ x.f1],[i_ x.f2,i_ x.f3,i_ x.f4,i_ x.f5,i_ x.f6,v7,v8],rfl,rfl,⟨[i_ x.f2],[i_ x.f3,i_ x.f4,i_ x.f5,i_ x.f6,v7,v8],rfl,rfl,⟨[i_ x.f3],[i_ x.f4,i_ x.f5,i_ x.f6,v7,v8],rfl,rfl,⟨[i_ x.f4],[i_ x.f5,i_ x.f6,v7,v8],rfl,rfl,⟨[i_ x.f5],[i_ x.f6,v7,v8],rfl,rfl,⟨[i_ x.f6],[v7,v8],rfl,rfl,⟨[v7],[v8],rfl,⟨v7,rfl,g7⟩,⟨v8,rfl,g8⟩⟩⟩⟩⟩⟩⟩⟩⟩
theorem k29_openF {W:World} {ok:Nat→Prop} {x:S29} {cs:List Value} (h:Kd.FK k29 W ok x cs):∃ A7 c7 A8 c8,cs=[i_ x.f0,i_ x.f1,i_ x.f2,i_ x.f3,i_ x.f4,i_ x.f5,i_ x.f6,.slice A7 x.f7.length c7,.slice A8 x.f8.length c8]∧x.f7.length≤c7∧Kd.F k47 W ok A7 x.f7.length x.f7∧x.f8.length≤c8∧Kd.F k58 W ok A8 x.f8.length x.f8:=by
  obtain⟨A7,c7,A8,c8,rfl,l7,_,l8,_⟩:=k29_open (Kd.FK_now h);exact⟨A7,c7,A8,c8,rfl,l7,(fun W' hW=>by obtain⟨A7_,c7_,A8_,c8_,he,l7_,g7_,l8_,g8_⟩:=k29_open (h W' hW);injection (Option.some.inj (show some (Value.slice A7 x.f7.length c7)=some (Value.slice A7_ x.f7.length c7_) from congrArg (fun l=>l[7]?) he)) with ha_ _ _;rw[ha_];exact g7_),l8,(fun W' hW=>by obtain⟨A7_,c7_,A8_,c8_,he,l7_,g7_,l8_,g8_⟩:=k29_open (h W' hW);injection (Option.some.inj (show some (Value.slice A8 x.f8.length c8)=some (Value.slice A8_ x.f8.length c8_) from congrArg (fun l=>l[8]?) he)) with ha_ _ _;rw[ha_];exact g8_)⟩
theorem k29_mkF (W:World) (ok:Nat→Prop) (x:S29) {A7:Option Addr} {c7:Nat} (l7:x.f7.length≤c7) (g7:Kd.F k47 W ok A7 x.f7.length x.f7) {A8:Option Addr} {c8:Nat} (l8:x.f8.length≤c8) (g8:Kd.F k58 W ok A8 x.f8.length x.f8):Kd.FK k29 W ok x [i_ x.f0,i_ x.f1,i_ x.f2,i_ x.f3,i_ x.f4,i_ x.f5,i_ x.f6,.slice A7 x.f7.length c7,.slice A8 x.f8.length c8]:=fun W2 hW=>k29_mk W2 x l7 (g7 W2 hW) l8 (g8 W2 hW)
def rd_T29 (xs:List S29) (i:Int):S29:=xs.getD i.toNat z29
theorem at_T29 {w:World} {A:Option Addr} {n:Nat} {xs:List S29} (h:Kd.C k29 w A n xs) (i:Int) (h0:0≤i) (h1:i < n):∃ ad A7 c7 A8 c8,A=some ad∧w.cell? (ad.add (i.toNat * 9))=some (i_ (rd_T29 xs i).f0)∧w.cell? ⟨(ad.add (i.toNat * 9)).block,(ad.add (i.toNat * 9)).off+1,none⟩=some (i_ (rd_T29 xs i).f1)∧w.cell? ⟨(ad.add (i.toNat * 9)).block,(ad.add (i.toNat * 9)).off+2,none⟩=some (i_ (rd_T29 xs i).f2)∧w.cell? ⟨(ad.add (i.toNat * 9)).block,(ad.add (i.toNat * 9)).off+3,none⟩=some (i_ (rd_T29 xs i).f3)∧w.cell? ⟨(ad.add (i.toNat * 9)).block,(ad.add (i.toNat * 9)).off+4,none⟩=some (i_ (rd_T29 xs i).f4)∧w.cell? ⟨(ad.add (i.toNat * 9)).block,(ad.add (i.toNat * 9)).off+5,none⟩=some (i_ (rd_T29 xs i).f5)∧w.cell? ⟨(ad.add (i.toNat * 9)).block,(ad.add (i.toNat * 9)).off+6,none⟩=some (i_ (rd_T29 xs i).f6)∧w.cell? ⟨(ad.add (i.toNat * 9)).block,(ad.add (i.toNat * 9)).off+7,none⟩=some (.slice A7 (rd_T29 xs i).f7.length c7)∧w.cell? ⟨(ad.add (i.toNat * 9)).block,(ad.add (i.toNat * 9)).off+8,none⟩=some (.slice A8 (rd_T29 xs i).f8.length c8)∧(rd_T29 xs i).f7.length≤c7∧k47.C w A7 (rd_T29 xs i).f7.length (rd_T29 xs i).f7∧(rd_T29 xs i).f8.length≤c8∧k58.C w A8 (rd_T29 xs i).f8.length (rd_T29 xs i).f8:=by
  obtain⟨ad,c,e,_,hK,hc0⟩:=Kd.C_get h z29 i h0 h1;have hc:∀ j u,c[j]? = some u→w.cell? (ad.add (i.toNat * 9+j))=some u:=hc0;obtain⟨A7,c7,A8,c8,rfl,l7,g7,l8,g8⟩:=k29_open hK;exact⟨ad,A7,c7,A8,c8,e,hc 0 _ rfl,by rw[← add_field _ _ 1 (by omega)];exact hc 1 _ rfl,by rw[← add_field _ _ 2 (by omega)];exact hc 2 _ rfl,by rw[← add_field _ _ 3 (by omega)];exact hc 3 _ rfl,by rw[← add_field _ _ 4 (by omega)];exact hc 4 _ rfl,by rw[← add_field _ _ 5 (by omega)];exact hc 5 _ rfl,by rw[← add_field _ _ 6 (by omega)];exact hc 6 _ rfl,by rw[← add_field _ _ 7 (by omega)];exact hc 7 _ rfl,by rw[← add_field _ _ 8 (by omega)];exact hc 8 _ rfl,l7,g7,l8,g8⟩

end Go.Proofs.Ytacdaekigoldaaa.PFnExclusion
