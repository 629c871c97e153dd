/- Px0: texts of this claim, in one. -/
import Derived.Test.YthmpgocaoccnaaaGreatDoorProg
import Derived.Below
import Derived.Deep.Draws
import Derived.Deep.AppendLies
import Derived.Maps.AppendAt
import Derived.OwnWalk
import Derived.Laws.BytesArg
import Derived.Laws.MakeOwn
import Derived.Laws.OwnMore
import Derived.Deep.OwnRows
import Derived.Tactics
import Derived.Lib.ConvBytes
import Derived.Laws.Slices
import Derived.WalkKit
import Derived.KernelRfl
import Derived.RowKit3
import Derived.Deep.LoopGhost
import Derived.Deep.QuietTactic
import Derived.BigQuiet
import Derived.WideLaws
import Derived.Deep.DeepCutAuto
import Derived.Deep.CutBlock
import Derived.Deep.RegionHeld3
import Derived.Laws.Rows
import Derived.Lib.AppendStr
import Derived.ArgAppend
import Derived.Laws.IdiomCopy
import Derived.OrdersHeld
import Derived.Laws.BitsLemmas
import Derived.RowKit
import Derived.Test.YthmpgocaoccnaaaGreatDoorVFnFreshWWords
import Derived.Test.YthmpgocaoccnaaaGreatDoorVFnFreshWLast
import Derived.Test.YthmpgocaoccnaaaGreatDoorVFnFreshWTab
import Derived.Test.YthmpgocaoccnaaaGreatDoorVFnFreshWFour
import Derived.Test.YthmpgocaoccnaaaGreatDoorVFnFreshWQPut
import Derived.Test.YthmpgocaoccnaaaGreatDoorVFnFreshWApart
import Derived.Test.YthmpgocaoccnaaaGreatDoorVFnFreshWArr
import Derived.Test.YthmpgocaoccnaaaGreatDoorVFnFreshWZeros
import Derived.Test.YthmpgocaoccnaaaGreatDoorVFnFreshWFoot
import Derived.Test.YthmpgocaoccnaaaGreatDoorVFnFreshWKept
import Derived.Test.YthmpgocaoccnaaaGreatDoorVFnFreshWShare
import Derived.Test.YthmpgocaoccnaaaGreatDoorVFnFreshWN
import Derived.Test.YthmpgocaoccnaaaGreatDoorVFnFreshWFootNe
import Derived.Test.YthmpgocaoccnaaaGreatDoorVFnFreshWAt
import Derived.Test.YthmpgocaoccnaaaGreatDoorVFnFreshWEqStruct
import Derived.Test.YthmpgocaoccnaaaGreatDoorVFnFreshWRepsOne
import Derived.Test.YthmpgocaoccnaaaGreatDoorVFnFreshWInv
import Derived.Test.YthmpgocaoccnaaaGreatDoorVFnFreshWInvWords
import Derived.Test.YthmpgocaoccnaaaGreatDoorVFnFreshWGuard
import Derived.Test.YthmpgocaoccnaaaGreatDoorVFnFreshWNEv
import Derived.Test.YthmpgocaoccnaaaGreatDoorVFnFreshWMore
import Derived.Test.YthmpgocaoccnaaaGreatDoorVFnFreshAux
import Derived.Test.YthmpgocaoccnaaaGreatDoorVFnFreshShelf
import Derived.Test.YthmpgocaoccnaaaGreatDoorVFnFreshSorts
namespace Go.Proofs.YthmpgocaoccnaaaGreatDoor.PFnFresh
open Go.RowKit Go.Proofs.YthmpgocaoccnaaaGreatDoorW.PrintWords Go.Proofs.YthmpgocaoccnaaaGreatDoorW.PrintLast Go.Proofs.YthmpgocaoccnaaaGreatDoorW.PrintMore
attribute [local go_sem] max2_int min2_int max_two min_two max_three min_three max_four min_four
set_option linter.unusedVariables false
set_option linter.unusedSimpArgs false
def errW:Option Int -> Value
 | none=>.nilIface
 | some c=>.iface 0 (.int .i64 c)
theorem errW_none:errW none=.nilIface:=rfl
theorem errW_some (c:Int):errW (some c)=.iface 0 (.int .i64 c):=rfl
theorem info3:(Tryz.prog.info? 3).map (fun i=>(i.zero,i.size,i.bytes))=some (some (.int .i64 0),1,8):=by kernel_rfl
theorem info5:(Tryz.prog.info? 5).map (fun i=>(i.zero,i.size,i.bytes))=some (some (.int .u8 0),1,1):=by kernel_rfl
theorem info9:(Tryz.prog.info? 9).map (fun i=>(i.zero,i.size,i.bytes))=some (some (.string ⟨#[]⟩),1,16):=by kernel_rfl
theorem info26:(Tryz.prog.info? 26).map (fun i=>(i.zero,i.size,i.bytes))=some (some (.slice none 0 0),1,24):=by kernel_rfl
theorem info30:(Tryz.prog.info? 30).map (fun i=>(i.zero,i.size,i.bytes))=some (some (.agg #[(.int .i64 0),(.int .i64 0)]),2,16):=by kernel_rfl
theorem info45:(Tryz.prog.info? 45).map (fun i=>(i.zero,i.size,i.bytes))=some (some (.agg #[(.int .i64 0),(.int .i64 0),(.int .i64 0),(.int .i64 0),(.int .i64 0),(.string ⟨#[]⟩),(.string ⟨#[]⟩)]),7,72):=by kernel_rfl
structure S45 where
 f0:Int
 f1:Int
 f2:Int
 f3:Int
 f4:Int
 f5:ByteArray
 f6:ByteArray
def z45:S45:=⟨(0:Int),(0:Int),(0:Int),(0:Int),(0:Int),(⟨#[]⟩:ByteArray),(⟨#[]⟩:ByteArray)⟩
def k45:Kd S45:=Kd.iso (Kd.pair (Kd.int .i64) (Kd.pair (Kd.int .i64) (Kd.pair (Kd.int .i64) (Kd.pair (Kd.int .i64) (Kd.pair (Kd.int .i64) (Kd.pair Kd.string Kd.string)))))) (fun x:S45=>(x.f0,x.f1,x.f2,x.f3,x.f4,x.f5,x.f6))
theorem k45_open {w:World} {x:S45} {cs:List Value} (h:k45.K w x cs):cs=[.int .i64 x.f0,.int .i64 x.f1,.int .i64 x.f2,.int .i64 x.f3,.int .i64 x.f4,.string x.f5,.string x.f6]:=by
 obtain ⟨_,_,rfl,rfl,⟨_,_,rfl,rfl,⟨_,_,rfl,rfl,⟨_,_,rfl,rfl,⟨_,_,rfl,rfl,⟨_,_,rfl,rfl,rfl⟩⟩⟩⟩⟩⟩:=h
 exact rfl
theorem k45_openM {w:World} {base:Nat} {ok:Nat -> Prop} {x:S45} {cs:List Value} (h:k45.M w base ok x cs):cs=[.int .i64 x.f0,.int .i64 x.f1,.int .i64 x.f2,.int .i64 x.f3,.int .i64 x.f4,.string x.f5,.string x.f6]:=by
 obtain ⟨_,_,rfl,rfl,⟨_,_,rfl,rfl,⟨_,_,rfl,rfl,⟨_,_,rfl,rfl,⟨_,_,rfl,rfl,⟨_,_,rfl,rfl,rfl⟩⟩⟩⟩⟩⟩:=h
 exact rfl
theorem k45_mk (w:World) (x:S45) :k45.K w x [.int .i64 x.f0,.int .i64 x.f1,.int .i64 x.f2,.int .i64 x.f3,.int .i64 x.f4,.string x.f5,.string x.f6]:=⟨[.int .i64 x.f0],[.int .i64 x.f1,.int .i64 x.f2,.int .i64 x.f3,.int .i64 x.f4,.string x.f5,.string x.f6],rfl,rfl,⟨[.int .i64 x.f1],[.int .i64 x.f2,.int .i64 x.f3,.int .i64 x.f4,.string x.f5,.string x.f6],rfl,rfl,⟨[.int .i64 x.f2],[.int .i64 x.f3,.int .i64 x.f4,.string x.f5,.string x.f6],rfl,rfl,⟨[.int .i64 x.f3],[.int .i64 x.f4,.string x.f5,.string x.f6],rfl,rfl,⟨[.int .i64 x.f4],[.string x.f5,.string x.f6],rfl,rfl,⟨[.string x.f5],[.string x.f6],rfl,rfl,rfl⟩⟩⟩⟩⟩⟩
theorem k45_mkM (w:World) (base:Nat) (ok:Nat -> Prop) (x:S45) :k45.M w base ok x [.int .i64 x.f0,.int .i64 x.f1,.int .i64 x.f2,.int .i64 x.f3,.int .i64 x.f4,.string x.f5,.string x.f6]:=⟨[.int .i64 x.f0],[.int .i64 x.f1,.int .i64 x.f2,.int .i64 x.f3,.int .i64 x.f4,.string x.f5,.string x.f6],rfl,rfl,⟨[.int .i64 x.f1],[.int .i64 x.f2,.int .i64 x.f3,.int .i64 x.f4,.string x.f5,.string x.f6],rfl,rfl,⟨[.int .i64 x.f2],[.int .i64 x.f3,.int .i64 x.f4,.string x.f5,.string x.f6],rfl,rfl,⟨[.int .i64 x.f3],[.int .i64 x.f4,.string x.f5,.string x.f6],rfl,rfl,⟨[.int .i64 x.f4],[.string x.f5,.string x.f6],rfl,rfl,⟨[.string x.f5],[.string x.f6],rfl,rfl,rfl⟩⟩⟩⟩⟩⟩
theorem k45_mkF (W:World) (ok:Nat -> Prop) (x:S45):Kd.FK k45 W ok x [.int .i64 x.f0,.int .i64 x.f1,.int .i64 x.f2,.int .i64 x.f3,.int .i64 x.f4,.string x.f5,.string x.f6]:=fun W2 _=>k45_mk W2 x
def rd_T45 (xs:List S45) (i:Int):S45:=xs.getD i.toNat z45
theorem at_T45 {w:World} {A:Option Addr} {n:Nat} {xs:List S45} (h:Kd.C k45 w A n xs) (i:Int) (h0:0 <= i) (h1:i<n):∃ ad ,A=some ad /\ w.cell? (ad.add (i.toNat * 7))=some (.int .i64 (rd_T45 xs i).f0) /\ w.cell? ⟨(ad.add (i.toNat * 7)).block,(ad.add (i.toNat * 7)).off+1,none⟩=some (.int .i64 (rd_T45 xs i).f1) /\ w.cell? ⟨(ad.add (i.toNat * 7)).block,(ad.add (i.toNat * 7)).off+2,none⟩=some (.int .i64 (rd_T45 xs i).f2) /\ w.cell? ⟨(ad.add (i.toNat * 7)).block,(ad.add (i.toNat * 7)).off+3,none⟩=some (.int .i64 (rd_T45 xs i).f3) /\ w.cell? ⟨(ad.add (i.toNat * 7)).block,(ad.add (i.toNat * 7)).off+4,none⟩=some (.int .i64 (rd_T45 xs i).f4) /\ w.cell? ⟨(ad.add (i.toNat * 7)).block,(ad.add (i.toNat * 7)).off+5,none⟩=some (.string (rd_T45 xs i).f5) /\ w.cell? ⟨(ad.add (i.toNat * 7)).block,(ad.add (i.toNat * 7)).off+6,none⟩=some (.string (rd_T45 xs i).f6):=by
 obtain ⟨ad,c,e,_,hK,hc0⟩:=Kd.C_get h z45 i h0 h1
 have hc:∀ j u,c[j]?=some u -> w.cell? (ad.add (i.toNat * 7+j))=some u:=hc0
 obtain rfl:=k45_open hK
 exact ⟨ad,e,hc 0 _ rfl,by rw [<- add_field _ _ 1 (by omega)];exact hc 1 _ rfl,by rw [<- add_field _ _ 2 (by omega)];exact hc 2 _ rfl,by rw [<- add_field _ _ 3 (by omega)];exact hc 3 _ rfl,by rw [<- add_field _ _ 4 (by omega)];exact hc 4 _ rfl,by rw [<- add_field _ _ 5 (by omega)];exact hc 5 _ rfl,by rw [<- add_field _ _ 6 (by omega)];exact hc 6 _ rfl⟩
structure S30 where
 f0:Int
 f1:Int
def z30:S30:=⟨(0:Int),(0:Int)⟩
def k30:Kd S30:=Kd.iso (Kd.pair (Kd.int .i64) (Kd.int .i64)) (fun x:S30=>(x.f0,x.f1))
theorem k30_open {w:World} {x:S30} {cs:List Value} (h:k30.K w x cs):cs=[.int .i64 x.f0,.int .i64 x.f1]:=by
 obtain ⟨_,_,rfl,rfl,rfl⟩:=h
 exact rfl
theorem k30_openM {w:World} {base:Nat} {ok:Nat -> Prop} {x:S30} {cs:List Value} (h:k30.M w base ok x cs):cs=[.int .i64 x.f0,.int .i64 x.f1]:=by
 obtain ⟨_,_,rfl,rfl,rfl⟩:=h
 exact rfl
theorem k30_mk (w:World) (x:S30) :k30.K w x [.int .i64 x.f0,.int .i64 x.f1]:=⟨[.int .i64 x.f0],[.int .i64 x.f1],rfl,rfl,rfl⟩
theorem k30_mkM (w:World) (base:Nat) (ok:Nat -> Prop) (x:S30) :k30.M w base ok x [.int .i64 x.f0,.int .i64 x.f1]:=⟨[.int .i64 x.f0],[.int .i64 x.f1],rfl,rfl,rfl⟩
theorem k30_mkF (W:World) (ok:Nat -> Prop) (x:S30):Kd.FK k30 W ok x [.int .i64 x.f0,.int .i64 x.f1]:=fun W2 _=>k30_mk W2 x
def rd_T30 (xs:List S30) (i:Int):S30:=xs.getD i.toNat z30
theorem at_T30 {w:World} {A:Option Addr} {n:Nat} {xs:List S30} (h:Kd.C k30 w A n xs) (i:Int) (h0:0 <= i) (h1:i<n):∃ ad ,A=some ad /\ w.cell? (ad.add (i.toNat * 2))=some (.int .i64 (rd_T30 xs i).f0) /\ w.cell? ⟨(ad.add (i.toNat * 2)).block,(ad.add (i.toNat * 2)).off+1,none⟩=some (.int .i64 (rd_T30 xs i).f1):=by
 obtain ⟨ad,c,e,_,hK,hc0⟩:=Kd.C_get h z30 i h0 h1
 have hc:∀ j u,c[j]?=some u -> w.cell? (ad.add (i.toNat * 2+j))=some u:=hc0
 obtain rfl:=k30_open hK
 exact ⟨ad,e,hc 0 _ rfl,by rw [<- add_field _ _ 1 (by omega)];exact hc 1 _ rfl⟩
def rd_L5 (xs:List (List S45)) (i:Int):(List S45):=xs.getD i.toNat ([]:List S45)
theorem at_L5 {w:World} {A:Option Addr} {n:Nat} {xs:List (List S45)} (h:Kd.C (Kd.slice 45 k45) w A n xs) (i:Int) (h0:0 <= i) (h1:i<n):∃ ad A0 c0,A=some ad /\ w.cell? (ad.add i.toNat)=some (.slice A0 (rd_L5 xs i).length c0) /\ (rd_L5 xs i).length <= c0 /\ k45.C w A0 (rd_L5 xs i).length (rd_L5 xs i):=by
 obtain ⟨ad,c,e,_,hK,hc0⟩:=Kd.C_get h ([]:List S45) i h0 h1
 have hc:∀ j u,c[j]?=some u -> w.cell? (ad.add (i.toNat * 1+j))=some u:=hc0
 obtain ⟨A0,c0,rfl,l0,g0⟩:=hK
 exact ⟨ad,A0,c0,e,by have hq:=hc 0 _ rfl;rwa [Nat.mul_one,Nat.add_zero] at hq,l0,g0⟩
end Go.Proofs.YthmpgocaoccnaaaGreatDoor.PFnFresh
namespace Go.Proofs.YthmpgocaoccnaaaGreatDoor.PFnFresh
open Go.RowKit Go.Proofs.YthmpgocaoccnaaaGreatDoorW.PrintWords Go.Proofs.YthmpgocaoccnaaaGreatDoorW.PrintLast Go.Proofs.YthmpgocaoccnaaaGreatDoorW.PrintMore
attribute [local go_sem] max2_int min2_int max_two min_two max_three min_three max_four min_four
set_option linter.unusedVariables false
set_option linter.unusedSimpArgs false
theorem eqA30 (d:Nat) (w:World) (x0 y0:Int) (x1 y1:Int) :
  (Op.equalIn (d+2) 30 (.agg #[.int .i64 x0,.int .i64 x1]) (.agg #[.int .i64 y0,.int .i64 y1])).run Tryz.prog w=.ok (x0 == y0 && (x1 == y1)) w:=by
 refine eqA_of Tryz.underlying30 kr ?_
 refine eqf_cons (by rfl) (by go_simp;rfl) (by go_simp;rfl) (by go_simp) ?_
 exact eqf_last (by rfl) (by go_simp;rfl) (by go_simp;rfl) (by go_simp)
end Go.Proofs.YthmpgocaoccnaaaGreatDoor.PFnFresh
namespace Go.Proofs.YthmpgocaoccnaaaGreatDoor.PFnFresh
open Go.RowKit Go.Proofs.YthmpgocaoccnaaaGreatDoorW.PrintWords Go.Proofs.YthmpgocaoccnaaaGreatDoorW.PrintLast Go.Proofs.YthmpgocaoccnaaaGreatDoorW.PrintMore
attribute [local go_sem] max2_int min2_int max_two min_two max_three min_three max_four min_four
set_option linter.unusedVariables false
set_option linter.unusedSimpArgs false
theorem eqA45 (d:Nat) (w:World) (x0 y0:Int) (x1 y1:Int) (x2 y2:Int) (x3 y3:Int) (x4 y4:Int) (x5 y5:ByteArray) (x6 y6:ByteArray) :
  (Op.equalIn (d+2) 45 (.agg #[.int .i64 x0,.int .i64 x1,.int .i64 x2,.int .i64 x3,.int .i64 x4,.string x5,.string x6]) (.agg #[.int .i64 y0,.int .i64 y1,.int .i64 y2,.int .i64 y3,.int .i64 y4,.string y5,.string y6])).run Tryz.prog w=.ok (x0 == y0 && (x1 == y1 && (x2 == y2 && (x3 == y3 && (x4 == y4 && (x5.toList == y5.toList && (x6.toList == y6.toList))))))) w:=by
 refine eqA_of Tryz.underlying45 kr ?_
 refine eqf_cons (by rfl) (by go_simp;rfl) (by go_simp;rfl) (by go_simp) ?_
 refine eqf_cons (by rfl) (by go_simp;rfl) (by go_simp;rfl) (by go_simp) ?_
 refine eqf_cons (by rfl) (by go_simp;rfl) (by go_simp;rfl) (by go_simp) ?_
 refine eqf_cons (by rfl) (by go_simp;rfl) (by go_simp;rfl) (by go_simp) ?_
 refine eqf_cons (by rfl) (by go_simp;rfl) (by go_simp;rfl) (by go_simp) ?_
 refine eqf_cons (by rfl) (by go_simp;rfl) (by go_simp;rfl) (by go_simp) ?_
 exact eqf_last (by rfl) (by go_simp;rfl) (by go_simp;rfl) (by go_simp)
end Go.Proofs.YthmpgocaoccnaaaGreatDoor.PFnFresh
