/- YtdjamdnjkdllgaaGreatDoorVERenameOnePx27: texts of this claim,in one. -/
import Derived.Test.YtdjamdnjkdllgaaGreatDoorVERenameOnePx0
import Derived.Test.YtdjamdnjkdllgaaGreatDoorVERenameOnePx3
import Derived.Test.YtdjamdnjkdllgaaGreatDoorVERenameOnePx14
import Derived.Test.YtdjamdnjkdllgaaGreatDoorVERenameOnePx15
import Derived.Test.YtdjamdnjkdllgaaGreatDoorVERenameOnePx24
import Derived.Test.YtdjamdnjkdllgaaGreatDoorVERenameOnePx25
import Derived.Test.YtdjamdnjkdllgaaGreatDoorVERenameOnePx26
import Derived.Deep.Slices
import Derived.Deep.Fields
import Derived.ChangeArms
import Derived.Test.YtdjamdnjkdllgaaGreatDoorVERenameOneWWords
namespace Go.Proofs.YtdjamdnjkdllgaaGreatDoor.PFnExactRenameOne
open Go.RowKit Go.Proofs.YtdjamdnjkdllgaaGreatDoorW.PrintWords Go.Proofs.YtdjamdnjkdllgaaGreatDoorW.PrintLast Go.Proofs.YtdjamdnjkdllgaaGreatDoorW.PrintMore
attribute [local go_sem] max2_int min2_int max_two min_two max_three min_three max_four min_four
set_option linter.unusedVariables false
set_option linter.unusedSimpArgs false
mutual
def laws_FnExactRenameOne.j0 : Nat -> List (S51) -> ByteArray -> List (S45) -> Bool -> List (S45) -> List (S45) -> Bool -> Bool -> Int -> Int -> Option (Bool)
 | 0,_,_,_,_,_,_,_,_,_,_=>none
 | k + 1,x0,x2,x8,x9,x10,x11,x12,x53,x650000,x650001=>if x53 = true then (some false) else ((laws_toNodeS.f k x0).bind fun t670=>((laws_eqNodeS.f k x10 t670).bind fun t673=>(if t673 = true then ((laws_markNodeS.f k x10 1).bind fun bt674=>(if bt674.1 < 0 then (laws_FnExactRenameOne.j1 k x0 x2 x8 x9 x11 true x650000 x650001) else ((laws_eqNodeS.f k x11 x8).bind fun t676=>(if t676 = true then (laws_FnExactRenameOne.j1 k x0 x2 x8 x9 x11 (x12 != x9) x650000 x650001) else (laws_FnExactRenameOne.j1 k x0 x2 x8 x9 x11 true x650000 x650001))))) else (some false))))
def laws_FnExactRenameOne.j1 : Nat -> List (S51) -> ByteArray -> List (S45) -> Bool -> List (S45) -> Bool -> Int -> Int -> Option (Bool)
 | 0,_,_,_,_,_,_,_,_=>none
 | k + 1,x0,x2,x8,x9,x11,x74,x650000,x650001=>if x74 = true then (some false) else ((laws_markNodeS.f k x11 1).bind fun bt677=>((laws_heldNodeS.f k bt677.2 1).bind fun t679=>(if t679 < 0 then (some false) else (if t679 = bt677.1 then ((laws_toNodeS.f k x0).bind fun t680=>((laws_toBind.f x650000 x650001).bind fun bt683=>((impl_RenameOne.f k t680 bt683.1 bt683.2 x2).bind fun bt685=>((laws_eqNodeS.f k bt685.1 x8).bind fun t689=>(if t689 = true then (laws_FnExactRenameOne.j2 k bt677.2 bt677.1 (bt685.2 != x9)) else (laws_FnExactRenameOne.j2 k bt677.2 bt677.1 true)))))) else (some false)))))
def laws_FnExactRenameOne.j2 : Nat -> List (S45) -> Int -> Bool -> Option (Bool)
 | 0,_,_,_=>none
 | k + 1,x11,x14,x103=>if x103 = true then (some false) else ((laws_heldNodeS.f k x11 1).bind fun t690=>(if t690 < 0 then (some false) else (if t690 = x14 then (some true) else (some false))))
end
def laws_FnExactRenameOne.f (k : Nat) (l0 : List (S51)) (a1_0 : Int) (a1_1 : Int) (a2 : ByteArray) : Option (Bool):= if (a2.size : Int) > 1048576 then (some true) else ((laws_szNodeS.f k l0 1048576).bind fun t650=>(if t650 < 0 then (some true) else ((laws_toNodeS.f k l0).bind fun t651=>((laws_toBind.f a1_0 a1_1).bind fun bt654=>((spec_RenameOne.f k t651 bt654.1 bt654.2 a2).bind fun bt656=>((laws_toNodeS.f k l0).bind fun t660=>((laws_toBind.f a1_0 a1_1).bind fun bt663=>((impl_RenameOne.f k t660 bt663.1 bt663.2 a2).bind fun bt665=>((laws_eqNodeS.f k bt665.1 bt656.1).bind fun t669=>(if t669 = true then (laws_FnExactRenameOne.j0 k l0 a2 bt656.1 bt656.2 t660 bt665.1 bt665.2 (bt665.2 != bt656.2) a1_0 a1_1) else (laws_FnExactRenameOne.j0 k l0 a2 bt656.1 bt656.2 t660 bt665.1 bt665.2 true a1_0 a1_1)))))))))))
theorem laws_FnExactRenameOne.mono_l : ∀ k,(∀ y0 y1 y2 y3 y4 y5 y6 y7 y8 y9,LeO (laws_FnExactRenameOne.j0 k y0 y1 y2 y3 y4 y5 y6 y7 y8 y9) (laws_FnExactRenameOne.j0 (k + 1) y0 y1 y2 y3 y4 y5 y6 y7 y8 y9)) /\ (∀ y0 y1 y2 y3 y4 y5 y6 y7,LeO (laws_FnExactRenameOne.j1 k y0 y1 y2 y3 y4 y5 y6 y7) (laws_FnExactRenameOne.j1 (k + 1) y0 y1 y2 y3 y4 y5 y6 y7)) /\ (∀ y0 y1 y2,LeO (laws_FnExactRenameOne.j2 k y0 y1 y2) (laws_FnExactRenameOne.j2 (k + 1) y0 y1 y2))
 | 0=>⟨fun _ _ _ _ _ _ _ _ _ _ r h=>by simp [laws_FnExactRenameOne.j0] at h,fun _ _ _ _ _ _ _ _ r h=>by simp [laws_FnExactRenameOne.j1] at h,fun _ _ _ r h=>by simp [laws_FnExactRenameOne.j2] at h⟩
 | k + 1=>by
  obtain ⟨ih0,ih1,ih2⟩:= laws_FnExactRenameOne.mono_l k
  refine ⟨?_,?_,?_⟩
  ·intro y0 y1 y2 y3 y4 y5 y6 y7 y8 y9
   unfold laws_FnExactRenameOne.j0
   with_reducible repeat' first | exact ih0 _ _ _ _ _ _ _ _ _ _ | exact ih1 _ _ _ _ _ _ _ _ | exact ih2 _ _ _ | exact impl_RenameOne.mono _ _ _ _ _ | exact laws_eqNodeS.mono _ _ _ | exact laws_heldNodeS.mono _ _ _ | exact laws_markNodeS.mono _ _ _ | exact laws_szNodeS.mono _ _ _ | exact laws_toNodeS.mono _ _ | exact spec_RenameOne.mono _ _ _ _ _ | exact lrz _ | exact lnz _ | refine liz ?_ ?_ | refine lbz ?_ fun _=>?_
  ·intro y0 y1 y2 y3 y4 y5 y6 y7
   unfold laws_FnExactRenameOne.j1
   with_reducible repeat' first | exact ih0 _ _ _ _ _ _ _ _ _ _ | exact ih1 _ _ _ _ _ _ _ _ | exact ih2 _ _ _ | exact impl_RenameOne.mono _ _ _ _ _ | exact laws_eqNodeS.mono _ _ _ | exact laws_heldNodeS.mono _ _ _ | exact laws_markNodeS.mono _ _ _ | exact laws_szNodeS.mono _ _ _ | exact laws_toNodeS.mono _ _ | exact spec_RenameOne.mono _ _ _ _ _ | exact lrz _ | exact lnz _ | refine liz ?_ ?_ | refine lbz ?_ fun _=>?_
  ·intro y0 y1 y2
   unfold laws_FnExactRenameOne.j2
   with_reducible repeat' first | exact ih0 _ _ _ _ _ _ _ _ _ _ | exact ih1 _ _ _ _ _ _ _ _ | exact ih2 _ _ _ | exact impl_RenameOne.mono _ _ _ _ _ | exact laws_eqNodeS.mono _ _ _ | exact laws_heldNodeS.mono _ _ _ | exact laws_markNodeS.mono _ _ _ | exact laws_szNodeS.mono _ _ _ | exact laws_toNodeS.mono _ _ | exact spec_RenameOne.mono _ _ _ _ _ | exact lrz _ | exact lnz _ | refine liz ?_ ?_ | refine lbz ?_ fun _=>?_
theorem laws_FnExactRenameOne.mono : ∀ a0 a1 a2 a3 k,LeO (laws_FnExactRenameOne.f k a0 a1 a2 a3) (laws_FnExactRenameOne.f (k + 1) a0 a1 a2 a3):= by
 intro a0 a1 a2 a3 k
 obtain ⟨ih0,ih1,ih2⟩:= laws_FnExactRenameOne.mono_l k
 unfold laws_FnExactRenameOne.f
 with_reducible repeat' first | exact ih0 _ _ _ _ _ _ _ _ _ _ | exact ih1 _ _ _ _ _ _ _ _ | exact ih2 _ _ _ | exact impl_RenameOne.mono _ _ _ _ _ | exact laws_eqNodeS.mono _ _ _ | exact laws_heldNodeS.mono _ _ _ | exact laws_markNodeS.mono _ _ _ | exact laws_szNodeS.mono _ _ _ | exact laws_toNodeS.mono _ _ | exact spec_RenameOne.mono _ _ _ _ _ | exact lrz _ | exact lnz _ | refine liz ?_ ?_ | refine lbz ?_ fun _=>?_
def laws_FnExactRenameOne.T7 : Bool × List (List Nat × List Nat):= (true,[([],[]),([0],[0]),([],[]),([2,1],[2]),([],[]),([1,3,4,3],[1,3,4]),([5],[5]),([6],[6]),([6],[6]),([7,5,0,1,2,3,4,5,6,7],[7]),([8,9,0,1,2,3,4,5,6,7,8,9],[8])])
def laws_FnExactRenameOne.B7 : List Nat:= [0,1,0,7,0,31,63,127,127,255,1023]
theorem laws_FnExactRenameOne.tab7 : rtab .any (opsOf Tryz.f3 7) = laws_FnExactRenameOne.T7:= by kernel_rfl
theorem laws_FnExactRenameOne.bits7 : waitsOk laws_FnExactRenameOne.T7.2 laws_FnExactRenameOne.B7 = true:= by kernel_rfl
def laws_FnExactRenameOne.T26 : Bool × List (List Nat × List Nat):= (true,[([],[]),([0],[0]),([],[]),([2,1],[2]),([],[]),([1,3,4,3],[1,3,4]),([5],[5]),([6],[6]),([6],[6]),([7,5,0,1,2,3,4,5,6,7],[7]),([8,9,0,1,2,3,4,5,6,7,8,9],[8])])
def laws_FnExactRenameOne.B26 : List Nat:= [0,1,0,7,0,31,63,127,127,255,1023]
theorem laws_FnExactRenameOne.tab26 : rtab .any (opsOf Tryz.f3 26) = laws_FnExactRenameOne.T26:= by kernel_rfl
theorem laws_FnExactRenameOne.bits26 : waitsOk laws_FnExactRenameOne.T26.2 laws_FnExactRenameOne.B26 = true:= by kernel_rfl
set_option maxHeartbeats 8000000 in
set_option maxRecDepth 100000 in
theorem laws_FnExactRenameOne.calls (k : Nat) (A0 : Option Addr) (c0 : Nat) (l0 : List (S51)) (a1_0 : Int) (a1_1 : Int) (a2 : ByteArray) (r : Bool) (w : World) (hr0 : Kd.C k51 w A0 l0.length l0) (hc0 : l0.length <= c0) (h : laws_FnExactRenameOne.f k l0 a1_0 a1_1 a2 = some r) :
  Calls Tryz.prog 3 #[.slice A0 l0.length c0,.agg #[.int .i64 a1_0,.int .i64 a1_1],.string a2] w fun e w'=>e = .returned (.bool r) /\ Below w.heap.size w w':= by
 have hu24:= Tryz.underlying24
 have HR0:= am hr0
 have HC0:= am hc0
 clear hr0 hc0
 have HB:= am (Below.refl w.heap.size w)
 have H : (if (a2.size : Int) > 1048576 then (some true) else ((laws_szNodeS.f k l0 1048576).bind fun t650=>(if t650 < 0 then (some true) else ((laws_toNodeS.f k l0).bind fun t651=>((laws_toBind.f a1_0 a1_1).bind fun bt654=>((spec_RenameOne.f k t651 bt654.1 bt654.2 a2).bind fun bt656=>((laws_toNodeS.f k l0).bind fun t660=>((laws_toBind.f a1_0 a1_1).bind fun bt663=>((impl_RenameOne.f k t660 bt663.1 bt663.2 a2).bind fun bt665=>((laws_eqNodeS.f k bt665.1 bt656.1).bind fun t669=>(if t669 = true then (laws_FnExactRenameOne.j0 k l0 a2 bt656.1 bt656.2 t660 bt665.1 bt665.2 (bt665.2 != bt656.2) a1_0 a1_1) else (laws_FnExactRenameOne.j0 k l0 a2 bt656.1 bt656.2 t660 bt665.1 bt665.2 true a1_0 a1_1)))))))))))) = some r:= h
 clear h
 by_cases c4 : (a2.size : Int) > 1048576
 ·rw [if_pos c4] at H
  have c4b0 : decide (1048576 < (a2.size : Int)) = true:= decide_eq_true c4
  have c4b1 : decide (1048576 < a2.size) = true:= decide_eq_true (by omega)
  clear c4
  obtain rfl:= Option.some.inj H
  go_enter Tryz.func3,Tryz.ntmps3
  go_wp2_with (first | ((with_reducible refine gate_dst (N:= 4) rfl ?_);refine box_event ?hg (N:= 4) ?hd (cs:= #[.int .i64 a1_0,.int .i64 a1_1]) (t:= 24) ?hr ?_;(case hd=>rfl);(case hg=>rfl);(case hr=>exact vz);intro gb649 hg w5 hbox hb;have BK649:= am (hbox);have GW649:= am ((by rw [hg];exact (below_size (bz0 HB.out)) : w.heap.size <= gb649));have GE649:= GW649;replace HB:= bs (bz0 HB.out) hb;clear hb hbox hg))
  go_ret
  exact ⟨gz,(bz1 HB.out GE649.out)⟩
 ·rw [if_neg c4] at H
  have c4b0 : decide (1048576 < (a2.size : Int)) = false:= decide_eq_false c4
  have c4b1 : decide (1048576 < a2.size) = false:= decide_eq_false (by omega)
  clear c4
  replace H:= bi H
  obtain ⟨t650,A60,H⟩:= H
  try dsimp only at H
  have A6:= am A60
  clear A60
  by_cases c7 : t650 < 0
  ·rw [if_pos c7] at H
   have c7b0:= decide_eq_true c7
   clear c7
   obtain rfl:= Option.some.inj H
   go_enter Tryz.func3,Tryz.ntmps3
   go_wp2_with (first | ((with_reducible refine gate_dst (N:= 4) rfl ?_);refine box_event ?hg (N:= 4) ?hd (cs:= #[.int .i64 a1_0,.int .i64 a1_1]) (t:= 24) ?hr ?_;(case hd=>rfl);(case hg=>rfl);(case hr=>exact vz);intro gb649 hg w8 hbox hb;have BK649:= am (hbox);have GW649:= am ((by rw [hg];exact (below_size (bz0 HB.out)) : w.heap.size <= gb649));have GE649:= GW649;replace HB:= bs (bz0 HB.out) hb;clear hb hbox hg) | ((with_reducible refine gate_callee (f:= 5) rfl ?_);refine goesL_ (some 23) rfl rfl Tryz.func5 kr rfl #[.slice A0 l0.length c0,.int .i64 1048576] rfl lz ?_;(with_reducible refine (laws_szNodeS.calls k _ _ l0 1048576 t650 _ ?side1 ?side2 A6.out).mono ?_);(case side1=>exact cz (Kd.C_below HR0.out HB.out));(case side2=>exact HC0.out);rintro e w9 ⟨rfl,hb⟩;refine ⟨_,rfl,?_⟩;replace BK649:= kb BK649 hb;replace HB:= bs (bz1 HB.out GE649.out) hb;(try clear hb);(try clear hi)))
   go_ret
   exact ⟨gz,(bz1 HB.out GE649.out)⟩
  ·rw [if_neg c7] at H
   have c7b0:= decide_eq_false c7
   clear c7
   replace H:= bi H
   obtain ⟨t651,A100,H⟩:= H
   try dsimp only at H
   have A10:= am A100
   clear A100
   replace H:= bi H
   obtain ⟨⟨t654,t655⟩,A110,H⟩:= H
   try dsimp only at H
   have A11:= am A110
   clear A110
   replace H:= bi H
   obtain ⟨⟨t656,t659⟩,A120,H⟩:= H
   try dsimp only at H
   have A12:= am A120
   clear A120
   replace H:= bi H
   obtain ⟨t660,A130,H⟩:= H
   try dsimp only at H
   have A13:= am A130
   clear A130
   replace H:= bi H
   obtain ⟨⟨t663,t664⟩,A140,H⟩:= H
   try dsimp only at H
   have A14:= am A140
   clear A140
   replace H:= bi H
   obtain ⟨⟨t665,t668⟩,A150,H⟩:= H
   try dsimp only at H
   have A15:= am A150
   clear A150
   have HC16:= am H
   clear H
   go_enter Tryz.func3,Tryz.ntmps3
   try go_wp2_with (first | ((with_reducible refine gate_dst (N:= 4) rfl ?_);refine box_event ?hg (N:= 4) ?hd (cs:= #[.int .i64 a1_0,.int .i64 a1_1]) (t:= 24) ?hr ?_;(case hd=>rfl);(case hg=>rfl);(case hr=>exact vz);intro gb649 hg w17 hbox hb;have BK649:= am (hbox);have GW649:= am ((by rw [hg];exact (below_size (bz0 HB.out)) : w.heap.size <= gb649));have GE649:= GW649;replace HB:= bs (bz0 HB.out) hb;clear hb hbox hg) | ((with_reducible refine gate_callee (f:= 5) rfl ?_);refine goesL_ (some 23) rfl rfl Tryz.func5 kr rfl #[.slice A0 l0.length c0,.int .i64 1048576] rfl lz ?_;(with_reducible refine (laws_szNodeS.calls k _ _ l0 1048576 t650 _ ?side1 ?side2 A6.out).mono ?_);(case side1=>exact cz (Kd.C_below HR0.out HB.out));(case side2=>exact HC0.out);rintro e w18 ⟨rfl,hb⟩;refine ⟨_,rfl,?_⟩;replace BK649:= kb BK649 hb;replace HB:= bs (bz1 HB.out GE649.out) hb;(try clear hb);(try clear hi)))
   have n0_:= am (blk_drew BK649.out)
   have n1_:= am (below_drew1 HB.out)
   clear BK649
   clear HB
   have BK649:= n0_
   have HB:= n1_
   clear n0_ n1_
   refine start_ (n:= 11) (S:= fun w'=>w'.cell? ⟨gb649,0,none⟩ = some (.int .i64 a1_0) /\ w'.cell? ⟨gb649,1,none⟩ = some (.int .i64 a1_1)) (ds:= []) (mk_ 0 11) kr rfl rfl ⟨(blk_cell BK649.out 0).trans rfl,(blk_cell BK649.out 1).trans rfl⟩ (fun hHeld=>?_);refine with_tabW laws_FnExactRenameOne.tab7 laws_FnExactRenameOne.bits7 (fun HT_ HW_=>?_)
   generalize w18.drew = w19 at BK649 HB hHeld ⊢
   refine pv 0 27 (mk_ 1 10) HT_ rfl rfl ?_
   refine pv 4 31 (bm_ 11 17) HT_ rfl rfl ?_
   refine tv2 2 29 (bm_ 11 21) HT_ HW_ rfl rfl hHeld ?_
   refine one_ (i:= 1) (N:= some 28) (bm_ 11 23) rfl rfl (one_of HT_.out kr) (by decide) (fun K hK=>?_)
   refine goes_ Tryz.func7 kr rfl #[.slice A0 l0.length c0] (by rfl) rfl rfl lz ?_
   with_reducible refine (laws_toNodeS.calls k _ _ l0 t651 _ ?side1 ?side2 A10.out).mono ?_
   (case side1=>exact cz (Kd.C_below HR0.out HB.out))
   (case side2=>exact HC0.out)
   rintro e w20 ⟨v652,rfl,ho0,hb⟩
   refine ⟨_,rfl,?_⟩
   have n0_:= am (Kd.R_lower ho0 (below_size (bz1 HB.out GE649.out)))
   have n1_:= am (blk_below (kz BK649.out) hb)
   have n2_:= am (below_step (bz1 HB.out GE649.out) hb)
   clear BK649
   clear HB
   have HO653:= n0_
   have BK649:= n1_
   have HB:= n2_
   clear n0_ n1_ n2_
   (try clear hb)
   (try clear hb2)
   (try clear hk)
   (try clear hi)
   (try clear ho0)
   refine hK.out _ _ ⟨(blk_cell BK649.out 0).trans rfl,(blk_cell BK649.out 1).trans rfl⟩ (fun hHeld=>?_)
   clear hK K
   refine norm_ (a':= ?_) ?_ ?_
   rotate_left
   ·show Act.put _ (some 28) _ = _
    simp only [Act.put,sz1,sz2,sz3,i64_w,i32_w]
    rfl
   refine one_ (i:= 3) (N:= some 30) (mk_ 5 6) rfl rfl (one_of HT_.out kr) (by decide) (fun K hK=>?_)
   refine goes_ Tryz.func8 kr rfl #[.agg #[.int .i64 a1_0,.int .i64 a1_1]] (by rfl) rfl rfl lz ?_
   with_reducible refine (laws_toBind.calls a1_0 a1_1 t654 t655 _ A11.out).mono ?_
   rintro e w21 ⟨rfl,hb⟩
   refine ⟨_,rfl,?_⟩
   have n0_:= qz HO653 hb
   have n1_:= am (blk_below (kz BK649.out) hb)
   have n2_:= am (below_step (bz1 HB.out GE649.out) hb)
   clear HO653
   clear BK649
   clear HB
   have HO653:= n0_
   have BK649:= n1_
   have HB:= n2_
   clear n0_ n1_ n2_
   (try clear hb)
   (try clear hb2)
   (try clear hk)
   (try clear hi)
   obtain ⟨Ao22,co22,eo22⟩:= Kd.R_slice HO653.out
   (first | subst eo22 | (injection eo22 with f1_ f2_ f3_;have f4_:= f1_.symm;have f5_:= f3_.symm;clear f1_ f2_ f3_;subst f4_;subst f5_))
   refine hK.out _ _ ⟨(blk_cell BK649.out 0).trans rfl,(blk_cell BK649.out 1).trans rfl⟩ (fun hHeld=>?_)
   clear hK K
   refine norm_ (a':= ?_) ?_ ?_
   rotate_left
   ·show Act.put _ (some 30) _ = _
    simp only [Act.put,sz1,sz2,sz3,i64_w,i32_w]
    rfl
   refine one_ (i:= 5) (N:= some 32) (mk_ 6 5) rfl rfl (one_of HT_.out kr) (by decide) (fun K hK=>?_)
   refine goes_ Tryz.func6 kr rfl #[.slice Ao22 t651.length co22,.agg #[.int .i64 t654,.int .i64 t655],.string a2] (by rfl) rfl rfl lz ?_
   with_reducible refine (spec_RenameOne.calls k _ _ t651 t654 t655 a2 t656 t659 _ ?side1 ?side2 A12.out).mono ?_
   (case side1=>exact cz (Kd.R_reads' HO653.out).2.2)
   (case side2=>exact (Kd.R_reads' HO653.out).2.1)
   rintro e w23 ⟨v657,rfl,ho0,hb⟩
   refine ⟨_,rfl,?_⟩
   have n0_:= am (Kd.R_elder' (rz HO653.out) (Kd.R_base ho0) hb)
   have n1_:= am (Kd.R_lower (Kd.R_new' ho0 (Kd.R_lt (rz HO653.out))) (below_size (bz1 HB.out GE649.out)))
   have n2_:= am (blk_below (kz BK649.out) hb)
   have n3_:= am (below_step (bz1 HB.out GE649.out) hb)
   clear HO653
   clear BK649
   clear HB
   have HO653:= n0_
   have HO658:= n1_
   have BK649:= n2_
   have HB:= n3_
   clear n0_ n1_ n2_ n3_
   (try clear hb)
   (try clear hb2)
   (try clear hk)
   (try clear hi)
   (try clear ho0)
   refine hK.out _ _ ⟨(blk_cell BK649.out 0).trans rfl,(blk_cell BK649.out 1).trans rfl⟩ (fun hHeld=>?_)
   clear hK K
   refine norm_ (a':= ?_) ?_ ?_
   rotate_left
   ·show Act.put _ (some 32) _ = _
    simp only [Act.put,sz1,sz2,sz3,i64_w,i32_w]
    rfl
   refine pv 6 26 (mk_ 7 4) HT_ rfl rfl ?_
   refine pv 7 33 (mk_ 8 3) HT_ rfl rfl ?_
   refine pv 8 34 (mk_ 9 2) HT_ rfl rfl ?_
   refine pv 9 8 (mk_ 10 1) HT_ rfl rfl ?_
   refine pv 10 9 (mk_ 11 0) HT_ rfl rfl ?_
   refine done_ (done_of HT_.out kr) ?_
   go_upto_region 10 with (first | ((with_reducible refine gate_callee (f:= 7) rfl ?_);refine goesL_ (some 36) rfl rfl Tryz.func7 kr rfl #[.slice A0 l0.length c0] rfl lz ?_;(with_reducible refine (laws_toNodeS.calls k _ _ l0 t660 _ ?side1 ?side2 A13.out).mono ?_);(case side1=>exact cz (Kd.C_below HR0.out HB.out));(case side2=>exact HC0.out);rintro e w24 ⟨v661,rfl,ho0,hb⟩;refine ⟨_,rfl,?_⟩;have HO662:= am (Kd.R_lower (Kd.R_new' (Kd.R_new' ho0 (Kd.R_lt (rz HO653.out))) (Kd.R_lt (rz HO658.out))) (below_size (bz1 HB.out GE649.out)));replace HO653:= am (Kd.R_elder' (rz HO653.out) (Kd.R_base ho0) hb);replace HO658:= am (Kd.R_elder' (rz HO658.out) (Kd.R_base ho0) hb);replace BK649:= kb BK649 hb;replace HB:= bs (bz1 HB.out GE649.out) hb;(try clear hb);(try clear ho0);obtain ⟨hcz25_0,hcz25_1⟩:= cz2 BK649.out;obtain ⟨hfz25_0,hfz25_1⟩:= fz2 BK649.out) | ((with_reducible refine gate_callee (f:= 8) rfl ?_);refine goesL_ (some 40) rfl rfl Tryz.func8 kr rfl #[.agg #[.int .i64 a1_0,.int .i64 a1_1]] rfl lz ?_;(with_reducible refine (laws_toBind.calls a1_0 a1_1 t663 t664 _ A14.out).mono ?_);rintro e w26 ⟨rfl,hb⟩;refine ⟨_,rfl,?_⟩;replace HO653:= qz HO653 hb;replace HO658:= qz HO658 hb;replace HO662:= qz HO662 hb;replace BK649:= kb BK649 hb;replace HB:= bs (bz1 HB.out GE649.out) hb;(try clear hb);obtain ⟨Ao27,co27,eo27⟩:= Kd.R_slice HO662.out;subst eo27) | ((with_reducible refine gate_callee (f:= 9) rfl ?_);refine goesL_ (some 42) rfl rfl Tryz.func9 kr rfl #[.slice Ao27 t660.length co27,.agg #[.int .i64 t663,.int .i64 t664],.string a2] rfl lz ?_;(with_reducible refine (impl_RenameOne.calls k _ _ t660 t663 t664 a2 t665 t668 _ ?side1 ?side2 A15.out).mono ?_);(case side1=>exact cz (Kd.R_reads' HO662.out).2.2);(case side2=>exact (Kd.R_reads' HO662.out).2.1);rintro e w28 ⟨v666,rfl,ho0,hb⟩;refine ⟨_,rfl,?_⟩;have HO667:= am (Kd.R_lower (Kd.R_new' (Kd.R_new' (Kd.R_new' ho0 (Kd.R_lt (rz HO653.out))) (Kd.R_lt (rz HO658.out))) (Kd.R_lt (rz HO662.out))) (below_size (bz1 HB.out GE649.out)));replace HO653:= am (Kd.R_elder' (rz HO653.out) (Kd.R_base ho0) hb);replace HO658:= am (Kd.R_elder' (rz HO658.out) (Kd.R_base ho0) hb);replace HO662:= am (Kd.R_elder' (rz HO662.out) (Kd.R_base ho0) hb);replace BK649:= kb BK649 hb;replace HB:= bs (bz1 HB.out GE649.out) hb;(try clear hb);(try clear ho0)))
   (try simp only [Act.put,sz1,sz2,sz3])
   go_cut [53] (fun v53 wc=>∃ (kq : Nat) (x53_15 : Bool),v53 = .bool x53_15 /\ Aside0 (laws_FnExactRenameOne.j0 kq l0 a2 t656 t659 t660 t665 t668 x53_15 a1_0 a1_1 = some r) /\ Aside0 (kq <= k) /\ Aside0 (Kd.R k45 45 wc w.heap.size (fun k_=>some k_ ≠ ((.slice Ao27 t660.length co27) : Value).ownBlock /\ some k_ ≠ (v666 : Value).ownBlock) v657 t656) /\ Aside0 (Kd.R k45 45 wc w.heap.size (fun k_=>some k_ ≠ (v657 : Value).ownBlock /\ some k_ ≠ (v666 : Value).ownBlock) (.slice Ao27 t660.length co27) t660) /\ Aside0 (Kd.R k45 45 wc w.heap.size (fun k_=>some k_ ≠ (v657 : Value).ownBlock /\ some k_ ≠ ((.slice Ao27 t660.length co27) : Value).ownBlock) v666 t665) /\ Aside0 (wc.heap[gb649]? = some (.cells #[.int .i64 a1_0,.int .i64 a1_1] 24 (0,0))) /\ Aside0 (Below w.heap.size w wc))
   case first =>
    have H:= HC16.out
    clear HC16
    replace H:= bi H
    obtain ⟨t669,A290,H⟩:= H
    try dsimp only at H
    have A29:= am A290
    clear A290
    by_cases c30 : t669 = true
    ·subst c30
     have H1:= hp H
     clear H
     have H:= H1
     clear H1
     have H':= am H
     clear H
     obtain ⟨Ao31,co31,eo31⟩:= Kd.R_slice HO667.out
     subst eo31
     obtain ⟨Ao32,co32,eo32⟩:= Kd.R_slice HO658.out
     subst eo32
     go_wp2_with (first | ((with_reducible refine gate_callee (f:= 10) rfl ?_);refine goesL_ (some 47) rfl rfl Tryz.func10 kr rfl #[.slice Ao31 t665.length co31,.slice Ao32 t656.length co32] rfl lz ?_;(with_reducible refine (laws_eqNodeS.calls k _ _ t665 _ _ t656 true _ ?side1 ?side2 ?side3 ?side4 A29.out).mono ?_);(case side1=>exact cz (Kd.R_reads' HO667.out).2.2);(case side2=>exact (Kd.R_reads' HO667.out).2.1);(case side3=>exact cz (Kd.R_reads' HO658.out).2.2);(case side4=>exact (Kd.R_reads' HO658.out).2.1);rintro e w33 ⟨rfl,hb⟩;refine ⟨_,rfl,?_⟩;replace HO653:= qz HO653 hb;replace HO658:= qz HO658 hb;replace HO662:= qz HO662 hb;replace HO667:= qz HO667 hb;replace BK649:= kb BK649 hb;replace HB:= bs (bz1 HB.out GE649.out) hb;(try clear hb);(try clear hi)))
     go_meet
     case rel=>exact ⟨_,((t668 != t659)),ez,H',⟨by first | omega | exact Nat.le_refl _⟩,⟨by refine rq ?_;exact Kd.R_mono HO658.out (fun _ hk=>⟨hk.1.2,hk.2⟩)⟩,⟨by refine rq ?_;exact Kd.R_mono HO662.out (fun _ hk=>⟨hk.1.2,hk.2⟩)⟩,⟨by refine rq ?_;exact Kd.R_mono HO667.out (fun _ hk=>⟨hk.1.2,hk.2⟩)⟩,⟨by refine kq ?_;exact BK649.out⟩,⟨(bz1 HB.out GE649.out)⟩⟩
    ·replace c30:= Bool.eq_false_iff.mpr c30
     subst c30
     have H1:= hq H
     clear H
     have H:= H1
     clear H1
     have H':= am H
     clear H
     obtain ⟨Ao34,co34,eo34⟩:= Kd.R_slice HO667.out
     subst eo34
     obtain ⟨Ao35,co35,eo35⟩:= Kd.R_slice HO658.out
     subst eo35
     go_wp2_with (first | ((with_reducible refine gate_callee (f:= 10) rfl ?_);refine goesL_ (some 47) rfl rfl Tryz.func10 kr rfl #[.slice Ao34 t665.length co34,.slice Ao35 t656.length co35] rfl lz ?_;(with_reducible refine (laws_eqNodeS.calls k _ _ t665 _ _ t656 false _ ?side1 ?side2 ?side3 ?side4 A29.out).mono ?_);(case side1=>exact cz (Kd.R_reads' HO667.out).2.2);(case side2=>exact (Kd.R_reads' HO667.out).2.1);(case side3=>exact cz (Kd.R_reads' HO658.out).2.2);(case side4=>exact (Kd.R_reads' HO658.out).2.1);rintro e w36 ⟨rfl,hb⟩;refine ⟨_,rfl,?_⟩;replace HO653:= qz HO653 hb;replace HO658:= qz HO658 hb;replace HO662:= qz HO662 hb;replace HO667:= qz HO667 hb;replace BK649:= kb BK649 hb;replace HB:= bs (bz1 HB.out GE649.out) hb;(try clear hb);(try clear hi)))
     go_meet
     case rel=>exact ⟨_,(true),ez,H',⟨by first | omega | exact Nat.le_refl _⟩,⟨by refine rq ?_;exact Kd.R_mono HO658.out (fun _ hk=>⟨hk.1.2,hk.2⟩)⟩,⟨by refine rq ?_;exact Kd.R_mono HO662.out (fun _ hk=>⟨hk.1.2,hk.2⟩)⟩,⟨by refine rq ?_;exact Kd.R_mono HO667.out (fun _ hk=>⟨hk.1.2,hk.2⟩)⟩,⟨by refine kq ?_;exact BK649.out⟩,⟨(bz1 HB.out GE649.out)⟩⟩
   case rest =>
    clear HC16
    try clear c1
    try clear p2
    try clear c3
    try clear c4
    try clear c4b0
    try clear c4b1
    try clear c5
    try clear c6
    try clear c7
    try clear c7b0
    try clear c8
    try clear c9
    try clear c10
    try clear c30
    try clear hcz25_0 hcz25_1
    try clear hfz25_0 hfz25_1
    obtain ⟨kq,x53_15,rfl,HA,HJ15,HO_8,HO_10,HO_11,BK649,HB⟩:= hcut
    cases kq with
    | zero=>exact absurd HA.out (by simp [laws_FnExactRenameOne.j0])
    | succ kj15 =>
     have H:= HA.out
     clear HA
     simp only [laws_FnExactRenameOne.j0] at H
     by_cases c37 : x53_15 = true
     ·subst c37
      have H1:= hp H
      clear H
      have H:= H1
      clear H1
      obtain rfl:= Option.some.inj H
      go_wp2
      go_ret
      exact ⟨gz,(bz1 HB.out GE649.out)⟩
     ·replace c37:= Bool.eq_false_iff.mpr c37
      subst c37
      have H1:= hq H
      clear H
      have H:= H1
      clear H1
      replace H:= bi H
      obtain ⟨t670,A380,H⟩:= H
      try dsimp only at H
      have A38:= am A380
      clear A380
      replace H:= bi H
      obtain ⟨t673,A390,H⟩:= H
      try dsimp only at H
      have A39:= am A390
      clear A390
      by_cases c40 : t673 = true
      ·subst c40
       have H1:= hp H
       clear H
       have H:= H1
       clear H1
       replace H:= bi H
       obtain ⟨⟨t674,t675⟩,A410,H⟩:= H
       try dsimp only at H
       have A41:= am A410
       clear A410
       have HC42:= am H
       clear H
       go_upto_region 16 with (first | ((with_reducible refine gate_callee (f:= 7) rfl ?_);refine goesL_ (some 56) rfl rfl Tryz.func7 kr rfl #[.slice A0 l0.length c0] rfl lz ?_;(with_reducible refine (laws_toNodeS.calls kj15 _ _ l0 t670 _ ?side1 ?side2 A38.out).mono ?_);(case side1=>exact cz (Kd.C_below HR0.out HB.out));(case side2=>exact HC0.out);rintro e w43 ⟨v671,rfl,ho0,hb⟩;refine ⟨_,rfl,?_⟩;have HO672:= am (Kd.R_lower (Kd.R_new' (Kd.R_new' (Kd.R_new' ho0 (Kd.R_lt (rz HO_8.out))) (Kd.R_lt (rz HO_10.out))) (Kd.R_lt (rz HO_11.out))) (below_size (bz1 HB.out GE649.out)));replace HO_8:= am (Kd.R_elder' (rz HO_8.out) (Kd.R_base ho0) hb);replace HO_10:= am (Kd.R_elder' (rz HO_10.out) (Kd.R_base ho0) hb);replace HO_11:= am (Kd.R_elder' (rz HO_11.out) (Kd.R_base ho0) hb);replace BK649:= kb BK649 hb;replace HB:= bs (bz1 HB.out GE649.out) hb;(try clear hb);(try clear ho0);obtain ⟨Ao44,co44,eo44⟩:= Kd.R_slice HO672.out;subst eo44) | ((with_reducible refine gate_callee (f:= 10) rfl ?_);refine goesL_ (some 57) rfl rfl Tryz.func10 kr rfl #[.slice Ao27 t660.length co27,.slice Ao44 t670.length co44] rfl lz ?_;(with_reducible refine (laws_eqNodeS.calls kj15 _ _ t660 _ _ t670 true _ ?side1 ?side2 ?side3 ?side4 A39.out).mono ?_);(case side1=>exact cz (Kd.R_reads' HO_10.out).2.2);(case side2=>exact (Kd.R_reads' HO_10.out).2.1);(case side3=>exact cz (Kd.R_reads' HO672.out).2.2);(case side4=>exact (Kd.R_reads' HO672.out).2.1);rintro e w45 ⟨rfl,hb⟩;refine ⟨_,rfl,?_⟩;replace HO_8:= qz HO_8 hb;replace HO_10:= qz HO_10 hb;replace HO_11:= qz HO_11 hb;replace HO672:= qz HO672 hb;replace BK649:= kb BK649 hb;replace HB:= bs (bz1 HB.out GE649.out) hb;(try clear hb);(try clear hi)) | ((with_reducible refine gate_callee (f:= 11) rfl ?_);refine goesL_ (some 61) rfl rfl Tryz.func11 kr rfl #[.slice Ao27 t660.length co27,.int .i64 1] rfl lz ?_;(with_reducible refine (laws_markNodeS.calls kj15 (fun k_=>some k_ = (.slice Ao27 t660.length co27 : Value).ownBlock) (.slice Ao27 t660.length co27) t660 1 t674 t675 w _ ?side1 ?side2 A41.out).mono ?_);(case side1=>repeat (first | (with_reducible first | exact HB.out | apply below_alloc | apply pw_below_drewN | apply below_drew1 | refine below_set ?_ GE649.out) | exact HB.out));(case side2=>exact Kd.R_tight rfl HO_10.out);rintro e w46 ⟨rfl,hy0,hb,hkp⟩;refine ⟨_,rfl,?_⟩;replace HO_8:= am (Kd.R_mono (ok':= fun k_=>some k_ ≠ (.slice Ao27 t660.length co27 : Value).ownBlock /\ some k_ ≠ (v666 : Value).ownBlock /\ some k_ ≠ (.slice Ao44 t670.length co44 : Value).ownBlock) (Kd.R_keptB (HO_8.out) hkp (fun k_ hk_ hs_=>by with_reducible first | exact absurd hs_ hk_.1.1 | exact absurd hs_ hk_ | exact absurd hs_ hk_.1 | exact absurd hs_ hk_.2 | exact absurd hs_ hk_.1.1 | exact absurd hs_ hk_.1.2)) (fun k_ hk_=>by first | exact ⟨hk_.1.1.1,hk_.1.1.2,hk_.1.2⟩ | (with_reducible (refine ⟨?_,?_,?_⟩ <;> first | exact hk_.1 | exact hk_.1.1 | exact hk_.1.2 | exact hk_.1.1.1 | exact hk_.1.1.2 | exact hk_.2.1 | exact hk_.1.2.1 | exact hk_.1.2.2))));replace HO_11:= am (Kd.R_mono (ok':= fun k_=>some k_ ≠ (v657 : Value).ownBlock /\ some k_ ≠ (.slice Ao27 t660.length co27 : Value).ownBlock /\ some k_ ≠ (.slice Ao44 t670.length co44 : Value).ownBlock) (Kd.R_keptB (HO_11.out) hkp (fun k_ hk_ hs_=>by with_reducible first | exact absurd hs_ hk_.1.2 | exact absurd hs_ hk_ | exact absurd hs_ hk_.1 | exact absurd hs_ hk_.2 | exact absurd hs_ hk_.1.1 | exact absurd hs_ hk_.1.2)) (fun k_ hk_=>by first | exact ⟨hk_.1.1.1,hk_.1.1.2,hk_.1.2⟩ | (with_reducible (refine ⟨?_,?_,?_⟩ <;> first | exact hk_.1 | exact hk_.1.1 | exact hk_.1.2 | exact hk_.1.1.1 | exact hk_.1.1.2 | exact hk_.2.1 | exact hk_.1.2.1 | exact hk_.1.2.2))));replace BK649:= am (blk_kept (kz BK649.out) hkp (fun hs_=>(fun e_=>(Kd.R_ne HO_10.out BK649.out (by decide)) e_) hs_));replace HO_10:= am (Kd.R_reok rfl hy0 (fun k_ e_=>HO_10.out.1 k_ e_));replace HO672:= am (Kd.R_mono (ok':= fun k_=>some k_ ≠ (v657 : Value).ownBlock /\ some k_ ≠ (.slice Ao27 t660.length co27 : Value).ownBlock /\ some k_ ≠ (v666 : Value).ownBlock) (Kd.R_keptB (HO672.out) hkp (fun k_ hk_ hs_=>by with_reducible first | exact absurd hs_ hk_.1.2 | exact absurd hs_ hk_ | exact absurd hs_ hk_.1 | exact absurd hs_ hk_.2 | exact absurd hs_ hk_.1.1 | exact absurd hs_ hk_.1.2)) (fun k_ hk_=>by first | exact ⟨hk_.1.1.1.2,hk_.1.1.2,hk_.1.2⟩ | (with_reducible (refine ⟨?_,?_,?_⟩ <;> first | exact hk_.1 | exact hk_.1.1 | exact hk_.1.2 | exact hk_.1.1.1 | exact hk_.1.1.2 | exact hk_.2.1 | exact hk_.1.2.1 | exact hk_.1.2.2))));replace HB:= am (hb);(try clear hb);(try clear hkp);(try clear hy0)))
       (try simp only [Act.put,sz1,sz2,sz3])
       go_cut [74] (fun v74 wc=>∃ (kq : Nat) (x74_41 : Bool),v74 = .bool x74_41 /\ Aside0 (laws_FnExactRenameOne.j1 kq l0 a2 t656 t659 t665 x74_41 a1_0 a1_1 = some r) /\ Aside0 (kq <= kj15) /\ Aside0 (Kd.R k45 45 wc w.heap.size (fun k_=>some k_ ≠ (v666 : Value).ownBlock) v657 t656) /\ Aside0 (Kd.R k45 45 wc w.heap.size (fun k_=>some k_ ≠ (v657 : Value).ownBlock) v666 t665) /\ Aside0 (wc.heap[gb649]? = some (.cells #[.int .i64 a1_0,.int .i64 a1_1] 24 (0,0))) /\ Aside0 (Below w.heap.size w wc))
       case first =>
        have H:= HC42.out
        clear HC42
        by_cases c47 : t674 < 0
        ·rw [if_pos c47] at H
         have c47b0:= decide_eq_true c47
         clear c47
         (first | rw [c47b0] | (simp only [i64_w,i32_w];rw [c47b0]) | skip)
         have H':= am H
         clear H
         go_wp2
         go_meet
         case rel=>exact ⟨_,(true),ez,H',⟨by have:= HJ15.out;first | omega | exact Nat.le_refl _⟩,⟨by refine rq ?_;exact Kd.R_mono HO_8.out (fun _ hk=>hk.2.1)⟩,⟨by refine rq ?_;exact Kd.R_mono HO_11.out (fun _ hk=>hk.1)⟩,⟨by refine kq ?_;exact BK649.out⟩,⟨(bz1 HB.out GE649.out)⟩⟩
        ·rw [if_neg c47] at H
         have c47b0:= decide_eq_false c47
         clear c47
         (first | rw [c47b0] | (simp only [i64_w,i32_w];rw [c47b0]) | skip)
         replace H:= bi H
         obtain ⟨t676,A480,H⟩:= H
         try dsimp only at H
         have A48:= am A480
         clear A480
         by_cases c49 : t676 = true
         ·subst c49
          have H1:= hp H
          clear H
          have H:= H1
          clear H1
          have H':= am H
          clear H
          obtain ⟨Ao50,co50,eo50⟩:= Kd.R_slice HO_11.out
          subst eo50
          obtain ⟨Ao51,co51,eo51⟩:= Kd.R_slice HO_8.out
          subst eo51
          go_wp2_with (first | (go_at_call 10;(with_reducible refine (laws_eqNodeS.calls kj15 _ _ t665 _ _ t656 true _ ?side1 ?side2 ?side3 ?side4 A48.out).mono ?_);(case side1=>exact cz (Kd.R_reads' HO_11.out).2.2);(case side2=>exact (Kd.R_reads' HO_11.out).2.1);(case side3=>exact cz (Kd.R_reads' HO_8.out).2.2);(case side4=>exact (Kd.R_reads' HO_8.out).2.1);rintro e w52 ⟨rfl,hb⟩;replace HO_8:= qz HO_8 hb;replace HO_10:= qz HO_10 hb;replace HO_11:= qz HO_11 hb;replace HO672:= qz HO672 hb;replace BK649:= kb BK649 hb;replace HB:= bs (bz1 HB.out GE649.out) hb;(try clear hb);(try clear hi)))
          go_meet
          case rel=>exact ⟨_,((t668 != t659)),ez,H',⟨by have:= HJ15.out;first | omega | exact Nat.le_refl _⟩,⟨by refine rq ?_;exact Kd.R_mono HO_8.out (fun _ hk=>hk.2.1)⟩,⟨by refine rq ?_;exact Kd.R_mono HO_11.out (fun _ hk=>hk.1)⟩,⟨by refine kq ?_;exact BK649.out⟩,⟨(bz1 HB.out GE649.out)⟩⟩
         ·replace c49:= Bool.eq_false_iff.mpr c49
          subst c49
          have H1:= hq H
          clear H
          have H:= H1
          clear H1
          have H':= am H
          clear H
          obtain ⟨Ao53,co53,eo53⟩:= Kd.R_slice HO_11.out
          subst eo53
          obtain ⟨Ao54,co54,eo54⟩:= Kd.R_slice HO_8.out
          subst eo54
          go_wp2_with (first | (go_at_call 10;(with_reducible refine (laws_eqNodeS.calls kj15 _ _ t665 _ _ t656 false _ ?side1 ?side2 ?side3 ?side4 A48.out).mono ?_);(case side1=>exact cz (Kd.R_reads' HO_11.out).2.2);(case side2=>exact (Kd.R_reads' HO_11.out).2.1);(case side3=>exact cz (Kd.R_reads' HO_8.out).2.2);(case side4=>exact (Kd.R_reads' HO_8.out).2.1);rintro e w55 ⟨rfl,hb⟩;replace HO_8:= qz HO_8 hb;replace HO_10:= qz HO_10 hb;replace HO_11:= qz HO_11 hb;replace HO672:= qz HO672 hb;replace BK649:= kb BK649 hb;replace HB:= bs (bz1 HB.out GE649.out) hb;(try clear hb);(try clear hi)))
          go_meet
          case rel=>exact ⟨_,(true),ez,H',⟨by have:= HJ15.out;first | omega | exact Nat.le_refl _⟩,⟨by refine rq ?_;exact Kd.R_mono HO_8.out (fun _ hk=>hk.2.1)⟩,⟨by refine rq ?_;exact Kd.R_mono HO_11.out (fun _ hk=>hk.1)⟩,⟨by refine kq ?_;exact BK649.out⟩,⟨(bz1 HB.out GE649.out)⟩⟩
       case rest =>
        clear HC42
        try clear c1
        try clear p2
        try clear c3
        try clear c4
        try clear c4b0
        try clear c4b1
        try clear c5
        try clear c6
        try clear c7
        try clear c7b0
        try clear c8
        try clear c9
        try clear c10
        try clear c11
        try clear c30
        try clear c37
        try clear c40
        try clear c47
        try clear c47b0
        try clear c49
        try clear hcz25_0 hcz25_1
        try clear hfz25_0 hfz25_1
        try clear p2
        obtain ⟨kq,x74_41,rfl,HA,HJ41,HO_8,HO_11,BK649,HB⟩:= hcut
        cases kq with
        | zero=>exact absurd HA.out (by simp [laws_FnExactRenameOne.j1])
        | succ kj41 =>
         have H:= HA.out
         clear HA
         simp only [laws_FnExactRenameOne.j1] at H
         by_cases c56 : x74_41 = true
         ·subst c56
          have H1:= hp H
          clear H
          have H:= H1
          clear H1
          obtain rfl:= Option.some.inj H
          go_wp2
          go_ret
          exact ⟨gz,(bz1 HB.out GE649.out)⟩
         ·replace c56:= Bool.eq_false_iff.mpr c56
          subst c56
          have H1:= hq H
          clear H
          have H:= H1
          clear H1
          replace H:= bi H
          obtain ⟨⟨t677,t678⟩,A570,H⟩:= H
          try dsimp only at H
          have A57:= am A570
          clear A570
          replace H:= bi H
          obtain ⟨t679,A580,H⟩:= H
          try dsimp only at H
          have A58:= am A580
          clear A580
          by_cases c59 : t679 < 0
          ·rw [if_pos c59] at H
           have c59b0:= decide_eq_true c59
           clear c59
           obtain rfl:= Option.some.inj H
           obtain ⟨Ao60,co60,eo60⟩:= Kd.R_slice HO_11.out
           subst eo60
           go_wp2_with (first | ((with_reducible refine gate_callee (f:= 11) rfl ?_);refine goesL_ (some 77) rfl rfl Tryz.func11 kr rfl #[.slice Ao60 t665.length co60,.int .i64 1] rfl lz ?_;(with_reducible refine (laws_markNodeS.calls kj41 (fun k_=>some k_ = (.slice Ao60 t665.length co60 : Value).ownBlock) (.slice Ao60 t665.length co60) t665 1 t677 t678 w _ ?side1 ?side2 A57.out).mono ?_);(case side1=>repeat (first | (with_reducible first | exact HB.out | apply below_alloc | apply pw_below_drewN | apply below_drew1 | refine below_set ?_ GE649.out) | exact HB.out));(case side2=>exact Kd.R_tight rfl HO_11.out);rintro e w61 ⟨rfl,hy0,hb,hkp⟩;refine ⟨_,rfl,?_⟩;replace HO_8:= am (Kd.R_mono (ok':= fun k_=>some k_ ≠ (.slice Ao60 t665.length co60 : Value).ownBlock) (Kd.R_keptB (HO_8.out) hkp (fun k_ hk_ hs_=>by with_reducible first | exact absurd hs_ hk_ | exact absurd hs_ hk_ | exact absurd hs_ hk_.1 | exact absurd hs_ hk_.2 | exact absurd hs_ hk_.1.1 | exact absurd hs_ hk_.1.2)) (fun k_ hk_=>by first | exact hk_.1 | (with_reducible first | exact hk_.1 | exact hk_.1.1 | exact hk_.1.2 | exact hk_.1.1.1 | exact hk_.1.1.2 | exact hk_.2.1 | exact hk_.1.2.1 | exact hk_.1.2.2)));replace BK649:= am (blk_kept (kz BK649.out) hkp (fun hs_=>(fun e_=>(Kd.R_ne HO_11.out BK649.out (by decide)) e_) hs_));replace HO_11:= am (Kd.R_reok rfl hy0 (fun k_ e_=>HO_11.out.1 k_ e_));replace HB:= am (hb);(try clear hb);(try clear hkp);(try clear hy0)) | ((with_reducible refine gate_callee (f:= 12) rfl ?_);refine goesL_ (some 80) rfl rfl Tryz.func12 kr rfl #[.slice Ao60 t678.length co60,.int .i64 1] rfl (by (try simp only [List.map_toArray,List.map_cons,List.map_nil]);first | done | (rw [show t678.length = t665.length from (Kd.R_reads' HO_11.out).1.symm] <;> rfl) | rfl | (simp only [List.length_drop,List.length_take];rfl)) ?_;(with_reducible refine (laws_heldNodeS.calls kj41 _ _ t678 1 t679 _ ?side1 ?side2 A58.out).mono ?_);(case side1=>exact cz (Kd.R_reads' HO_11.out).2.2);(case side2=>rw [show t678.length = t665.length from (Kd.R_reads' HO_11.out).1.symm];exact (Kd.R_reads' HO_11.out).2.1);rintro e w62 ⟨rfl,hb⟩;refine ⟨_,rfl,?_⟩;replace HO_8:= qz HO_8 hb;replace HO_11:= qz HO_11 hb;replace BK649:= kb BK649 hb;replace HB:= bs (bz1 HB.out GE649.out) hb;(try clear hb);(try clear hi)))
           go_ret
           exact ⟨gz,(bz1 HB.out GE649.out)⟩
          ·rw [if_neg c59] at H
           have c59b0:= decide_eq_false c59
           clear c59
           by_cases c63 : t679 = t677
           ·rw [if_pos c63] at H
            have c63b0 : (t679 == t677) = true:= beq_iff_eq.mpr c63
            have c63b1 : (t679 != t677) = false:= bne_eq_false_iff_eq.mpr c63
            clear c63
            replace H:= bi H
            obtain ⟨t680,A640,H⟩:= H
            try dsimp only at H
            have A64:= am A640
            clear A640
            replace H:= bi H
            obtain ⟨⟨t683,t684⟩,A650,H⟩:= H
            try dsimp only at H
            have A65:= am A650
            clear A650
            replace H:= bi H
            obtain ⟨⟨t685,t688⟩,A660,H⟩:= H
            try dsimp only at H
            have A66:= am A660
            clear A660
            have HC67:= am H
            clear H
            obtain ⟨Ao68,co68,eo68⟩:= Kd.R_slice HO_11.out
            subst eo68
            try go_wp2_with (first | ((with_reducible refine gate_callee (f:= 11) rfl ?_);refine goesL_ (some 77) rfl rfl Tryz.func11 kr rfl #[.slice Ao68 t665.length co68,.int .i64 1] rfl lz ?_;(with_reducible refine (laws_markNodeS.calls kj41 (fun k_=>some k_ = (.slice Ao68 t665.length co68 : Value).ownBlock) (.slice Ao68 t665.length co68) t665 1 t677 t678 w _ ?side1 ?side2 A57.out).mono ?_);(case side1=>repeat (first | (with_reducible first | exact HB.out | apply below_alloc | apply pw_below_drewN | apply below_drew1 | refine below_set ?_ GE649.out) | exact HB.out));(case side2=>exact Kd.R_tight rfl HO_11.out);rintro e w69 ⟨rfl,hy0,hb,hkp⟩;refine ⟨_,rfl,?_⟩;replace HO_8:= am (Kd.R_mono (ok':= fun k_=>some k_ ≠ (.slice Ao68 t665.length co68 : Value).ownBlock) (Kd.R_keptB (HO_8.out) hkp (fun k_ hk_ hs_=>by with_reducible first | exact absurd hs_ hk_ | exact absurd hs_ hk_ | exact absurd hs_ hk_.1 | exact absurd hs_ hk_.2 | exact absurd hs_ hk_.1.1 | exact absurd hs_ hk_.1.2)) (fun k_ hk_=>by first | exact hk_.1 | (with_reducible first | exact hk_.1 | exact hk_.1.1 | exact hk_.1.2 | exact hk_.1.1.1 | exact hk_.1.1.2 | exact hk_.2.1 | exact hk_.1.2.1 | exact hk_.1.2.2)));replace BK649:= am (blk_kept (kz BK649.out) hkp (fun hs_=>(fun e_=>(Kd.R_ne HO_11.out BK649.out (by decide)) e_) hs_));replace HO_11:= am (Kd.R_reok rfl hy0 (fun k_ e_=>HO_11.out.1 k_ e_));replace HB:= am (hb);(try clear hb);(try clear hkp);(try clear hy0)) | ((with_reducible refine gate_callee (f:= 12) rfl ?_);refine goesL_ (some 80) rfl rfl Tryz.func12 kr rfl #[.slice Ao68 t678.length co68,.int .i64 1] rfl (by (try simp only [List.map_toArray,List.map_cons,List.map_nil]);first | done | (rw [show t678.length = t665.length from (Kd.R_reads' HO_11.out).1.symm] <;> rfl) | rfl | (simp only [List.length_drop,List.length_take];rfl)) ?_;(with_reducible refine (laws_heldNodeS.calls kj41 _ _ t678 1 t679 _ ?side1 ?side2 A58.out).mono ?_);(case side1=>exact cz (Kd.R_reads' HO_11.out).2.2);(case side2=>rw [show t678.length = t665.length from (Kd.R_reads' HO_11.out).1.symm];exact (Kd.R_reads' HO_11.out).2.1);rintro e w70 ⟨rfl,hb⟩;refine ⟨_,rfl,?_⟩;replace HO_8:= qz HO_8 hb;replace HO_11:= qz HO_11 hb;replace BK649:= kb BK649 hb;replace HB:= bs (bz1 HB.out GE649.out) hb;(try clear hb);(try clear hi)))
            have n0_:= am (Kd.R_drew HO_8.out)
            have n1_:= am (Kd.R_drew HO_11.out)
            have n2_:= am (blk_drew BK649.out)
            have n3_:= am (below_drew1 HB.out)
            clear HO_8
            clear HO_11
            clear BK649
            clear HB
            have HO_8:= n0_
            have HO_11:= n1_
            have BK649:= n2_
            have HB:= n3_
            clear n0_ n1_ n2_ n3_
            refine start_ (n:= 11) (S:= fun w'=>w'.cell? ⟨gb649,0,none⟩ = some (.int .i64 a1_0) /\ w'.cell? ⟨gb649,1,none⟩ = some (.int .i64 a1_1)) (ds:= []) (mk_ 0 11) kr rfl rfl ⟨(blk_cell BK649.out 0).trans rfl,(blk_cell BK649.out 1).trans rfl⟩ (fun hHeld=>?_);refine with_tabW laws_FnExactRenameOne.tab26 laws_FnExactRenameOne.bits26 (fun HT_ HW_=>?_)
            generalize w70.drew = w71 at HO_8 HO_11 BK649 HB hHeld ⊢
            refine pv 0 87 (mk_ 1 10) HT_ rfl rfl ?_
            refine pv 4 91 (bm_ 11 17) HT_ rfl rfl ?_
            refine tv2 2 89 (bm_ 11 21) HT_ HW_ rfl rfl hHeld ?_
            refine one_ (i:= 1) (N:= some 88) (bm_ 11 23) rfl rfl (one_of HT_.out kr) (by decide) (fun K hK=>?_)
            refine goes_ Tryz.func7 kr rfl #[.slice A0 l0.length c0] (by rfl) rfl rfl lz ?_
            with_reducible refine (laws_toNodeS.calls kj41 _ _ l0 t680 _ ?side1 ?side2 A64.out).mono ?_
            (case side1=>exact cz (Kd.C_below HR0.out HB.out))
            (case side2=>exact HC0.out)
            rintro e w72 ⟨v681,rfl,ho0,hb⟩
            refine ⟨_,rfl,?_⟩
            have n0_:= am (Kd.R_elder' (rz HO_8.out) (Kd.R_base ho0) hb)
            have n1_:= am (Kd.R_elder' (rz HO_11.out) (Kd.R_base ho0) hb)
            have n2_:= am (Kd.R_lower (Kd.R_new' (Kd.R_new' ho0 (Kd.R_lt (rz HO_8.out))) (Kd.R_lt (rz HO_11.out))) (below_size (bz1 HB.out GE649.out)))
            have n3_:= am (blk_below (kz BK649.out) hb)
            have n4_:= am (below_step (bz1 HB.out GE649.out) hb)
            clear HO_8
            clear HO_11
            clear BK649
            clear HB
            have HO_8:= n0_
            have HO_11:= n1_
            have HO682:= n2_
            have BK649:= n3_
            have HB:= n4_
            clear n0_ n1_ n2_ n3_ n4_
            (try clear hb)
            (try clear hb2)
            (try clear hk)
            (try clear hi)
            (try clear ho0)
            refine hK.out _ _ ⟨(blk_cell BK649.out 0).trans rfl,(blk_cell BK649.out 1).trans rfl⟩ (fun hHeld=>?_)
            clear hK K
            refine norm_ (a':= ?_) ?_ ?_
            rotate_left
            ·show Act.put _ (some 88) _ = _
             simp only [Act.put,sz1,sz2,sz3,i64_w,i32_w]
             rfl
            refine one_ (i:= 3) (N:= some 90) (mk_ 5 6) rfl rfl (one_of HT_.out kr) (by decide) (fun K hK=>?_)
            refine goes_ Tryz.func8 kr rfl #[.agg #[.int .i64 a1_0,.int .i64 a1_1]] (by rfl) rfl rfl lz ?_
            with_reducible refine (laws_toBind.calls a1_0 a1_1 t683 t684 _ A65.out).mono ?_
            rintro e w73 ⟨rfl,hb⟩
            refine ⟨_,rfl,?_⟩
            have n0_:= qz HO_8 hb
            have n1_:= qz HO_11 hb
            have n2_:= qz HO682 hb
            have n3_:= am (blk_below (kz BK649.out) hb)
            have n4_:= am (below_step (bz1 HB.out GE649.out) hb)
            clear HO_8
            clear HO_11
            clear HO682
            clear BK649
            clear HB
            have HO_8:= n0_
            have HO_11:= n1_
            have HO682:= n2_
            have BK649:= n3_
            have HB:= n4_
            clear n0_ n1_ n2_ n3_ n4_
            (try clear hb)
            (try clear hb2)
            (try clear hk)
            (try clear hi)
            obtain ⟨Ao74,co74,eo74⟩:= Kd.R_slice HO682.out
            (first | subst eo74 | (injection eo74 with f1_ f2_ f3_;have f4_:= f1_.symm;have f5_:= f3_.symm;clear f1_ f2_ f3_;subst f4_;subst f5_))
            refine hK.out _ _ ⟨(blk_cell BK649.out 0).trans rfl,(blk_cell BK649.out 1).trans rfl⟩ (fun hHeld=>?_)
            clear hK K
            refine norm_ (a':= ?_) ?_ ?_
            rotate_left
            ·show Act.put _ (some 90) _ = _
             simp only [Act.put,sz1,sz2,sz3,i64_w,i32_w]
             rfl
            refine one_ (i:= 5) (N:= some 92) (mk_ 6 5) rfl rfl (one_of HT_.out kr) (by decide) (fun K hK=>?_)
            refine goes_ Tryz.func9 kr rfl #[.slice Ao74 t680.length co74,.agg #[.int .i64 t683,.int .i64 t684],.string a2] (by rfl) rfl rfl lz ?_
            with_reducible refine (impl_RenameOne.calls kj41 _ _ t680 t683 t684 a2 t685 t688 _ ?side1 ?side2 A66.out).mono ?_
            (case side1=>exact cz (Kd.R_reads' HO682.out).2.2)
            (case side2=>exact (Kd.R_reads' HO682.out).2.1)
            rintro e w75 ⟨v686,rfl,ho0,hb⟩
            refine ⟨_,rfl,?_⟩
            have n0_:= am (Kd.R_elder' (rz HO_8.out) (Kd.R_base ho0) hb)
            have n1_:= am (Kd.R_elder' (rz HO_11.out) (Kd.R_base ho0) hb)
            have n2_:= am (Kd.R_elder' (rz HO682.out) (Kd.R_base ho0) hb)
            have n3_:= am (Kd.R_lower (Kd.R_new' (Kd.R_new' (Kd.R_new' ho0 (Kd.R_lt (rz HO_8.out))) (Kd.R_lt (rz HO_11.out))) (Kd.R_lt (rz HO682.out))) (below_size (bz1 HB.out GE649.out)))
            have n4_:= am (blk_below (kz BK649.out) hb)
            have n5_:= am (below_step (bz1 HB.out GE649.out) hb)
            clear HO_8
            clear HO_11
            clear HO682
            clear BK649
            clear HB
            have HO_8:= n0_
            have HO_11:= n1_
            have HO682:= n2_
            have HO687:= n3_
            have BK649:= n4_
            have HB:= n5_
            clear n0_ n1_ n2_ n3_ n4_ n5_
            (try clear hb)
            (try clear hb2)
            (try clear hk)
            (try clear hi)
            (try clear ho0)
            refine hK.out _ _ ⟨(blk_cell BK649.out 0).trans rfl,(blk_cell BK649.out 1).trans rfl⟩ (fun hHeld=>?_)
            clear hK K
            refine norm_ (a':= ?_) ?_ ?_
            rotate_left
            ·show Act.put _ (some 92) _ = _
             simp only [Act.put,sz1,sz2,sz3,i64_w,i32_w]
             rfl
            refine pv 6 86 (mk_ 7 4) HT_ rfl rfl ?_
            refine pv 7 93 (mk_ 8 3) HT_ rfl rfl ?_
            refine pv 8 94 (mk_ 9 2) HT_ rfl rfl ?_
            refine pv 9 16 (mk_ 10 1) HT_ rfl rfl ?_
            refine pv 10 17 (mk_ 11 0) HT_ rfl rfl ?_
            refine done_ (done_of HT_.out kr) ?_
            go_upto_region 27 with (fail)
            go_cut [103] (fun v103 wc=>∃ (kq : Nat) (x103_66 : Bool),v103 = .bool x103_66 /\ Aside0 (laws_FnExactRenameOne.j2 kq t678 t677 x103_66 = some r) /\ Aside0 (kq <= kj41) /\ Aside0 (Kd.R k45 45 wc w.heap.size (fun _=>True) (.slice Ao68 t665.length co68) t678) /\ Aside0 (wc.heap[gb649]? = some (.cells #[.int .i64 a1_0,.int .i64 a1_1] 24 (0,0))) /\ Aside0 (Below w.heap.size w wc))
            case first =>
             have H:= HC67.out
             clear HC67
             replace H:= bi H
             obtain ⟨t689,A760,H⟩:= H
             try dsimp only at H
             have A76:= am A760
             clear A760
             by_cases c77 : t689 = true
             ·subst c77
              have H1:= hp H
              clear H
              have H:= H1
              clear H1
              have H':= am H
              clear H
              obtain ⟨Ao78,co78,eo78⟩:= Kd.R_slice HO687.out
              subst eo78
              obtain ⟨Ao79,co79,eo79⟩:= Kd.R_slice HO_8.out
              subst eo79
              go_wp2_with (first | ((with_reducible refine gate_callee (f:= 10) rfl ?_);refine goesL_ (some 97) rfl rfl Tryz.func10 kr rfl #[.slice Ao78 t685.length co78,.slice Ao79 t656.length co79] rfl lz ?_;(with_reducible refine (laws_eqNodeS.calls kj41 _ _ t685 _ _ t656 true _ ?side1 ?side2 ?side3 ?side4 A76.out).mono ?_);(case side1=>exact cz (Kd.R_reads' HO687.out).2.2);(case side2=>exact (Kd.R_reads' HO687.out).2.1);(case side3=>exact cz (Kd.R_reads' HO_8.out).2.2);(case side4=>exact (Kd.R_reads' HO_8.out).2.1);rintro e w80 ⟨rfl,hb⟩;refine ⟨_,rfl,?_⟩;replace HO_8:= qz HO_8 hb;replace HO_11:= qz HO_11 hb;replace HO682:= qz HO682 hb;replace HO687:= qz HO687 hb;replace BK649:= kb BK649 hb;replace HB:= bs (bz1 HB.out GE649.out) hb;(try clear hb);(try clear hi)))
              go_meet
              case rel=>exact ⟨_,((t688 != t659)),ez,H',⟨by have:= HJ15.out;have:= HJ41.out;first | omega | exact Nat.le_refl _⟩,⟨by refine rq ?_;exact Kd.R_mono HO_11.out (fun _ hk=>trivial)⟩,⟨by refine kq ?_;exact BK649.out⟩,⟨(bz1 HB.out GE649.out)⟩⟩
             ·replace c77:= Bool.eq_false_iff.mpr c77
              subst c77
              have H1:= hq H
              clear H
              have H:= H1
              clear H1
              have H':= am H
              clear H
              obtain ⟨Ao81,co81,eo81⟩:= Kd.R_slice HO687.out
              subst eo81
              obtain ⟨Ao82,co82,eo82⟩:= Kd.R_slice HO_8.out
              subst eo82
              go_wp2_with (first | ((with_reducible refine gate_callee (f:= 10) rfl ?_);refine goesL_ (some 97) rfl rfl Tryz.func10 kr rfl #[.slice Ao81 t685.length co81,.slice Ao82 t656.length co82] rfl lz ?_;(with_reducible refine (laws_eqNodeS.calls kj41 _ _ t685 _ _ t656 false _ ?side1 ?side2 ?side3 ?side4 A76.out).mono ?_);(case side1=>exact cz (Kd.R_reads' HO687.out).2.2);(case side2=>exact (Kd.R_reads' HO687.out).2.1);(case side3=>exact cz (Kd.R_reads' HO_8.out).2.2);(case side4=>exact (Kd.R_reads' HO_8.out).2.1);rintro e w83 ⟨rfl,hb⟩;refine ⟨_,rfl,?_⟩;replace HO_8:= qz HO_8 hb;replace HO_11:= qz HO_11 hb;replace HO682:= qz HO682 hb;replace HO687:= qz HO687 hb;replace BK649:= kb BK649 hb;replace HB:= bs (bz1 HB.out GE649.out) hb;(try clear hb);(try clear hi)))
              go_meet
              case rel=>exact ⟨_,(true),ez,H',⟨by have:= HJ15.out;have:= HJ41.out;first | omega | exact Nat.le_refl _⟩,⟨by refine rq ?_;exact Kd.R_mono HO_11.out (fun _ hk=>trivial)⟩,⟨by refine kq ?_;exact BK649.out⟩,⟨(bz1 HB.out GE649.out)⟩⟩
            case rest =>
             clear HC67
             try clear c1
             try clear p2
             try clear c3
             try clear c4
             try clear c4b0
             try clear c4b1
             try clear c5
             try clear c6
             try clear c7
             try clear c7b0
             try clear c8
             try clear c9
             try clear c10
             try clear c11
             try clear c12
             try clear c30
             try clear c37
             try clear c40
             try clear c47
             try clear c47b0
             try clear c49
             try clear c56
             try clear c59
             try clear c59b0
             try clear c63
             try clear c63b0
             try clear c63b1
             try clear c77
             try clear hcz25_0 hcz25_1
             try clear hfz25_0 hfz25_1
             try clear p2
             obtain ⟨kq,x103_66,rfl,HA,HJ66,HO_11,BK649,HB⟩:= hcut
             have hl11_66:= (Kd.R_reads' HO_11.out).1
             rw [hl11_66] at HO_11
             (try simp only [hl11_66])
             (try simp only [hl11_66] at BK649)
             cases kq with
             | zero=>exact absurd HA.out (by simp [laws_FnExactRenameOne.j2])
             | succ kj66 =>
              have H:= HA.out
              clear HA
              simp only [laws_FnExactRenameOne.j2] at H
              by_cases c84 : x103_66 = true
              ·subst c84
               have H1:= hp H
               clear H
               have H:= H1
               clear H1
               obtain rfl:= Option.some.inj H
               go_wp2
               go_ret
               exact ⟨gz,(bz1 HB.out GE649.out)⟩
              ·replace c84:= Bool.eq_false_iff.mpr c84
               subst c84
               have H1:= hq H
               clear H
               have H:= H1
               clear H1
               replace H:= bi H
               obtain ⟨t690,A850,H⟩:= H
               try dsimp only at H
               have A85:= am A850
               clear A850
               by_cases c86 : t690 < 0
               ·rw [if_pos c86] at H
                have c86b0:= decide_eq_true c86
                clear c86
                obtain rfl:= Option.some.inj H
                go_wp2_with (first | ((with_reducible refine gate_callee (f:= 12) rfl ?_);refine goesL_ (some 106) rfl rfl Tryz.func12 kr rfl #[.slice Ao68 t678.length co68,.int .i64 1] rfl lz ?_;(with_reducible refine (laws_heldNodeS.calls kj66 _ _ t678 1 t690 _ ?side1 ?side2 A85.out).mono ?_);(case side1=>exact cz (Kd.R_reads' HO_11.out).2.2);(case side2=>exact (Kd.R_reads' HO_11.out).2.1);rintro e w87 ⟨rfl,hb⟩;refine ⟨_,rfl,?_⟩;replace HO_11:= qz HO_11 hb;replace BK649:= kb BK649 hb;replace HB:= bs (bz1 HB.out GE649.out) hb;(try clear hb);(try clear hi)))
                go_ret
                exact ⟨gz,(bz1 HB.out GE649.out)⟩
               ·rw [if_neg c86] at H
                have c86b0:= decide_eq_false c86
                clear c86
                by_cases c88 : t690 = t677
                ·rw [if_pos c88] at H
                 have c88b0 : (t690 == t677) = true:= beq_iff_eq.mpr c88
                 have c88b1 : (t690 != t677) = false:= bne_eq_false_iff_eq.mpr c88
                 clear c88
                 obtain rfl:= Option.some.inj H
                 go_wp2_with (first | ((with_reducible refine gate_callee (f:= 12) rfl ?_);refine goesL_ (some 106) rfl rfl Tryz.func12 kr rfl #[.slice Ao68 t678.length co68,.int .i64 1] rfl lz ?_;(with_reducible refine (laws_heldNodeS.calls kj66 _ _ t678 1 t690 _ ?side1 ?side2 A85.out).mono ?_);(case side1=>exact cz (Kd.R_reads' HO_11.out).2.2);(case side2=>exact (Kd.R_reads' HO_11.out).2.1);rintro e w89 ⟨rfl,hb⟩;refine ⟨_,rfl,?_⟩;replace HO_11:= qz HO_11 hb;replace BK649:= kb BK649 hb;replace HB:= bs (bz1 HB.out GE649.out) hb;(try clear hb);(try clear hi)))
                 go_ret
                 exact ⟨gz,(bz1 HB.out GE649.out)⟩
                ·rw [if_neg c88] at H
                 have c88b0 : (t690 == t677) = false:= beq_eq_false_iff_ne.mpr c88
                 have c88b1 : (t690 != t677) = true:= bne_iff_ne.mpr c88
                 obtain rfl:= Option.some.inj H
                 go_wp2_with (first | ((with_reducible refine gate_callee (f:= 12) rfl ?_);refine goesL_ (some 106) rfl rfl Tryz.func12 kr rfl #[.slice Ao68 t678.length co68,.int .i64 1] rfl lz ?_;(with_reducible refine (laws_heldNodeS.calls kj66 _ _ t678 1 t690 _ ?side1 ?side2 A85.out).mono ?_);(case side1=>exact cz (Kd.R_reads' HO_11.out).2.2);(case side2=>exact (Kd.R_reads' HO_11.out).2.1);rintro e w90 ⟨rfl,hb⟩;refine ⟨_,rfl,?_⟩;replace HO_11:= qz HO_11 hb;replace BK649:= kb BK649 hb;replace HB:= bs (bz1 HB.out GE649.out) hb;(try clear hb);(try clear hi)))
                 go_ret
                 exact ⟨gz,(bz1 HB.out GE649.out)⟩
           ·rw [if_neg c63] at H
            have c63b0 : (t679 == t677) = false:= beq_eq_false_iff_ne.mpr c63
            have c63b1 : (t679 != t677) = true:= bne_iff_ne.mpr c63
            obtain rfl:= Option.some.inj H
            obtain ⟨Ao91,co91,eo91⟩:= Kd.R_slice HO_11.out
            subst eo91
            go_wp2_with (first | ((with_reducible refine gate_callee (f:= 11) rfl ?_);refine goesL_ (some 77) rfl rfl Tryz.func11 kr rfl #[.slice Ao91 t665.length co91,.int .i64 1] rfl lz ?_;(with_reducible refine (laws_markNodeS.calls kj41 (fun k_=>some k_ = (.slice Ao91 t665.length co91 : Value).ownBlock) (.slice Ao91 t665.length co91) t665 1 t677 t678 w _ ?side1 ?side2 A57.out).mono ?_);(case side1=>repeat (first | (with_reducible first | exact HB.out | apply below_alloc | apply pw_below_drewN | apply below_drew1 | refine below_set ?_ GE649.out) | exact HB.out));(case side2=>exact Kd.R_tight rfl HO_11.out);rintro e w92 ⟨rfl,hy0,hb,hkp⟩;refine ⟨_,rfl,?_⟩;replace HO_8:= am (Kd.R_mono (ok':= fun k_=>some k_ ≠ (.slice Ao91 t665.length co91 : Value).ownBlock) (Kd.R_keptB (HO_8.out) hkp (fun k_ hk_ hs_=>by with_reducible first | exact absurd hs_ hk_ | exact absurd hs_ hk_ | exact absurd hs_ hk_.1 | exact absurd hs_ hk_.2 | exact absurd hs_ hk_.1.1 | exact absurd hs_ hk_.1.2)) (fun k_ hk_=>by first | exact hk_.1 | (with_reducible first | exact hk_.1 | exact hk_.1.1 | exact hk_.1.2 | exact hk_.1.1.1 | exact hk_.1.1.2 | exact hk_.2.1 | exact hk_.1.2.1 | exact hk_.1.2.2)));replace BK649:= am (blk_kept (kz BK649.out) hkp (fun hs_=>(fun e_=>(Kd.R_ne HO_11.out BK649.out (by decide)) e_) hs_));replace HO_11:= am (Kd.R_reok rfl hy0 (fun k_ e_=>HO_11.out.1 k_ e_));replace HB:= am (hb);(try clear hb);(try clear hkp);(try clear hy0)) | ((with_reducible refine gate_callee (f:= 12) rfl ?_);refine goesL_ (some 80) rfl rfl Tryz.func12 kr rfl #[.slice Ao91 t678.length co91,.int .i64 1] rfl (by (try simp only [List.map_toArray,List.map_cons,List.map_nil]);first | done | (rw [show t678.length = t665.length from (Kd.R_reads' HO_11.out).1.symm] <;> rfl) | rfl | (simp only [List.length_drop,List.length_take];rfl)) ?_;(with_reducible refine (laws_heldNodeS.calls kj41 _ _ t678 1 t679 _ ?side1 ?side2 A58.out).mono ?_);(case side1=>exact cz (Kd.R_reads' HO_11.out).2.2);(case side2=>rw [show t678.length = t665.length from (Kd.R_reads' HO_11.out).1.symm];exact (Kd.R_reads' HO_11.out).2.1);rintro e w93 ⟨rfl,hb⟩;refine ⟨_,rfl,?_⟩;replace HO_8:= qz HO_8 hb;replace HO_11:= qz HO_11 hb;replace BK649:= kb BK649 hb;replace HB:= bs (bz1 HB.out GE649.out) hb;(try clear hb);(try clear hi)))
            go_ret
            exact ⟨gz,(bz1 HB.out GE649.out)⟩
      ·replace c40:= Bool.eq_false_iff.mpr c40
       subst c40
       have H1:= hq H
       clear H
       have H:= H1
       clear H1
       obtain rfl:= Option.some.inj H
       go_wp2_with (first | ((with_reducible refine gate_callee (f:= 7) rfl ?_);refine goesL_ (some 56) rfl rfl Tryz.func7 kr rfl #[.slice A0 l0.length c0] rfl lz ?_;(with_reducible refine (laws_toNodeS.calls kj15 _ _ l0 t670 _ ?side1 ?side2 A38.out).mono ?_);(case side1=>exact cz (Kd.C_below HR0.out HB.out));(case side2=>exact HC0.out);rintro e w94 ⟨v671,rfl,ho0,hb⟩;refine ⟨_,rfl,?_⟩;have HO672:= am (Kd.R_lower (Kd.R_new' (Kd.R_new' (Kd.R_new' ho0 (Kd.R_lt (rz HO_8.out))) (Kd.R_lt (rz HO_10.out))) (Kd.R_lt (rz HO_11.out))) (below_size (bz1 HB.out GE649.out)));replace HO_8:= am (Kd.R_elder' (rz HO_8.out) (Kd.R_base ho0) hb);replace HO_10:= am (Kd.R_elder' (rz HO_10.out) (Kd.R_base ho0) hb);replace HO_11:= am (Kd.R_elder' (rz HO_11.out) (Kd.R_base ho0) hb);replace BK649:= kb BK649 hb;replace HB:= bs (bz1 HB.out GE649.out) hb;(try clear hb);(try clear ho0);obtain ⟨Ao95,co95,eo95⟩:= Kd.R_slice HO672.out;subst eo95) | ((with_reducible refine gate_callee (f:= 10) rfl ?_);refine goesL_ (some 57) rfl rfl Tryz.func10 kr rfl #[.slice Ao27 t660.length co27,.slice Ao95 t670.length co95] rfl lz ?_;(with_reducible refine (laws_eqNodeS.calls kj15 _ _ t660 _ _ t670 false _ ?side1 ?side2 ?side3 ?side4 A39.out).mono ?_);(case side1=>exact cz (Kd.R_reads' HO_10.out).2.2);(case side2=>exact (Kd.R_reads' HO_10.out).2.1);(case side3=>exact cz (Kd.R_reads' HO672.out).2.2);(case side4=>exact (Kd.R_reads' HO672.out).2.1);rintro e w96 ⟨rfl,hb⟩;refine ⟨_,rfl,?_⟩;replace HO_8:= qz HO_8 hb;replace HO_10:= qz HO_10 hb;replace HO_11:= qz HO_11 hb;replace HO672:= qz HO672 hb;replace BK649:= kb BK649 hb;replace HB:= bs (bz1 HB.out GE649.out) hb;(try clear hb);(try clear hi)))
       go_ret
       exact ⟨gz,(bz1 HB.out GE649.out)⟩
end Go.Proofs.YtdjamdnjkdllgaaGreatDoor.PFnExactRenameOne

set_option linter.unusedVariables false
namespace Go.Proofs.YtdjamdnjkdllgaaGreatDoorW.Opens
open Go.RowKit Go.Proofs.YtdjamdnjkdllgaaGreatDoorW.PrintWords Go.ChangeShapes Go.WideShapes Go.Deep

/-- Whatever is read as a value of the type t is of the kind d,and fine. -/
def Opens {α : Type} (P : Program) (t : TypeId) (d : Kd α) (good : α → Prop) : Prop :=
  P.cellsOf t = d.sz ∧ ∀ (H : Type) (enc : TypeId × Value → H) (w : World) (base : Nat) (spare : Nat → Bool) (held : Bool) (fuel : Nat) (cs : List Value) (x : DataW H × List MemPlace),
    DataW.trod enc P w base spare held fuel t cs = some x → ∃ a,d.K w a cs ∧ good a

theorem opens_int {P : Program} {t : TypeId} {k : IntKind} (ht : P.underlying t = some (.int k)) (hc : P.cellsOf t = 1) : Opens P t (Kd.int k) (fun a=>(Lit.int k a).wf = true) :=
  ⟨hc,fun H enc w base spare held fuel cs x h=>by
    obtain ⟨n,rfl,_,hw⟩:= DataW.trod_int ht h
    exact ⟨n,rfl,hw⟩⟩
theorem opens_string {P : Program} {t : TypeId} (ht : P.underlying t = some .string) (hc : P.cellsOf t = 1) : Opens P t Kd.string (fun s=>s.size ≤ 9223372036854775807) :=
  ⟨hc,fun H enc w base spare held fuel cs x h=>by
    obtain ⟨s,rfl,_,hs⟩:= DataW.trod_string ht h
    refine ⟨s,rfl,?_⟩
    unfold maxLen at hs
    omega⟩

theorem choose_list {α : Type} {n : Nat} {p : Nat → α → Prop} (h : ∀ i,i < n → ∃ x,p i x) : ∃ l : List α,l.length = n ∧ ∀ (i : Nat) (x : α),l[i]? = some x → p i x:= by
  induction n with
  | zero=>exact ⟨[],rfl,fun i x h=>by simp at h⟩
  | succ n ih =>
    obtain ⟨l,hl,hp⟩:= ih fun i hi=>h i (by omega)
    obtain ⟨x,hx⟩:= h n (by omega)
    refine ⟨l ++ [x],by simp [hl],fun i y hy=>?_⟩
    rcases Nat.lt_trichotomy i n with hlt | rfl | hgt
    · rw [List.getElem?_append_left (by omega)] at hy
      exact hp i y hy
    · rw [List.getElem?_append_right (by omega),hl,Nat.sub_self] at hy
      obtain rfl : x = y:= by simpa using hy
      exact hx
    · rw [List.getElem?_eq_none (by simp;omega)] at hy
      cases hy

theorem opens_slice {α : Type} {P : Program} {t e : TypeId} {d : Kd α} {good : α → Prop} (ht : P.underlying t = some (.slice e)) (hc : P.cellsOf t = 1) (he : Opens P e d good) :
    Opens P t (Kd.slice e d) (fun xs=>xs.length ≤ 9223372036854775807 ∧ ∀ x ∈ xs,good x) :=
  ⟨hc,fun H enc w base spare held fuel cs x h=>by
    rcases open_slice ht h with ⟨rfl,_⟩ | ⟨a,len,cap,m,n,D,Pl,rfl,hb,hl,hm,hmm,_,hi⟩
    · exact ⟨[],⟨none,0,rfl,Nat.le_refl _,rfl,by simp,fun h=>absurd h (by simp)⟩,by simp,fun x hx=>by cases hx⟩
    · have hlm : len ≤ m:= by rw [hmm];split <;> omega
      have key : ∀ i,i < len → ∃ y : α,good y ∧ ∃ c : List Value,c.length = d.sz ∧ d.K w y c ∧ ∀ j u,c[j]? = some u → w.cell? (a.add (i * d.sz + j)) = some u:= by
        intro i hlt
        obtain ⟨cs',hcell,htr⟩:= hi i (by omega)
        obtain ⟨y,hK,hg⟩:= he.2 H enc w base spare held n cs' _ htr
        rw [he.1] at hcell
        obtain ⟨_,hlen,hat⟩:= World.cells?_some hcell
        refine ⟨y,hg,cs',hlen,hK,fun j u hu=>?_⟩
        have hj : j < d.sz:= by rw [← hlen];exact (List.getElem?_eq_some_iff.1 hu).1
        have:= hat j hj
        rw [hu] at this
        rw [← Go.Deep.add_add]
        exact this
      obtain ⟨l,hll,hp⟩:= choose_list key
      unfold maxLen at hm
      subst hll
      refine ⟨l,⟨some a,cap,rfl,hl,rfl,by omega,fun _=>⟨a,rfl,fun j p hj=>?_⟩⟩,by omega,fun y hy=>?_⟩
      · obtain ⟨_,c,h1,h2,h3⟩:= hp j p hj
        exact ⟨c,h1,h2,h3⟩
      · obtain ⟨i,hi'⟩:= List.getElem?_of_mem hy
        exact (hp i y hi').1⟩

/-- The fields from an offset on,one behind another. -/
def OpensFs {α : Type} (P : Program) (fs : List Field) (off : Nat) (d : Kd α) (good : α → Prop) : Prop :=
  ∀ (H : Type) (enc : TypeId × Value → H) (w : World) (base : Nat) (spare : Nat → Bool) (held : Bool) (fuel : Nat) (cs : List Value),cs.length = d.sz →
    (∀ (i : Nat) (f : Field),fs[i]? = some f → ∃ y,DataW.trod enc P w base spare held fuel f.type ((cs.drop (f.offset - off)).take (P.cellsOf f.type)) = some y) → ∃ a,d.K w a cs ∧ good a

theorem opensFs_last {α : Type} {P : Program} {f : Field} {off : Nat} {d : Kd α} {good : α → Prop} (ho : f.offset = off) (h : Opens P f.type d good) : OpensFs P [f] off d good:= by
  intro H enc w base spare held fuel cs hl hf
  obtain ⟨y,hy⟩:= hf 0 f rfl
  rw [ho,Nat.sub_self,List.drop_zero,h.1,← hl,List.take_length] at hy
  exact h.2 H enc w base spare held fuel cs y hy
theorem opensFs_cons {α β : Type} {P : Program} {f : Field} {fs : List Field} {off : Nat} {d : Kd α} {d' : Kd β} {good : α → Prop} {good' : β → Prop} (ho : f.offset = off) (h : Opens P f.type d good)
    (hle : fs.all (fun g=>decide (off + d.sz ≤ g.offset)) = true) (h' : OpensFs P fs (off + d.sz) d' good') : OpensFs P (f :: fs) off (Kd.pair d d') (fun x=>good x.1 ∧ good' x.2):= by
  intro H enc w base spare held fuel cs hl hf
  obtain ⟨y,hy⟩:= hf 0 f rfl
  have hl' : cs.length = d.sz + d'.sz:= hl
  rw [ho,Nat.sub_self,List.drop_zero,h.1] at hy
  obtain ⟨a,ha,ga⟩:= h.2 H enc w base spare held fuel _ y hy
  obtain ⟨b,hb,gb⟩:= h' H enc w base spare held fuel (cs.drop d.sz) (by rw [List.length_drop];omega) (by
    intro i g hg
    obtain ⟨z,hz⟩:= hf (i + 1) g (by simpa using hg)
    have hlg:= List.all_eq_true.1 hle g (List.mem_of_getElem? hg)
    have hlg' : off + d.sz ≤ g.offset:= of_decide_eq_true hlg
    refine ⟨z,?_⟩
    rw [List.drop_drop,show d.sz + (g.offset - (off + d.sz)) = g.offset - off by omega]
    exact hz)
  exact ⟨(a,b),⟨cs.take d.sz,cs.drop d.sz,(List.take_append_drop _ _).symm,ha,hb⟩,ga,gb⟩
theorem opens_struct {α β : Type} {P : Program} {t : TypeId} {fs : Array Field} {d : Kd α} {good : α → Prop} (f : β → α) (back : α → β) (hfb : ∀ a,f (back a) = a) (ht : P.underlying t = some (.struct fs)) (hc : P.cellsOf t = d.sz)
    (h : OpensFs P fs.toList 0 d good) : Opens P t (Kd.iso d f) (fun b=>good (f b)) :=
  ⟨hc,fun H enc w base spare held fuel cs x hx=>by
    obtain ⟨xs,n,_,_,hl,hxl,hf⟩:= DataW.trod_struct ht hx
    obtain ⟨a,ha,ga⟩:= h H enc w base spare held n cs (by rw [hl,hc]) (by
      intro i g hg
      have hg' : fs[i]? = some g:= by rw [← Array.getElem?_toList];exact hg
      have hlt : i < fs.size:= (Array.getElem?_eq_some_iff.1 hg').1
      refine ⟨xs[i]'(by omega),?_⟩
      rw [Nat.sub_zero,hf i g hg',List.getElem?_eq_getElem (by omega)])
    refine ⟨back a,?_,?_⟩
    · show d.K w (f (back a)) cs
      rw [hfb]
      exact ha
    · show good (f (back a))
      rw [hfb]
      exact ga⟩
theorem opens_mono {α : Type} {P : Program} {t : TypeId} {d : Kd α} {good good' : α → Prop} (h : Opens P t d good) (hg : ∀ a,good a → good' a) : Opens P t d good' :=
  ⟨h.1,fun H enc w base spare held fuel cs x hx=>by
    obtain ⟨a,ha,g⟩:= h.2 H enc w base spare held fuel cs x hx
    exact ⟨a,ha,hg a g⟩⟩
end Go.Proofs.YtdjamdnjkdllgaaGreatDoorW.Opens

set_option linter.unusedVariables false
namespace Go.Proofs.YtdjamdnjkdllgaaGreatDoor.SayFnExactRenameOne
open Go.RowKit Go.Proofs.YtdjamdnjkdllgaaGreatDoor.PFnExactRenameOne Go.Proofs.YtdjamdnjkdllgaaGreatDoorW.PrintWords Go.Proofs.YtdjamdnjkdllgaaGreatDoorW.Opens
def G51 (x : S51) : Prop:= ((Lit.int .i64 x.f0).wf = true) ∧ ((Lit.int .i64 x.f1).wf = true) ∧ ((Lit.int .i64 x.f2).wf = true) ∧ ((Lit.int .i64 x.f3).wf = true) ∧ ((Lit.int .i64 x.f4).wf = true) ∧ (x.f5.size ≤ 9223372036854775807) ∧ (x.f6.size ≤ 9223372036854775807)
theorem opens_k51 : Opens Tryz.prog 51 k51 G51 :=
  opens_mono (opens_struct (fun x : S51=>(x.f0,x.f1,x.f2,x.f3,x.f4,x.f5,x.f6)) (fun a=>⟨a.1,a.2.1,a.2.2.1,a.2.2.2.1,a.2.2.2.2.1,a.2.2.2.2.2.1,a.2.2.2.2.2.2⟩) (fun _=>rfl) Tryz.underlying51 (by kernel_rfl) (opensFs_cons rfl (opens_int Tryz.underlying3 (by kernel_rfl)) (by kernel_rfl) (opensFs_cons rfl (opens_int Tryz.underlying3 (by kernel_rfl)) (by kernel_rfl) (opensFs_cons rfl (opens_int Tryz.underlying3 (by kernel_rfl)) (by kernel_rfl) (opensFs_cons rfl (opens_int Tryz.underlying3 (by kernel_rfl)) (by kernel_rfl) (opensFs_cons rfl (opens_int Tryz.underlying3 (by kernel_rfl)) (by kernel_rfl) (opensFs_cons rfl (opens_string Tryz.underlying9 (by kernel_rfl)) (by kernel_rfl) (opensFs_last rfl (opens_string Tryz.underlying9 (by kernel_rfl)))))))))) (fun x h=>h)
def Pure : Prop:= ∀ (l0 : List (S51)) (a1_0 : Int) (a1_1 : Int) (a2 : ByteArray),(l0.length ≤ 9223372036854775807 ∧ ∀ y ∈ l0,G51 y) → ((Lit.int .i64 a1_0).wf = true) → ((Lit.int .i64 a1_1).wf = true) → (a2.size ≤ 9223372036854775807) → ∃ k,laws_FnExactRenameOne.f k l0 a1_0 a1_1 a2 = some true
theorem walk (P : Pure) (A0 : Option Addr) (c0 : Nat) (l0 : List (S51)) (a1_0 : Int) (a1_1 : Int) (a2 : ByteArray) (w : World) (hr0 : Kd.C k51 w A0 l0.length l0) (hc0 : l0.length ≤ c0) (g0 : l0.length ≤ 9223372036854775807 ∧ ∀ y ∈ l0,G51 y) (g1 : (Lit.int .i64 a1_0).wf = true) (g2 : (Lit.int .i64 a1_1).wf = true) (g3 : a2.size ≤ 9223372036854775807) :
    Calls Tryz.prog 3 #[.slice A0 l0.length c0,.agg #[.int .i64 a1_0,.int .i64 a1_1],.string a2] w fun e w'=>e = .returned (.bool true) ∧ Below w.heap.size w w':= by
  obtain ⟨k,h⟩:= P l0 a1_0 a1_1 a2 g0 g1 g2 g3
  refine (laws_FnExactRenameOne.calls k A0 c0 l0 a1_0 a1_1 a2 true w hr0 hc0 h).mono ?_
  rintro e w' ⟨rfl,hd⟩
  exact ⟨rfl,hd⟩
end Go.Proofs.YtdjamdnjkdllgaaGreatDoor.SayFnExactRenameOne
