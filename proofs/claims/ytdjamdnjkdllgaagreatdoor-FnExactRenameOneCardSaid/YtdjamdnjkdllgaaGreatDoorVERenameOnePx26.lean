/- PFnExactRenameOnex26,of the words and walks that the law FnExactRenameOne needs;made by this session's program out of printed texts. -/

import Derived.Test.YtdjamdnjkdllgaaGreatDoorVERenameOnePx0
import Derived.Test.YtdjamdnjkdllgaaGreatDoorVERenameOnePx25
namespace Go.Proofs.YtdjamdnjkdllgaaGreatDoor.PFnExactRenameOne
open Go.RowKit Go.Proofs.YtdjamdnjkdllgaaGreatDoorW.PrintWords Go.Proofs.YtdjamdnjkdllgaaGreatDoorW.PrintLast Go.Proofs.YtdjamdnjkdllgaaGreatDoorW.PrintMore
attribute [local go_sem] max2_int min2_int max_two min_two max_three min_three max_four min_four
set_option linter.unusedVariables false
set_option linter.unusedSimpArgs false
def laws_heldNodeS.l0 : Nat -> List (S45) -> Int -> Int -> Option (Int)
 | 0,_,_,_=>none
 | k + 1,x0,x1,x5=>if x5 < (x0.length : Int) then (if 0 <= x5 then (if ((rd_T45 x0 x5).f0) = x1 then (if ((rd_T45 x0 x5).f1) = (wrap64 (x1 + 1)) then (if ((rd_T45 x0 x5).f2) = (wrap64 ((wrap64 (x1 + 1)) + 1)) then (if ((rd_T45 x0 x5).f3) = (wrap64 ((wrap64 ((wrap64 (x1 + 1)) + 1)) + 1)) then (if ((rd_T45 x0 x5).f4) = (wrap64 ((wrap64 ((wrap64 ((wrap64 (x1 + 1)) + 1)) + 1)) + 1)) then ((laws_markText.f k (wrap64 ((wrap64 ((wrap64 ((wrap64 ((wrap64 (x1 + 1)) + 1)) + 1)) + 1)) + 1))).bind fun t646=>(if ((rd_T45 x0 x5).f5).toList = t646.toList then ((laws_markText.f k (wrap64 ((wrap64 ((wrap64 ((wrap64 ((wrap64 ((wrap64 (x1 + 1)) + 1)) + 1)) + 1)) + 1)) + 1))).bind fun t648=>(if ((rd_T45 x0 x5).f6).toList = t648.toList then (laws_heldNodeS.l0 k x0 (wrap64 ((wrap64 ((wrap64 ((wrap64 ((wrap64 ((wrap64 ((wrap64 (x1 + 1)) + 1)) + 1)) + 1)) + 1)) + 1)) + 1)) (wrap64 (x5 + 1))) else (some (-1)))) else (some (-1)))) else (some (-1))) else (some (-1))) else (some (-1))) else (some (-1))) else (some (-1))) else (none)) else (some x1)
def laws_heldNodeS.f (k : Nat) (l0 : List (S45)) (a1 : Int) : Option (Int):= laws_heldNodeS.l0 k l0 a1 0
theorem laws_heldNodeS.mono_l : ∀ k,(∀ y0 y1 y2,LeO (laws_heldNodeS.l0 k y0 y1 y2) (laws_heldNodeS.l0 (k + 1) y0 y1 y2))
 | 0=>fun _ _ _ r h=>by simp [laws_heldNodeS.l0] at h
 | k + 1=>by
  have ih0:= laws_heldNodeS.mono_l k
  ·intro y0 y1 y2
   unfold laws_heldNodeS.l0
   with_reducible repeat' first | exact ih0 _ _ _ | exact laws_markText.mono _ _ | exact lrz _ | exact lnz _ | refine liz ?_ ?_ | refine lbz ?_ fun _=>?_
theorem laws_heldNodeS.mono : ∀ a0 a1 k,LeO (laws_heldNodeS.f k a0 a1) (laws_heldNodeS.f (k + 1) a0 a1):= by
 intro a0 a1 k
 have ih0:= laws_heldNodeS.mono_l k
 unfold laws_heldNodeS.f
 with_reducible repeat' first | exact ih0 _ _ _ | exact laws_markText.mono _ _ | exact lrz _ | exact lnz _ | refine liz ?_ ?_ | refine lbz ?_ fun _=>?_
def laws_heldNodeS.T19 : Bool × List (List Nat × List Nat):= (true,[([],[]),([],[]),([0,1],[0,1]),([2],[2]),([3],[3]),([],[]),([5],[5]),([4,6],[4,6])])
def laws_heldNodeS.B19 : List Nat:= [0,0,3,7,15,0,32,127]
theorem laws_heldNodeS.tab19 : rtab .any (opsOf Tryz.f12 19) = laws_heldNodeS.T19:= by kernel_rfl
theorem laws_heldNodeS.bits19 : waitsOk laws_heldNodeS.T19.2 laws_heldNodeS.B19 = true:= by kernel_rfl
def laws_heldNodeS.T22 : Bool × List (List Nat × List Nat):= (true,[([],[]),([],[]),([0,1],[0,1]),([2],[2]),([3],[3]),([],[]),([5],[5]),([4,6],[4,6])])
def laws_heldNodeS.B22 : List Nat:= [0,0,3,7,15,0,32,127]
theorem laws_heldNodeS.tab22 : rtab .any (opsOf Tryz.f12 22) = laws_heldNodeS.T22:= by kernel_rfl
theorem laws_heldNodeS.bits22 : waitsOk laws_heldNodeS.T22.2 laws_heldNodeS.B22 = true:= by kernel_rfl
set_option maxHeartbeats 8000000 in
set_option maxRecDepth 100000 in
theorem laws_heldNodeS.calls (k : Nat) (A0 : Option Addr) (c0 : Nat) (l0 : List (S45)) (a1 : Int) (r : Int) (w : World) (hr0 : Kd.C k45 w A0 l0.length l0) (hc0 : l0.length <= c0) (h : laws_heldNodeS.f k l0 a1 = some r) :
  Calls Tryz.prog 12 #[.slice A0 l0.length c0,.int .i64 a1] w fun e w'=>e = .returned (.int .i64 r) /\ Below w.heap.size w w':= by
 have HR0:= am hr0
 have HC0:= am hc0
 clear hr0 hc0
 have HB:= am (Below.refl w.heap.size w)
 have H : (laws_heldNodeS.l0 k l0 a1 0) = some r:= h
 clear h
 have H':= am H
 clear H
 go_enter Tryz.func12,Tryz.ntmps12
 go_wp2
 go_loopg [1,5] k (fun kq v1 v5 w'=>∃ (x1_1 : Int) (x5_1 : Int),v1 = .int .i64 x1_1 /\ v5 = .int .i64 x5_1 /\ Aside0 (laws_heldNodeS.l0 kq l0 x1_1 x5_1 = some r) /\ Aside0 (kq <= k) /\ Aside0 (Below w.heap.size w w'))
 case atStart=>exact ⟨(a1),(0),ez,ez,H',⟨Nat.le_refl _⟩,⟨(bz0 HB.out)⟩⟩
 case round =>
  clear H'
  try clear c1
  try clear p2
  obtain ⟨x1_1,x5_1,rfl,rfl,HA,HK1,HB⟩:= hrel
  cases gk with
  | zero=>exact absurd HA.out (by simp [laws_heldNodeS.l0])
  | succ k1 =>
   have H:= HA.out
   clear HA
   simp only [laws_heldNodeS.l0] at H
   by_cases c3 : x5_1 < (l0.length : Int)
   ·rw [if_pos c3] at H
    have c3b0:= decide_eq_true c3
    clear c3
    replace H:= iz H
    obtain ⟨c4,H⟩:= H
    have c4b0:= decide_eq_true c4
    clear c4
    by_cases c5 : ((rd_T45 l0 x5_1).f0) = x1_1
    ·rw [if_pos c5] at H
     have c5b0 : (((rd_T45 l0 x5_1).f0) == x1_1) = true:= beq_iff_eq.mpr c5
     have c5b1 : (((rd_T45 l0 x5_1).f0) != x1_1) = false:= bne_eq_false_iff_eq.mpr c5
     clear c5
     by_cases c6 : ((rd_T45 l0 x5_1).f1) = (wrap64 (x1_1 + 1))
     ·rw [if_pos c6] at H
      have c6b0 : (((rd_T45 l0 x5_1).f1) == (wrap64 (x1_1 + 1))) = true:= beq_iff_eq.mpr c6
      have c6b1 : (((rd_T45 l0 x5_1).f1) != (wrap64 (x1_1 + 1))) = false:= bne_eq_false_iff_eq.mpr c6
      clear c6
      by_cases c7 : ((rd_T45 l0 x5_1).f2) = (wrap64 ((wrap64 (x1_1 + 1)) + 1))
      ·rw [if_pos c7] at H
       have c7b0 : (((rd_T45 l0 x5_1).f2) == (wrap64 ((wrap64 (x1_1 + 1)) + 1))) = true:= beq_iff_eq.mpr c7
       have c7b1 : (((rd_T45 l0 x5_1).f2) != (wrap64 ((wrap64 (x1_1 + 1)) + 1))) = false:= bne_eq_false_iff_eq.mpr c7
       clear c7
       by_cases c8 : ((rd_T45 l0 x5_1).f3) = (wrap64 ((wrap64 ((wrap64 (x1_1 + 1)) + 1)) + 1))
       ·rw [if_pos c8] at H
        have c8b0 : (((rd_T45 l0 x5_1).f3) == (wrap64 ((wrap64 ((wrap64 (x1_1 + 1)) + 1)) + 1))) = true:= beq_iff_eq.mpr c8
        have c8b1 : (((rd_T45 l0 x5_1).f3) != (wrap64 ((wrap64 ((wrap64 (x1_1 + 1)) + 1)) + 1))) = false:= bne_eq_false_iff_eq.mpr c8
        clear c8
        by_cases c9 : ((rd_T45 l0 x5_1).f4) = (wrap64 ((wrap64 ((wrap64 ((wrap64 (x1_1 + 1)) + 1)) + 1)) + 1))
        ·rw [if_pos c9] at H
         have c9b0 : (((rd_T45 l0 x5_1).f4) == (wrap64 ((wrap64 ((wrap64 ((wrap64 (x1_1 + 1)) + 1)) + 1)) + 1))) = true:= beq_iff_eq.mpr c9
         have c9b1 : (((rd_T45 l0 x5_1).f4) != (wrap64 ((wrap64 ((wrap64 ((wrap64 (x1_1 + 1)) + 1)) + 1)) + 1))) = false:= bne_eq_false_iff_eq.mpr c9
         clear c9
         replace H:= bi H
         obtain ⟨t646,A100,H⟩:= H
         try dsimp only at H
         have A10:= am A100
         clear A100
         by_cases c11 : ((rd_T45 l0 x5_1).f5).toList = t646.toList
         ·rw [if_pos c11] at H
          have c11b0 : (((rd_T45 l0 x5_1).f5).toList == t646.toList) = true:= beq_iff_eq.mpr c11
          have c11b1 : (((rd_T45 l0 x5_1).f5).toList != t646.toList) = false:= bne_eq_false_iff_eq.mpr c11
          clear c11
          replace H:= bi H
          obtain ⟨t648,A120,H⟩:= H
          try dsimp only at H
          have A12:= am A120
          clear A120
          by_cases c13 : ((rd_T45 l0 x5_1).f6).toList = t648.toList
          ·rw [if_pos c13] at H
           have c13b0 : (((rd_T45 l0 x5_1).f6).toList == t648.toList) = true:= beq_iff_eq.mpr c13
           have c13b1 : (((rd_T45 l0 x5_1).f6).toList != t648.toList) = false:= bne_eq_false_iff_eq.mpr c13
           clear c13
           have H':= am H
           clear H
           have p640 : 0 <= (x5_1 : Int):= oz
           have q640 : x5_1 < (l0.length : Int):= oz
           obtain ⟨ad640,e640,hx640_0,hx640_1,hx640_2,hx640_3,hx640_4,hx640_5,hx640_6⟩:= at_T45 (Kd.C_below HR0.out HB.out) x5_1 p640 q640
           cases e640
           replace p640:= eq_true p640
           replace q640:= eq_true q640
           have p641 : 0 <= (x5_1 : Int):= oz
           have q641 : x5_1 < (l0.length : Int):= oz
           obtain ⟨ad641,e641,hx641_0,hx641_1,hx641_2,hx641_3,hx641_4,hx641_5,hx641_6⟩:= at_T45 (Kd.C_below HR0.out HB.out) x5_1 p641 q641
           obtain rfl : ad640 = ad641:= (by injection e641)
           replace p641:= eq_true p641
           replace q641:= eq_true q641
           have p642 : 0 <= (x5_1 : Int):= oz
           have q642 : x5_1 < (l0.length : Int):= oz
           obtain ⟨ad642,e642,hx642_0,hx642_1,hx642_2,hx642_3,hx642_4,hx642_5,hx642_6⟩:= at_T45 (Kd.C_below HR0.out HB.out) x5_1 p642 q642
           obtain rfl : ad640 = ad642:= (by injection e642)
           replace p642:= eq_true p642
           replace q642:= eq_true q642
           have p643 : 0 <= (x5_1 : Int):= oz
           have q643 : x5_1 < (l0.length : Int):= oz
           obtain ⟨ad643,e643,hx643_0,hx643_1,hx643_2,hx643_3,hx643_4,hx643_5,hx643_6⟩:= at_T45 (Kd.C_below HR0.out HB.out) x5_1 p643 q643
           obtain rfl : ad640 = ad643:= (by injection e643)
           replace p643:= eq_true p643
           replace q643:= eq_true q643
           have p644 : 0 <= (x5_1 : Int):= oz
           have q644 : x5_1 < (l0.length : Int):= oz
           obtain ⟨ad644,e644,hx644_0,hx644_1,hx644_2,hx644_3,hx644_4,hx644_5,hx644_6⟩:= at_T45 (Kd.C_below HR0.out HB.out) x5_1 p644 q644
           obtain rfl : ad640 = ad644:= (by injection e644)
           replace p644:= eq_true p644
           replace q644:= eq_true q644
           try go_wp2
           have n0_:= am (below_drew1 HB.out)
           clear HB
           have HB:= n0_
           clear n0_
           have p645 : 0 <= (x5_1 : Int):= oz
           have q645 : x5_1 < (l0.length : Int):= oz
           obtain ⟨ad645,e645,hx645_0,hx645_1,hx645_2,hx645_3,hx645_4,hx645_5,hx645_6⟩:= at_T45 HR0.out x5_1 p645 q645
           have hw645_6:= hx645_6
           have hw645_5:= hx645_5
           have hw645_4:= hx645_4
           have hw645_3:= hx645_3
           have hw645_2:= hx645_2
           have hw645_1:= hx645_1
           have hw645_0:= hx645_0
           obtain rfl : ad640 = ad645:= (by injection e645)
           replace hx645_0:= hz HB.out hx645_0
           replace hx645_1:= hz HB.out hx645_1
           replace hx645_2:= hz HB.out hx645_2
           replace hx645_3:= hz HB.out hx645_3
           replace hx645_4:= hz HB.out hx645_4
           replace hx645_5:= hz HB.out hx645_5
           replace hx645_6:= hz HB.out hx645_6
           replace p645:= eq_true p645
           replace q645:= eq_true q645
           refine start_ (n:= 8) (S:= fun w'=>w'.cell? (ad640.add ((x5_1).toNat * 7)) = some (.int .i64 ((rd_T45 l0 x5_1).f0)) /\ w'.cell? ⟨(ad640.add ((x5_1).toNat * 7)).block,(ad640.add ((x5_1).toNat * 7)).off + 1,none⟩ = some (.int .i64 ((rd_T45 l0 x5_1).f1)) /\ w'.cell? ⟨(ad640.add ((x5_1).toNat * 7)).block,(ad640.add ((x5_1).toNat * 7)).off + 2,none⟩ = some (.int .i64 ((rd_T45 l0 x5_1).f2)) /\ w'.cell? ⟨(ad640.add ((x5_1).toNat * 7)).block,(ad640.add ((x5_1).toNat * 7)).off + 3,none⟩ = some (.int .i64 ((rd_T45 l0 x5_1).f3)) /\ w'.cell? ⟨(ad640.add ((x5_1).toNat * 7)).block,(ad640.add ((x5_1).toNat * 7)).off + 4,none⟩ = some (.int .i64 ((rd_T45 l0 x5_1).f4)) /\ w'.cell? ⟨(ad640.add ((x5_1).toNat * 7)).block,(ad640.add ((x5_1).toNat * 7)).off + 5,none⟩ = some (.string ((rd_T45 l0 x5_1).f5)) /\ w'.cell? ⟨(ad640.add ((x5_1).toNat * 7)).block,(ad640.add ((x5_1).toNat * 7)).off + 6,none⟩ = some (.string ((rd_T45 l0 x5_1).f6))) (ds:= []) (mk_ 0 8) kr rfl rfl ⟨(hz HB.out hw645_0 :),(hz HB.out hw645_1 :),(hz HB.out hw645_2 :),(hz HB.out hw645_3 :),(hz HB.out hw645_4 :),(hz HB.out hw645_5 :),(hz HB.out hw645_6 :)⟩ (fun hHeld=>?_);refine with_tabW laws_heldNodeS.tab19 laws_heldNodeS.bits19 (fun HT_ HW_=>?_)
           generalize wr.drew = w14 at HB hx645_0 hx645_1 hx645_2 hx645_3 hx645_4 hx645_5 hx645_6 hHeld ⊢
           refine pv 0 57 (mk_ 1 7) HT_ rfl rfl ?_
           refine pv 1 58 (mk_ 2 6) HT_ rfl rfl ?_
           refine pv 2 59 (mk_ 3 5) HT_ rfl rfl ?_
           refine pv 3 60 (mk_ 4 4) HT_ rfl rfl ?_
           refine pv 5 62 (bm_ 8 47) HT_ rfl rfl ?_
           refine tv7 4 61 (mk_ 6 2) HT_ HW_ rfl rfl hHeld ?_
           refine one_ (i:= 6) (N:= some 63) (mk_ 7 1) rfl rfl (one_of HT_.out kr) (by decide) (fun K hK=>?_)
           refine goes_ Tryz.func37 kr rfl #[.int .i64 (wrap64 ((wrap64 ((wrap64 ((wrap64 ((wrap64 (x1_1 + 1)) + 1)) + 1)) + 1)) + 1))] (by rfl) rfl rfl lz ?_
           with_reducible refine (laws_markText.calls k1 (wrap64 ((wrap64 ((wrap64 ((wrap64 ((wrap64 (x1_1 + 1)) + 1)) + 1)) + 1)) + 1)) t646 _ A10.out).mono ?_
           rintro e w15 ⟨rfl,hb⟩
           refine ⟨_,rfl,?_⟩
           have n0_:= am (below_step (bz0 HB.out) hb)
           clear HB
           have HB:= n0_
           clear n0_
           (try clear hb)
           (try clear hb2)
           (try clear hk)
           (try clear hi)
           refine hK.out _ _ ⟨(hz HB.out hw645_0 :),(hz HB.out hw645_1 :),(hz HB.out hw645_2 :),(hz HB.out hw645_3 :),(hz HB.out hw645_4 :),(hz HB.out hw645_5 :),(hz HB.out hw645_6 :)⟩ (fun hHeld=>?_)
           clear hK K
           refine norm_ (a':= ?_) ?_ ?_
           rotate_left
           ·show Act.put _ (some 63) _ = _
            simp only [Act.put,sz1,sz2,sz3,i64_w,i32_w]
            rfl
           refine pv 7 64 (mk_ 8 0) HT_ rfl rfl ?_
           refine done_ (done_of HT_.out kr) ?_
           try go_wp2
           have n0_:= am (below_drew1 HB.out)
           clear HB
           have HB:= n0_
           clear n0_
           have p647 : 0 <= (x5_1 : Int):= oz
           have q647 : x5_1 < (l0.length : Int):= oz
           obtain ⟨ad647,e647,hx647_0,hx647_1,hx647_2,hx647_3,hx647_4,hx647_5,hx647_6⟩:= at_T45 HR0.out x5_1 p647 q647
           have hw647_6:= hx647_6
           have hw647_5:= hx647_5
           have hw647_4:= hx647_4
           have hw647_3:= hx647_3
           have hw647_2:= hx647_2
           have hw647_1:= hx647_1
           have hw647_0:= hx647_0
           obtain rfl : ad640 = ad647:= (by injection e647)
           replace hx647_0:= hz HB.out hx647_0
           replace hx647_1:= hz HB.out hx647_1
           replace hx647_2:= hz HB.out hx647_2
           replace hx647_3:= hz HB.out hx647_3
           replace hx647_4:= hz HB.out hx647_4
           replace hx647_5:= hz HB.out hx647_5
           replace hx647_6:= hz HB.out hx647_6
           replace p647:= eq_true p647
           replace q647:= eq_true q647
           refine start_ (n:= 8) (S:= fun w'=>w'.cell? (ad640.add ((x5_1).toNat * 7)) = some (.int .i64 ((rd_T45 l0 x5_1).f0)) /\ w'.cell? ⟨(ad640.add ((x5_1).toNat * 7)).block,(ad640.add ((x5_1).toNat * 7)).off + 1,none⟩ = some (.int .i64 ((rd_T45 l0 x5_1).f1)) /\ w'.cell? ⟨(ad640.add ((x5_1).toNat * 7)).block,(ad640.add ((x5_1).toNat * 7)).off + 2,none⟩ = some (.int .i64 ((rd_T45 l0 x5_1).f2)) /\ w'.cell? ⟨(ad640.add ((x5_1).toNat * 7)).block,(ad640.add ((x5_1).toNat * 7)).off + 3,none⟩ = some (.int .i64 ((rd_T45 l0 x5_1).f3)) /\ w'.cell? ⟨(ad640.add ((x5_1).toNat * 7)).block,(ad640.add ((x5_1).toNat * 7)).off + 4,none⟩ = some (.int .i64 ((rd_T45 l0 x5_1).f4)) /\ w'.cell? ⟨(ad640.add ((x5_1).toNat * 7)).block,(ad640.add ((x5_1).toNat * 7)).off + 5,none⟩ = some (.string ((rd_T45 l0 x5_1).f5)) /\ w'.cell? ⟨(ad640.add ((x5_1).toNat * 7)).block,(ad640.add ((x5_1).toNat * 7)).off + 6,none⟩ = some (.string ((rd_T45 l0 x5_1).f6))) (ds:= []) (mk_ 0 8) kr rfl rfl ⟨(hz HB.out hw647_0 :),(hz HB.out hw647_1 :),(hz HB.out hw647_2 :),(hz HB.out hw647_3 :),(hz HB.out hw647_4 :),(hz HB.out hw647_5 :),(hz HB.out hw647_6 :)⟩ (fun hHeld=>?_);refine with_tabW laws_heldNodeS.tab22 laws_heldNodeS.bits22 (fun HT_ HW_=>?_)
           generalize w15.drew = w16 at HB hx647_0 hx647_1 hx647_2 hx647_3 hx647_4 hx647_5 hx647_6 hHeld ⊢
           refine pv 0 67 (mk_ 1 7) HT_ rfl rfl ?_
           refine pv 1 68 (mk_ 2 6) HT_ rfl rfl ?_
           refine pv 2 69 (mk_ 3 5) HT_ rfl rfl ?_
           refine pv 3 70 (mk_ 4 4) HT_ rfl rfl ?_
           refine pv 5 72 (bm_ 8 47) HT_ rfl rfl ?_
           refine tv7 4 71 (mk_ 6 2) HT_ HW_ rfl rfl hHeld ?_
           refine one_ (i:= 6) (N:= some 73) (mk_ 7 1) rfl rfl (one_of HT_.out kr) (by decide) (fun K hK=>?_)
           refine goes_ Tryz.func37 kr rfl #[.int .i64 (wrap64 ((wrap64 ((wrap64 ((wrap64 ((wrap64 ((wrap64 (x1_1 + 1)) + 1)) + 1)) + 1)) + 1)) + 1))] (by rfl) rfl rfl lz ?_
           with_reducible refine (laws_markText.calls k1 (wrap64 ((wrap64 ((wrap64 ((wrap64 ((wrap64 ((wrap64 (x1_1 + 1)) + 1)) + 1)) + 1)) + 1)) + 1)) t648 _ A12.out).mono ?_
           rintro e w17 ⟨rfl,hb⟩
           refine ⟨_,rfl,?_⟩
           have n0_:= am (below_step (bz0 HB.out) hb)
           clear HB
           have HB:= n0_
           clear n0_
           (try clear hb)
           (try clear hb2)
           (try clear hk)
           (try clear hi)
           refine hK.out _ _ ⟨(hz HB.out hw647_0 :),(hz HB.out hw647_1 :),(hz HB.out hw647_2 :),(hz HB.out hw647_3 :),(hz HB.out hw647_4 :),(hz HB.out hw647_5 :),(hz HB.out hw647_6 :)⟩ (fun hHeld=>?_)
           clear hK K
           refine norm_ (a':= ?_) ?_ ?_
           rotate_left
           ·show Act.put _ (some 73) _ = _
            simp only [Act.put,sz1,sz2,sz3,i64_w,i32_w]
            rfl
           refine pv 7 74 (mk_ 8 0) HT_ rfl rfl ?_
           refine done_ (done_of HT_.out kr) ?_
           try go_wp2
           go_roundg k1
           case measure=>have:= HK1.out;omega
           case rel=>exact ⟨(wrap64 ((wrap64 ((wrap64 ((wrap64 ((wrap64 ((wrap64 ((wrap64 (x1_1 + 1)) + 1)) + 1)) + 1)) + 1)) + 1)) + 1)),(wrap64 (x5_1 + 1)),ez,ez,H',⟨by have:= HK1.out;omega⟩,⟨(bz0 HB.out)⟩⟩
          ·rw [if_neg c13] at H
           have c13b0 : (((rd_T45 l0 x5_1).f6).toList == t648.toList) = false:= beq_eq_false_iff_ne.mpr c13
           have c13b1 : (((rd_T45 l0 x5_1).f6).toList != t648.toList) = true:= bne_iff_ne.mpr c13
           obtain rfl:= Option.some.inj H
           have p640 : 0 <= (x5_1 : Int):= oz
           have q640 : x5_1 < (l0.length : Int):= oz
           obtain ⟨ad640,e640,hx640_0,hx640_1,hx640_2,hx640_3,hx640_4,hx640_5,hx640_6⟩:= at_T45 (Kd.C_below HR0.out HB.out) x5_1 p640 q640
           cases e640
           replace p640:= eq_true p640
           replace q640:= eq_true q640
           have p641 : 0 <= (x5_1 : Int):= oz
           have q641 : x5_1 < (l0.length : Int):= oz
           obtain ⟨ad641,e641,hx641_0,hx641_1,hx641_2,hx641_3,hx641_4,hx641_5,hx641_6⟩:= at_T45 (Kd.C_below HR0.out HB.out) x5_1 p641 q641
           obtain rfl : ad640 = ad641:= (by injection e641)
           replace p641:= eq_true p641
           replace q641:= eq_true q641
           have p642 : 0 <= (x5_1 : Int):= oz
           have q642 : x5_1 < (l0.length : Int):= oz
           obtain ⟨ad642,e642,hx642_0,hx642_1,hx642_2,hx642_3,hx642_4,hx642_5,hx642_6⟩:= at_T45 (Kd.C_below HR0.out HB.out) x5_1 p642 q642
           obtain rfl : ad640 = ad642:= (by injection e642)
           replace p642:= eq_true p642
           replace q642:= eq_true q642
           have p643 : 0 <= (x5_1 : Int):= oz
           have q643 : x5_1 < (l0.length : Int):= oz
           obtain ⟨ad643,e643,hx643_0,hx643_1,hx643_2,hx643_3,hx643_4,hx643_5,hx643_6⟩:= at_T45 (Kd.C_below HR0.out HB.out) x5_1 p643 q643
           obtain rfl : ad640 = ad643:= (by injection e643)
           replace p643:= eq_true p643
           replace q643:= eq_true q643
           have p644 : 0 <= (x5_1 : Int):= oz
           have q644 : x5_1 < (l0.length : Int):= oz
           obtain ⟨ad644,e644,hx644_0,hx644_1,hx644_2,hx644_3,hx644_4,hx644_5,hx644_6⟩:= at_T45 (Kd.C_below HR0.out HB.out) x5_1 p644 q644
           obtain rfl : ad640 = ad644:= (by injection e644)
           replace p644:= eq_true p644
           replace q644:= eq_true q644
           try go_wp2
           have n0_:= am (below_drew1 HB.out)
           clear HB
           have HB:= n0_
           clear n0_
           have p645 : 0 <= (x5_1 : Int):= oz
           have q645 : x5_1 < (l0.length : Int):= oz
           obtain ⟨ad645,e645,hx645_0,hx645_1,hx645_2,hx645_3,hx645_4,hx645_5,hx645_6⟩:= at_T45 HR0.out x5_1 p645 q645
           have hw645_6:= hx645_6
           have hw645_5:= hx645_5
           have hw645_4:= hx645_4
           have hw645_3:= hx645_3
           have hw645_2:= hx645_2
           have hw645_1:= hx645_1
           have hw645_0:= hx645_0
           obtain rfl : ad640 = ad645:= (by injection e645)
           replace hx645_0:= hz HB.out hx645_0
           replace hx645_1:= hz HB.out hx645_1
           replace hx645_2:= hz HB.out hx645_2
           replace hx645_3:= hz HB.out hx645_3
           replace hx645_4:= hz HB.out hx645_4
           replace hx645_5:= hz HB.out hx645_5
           replace hx645_6:= hz HB.out hx645_6
           replace p645:= eq_true p645
           replace q645:= eq_true q645
           refine start_ (n:= 8) (S:= fun w'=>w'.cell? (ad640.add ((x5_1).toNat * 7)) = some (.int .i64 ((rd_T45 l0 x5_1).f0)) /\ w'.cell? ⟨(ad640.add ((x5_1).toNat * 7)).block,(ad640.add ((x5_1).toNat * 7)).off + 1,none⟩ = some (.int .i64 ((rd_T45 l0 x5_1).f1)) /\ w'.cell? ⟨(ad640.add ((x5_1).toNat * 7)).block,(ad640.add ((x5_1).toNat * 7)).off + 2,none⟩ = some (.int .i64 ((rd_T45 l0 x5_1).f2)) /\ w'.cell? ⟨(ad640.add ((x5_1).toNat * 7)).block,(ad640.add ((x5_1).toNat * 7)).off + 3,none⟩ = some (.int .i64 ((rd_T45 l0 x5_1).f3)) /\ w'.cell? ⟨(ad640.add ((x5_1).toNat * 7)).block,(ad640.add ((x5_1).toNat * 7)).off + 4,none⟩ = some (.int .i64 ((rd_T45 l0 x5_1).f4)) /\ w'.cell? ⟨(ad640.add ((x5_1).toNat * 7)).block,(ad640.add ((x5_1).toNat * 7)).off + 5,none⟩ = some (.string ((rd_T45 l0 x5_1).f5)) /\ w'.cell? ⟨(ad640.add ((x5_1).toNat * 7)).block,(ad640.add ((x5_1).toNat * 7)).off + 6,none⟩ = some (.string ((rd_T45 l0 x5_1).f6))) (ds:= []) (mk_ 0 8) kr rfl rfl ⟨(hz HB.out hw645_0 :),(hz HB.out hw645_1 :),(hz HB.out hw645_2 :),(hz HB.out hw645_3 :),(hz HB.out hw645_4 :),(hz HB.out hw645_5 :),(hz HB.out hw645_6 :)⟩ (fun hHeld=>?_);refine with_tabW laws_heldNodeS.tab19 laws_heldNodeS.bits19 (fun HT_ HW_=>?_)
           generalize wr.drew = w18 at HB hx645_0 hx645_1 hx645_2 hx645_3 hx645_4 hx645_5 hx645_6 hHeld ⊢
           refine pv 0 57 (mk_ 1 7) HT_ rfl rfl ?_
           refine pv 1 58 (mk_ 2 6) HT_ rfl rfl ?_
           refine pv 2 59 (mk_ 3 5) HT_ rfl rfl ?_
           refine pv 3 60 (mk_ 4 4) HT_ rfl rfl ?_
           refine pv 5 62 (bm_ 8 47) HT_ rfl rfl ?_
           refine tv7 4 61 (mk_ 6 2) HT_ HW_ rfl rfl hHeld ?_
           refine one_ (i:= 6) (N:= some 63) (mk_ 7 1) rfl rfl (one_of HT_.out kr) (by decide) (fun K hK=>?_)
           refine goes_ Tryz.func37 kr rfl #[.int .i64 (wrap64 ((wrap64 ((wrap64 ((wrap64 ((wrap64 (x1_1 + 1)) + 1)) + 1)) + 1)) + 1))] (by rfl) rfl rfl lz ?_
           with_reducible refine (laws_markText.calls k1 (wrap64 ((wrap64 ((wrap64 ((wrap64 ((wrap64 (x1_1 + 1)) + 1)) + 1)) + 1)) + 1)) t646 _ A10.out).mono ?_
           rintro e w19 ⟨rfl,hb⟩
           refine ⟨_,rfl,?_⟩
           have n0_:= am (below_step (bz0 HB.out) hb)
           clear HB
           have HB:= n0_
           clear n0_
           (try clear hb)
           (try clear hb2)
           (try clear hk)
           (try clear hi)
           refine hK.out _ _ ⟨(hz HB.out hw645_0 :),(hz HB.out hw645_1 :),(hz HB.out hw645_2 :),(hz HB.out hw645_3 :),(hz HB.out hw645_4 :),(hz HB.out hw645_5 :),(hz HB.out hw645_6 :)⟩ (fun hHeld=>?_)
           clear hK K
           refine norm_ (a':= ?_) ?_ ?_
           rotate_left
           ·show Act.put _ (some 63) _ = _
            simp only [Act.put,sz1,sz2,sz3,i64_w,i32_w]
            rfl
           refine pv 7 64 (mk_ 8 0) HT_ rfl rfl ?_
           refine done_ (done_of HT_.out kr) ?_
           try go_wp2
           have n0_:= am (below_drew1 HB.out)
           clear HB
           have HB:= n0_
           clear n0_
           have p647 : 0 <= (x5_1 : Int):= oz
           have q647 : x5_1 < (l0.length : Int):= oz
           obtain ⟨ad647,e647,hx647_0,hx647_1,hx647_2,hx647_3,hx647_4,hx647_5,hx647_6⟩:= at_T45 HR0.out x5_1 p647 q647
           have hw647_6:= hx647_6
           have hw647_5:= hx647_5
           have hw647_4:= hx647_4
           have hw647_3:= hx647_3
           have hw647_2:= hx647_2
           have hw647_1:= hx647_1
           have hw647_0:= hx647_0
           obtain rfl : ad640 = ad647:= (by injection e647)
           replace hx647_0:= hz HB.out hx647_0
           replace hx647_1:= hz HB.out hx647_1
           replace hx647_2:= hz HB.out hx647_2
           replace hx647_3:= hz HB.out hx647_3
           replace hx647_4:= hz HB.out hx647_4
           replace hx647_5:= hz HB.out hx647_5
           replace hx647_6:= hz HB.out hx647_6
           replace p647:= eq_true p647
           replace q647:= eq_true q647
           refine start_ (n:= 8) (S:= fun w'=>w'.cell? (ad640.add ((x5_1).toNat * 7)) = some (.int .i64 ((rd_T45 l0 x5_1).f0)) /\ w'.cell? ⟨(ad640.add ((x5_1).toNat * 7)).block,(ad640.add ((x5_1).toNat * 7)).off + 1,none⟩ = some (.int .i64 ((rd_T45 l0 x5_1).f1)) /\ w'.cell? ⟨(ad640.add ((x5_1).toNat * 7)).block,(ad640.add ((x5_1).toNat * 7)).off + 2,none⟩ = some (.int .i64 ((rd_T45 l0 x5_1).f2)) /\ w'.cell? ⟨(ad640.add ((x5_1).toNat * 7)).block,(ad640.add ((x5_1).toNat * 7)).off + 3,none⟩ = some (.int .i64 ((rd_T45 l0 x5_1).f3)) /\ w'.cell? ⟨(ad640.add ((x5_1).toNat * 7)).block,(ad640.add ((x5_1).toNat * 7)).off + 4,none⟩ = some (.int .i64 ((rd_T45 l0 x5_1).f4)) /\ w'.cell? ⟨(ad640.add ((x5_1).toNat * 7)).block,(ad640.add ((x5_1).toNat * 7)).off + 5,none⟩ = some (.string ((rd_T45 l0 x5_1).f5)) /\ w'.cell? ⟨(ad640.add ((x5_1).toNat * 7)).block,(ad640.add ((x5_1).toNat * 7)).off + 6,none⟩ = some (.string ((rd_T45 l0 x5_1).f6))) (ds:= []) (mk_ 0 8) kr rfl rfl ⟨(hz HB.out hw647_0 :),(hz HB.out hw647_1 :),(hz HB.out hw647_2 :),(hz HB.out hw647_3 :),(hz HB.out hw647_4 :),(hz HB.out hw647_5 :),(hz HB.out hw647_6 :)⟩ (fun hHeld=>?_);refine with_tabW laws_heldNodeS.tab22 laws_heldNodeS.bits22 (fun HT_ HW_=>?_)
           generalize w19.drew = w20 at HB hx647_0 hx647_1 hx647_2 hx647_3 hx647_4 hx647_5 hx647_6 hHeld ⊢
           refine pv 0 67 (mk_ 1 7) HT_ rfl rfl ?_
           refine pv 1 68 (mk_ 2 6) HT_ rfl rfl ?_
           refine pv 2 69 (mk_ 3 5) HT_ rfl rfl ?_
           refine pv 3 70 (mk_ 4 4) HT_ rfl rfl ?_
           refine pv 5 72 (bm_ 8 47) HT_ rfl rfl ?_
           refine tv7 4 71 (mk_ 6 2) HT_ HW_ rfl rfl hHeld ?_
           refine one_ (i:= 6) (N:= some 73) (mk_ 7 1) rfl rfl (one_of HT_.out kr) (by decide) (fun K hK=>?_)
           refine goes_ Tryz.func37 kr rfl #[.int .i64 (wrap64 ((wrap64 ((wrap64 ((wrap64 ((wrap64 ((wrap64 (x1_1 + 1)) + 1)) + 1)) + 1)) + 1)) + 1))] (by rfl) rfl rfl lz ?_
           with_reducible refine (laws_markText.calls k1 (wrap64 ((wrap64 ((wrap64 ((wrap64 ((wrap64 ((wrap64 (x1_1 + 1)) + 1)) + 1)) + 1)) + 1)) + 1)) t648 _ A12.out).mono ?_
           rintro e w21 ⟨rfl,hb⟩
           refine ⟨_,rfl,?_⟩
           have n0_:= am (below_step (bz0 HB.out) hb)
           clear HB
           have HB:= n0_
           clear n0_
           (try clear hb)
           (try clear hb2)
           (try clear hk)
           (try clear hi)
           refine hK.out _ _ ⟨(hz HB.out hw647_0 :),(hz HB.out hw647_1 :),(hz HB.out hw647_2 :),(hz HB.out hw647_3 :),(hz HB.out hw647_4 :),(hz HB.out hw647_5 :),(hz HB.out hw647_6 :)⟩ (fun hHeld=>?_)
           clear hK K
           refine norm_ (a':= ?_) ?_ ?_
           rotate_left
           ·show Act.put _ (some 73) _ = _
            simp only [Act.put,sz1,sz2,sz3,i64_w,i32_w]
            rfl
           refine pv 7 74 (mk_ 8 0) HT_ rfl rfl ?_
           refine done_ (done_of HT_.out kr) ?_
           try go_wp2
           go_ret
           exact ⟨gz,(bz0 HB.out)⟩
         ·rw [if_neg c11] at H
          have c11b0 : (((rd_T45 l0 x5_1).f5).toList == t646.toList) = false:= beq_eq_false_iff_ne.mpr c11
          have c11b1 : (((rd_T45 l0 x5_1).f5).toList != t646.toList) = true:= bne_iff_ne.mpr c11
          obtain rfl:= Option.some.inj H
          have p640 : 0 <= (x5_1 : Int):= oz
          have q640 : x5_1 < (l0.length : Int):= oz
          obtain ⟨ad640,e640,hx640_0,hx640_1,hx640_2,hx640_3,hx640_4,hx640_5,hx640_6⟩:= at_T45 (Kd.C_below HR0.out HB.out) x5_1 p640 q640
          cases e640
          replace p640:= eq_true p640
          replace q640:= eq_true q640
          have p641 : 0 <= (x5_1 : Int):= oz
          have q641 : x5_1 < (l0.length : Int):= oz
          obtain ⟨ad641,e641,hx641_0,hx641_1,hx641_2,hx641_3,hx641_4,hx641_5,hx641_6⟩:= at_T45 (Kd.C_below HR0.out HB.out) x5_1 p641 q641
          obtain rfl : ad640 = ad641:= (by injection e641)
          replace p641:= eq_true p641
          replace q641:= eq_true q641
          have p642 : 0 <= (x5_1 : Int):= oz
          have q642 : x5_1 < (l0.length : Int):= oz
          obtain ⟨ad642,e642,hx642_0,hx642_1,hx642_2,hx642_3,hx642_4,hx642_5,hx642_6⟩:= at_T45 (Kd.C_below HR0.out HB.out) x5_1 p642 q642
          obtain rfl : ad640 = ad642:= (by injection e642)
          replace p642:= eq_true p642
          replace q642:= eq_true q642
          have p643 : 0 <= (x5_1 : Int):= oz
          have q643 : x5_1 < (l0.length : Int):= oz
          obtain ⟨ad643,e643,hx643_0,hx643_1,hx643_2,hx643_3,hx643_4,hx643_5,hx643_6⟩:= at_T45 (Kd.C_below HR0.out HB.out) x5_1 p643 q643
          obtain rfl : ad640 = ad643:= (by injection e643)
          replace p643:= eq_true p643
          replace q643:= eq_true q643
          have p644 : 0 <= (x5_1 : Int):= oz
          have q644 : x5_1 < (l0.length : Int):= oz
          obtain ⟨ad644,e644,hx644_0,hx644_1,hx644_2,hx644_3,hx644_4,hx644_5,hx644_6⟩:= at_T45 (Kd.C_below HR0.out HB.out) x5_1 p644 q644
          obtain rfl : ad640 = ad644:= (by injection e644)
          replace p644:= eq_true p644
          replace q644:= eq_true q644
          try go_wp2
          have n0_:= am (below_drew1 HB.out)
          clear HB
          have HB:= n0_
          clear n0_
          have p645 : 0 <= (x5_1 : Int):= oz
          have q645 : x5_1 < (l0.length : Int):= oz
          obtain ⟨ad645,e645,hx645_0,hx645_1,hx645_2,hx645_3,hx645_4,hx645_5,hx645_6⟩:= at_T45 HR0.out x5_1 p645 q645
          have hw645_6:= hx645_6
          have hw645_5:= hx645_5
          have hw645_4:= hx645_4
          have hw645_3:= hx645_3
          have hw645_2:= hx645_2
          have hw645_1:= hx645_1
          have hw645_0:= hx645_0
          obtain rfl : ad640 = ad645:= (by injection e645)
          replace hx645_0:= hz HB.out hx645_0
          replace hx645_1:= hz HB.out hx645_1
          replace hx645_2:= hz HB.out hx645_2
          replace hx645_3:= hz HB.out hx645_3
          replace hx645_4:= hz HB.out hx645_4
          replace hx645_5:= hz HB.out hx645_5
          replace hx645_6:= hz HB.out hx645_6
          replace p645:= eq_true p645
          replace q645:= eq_true q645
          refine start_ (n:= 8) (S:= fun w'=>w'.cell? (ad640.add ((x5_1).toNat * 7)) = some (.int .i64 ((rd_T45 l0 x5_1).f0)) /\ w'.cell? ⟨(ad640.add ((x5_1).toNat * 7)).block,(ad640.add ((x5_1).toNat * 7)).off + 1,none⟩ = some (.int .i64 ((rd_T45 l0 x5_1).f1)) /\ w'.cell? ⟨(ad640.add ((x5_1).toNat * 7)).block,(ad640.add ((x5_1).toNat * 7)).off + 2,none⟩ = some (.int .i64 ((rd_T45 l0 x5_1).f2)) /\ w'.cell? ⟨(ad640.add ((x5_1).toNat * 7)).block,(ad640.add ((x5_1).toNat * 7)).off + 3,none⟩ = some (.int .i64 ((rd_T45 l0 x5_1).f3)) /\ w'.cell? ⟨(ad640.add ((x5_1).toNat * 7)).block,(ad640.add ((x5_1).toNat * 7)).off + 4,none⟩ = some (.int .i64 ((rd_T45 l0 x5_1).f4)) /\ w'.cell? ⟨(ad640.add ((x5_1).toNat * 7)).block,(ad640.add ((x5_1).toNat * 7)).off + 5,none⟩ = some (.string ((rd_T45 l0 x5_1).f5)) /\ w'.cell? ⟨(ad640.add ((x5_1).toNat * 7)).block,(ad640.add ((x5_1).toNat * 7)).off + 6,none⟩ = some (.string ((rd_T45 l0 x5_1).f6))) (ds:= []) (mk_ 0 8) kr rfl rfl ⟨(hz HB.out hw645_0 :),(hz HB.out hw645_1 :),(hz HB.out hw645_2 :),(hz HB.out hw645_3 :),(hz HB.out hw645_4 :),(hz HB.out hw645_5 :),(hz HB.out hw645_6 :)⟩ (fun hHeld=>?_);refine with_tabW laws_heldNodeS.tab19 laws_heldNodeS.bits19 (fun HT_ HW_=>?_)
          generalize wr.drew = w22 at HB hx645_0 hx645_1 hx645_2 hx645_3 hx645_4 hx645_5 hx645_6 hHeld ⊢
          refine pv 0 57 (mk_ 1 7) HT_ rfl rfl ?_
          refine pv 1 58 (mk_ 2 6) HT_ rfl rfl ?_
          refine pv 2 59 (mk_ 3 5) HT_ rfl rfl ?_
          refine pv 3 60 (mk_ 4 4) HT_ rfl rfl ?_
          refine pv 5 62 (bm_ 8 47) HT_ rfl rfl ?_
          refine tv7 4 61 (mk_ 6 2) HT_ HW_ rfl rfl hHeld ?_
          refine one_ (i:= 6) (N:= some 63) (mk_ 7 1) rfl rfl (one_of HT_.out kr) (by decide) (fun K hK=>?_)
          refine goes_ Tryz.func37 kr rfl #[.int .i64 (wrap64 ((wrap64 ((wrap64 ((wrap64 ((wrap64 (x1_1 + 1)) + 1)) + 1)) + 1)) + 1))] (by rfl) rfl rfl lz ?_
          with_reducible refine (laws_markText.calls k1 (wrap64 ((wrap64 ((wrap64 ((wrap64 ((wrap64 (x1_1 + 1)) + 1)) + 1)) + 1)) + 1)) t646 _ A10.out).mono ?_
          rintro e w23 ⟨rfl,hb⟩
          refine ⟨_,rfl,?_⟩
          have n0_:= am (below_step (bz0 HB.out) hb)
          clear HB
          have HB:= n0_
          clear n0_
          (try clear hb)
          (try clear hb2)
          (try clear hk)
          (try clear hi)
          refine hK.out _ _ ⟨(hz HB.out hw645_0 :),(hz HB.out hw645_1 :),(hz HB.out hw645_2 :),(hz HB.out hw645_3 :),(hz HB.out hw645_4 :),(hz HB.out hw645_5 :),(hz HB.out hw645_6 :)⟩ (fun hHeld=>?_)
          clear hK K
          refine norm_ (a':= ?_) ?_ ?_
          rotate_left
          ·show Act.put _ (some 63) _ = _
           simp only [Act.put,sz1,sz2,sz3,i64_w,i32_w]
           rfl
          refine pv 7 64 (mk_ 8 0) HT_ rfl rfl ?_
          refine done_ (done_of HT_.out kr) ?_
          try go_wp2
          go_ret
          exact ⟨gz,(bz0 HB.out)⟩
        ·rw [if_neg c9] at H
         have c9b0 : (((rd_T45 l0 x5_1).f4) == (wrap64 ((wrap64 ((wrap64 ((wrap64 (x1_1 + 1)) + 1)) + 1)) + 1))) = false:= beq_eq_false_iff_ne.mpr c9
         have c9b1 : (((rd_T45 l0 x5_1).f4) != (wrap64 ((wrap64 ((wrap64 ((wrap64 (x1_1 + 1)) + 1)) + 1)) + 1))) = true:= bne_iff_ne.mpr c9
         obtain rfl:= Option.some.inj H
         have p640 : 0 <= (x5_1 : Int):= oz
         have q640 : x5_1 < (l0.length : Int):= oz
         obtain ⟨ad640,e640,hx640_0,hx640_1,hx640_2,hx640_3,hx640_4,hx640_5,hx640_6⟩:= at_T45 (Kd.C_below HR0.out HB.out) x5_1 p640 q640
         cases e640
         replace p640:= eq_true p640
         replace q640:= eq_true q640
         have p641 : 0 <= (x5_1 : Int):= oz
         have q641 : x5_1 < (l0.length : Int):= oz
         obtain ⟨ad641,e641,hx641_0,hx641_1,hx641_2,hx641_3,hx641_4,hx641_5,hx641_6⟩:= at_T45 (Kd.C_below HR0.out HB.out) x5_1 p641 q641
         obtain rfl : ad640 = ad641:= (by injection e641)
         replace p641:= eq_true p641
         replace q641:= eq_true q641
         have p642 : 0 <= (x5_1 : Int):= oz
         have q642 : x5_1 < (l0.length : Int):= oz
         obtain ⟨ad642,e642,hx642_0,hx642_1,hx642_2,hx642_3,hx642_4,hx642_5,hx642_6⟩:= at_T45 (Kd.C_below HR0.out HB.out) x5_1 p642 q642
         obtain rfl : ad640 = ad642:= (by injection e642)
         replace p642:= eq_true p642
         replace q642:= eq_true q642
         have p643 : 0 <= (x5_1 : Int):= oz
         have q643 : x5_1 < (l0.length : Int):= oz
         obtain ⟨ad643,e643,hx643_0,hx643_1,hx643_2,hx643_3,hx643_4,hx643_5,hx643_6⟩:= at_T45 (Kd.C_below HR0.out HB.out) x5_1 p643 q643
         obtain rfl : ad640 = ad643:= (by injection e643)
         replace p643:= eq_true p643
         replace q643:= eq_true q643
         have p644 : 0 <= (x5_1 : Int):= oz
         have q644 : x5_1 < (l0.length : Int):= oz
         obtain ⟨ad644,e644,hx644_0,hx644_1,hx644_2,hx644_3,hx644_4,hx644_5,hx644_6⟩:= at_T45 (Kd.C_below HR0.out HB.out) x5_1 p644 q644
         obtain rfl : ad640 = ad644:= (by injection e644)
         replace p644:= eq_true p644
         replace q644:= eq_true q644
         go_wp2
         go_ret
         exact ⟨gz,(bz0 HB.out)⟩
       ·rw [if_neg c8] at H
        have c8b0 : (((rd_T45 l0 x5_1).f3) == (wrap64 ((wrap64 ((wrap64 (x1_1 + 1)) + 1)) + 1))) = false:= beq_eq_false_iff_ne.mpr c8
        have c8b1 : (((rd_T45 l0 x5_1).f3) != (wrap64 ((wrap64 ((wrap64 (x1_1 + 1)) + 1)) + 1))) = true:= bne_iff_ne.mpr c8
        obtain rfl:= Option.some.inj H
        have p640 : 0 <= (x5_1 : Int):= oz
        have q640 : x5_1 < (l0.length : Int):= oz
        obtain ⟨ad640,e640,hx640_0,hx640_1,hx640_2,hx640_3,hx640_4,hx640_5,hx640_6⟩:= at_T45 (Kd.C_below HR0.out HB.out) x5_1 p640 q640
        cases e640
        replace p640:= eq_true p640
        replace q640:= eq_true q640
        have p641 : 0 <= (x5_1 : Int):= oz
        have q641 : x5_1 < (l0.length : Int):= oz
        obtain ⟨ad641,e641,hx641_0,hx641_1,hx641_2,hx641_3,hx641_4,hx641_5,hx641_6⟩:= at_T45 (Kd.C_below HR0.out HB.out) x5_1 p641 q641
        obtain rfl : ad640 = ad641:= (by injection e641)
        replace p641:= eq_true p641
        replace q641:= eq_true q641
        have p642 : 0 <= (x5_1 : Int):= oz
        have q642 : x5_1 < (l0.length : Int):= oz
        obtain ⟨ad642,e642,hx642_0,hx642_1,hx642_2,hx642_3,hx642_4,hx642_5,hx642_6⟩:= at_T45 (Kd.C_below HR0.out HB.out) x5_1 p642 q642
        obtain rfl : ad640 = ad642:= (by injection e642)
        replace p642:= eq_true p642
        replace q642:= eq_true q642
        have p643 : 0 <= (x5_1 : Int):= oz
        have q643 : x5_1 < (l0.length : Int):= oz
        obtain ⟨ad643,e643,hx643_0,hx643_1,hx643_2,hx643_3,hx643_4,hx643_5,hx643_6⟩:= at_T45 (Kd.C_below HR0.out HB.out) x5_1 p643 q643
        obtain rfl : ad640 = ad643:= (by injection e643)
        replace p643:= eq_true p643
        replace q643:= eq_true q643
        go_wp2
        go_ret
        exact ⟨gz,(bz0 HB.out)⟩
      ·rw [if_neg c7] at H
       have c7b0 : (((rd_T45 l0 x5_1).f2) == (wrap64 ((wrap64 (x1_1 + 1)) + 1))) = false:= beq_eq_false_iff_ne.mpr c7
       have c7b1 : (((rd_T45 l0 x5_1).f2) != (wrap64 ((wrap64 (x1_1 + 1)) + 1))) = true:= bne_iff_ne.mpr c7
       obtain rfl:= Option.some.inj H
       have p640 : 0 <= (x5_1 : Int):= oz
       have q640 : x5_1 < (l0.length : Int):= oz
       obtain ⟨ad640,e640,hx640_0,hx640_1,hx640_2,hx640_3,hx640_4,hx640_5,hx640_6⟩:= at_T45 (Kd.C_below HR0.out HB.out) x5_1 p640 q640
       cases e640
       replace p640:= eq_true p640
       replace q640:= eq_true q640
       have p641 : 0 <= (x5_1 : Int):= oz
       have q641 : x5_1 < (l0.length : Int):= oz
       obtain ⟨ad641,e641,hx641_0,hx641_1,hx641_2,hx641_3,hx641_4,hx641_5,hx641_6⟩:= at_T45 (Kd.C_below HR0.out HB.out) x5_1 p641 q641
       obtain rfl : ad640 = ad641:= (by injection e641)
       replace p641:= eq_true p641
       replace q641:= eq_true q641
       have p642 : 0 <= (x5_1 : Int):= oz
       have q642 : x5_1 < (l0.length : Int):= oz
       obtain ⟨ad642,e642,hx642_0,hx642_1,hx642_2,hx642_3,hx642_4,hx642_5,hx642_6⟩:= at_T45 (Kd.C_below HR0.out HB.out) x5_1 p642 q642
       obtain rfl : ad640 = ad642:= (by injection e642)
       replace p642:= eq_true p642
       replace q642:= eq_true q642
       go_wp2
       go_ret
       exact ⟨gz,(bz0 HB.out)⟩
     ·rw [if_neg c6] at H
      have c6b0 : (((rd_T45 l0 x5_1).f1) == (wrap64 (x1_1 + 1))) = false:= beq_eq_false_iff_ne.mpr c6
      have c6b1 : (((rd_T45 l0 x5_1).f1) != (wrap64 (x1_1 + 1))) = true:= bne_iff_ne.mpr c6
      obtain rfl:= Option.some.inj H
      have p640 : 0 <= (x5_1 : Int):= oz
      have q640 : x5_1 < (l0.length : Int):= oz
      obtain ⟨ad640,e640,hx640_0,hx640_1,hx640_2,hx640_3,hx640_4,hx640_5,hx640_6⟩:= at_T45 (Kd.C_below HR0.out HB.out) x5_1 p640 q640
      cases e640
      replace p640:= eq_true p640
      replace q640:= eq_true q640
      have p641 : 0 <= (x5_1 : Int):= oz
      have q641 : x5_1 < (l0.length : Int):= oz
      obtain ⟨ad641,e641,hx641_0,hx641_1,hx641_2,hx641_3,hx641_4,hx641_5,hx641_6⟩:= at_T45 (Kd.C_below HR0.out HB.out) x5_1 p641 q641
      obtain rfl : ad640 = ad641:= (by injection e641)
      replace p641:= eq_true p641
      replace q641:= eq_true q641
      go_wp2
      go_ret
      exact ⟨gz,(bz0 HB.out)⟩
    ·rw [if_neg c5] at H
     have c5b0 : (((rd_T45 l0 x5_1).f0) == x1_1) = false:= beq_eq_false_iff_ne.mpr c5
     have c5b1 : (((rd_T45 l0 x5_1).f0) != x1_1) = true:= bne_iff_ne.mpr c5
     obtain rfl:= Option.some.inj H
     have p640 : 0 <= (x5_1 : Int):= oz
     have q640 : x5_1 < (l0.length : Int):= oz
     obtain ⟨ad640,e640,hx640_0,hx640_1,hx640_2,hx640_3,hx640_4,hx640_5,hx640_6⟩:= at_T45 (Kd.C_below HR0.out HB.out) x5_1 p640 q640
     cases e640
     replace p640:= eq_true p640
     replace q640:= eq_true q640
     go_wp2
     go_ret
     exact ⟨gz,(bz0 HB.out)⟩
   ·rw [if_neg c3] at H
    have c3b0:= decide_eq_false c3
    clear c3
    obtain rfl:= Option.some.inj H
    go_wp2
    go_ret
    exact ⟨gz,(bz0 HB.out)⟩
end Go.Proofs.YtdjamdnjkdllgaaGreatDoor.PFnExactRenameOne
