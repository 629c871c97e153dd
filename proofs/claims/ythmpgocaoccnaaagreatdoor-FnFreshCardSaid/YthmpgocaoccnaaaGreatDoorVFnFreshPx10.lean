/- PFnFreshx10, of the words and walks that the law FnFresh needs; made by this session's program out of printed texts. -/
import Derived.Test.YthmpgocaoccnaaaGreatDoorVFnFreshPx0
import Derived.Test.YthmpgocaoccnaaaGreatDoorVFnFreshPx8
import Derived.Test.YthmpgocaoccnaaaGreatDoorVFnFreshPx9
namespace Go.Proofs.YthmpgocaoccnaaaGreatDoor.PFnFresh
open Go.RowKit Go.Proofs.YthmpgocaoccnaaaGreatDoorW.PrintWords Go.Proofs.YthmpgocaoccnaaaGreatDoorW.PrintLast Go.Proofs.YthmpgocaoccnaaaGreatDoorW.PrintMore
attribute [local go_sem] max2_int min2_int max_two min_two max_three min_three max_four min_four
set_option linter.unusedVariables false
set_option linter.unusedSimpArgs false
mutual
def impl_binderOf.l0:Nat -> List (S45) -> List Int -> Int -> ByteArray -> Option (Int × Int)
 | 0,_,_,_,_=>none
 | k+1,x0,x1,x2,x3=>if 0 <= x2 then (if x2<(x1.length:Int) then (if (rd x1 x2)≥0 then (if 0 <= (rd x1 x2) then (if (rd x1 x2)<(x0.length:Int) then ((impl_bindsIn.f k ((rd_T45 x0 (rd x1 x2)).f0) ((rd_T45 x0 (rd x1 x2)).f1) ((rd_T45 x0 (rd x1 x2)).f2) ((rd_T45 x0 (rd x1 x2)).f3) ((rd_T45 x0 (rd x1 x2)).f4) ((rd_T45 x0 (rd x1 x2)).f5) ((rd_T45 x0 (rd x1 x2)).f6) x2).bind fun bt216=>(impl_binderOf.l1 k x0 x1 x2 x3 bt216.2 bt216.1 (bt216.1.length:Int) 0)) else (none)) else (none)) else (some ((-1),(-1)))) else (none)) else (none)
def impl_binderOf.l1:Nat -> List (S45) -> List Int -> Int -> ByteArray -> List Int -> List ByteArray -> Int -> Int -> Option (Int × Int)
 | 0,_,_,_,_,_,_,_,_=>none
 | k+1,x0,x1,x2,x3,x10,x30,x31,x32=>if x32<x31 then (if 0 <= x32 then (if x32<(x30.length:Int) then (if (rdOf ByteArray.empty x30 x32).toList=x3.toList then (if 0 <= x2 then (if x2<(x1.length:Int) then (if x32<(x10.length:Int) then (some (rd x1 x2,rd x10 x32)) else (none)) else (none)) else (none)) else (impl_binderOf.l1 k x0 x1 x2 x3 x10 x30 x31 (wrap64 (x32+1)))) else (none)) else (none)) else (if 0 <= x2 then (if x2<(x1.length:Int) then (impl_binderOf.l0 k x0 x1 (rd x1 x2) x3) else (none)) else (none))
end
def impl_binderOf.f (k:Nat) (l0:List (S45)) (l1:List Int) (a2:Int) (a3:ByteArray):Option (Int × Int):=impl_binderOf.l0 k l0 l1 a2 a3
theorem impl_binderOf.mono_l:∀ k,(∀ y0 y1 y2 y3,LeO (impl_binderOf.l0 k y0 y1 y2 y3) (impl_binderOf.l0 (k+1) y0 y1 y2 y3)) /\ (∀ y0 y1 y2 y3 y4 y5 y6 y7,LeO (impl_binderOf.l1 k y0 y1 y2 y3 y4 y5 y6 y7) (impl_binderOf.l1 (k+1) y0 y1 y2 y3 y4 y5 y6 y7))
 | 0=>⟨fun _ _ _ _ r h=>by simp [impl_binderOf.l0] at h,fun _ _ _ _ _ _ _ _ r h=>by simp [impl_binderOf.l1] at h⟩
 | k+1=>by
  obtain ⟨ih0,ih1⟩:=impl_binderOf.mono_l k
  refine ⟨?_,?_⟩
  ·intro y0 y1 y2 y3
   unfold impl_binderOf.l0
   with_reducible repeat' first|exact ih0 _ _ _ _|exact ih1 _ _ _ _ _ _ _ _|exact impl_bindsIn.mono _ _ _ _ _ _ _ _ _|exact lrz _|exact lnz _|refine liz ?_ ?_|refine lbz ?_ fun _=>?_
  ·intro y0 y1 y2 y3 y4 y5 y6 y7
   unfold impl_binderOf.l1
   with_reducible repeat' first|exact ih0 _ _ _ _|exact ih1 _ _ _ _ _ _ _ _|exact impl_bindsIn.mono _ _ _ _ _ _ _ _ _|exact lrz _|exact lnz _|refine liz ?_ ?_|refine lbz ?_ fun _=>?_
theorem impl_binderOf.mono:∀ a0 a1 a2 a3 k,LeO (impl_binderOf.f k a0 a1 a2 a3) (impl_binderOf.f (k+1) a0 a1 a2 a3):=by
 intro a0 a1 a2 a3 k
 obtain ⟨ih0,ih1⟩:=impl_binderOf.mono_l k
 unfold impl_binderOf.f
 with_reducible repeat' first|exact ih0 _ _ _ _|exact ih1 _ _ _ _ _ _ _ _|exact impl_bindsIn.mono _ _ _ _ _ _ _ _ _|exact lrz _|exact lnz _|refine liz ?_ ?_|refine lbz ?_ fun _=>?_
def impl_binderOf.T7:Bool × List (List Nat × List Nat):=(true,[([],[]),([],[]),([0,1],[0,1]),([2],[2]),([],[]),([],[]),([4,5],[4,5]),([6],[6]),([3,7],[3,7]),([8,0,1,2,3,4,5,6,7,8],[8])])
def impl_binderOf.B7:List Nat:=[0,0,3,7,0,0,48,112,255,511]
theorem impl_binderOf.tab7:rtab .any (opsOf Tryz.f54 7)=impl_binderOf.T7:=by kernel_rfl
theorem impl_binderOf.bits7:waitsOk impl_binderOf.T7.2 impl_binderOf.B7=true:=by kernel_rfl
set_option maxHeartbeats 8000000 in
set_option maxRecDepth 100000 in
theorem impl_binderOf.calls (k:Nat) (A0:Option Addr) (c0:Nat) (l0:List (S45)) (A1:Option Addr) (c1:Nat) (l1:List Int) (a2:Int) (a3:ByteArray) (r1:Int) (r2:Int) (w:World) (hr0:Kd.C k45 w A0 l0.length l0) (hc0:l0.length <= c0) (hr1:Kd.C (Kd.int .i64) w A1 l1.length l1) (hc1:l1.length <= c1) (h:impl_binderOf.f k l0 l1 a2 a3=some (r1,r2)) :
  Calls Tryz.prog 54 #[.slice A0 l0.length c0,.slice A1 l1.length c1,.int .i64 a2,.string a3] w fun e w'=>e=.returned (.agg #[.int .i64 r1,.int .i64 r2]) /\ Below w.heap.size w w':=by
 have hu30:=Tryz.underlying30
 have hu45:=Tryz.underlying45
 have HR0:=am hr0
 have HC0:=am hc0
 clear hr0 hc0
 have HR1:=am hr1
 have HC1:=am hc1
 clear hr1 hc1
 have HB:=am (Below.refl w.heap.size w)
 have H:(impl_binderOf.l0 k l0 l1 a2 a3)=some (r1,r2):=h
 clear h
 have H':=am H
 clear H
 go_enter Tryz.func54,Tryz.ntmps54
 go_wp2_with (first|((with_reducible refine gate_dst (N:=8) rfl ?_);refine box_event ?hg (N:=8) ?hd (cs:=#[.int .i64 0,.int .i64 0]) (t:=30) ?hr ?_;(case hd=>rfl);(case hg=>rfl);(case hr=>exact vz);intro gb212 hg w5 hbox hb;have BK212:=am (hbox);have GW212:=am ((by rw [hg];exact (below_size (bz0 HB.out)):w.heap.size <= gb212));have GE212:=GW212;replace HB:=bs (bz0 HB.out) hb;clear hb hbox hg))
 (try simp only [Act.put,sz1,sz2,sz3])
 go_loopg [2] k (fun kq v2 w'=>∃ (x2_1:Int) (x213000_1:Int) (x213001_1:Int),v2=.int .i64 x2_1 /\ Aside0 (impl_binderOf.l0 kq l0 l1 x2_1 a3=some (r1,r2)) /\ Aside0 (kq <= k) /\ Aside0 (w'.heap[gb212]?=some (.cells #[.int .i64 x213000_1,.int .i64 x213001_1] 30 (0,0))) /\ Aside0 (Below w.heap.size w w'))
 case atStart=>exact ⟨(a2),(0),(0),ez,H',⟨Nat.le_refl _⟩,⟨by refine kq ?_;exact BK212.out⟩,⟨(bz1 HB.out GE212.out)⟩⟩
 case round =>
  clear H'
  try clear c1
  try clear p2
  try clear c5
  obtain ⟨x2_1,x213000_1,x213001_1,rfl,HA,HK1,BK212,HB⟩:=hrel
  cases gk with
  | zero=>exact absurd HA.out (by simp [impl_binderOf.l0])
  | succ k1 =>
   have H:=HA.out
   clear HA
   simp only [impl_binderOf.l0] at H
   replace H:=iz H
   obtain ⟨c6,H⟩:=H
   have c6b0:=decide_eq_true c6
   clear c6
   replace H:=iz H
   obtain ⟨c7,H⟩:=H
   have c7b0:=decide_eq_true c7
   clear c7
   by_cases c8:(rd l1 x2_1)≥0
   ·rw [if_pos c8] at H
    have c8b0:decide (0 <= (rd l1 x2_1))=true:=decide_eq_true c8
    clear c8
    replace H:=iz H
    obtain ⟨c9,H⟩:=H
    have c9b0:=decide_eq_true c9
    clear c9
    replace H:=iz H
    obtain ⟨c10,H⟩:=H
    have c10b0:=decide_eq_true c10
    clear c10
    replace H:=bi H
    obtain ⟨⟨t216,t219⟩,A110,H⟩:=H
    try dsimp only at H
    have A11:=am A110
    clear A110
    have H':=am H
    clear H
    have p213:0 <= (x2_1:Int):=oz
    have q213:x2_1<(l1.length:Int):=oz
    obtain ⟨ad213,e213,hx213_0⟩:=Kd.at_int (Kd.C_below HR1.out HB.out) x2_1 p213 q213
    cases e213
    replace p213:=eq_true p213
    replace q213:=eq_true q213
    have p214:0 <= (x2_1:Int):=oz
    have q214:x2_1<(l1.length:Int):=oz
    obtain ⟨ad214,e214,hx214_0⟩:=Kd.at_int (Kd.C_below HR1.out HB.out) x2_1 p214 q214
    obtain rfl:ad213=ad214:=(by injection e214)
    replace p214:=eq_true p214
    replace q214:=eq_true q214
    have p215:0 <= ((rd l1 x2_1):Int):=oz
    have q215:(rd l1 x2_1)<(l0.length:Int):=oz
    obtain ⟨ad215,e215,hx215_0,hx215_1,hx215_2,hx215_3,hx215_4,hx215_5,hx215_6⟩:=at_T45 (Kd.C_below HR0.out HB.out) (rd l1 x2_1) p215 q215
    cases e215
    replace p215:=eq_true p215
    replace q215:=eq_true q215
    go_wp2_with (first|((with_reducible refine gate_callee (f:=73) rfl ?_);refine goesL_ (some 27) rfl rfl Tryz.func73 kr rfl #[.agg #[.int .i64 ((rd_T45 l0 (rd l1 x2_1)).f0),.int .i64 ((rd_T45 l0 (rd l1 x2_1)).f1),.int .i64 ((rd_T45 l0 (rd l1 x2_1)).f2),.int .i64 ((rd_T45 l0 (rd l1 x2_1)).f3),.int .i64 ((rd_T45 l0 (rd l1 x2_1)).f4),.string ((rd_T45 l0 (rd l1 x2_1)).f5),.string ((rd_T45 l0 (rd l1 x2_1)).f6)],.int .i64 x2_1] rfl lz ?_;(with_reducible refine (impl_bindsIn.calls k1 ((rd_T45 l0 (rd l1 x2_1)).f0) ((rd_T45 l0 (rd l1 x2_1)).f1) ((rd_T45 l0 (rd l1 x2_1)).f2) ((rd_T45 l0 (rd l1 x2_1)).f3) ((rd_T45 l0 (rd l1 x2_1)).f4) ((rd_T45 l0 (rd l1 x2_1)).f5) ((rd_T45 l0 (rd l1 x2_1)).f6) x2_1 t216 t219 _ A11.out).mono ?_);rintro e w12 ⟨v217,v220,rfl,ho0,ho1,hb⟩;refine ⟨_,rfl,?_⟩;have HO218:=am (Kd.R_lower ho0 (below_size (bz1 HB.out GE212.out)));have HO221:=am (Kd.R_lower ho1 (below_size (bz1 HB.out GE212.out)));replace BK212:=kb BK212 hb;replace HB:=bs (bz1 HB.out GE212.out) hb;(try clear hb);(try clear ho0);(try clear ho1);obtain ⟨Ao13,co13,eo13⟩:=Kd.R_slice HO218.out;subst eo13))
    go_loopg [32] k1 (fun kq v32 w'=>∃ (x32_2:Int) (x213000_2:Int) (x213001_2:Int),v32=.int .i64 x32_2 /\ Aside0 (impl_binderOf.l1 kq l0 l1 x2_1 a3 t219 t216 (t216.length:Int) x32_2=some (r1,r2)) /\ Aside0 (kq <= k1) /\ Aside0 (Kd.R (Kd.int .i64) 3 w' w.heap.size (fun _=>True) v220 t219) /\ Aside0 (Kd.R Kd.string 9 w' w.heap.size (fun _=>True) (.slice Ao13 t216.length co13) t216) /\ Aside0 (w'.heap[gb212]?=some (.cells #[.int .i64 x213000_2,.int .i64 x213001_2] 30 (0,0))) /\ Aside0 (Below w.heap.size w w'))
    case atStart=>exact ⟨(0),(x213000_1),(x213001_1),ez,H',⟨Nat.le_refl _⟩,⟨by refine rq ?_;exact HO221.out⟩,⟨by refine rq ?_;exact HO218.out⟩,⟨by refine kq ?_;exact BK212.out⟩,⟨(bz1 HB.out GE212.out)⟩⟩
    case round =>
     clear H'
     try clear c1
     try clear p2
     try clear q2
     try clear hx2
     try clear c5
     try clear c6
     try clear c6b0
     try clear c7
     try clear c7b0
     try clear c8
     try clear c8b0
     try clear c9
     try clear c9b0
     try clear c10
     try clear c10b0
     try clear hx213_0
     try clear hx214_0
     try clear hx215_0
     try clear hx215_1
     try clear hx215_2
     try clear hx215_3
     try clear hx215_4
     try clear hx215_5
     try clear hx215_6
     try clear p2
     try clear p213
     try clear p214
     try clear p215
     try clear q213
     try clear q214
     try clear q215
     obtain ⟨x32_2,x213000_2,x213001_2,rfl,HA,HK2,HO_10,HO_30,BK212,HB⟩:=hrel
     cases gk with
     | zero=>exact absurd HA.out (by simp [impl_binderOf.l1])
     | succ k2 =>
      have H:=HA.out
      clear HA
      simp only [impl_binderOf.l1] at H
      by_cases c14:x32_2<(t216.length:Int)
      ·rw [if_pos c14] at H
       have c14b0:=decide_eq_true c14
       clear c14
       replace H:=iz H
       obtain ⟨c15,H⟩:=H
       have c15b0:=decide_eq_true c15
       clear c15
       replace H:=iz H
       obtain ⟨c16,H⟩:=H
       have c16b0:=decide_eq_true c16
       clear c16
       by_cases c17:(rdOf ByteArray.empty t216 x32_2).toList=a3.toList
       ·rw [if_pos c17] at H
        have c17b0:((rdOf ByteArray.empty t216 x32_2).toList == a3.toList)=true:=beq_iff_eq.mpr c17
        have c17b1:((rdOf ByteArray.empty t216 x32_2).toList != a3.toList)=false:=bne_eq_false_iff_eq.mpr c17
        clear c17
        replace H:=iz H
        obtain ⟨c18,H⟩:=H
        have c18b0:=decide_eq_true c18
        clear c18
        replace H:=iz H
        obtain ⟨c19,H⟩:=H
        have c19b0:=decide_eq_true c19
        clear c19
        replace H:=iz H
        obtain ⟨c20,H⟩:=H
        have c20b0:=decide_eq_true c20
        clear c20
        simp only [Option.some.injEq,Prod.mk.injEq] at H
        obtain ⟨rfl,rfl⟩:=H
        have p222:0 <= (x32_2:Int):=oz
        have q222:x32_2<(t216.length:Int):=oz
        obtain ⟨ad222,e222,hx222_0⟩:=Kd.at_string (Kd.R_reads' HO_30.out).2.2 x32_2 p222 q222
        cases e222
        replace p222:=eq_true p222
        replace q222:=eq_true q222
        try go_wp2
        have n0_:=am (Kd.R_drew HO_10.out)
        have n1_:=am (Kd.R_drew HO_30.out)
        have n2_:=am (blk_drew BK212.out)
        have n3_:=am (below_drew1 HB.out)
        clear HO_10
        clear HO_30
        clear BK212
        clear HB
        have HO_10:=n0_
        have HO_30:=n1_
        have BK212:=n2_
        have HB:=n3_
        clear n0_ n1_ n2_ n3_
        have p223:0 <= (x2_1:Int):=oz
        have q223:x2_1<(l1.length:Int):=oz
        obtain ⟨ad223,e223,hx223_0⟩:=Kd.at_int HR1.out x2_1 p223 q223
        have hw223_0:=hx223_0
        obtain rfl:ad213=ad223:=(by injection e223)
        replace hx223_0:=hz HB.out hx223_0
        replace p223:=eq_true p223
        replace q223:=eq_true q223
        obtain ⟨Ao22,co22,eo22⟩:=Kd.R_slice HO_10.out
        (first|subst eo22|(injection eo22 with f1_ f2_ f3_;have f4_:=f1_.symm;have f5_:=f3_.symm;clear f1_ f2_ f3_;subst f4_;subst f5_))
        have p224:0 <= (x32_2:Int):=oz
        have q224:x32_2<(t219.length:Int):=oz
        obtain ⟨ad224,e224,hx224_0⟩:=Kd.at_int (Kd.R_reads' HO_10.out).2.2 x32_2 p224 q224
        cases e224
        replace p224:=eq_true p224
        replace q224:=eq_true q224
        refine start_ (n:=10) (S:=fun w'=>w'.cell? (ad213.add (x2_1).toNat)=some (.int .i64 (rd l1 x2_1)) /\ w'.cell? (ad224.add (x32_2).toNat)=some (.int .i64 (rd t219 x32_2))) (ds:=[]) (mk_ 0 10) kr rfl rfl ⟨(hz HB.out hw223_0 :),hx224_0⟩ (fun hHeld=>?_);refine with_tabW impl_binderOf.tab7 impl_binderOf.bits7 (fun HT_ HW_=>?_)
        generalize wr.drew=w21 at HO_10 HO_30 BK212 HB hx223_0 hx224_0 hHeld ⊢
        refine pv 0 40 (mk_ 1 9) HT_ rfl rfl ?_
        refine pv 1 41 (mk_ 2 8) HT_ rfl rfl ?_
        refine pv 2 42 (mk_ 3 7) HT_ rfl rfl ?_
        refine pv 4 44 (bm_ 10 23) HT_ rfl rfl ?_
        refine pv 5 45 (bm_ 10 55) HT_ rfl rfl ?_
        refine pv 6 46 (bm_ 10 119) HT_ rfl rfl ?_
        refine tv2 3 43 (mk_ 7 3) HT_ HW_ rfl rfl hHeld ?_
        refine tv2 7 47 (mk_ 8 2) HT_ HW_ rfl rfl hHeld ?_
        refine pv 8 48 (mk_ 9 1) HT_ rfl rfl ?_
        refine one_ (i:=9) (N:=none) (mk_ 10 0) rfl rfl (one_of HT_.out kr) (by decide) (fun K hK=>?_)
        have hs23:w21.cell? ⟨gb212,0,none⟩=some (.int .i64 x213000_2):=(blk_cell BK212.out 0).trans rfl
        have hfs23:=blk_frozen BK212.out 0
        have hs24:w21.cell? ⟨gb212,1,none⟩=some (.int .i64 x213001_2):=(blk_cell BK212.out 1).trans rfl
        have hfs24:=blk_frozen BK212.out 1
        refine skip_ (w1:=?_) (by rfl) rfl ?_ ?_
        rotate_left
        ·go_simp
         rfl
        refine hK.out _ _ ⟨((cell_far (p:=⟨gb212,_,none⟩) (by first|exact Nat.ne_of_lt (Nat.lt_of_lt_of_le (by have:=World.block_lt_of_cell? _ _ hw223_0;first|rwa [add_block] at this|exact this) GW212.out)|(rw [add_block];exact Nat.ne_of_lt (Nat.lt_of_lt_of_le (by have:=World.block_lt_of_cell? _ _ hw223_0;first|rwa [add_block] at this|exact this) GW212.out))|(show (Addr.add _ _).block≠_;rw [add_block];exact Nat.ne_of_lt (Nat.lt_of_lt_of_le (by have:=World.block_lt_of_cell? _ _ hw223_0;first|rwa [add_block] at this|exact this) GW212.out))|(dsimp only;exact Nat.ne_of_lt (Nat.lt_of_lt_of_le (by have:=World.block_lt_of_cell? _ _ hw223_0;first|rwa [add_block] at this|exact this) GW212.out))) _).trans (((cell_far (p:=⟨gb212,_,none⟩) (by first|exact Nat.ne_of_lt (Nat.lt_of_lt_of_le (by have:=World.block_lt_of_cell? _ _ hw223_0;first|rwa [add_block] at this|exact this) GW212.out)|(rw [add_block];exact Nat.ne_of_lt (Nat.lt_of_lt_of_le (by have:=World.block_lt_of_cell? _ _ hw223_0;first|rwa [add_block] at this|exact this) GW212.out))|(show (Addr.add _ _).block≠_;rw [add_block];exact Nat.ne_of_lt (Nat.lt_of_lt_of_le (by have:=World.block_lt_of_cell? _ _ hw223_0;first|rwa [add_block] at this|exact this) GW212.out))|(dsimp only;exact Nat.ne_of_lt (Nat.lt_of_lt_of_le (by have:=World.block_lt_of_cell? _ _ hw223_0;first|rwa [add_block] at this|exact this) GW212.out))) _).trans (hHeld.1)))),((cell_far (p:=⟨gb212,_,none⟩) (by first|exact Kd.own_blk (Kd.R_ne HO_10.out BK212.out (by decide))|(rw [add_block];exact Kd.own_blk (Kd.R_ne HO_10.out BK212.out (by decide)))|(show (Addr.add _ _).block≠_;rw [add_block];exact Kd.own_blk (Kd.R_ne HO_10.out BK212.out (by decide)))|(dsimp only;exact Kd.own_blk (Kd.R_ne HO_10.out BK212.out (by decide)))) _).trans (((cell_far (p:=⟨gb212,_,none⟩) (by first|exact Kd.own_blk (Kd.R_ne HO_10.out BK212.out (by decide))|(rw [add_block];exact Kd.own_blk (Kd.R_ne HO_10.out BK212.out (by decide)))|(show (Addr.add _ _).block≠_;rw [add_block];exact Kd.own_blk (Kd.R_ne HO_10.out BK212.out (by decide)))|(dsimp only;exact Kd.own_blk (Kd.R_ne HO_10.out BK212.out (by decide)))) _).trans (hHeld.2))))⟩ (fun hHeld=>?_)
        clear hK K
        refine done_ (done_of HT_.out kr) ?_
        try go_wp2
        refine bodyPost_ret (results_cell_row rfl _ _ gb212 30 #[.int .i64 (rd l1 x2_1),.int .i64 (rd t219 x32_2)] (0,0) _ rfl (by refine kq ?_;refine blk_put (cs:=#[.int .i64 (rd l1 x2_1),.int .i64 x213001_2]) ?_ 1 _ rfl;refine kq ?_;refine blk_put (cs:=#[.int .i64 x213000_2,.int .i64 x213001_2]) ?_ 0 _ rfl;refine kq ?_;exact BK212.out) Tryz.underlying30 rfl kr) rfl ?_
        exact ⟨gz,(bz1 HB.out GE212.out)⟩
       ·rw [if_neg c17] at H
        have c17b0:((rdOf ByteArray.empty t216 x32_2).toList == a3.toList)=false:=beq_eq_false_iff_ne.mpr c17
        have c17b1:((rdOf ByteArray.empty t216 x32_2).toList != a3.toList)=true:=bne_iff_ne.mpr c17
        have H':=am H
        clear H
        have p222:0 <= (x32_2:Int):=oz
        have q222:x32_2<(t216.length:Int):=oz
        obtain ⟨ad222,e222,hx222_0⟩:=Kd.at_string (Kd.R_reads' HO_30.out).2.2 x32_2 p222 q222
        cases e222
        replace p222:=eq_true p222
        replace q222:=eq_true q222
        go_wp2
        go_roundg k2
        case measure=>have:=HK1.out;have:=HK2.out;omega
        case rel=>exact ⟨(wrap64 (x32_2+1)),(x213000_2),(x213001_2),ez,H',⟨by have:=HK1.out;have:=HK2.out;omega⟩,⟨by refine rq ?_;exact HO_10.out⟩,⟨by refine rq ?_;exact HO_30.out⟩,⟨by refine kq ?_;exact BK212.out⟩,⟨(bz1 HB.out GE212.out)⟩⟩
      ·rw [if_neg c14] at H
       have c14b0:=decide_eq_false c14
       clear c14
       replace H:=iz H
       obtain ⟨c25,H⟩:=H
       have c25b0:=decide_eq_true c25
       clear c25
       replace H:=iz H
       obtain ⟨c26,H⟩:=H
       have c26b0:=decide_eq_true c26
       clear c26
       have H':=am H
       clear H
       have p225:0 <= (x2_1:Int):=oz
       have q225:x2_1<(l1.length:Int):=oz
       obtain ⟨ad225,e225,hx225_0⟩:=Kd.at_int (Kd.C_below HR1.out HB.out) x2_1 p225 q225
       obtain rfl:ad213=ad225:=(by injection e225)
       replace p225:=eq_true p225
       replace q225:=eq_true q225
       go_wp2
       go_roundg k2
       case measure=>have:=HK1.out;have:=HK2.out;omega
       case rel=>exact ⟨(rd l1 x2_1),(x213000_2),(x213001_2),ez,H',⟨by have:=HK1.out;have:=HK2.out;omega⟩,⟨by refine kq ?_;exact BK212.out⟩,⟨(bz1 HB.out GE212.out)⟩⟩
   ·rw [if_neg c8] at H
    have c8b0:decide (0 <= (rd l1 x2_1))=false:=decide_eq_false c8
    clear c8
    simp only [Option.some.injEq,Prod.mk.injEq] at H
    obtain ⟨rfl,rfl⟩:=H
    have p213:0 <= (x2_1:Int):=oz
    have q213:x2_1<(l1.length:Int):=oz
    obtain ⟨ad213,e213,hx213_0⟩:=Kd.at_int (Kd.C_below HR1.out HB.out) x2_1 p213 q213
    cases e213
    replace p213:=eq_true p213
    replace q213:=eq_true q213
    obtain ⟨hcz27_0,hcz27_1⟩:=cz2 BK212.out
    obtain ⟨hfz27_0,hfz27_1⟩:=fz2 BK212.out
    go_wp2
    refine bodyPost_ret (results_cell_row rfl _ _ gb212 30 #[.int .i64 (-1),.int .i64 (-1)] (0,0) _ rfl (by refine kq ?_;refine blk_put (cs:=#[.int .i64 (-1),.int .i64 x213001_1]) ?_ 1 _ rfl;refine kq ?_;refine blk_put (cs:=#[.int .i64 x213000_1,.int .i64 x213001_1]) ?_ 0 _ rfl;refine kq ?_;exact BK212.out) Tryz.underlying30 rfl kr) rfl ?_
    exact ⟨gz,(bz1 HB.out GE212.out)⟩
def impl_binders.l0:Nat -> List (S45) -> List Int -> List (S30) -> List (S45) -> Int -> Int -> Option ((List (S30)))
 | 0,_,_,_,_,_,_=>none
 | k+1,x0,x3,x4,x10,x11,x12=>if x12<x11 then (if 0 <= x12 then (if x12<(x10.length:Int) then (if ((rd_T45 x10 x12).f0)=1 then ((impl_binderOf.f k x0 x3 x12 ((rd_T45 x10 x12).f5)).bind fun bt232=>(if x4.length<8796093022208 then (impl_binders.l0 k x0 x3 (x4++[(⟨bt232.1,bt232.2⟩:S30)]) x10 x11 (wrap64 (x12+1))) else (none))) else (if x4.length<8796093022208 then (impl_binders.l0 k x0 x3 (x4++[(⟨(-1),(-1)⟩:S30)]) x10 x11 (wrap64 (x12+1))) else (none))) else (none)) else (none)) else (some x4)
def impl_binders.f (k:Nat) (l0:List (S45)):Option ((List (S30))):=(impl_parents.f k l0).bind fun t226=>(impl_binders.l0 k l0 t226 ([]:List (S30)) l0 (l0.length:Int) 0)
theorem impl_binders.mono_l:∀ k,(∀ y0 y1 y2 y3 y4 y5,LeO (impl_binders.l0 k y0 y1 y2 y3 y4 y5) (impl_binders.l0 (k+1) y0 y1 y2 y3 y4 y5))
 | 0=>fun _ _ _ _ _ _ r h=>by simp [impl_binders.l0] at h
 | k+1=>by
  have ih0:=impl_binders.mono_l k
  ·intro y0 y1 y2 y3 y4 y5
   unfold impl_binders.l0
   with_reducible repeat' first|exact ih0 _ _ _ _ _ _|exact impl_binderOf.mono _ _ _ _ _|exact impl_parents.mono _ _|exact lrz _|exact lnz _|refine liz ?_ ?_|refine lbz ?_ fun _=>?_
theorem impl_binders.mono:∀ a0 k,LeO (impl_binders.f k a0) (impl_binders.f (k+1) a0):=by
 intro a0 k
 have ih0:=impl_binders.mono_l k
 unfold impl_binders.f
 with_reducible repeat' first|exact ih0 _ _ _ _ _ _|exact impl_binderOf.mono _ _ _ _ _|exact impl_parents.mono _ _|exact lrz _|exact lnz _|refine liz ?_ ?_|refine lbz ?_ fun _=>?_
set_option maxHeartbeats 8000000 in
set_option maxRecDepth 100000 in
theorem impl_binders.calls (k:Nat) (A0:Option Addr) (c0:Nat) (l0:List (S45)) (r:List (S30)) (w:World) (hr0:Kd.C k45 w A0 l0.length l0) (hc0:l0.length <= c0) (h:impl_binders.f k l0=some r) :
  Calls Tryz.prog 34 #[.slice A0 l0.length c0] w fun e w'=>∃ v0_:Value,e=.returned (v0_) /\ Kd.R k30 30 w' w.heap.size (fun _=>True) v0_ r /\ Below w.heap.size w w':=by
 have hu45:=Tryz.underlying45
 have hu30:=Tryz.underlying30
 have HR0:=am hr0
 have HC0:=am hc0
 clear hr0 hc0
 have HB:=am (Below.refl w.heap.size w)
 have H:((impl_parents.f k l0).bind fun t226=>(impl_binders.l0 k l0 t226 ([]:List (S30)) l0 (l0.length:Int) 0))=some r:=h
 clear h
 replace H:=bi H
 obtain ⟨t226,A20,H⟩:=H
 try dsimp only at H
 have A2:=am A20
 clear A20
 have H':=am H
 clear H
 go_enter Tryz.func34,Tryz.ntmps34
 go_wp2_with (first|((with_reducible refine gate_callee (f:=53) rfl ?_);refine goesL_ (some 9) rfl rfl Tryz.func53 kr rfl #[.slice A0 l0.length c0] rfl lz ?_;(with_reducible refine (impl_parents.calls k _ _ l0 t226 _ ?side1 ?side2 A2.out).mono ?_);(case side1=>repeat (first|exact HR0.out|(with_reducible refine Kd.C_alloc ?_ _)|(with_reducible refine Kd.C_drewN ?_ _)|(with_reducible refine Kd.C_drew ?_)));(case side2=>exact HC0.out);rintro e w3 ⟨v227,rfl,ho0,hb⟩;refine ⟨_,rfl,?_⟩;have HO228:=am (Kd.R_lower ho0 (below_size (bz0 HB.out)));replace HB:=bs (bz0 HB.out) hb;(try clear hb);(try clear ho0)))
 go_loopg [4,12] k (fun kq v4 v12 w'=>∃ (x4_1:List (S30)) (x12_1:Int),v12=.int .i64 x12_1 /\ Aside0 (impl_binders.l0 kq l0 t226 x4_1 l0 (l0.length:Int) x12_1=some r) /\ Aside0 (kq <= k) /\ Aside0 (Kd.R (Kd.int .i64) 3 w' w.heap.size (fun _=>True) v227 t226) /\ Aside0 (Kd.R k30 30 w' w.heap.size (fun _=>True) v4 x4_1) /\ Aside0 (Below w.heap.size w w'))
 case atStart=>exact ⟨(([]:List (S30))),(0),ez,H',⟨Nat.le_refl _⟩,⟨by refine rq ?_;exact HO228.out⟩,⟨by first|exact Kd.R_nil _ _ _ _ _|exact Kd.N_nil _ _ _ _ _|exact Kd.V_nil _ _ _ _ _|exact Kd.Q_nil _ _ _ _ _|exact Kd.S_nil _ _ _ _ _⟩,⟨(bz0 HB.out)⟩⟩
 case round =>
  clear H'
  try clear p2
  try clear c3
  obtain ⟨x4_1,x12_1,rfl,HA,HK1,HO_3,HO_4,HB⟩:=hrel
  cases gk with
  | zero=>exact absurd HA.out (by simp [impl_binders.l0])
  | succ k1 =>
   have H:=HA.out
   clear HA
   simp only [impl_binders.l0] at H
   by_cases c4:x12_1<(l0.length:Int)
   ·rw [if_pos c4] at H
    have c4b0:=decide_eq_true c4
    clear c4
    replace H:=iz H
    obtain ⟨c5,H⟩:=H
    have c5b0:=decide_eq_true c5
    clear c5
    replace H:=iz H
    obtain ⟨c6,H⟩:=H
    have c6b0:=decide_eq_true c6
    clear c6
    by_cases c7:((rd_T45 l0 x12_1).f0)=1
    ·rw [if_pos c7] at H
     have c7b0:(((rd_T45 l0 x12_1).f0) == 1)=true:=beq_iff_eq.mpr c7
     have c7b1:(((rd_T45 l0 x12_1).f0) != 1)=false:=bne_eq_false_iff_eq.mpr c7
     clear c7
     replace H:=bi H
     obtain ⟨⟨t232,t233⟩,A80,H⟩:=H
     try dsimp only at H
     have A8:=am A80
     clear A80
     replace H:=iz H
     obtain ⟨c9,H⟩:=H
     have LMc9:=am c9
     clear c9
     obtain ⟨y234,hy234⟩:∃ y_:List (S30),y_=(x4_1++[(⟨t232,t233⟩:S30)]):=⟨_,rfl⟩
     replace H:(impl_binders.l0 k1 l0 t226 y234 l0 (l0.length:Int) (wrap64 (x12_1+1)))=some r:=yz hy234 H
     have Ny234:=am hy234
     clear hy234
     have H':=am H
     clear H
     have p229:0 <= (x12_1:Int):=oz
     have q229:x12_1<(l0.length:Int):=oz
     obtain ⟨ad229,e229,hx229_0,hx229_1,hx229_2,hx229_3,hx229_4,hx229_5,hx229_6⟩:=at_T45 (Kd.C_below HR0.out HB.out) x12_1 p229 q229
     cases e229
     replace p229:=eq_true p229
     replace q229:=eq_true q229
     go_wp2_with (first|((with_reducible refine gate_dst (N:=6) rfl ?_);refine box_event ?hg (N:=6) ?hd (cs:=#[.int .i64 0,.int .i64 0,.int .i64 0,.int .i64 0,.int .i64 0,.string (⟨#[]⟩:ByteArray),.string (⟨#[]⟩:ByteArray)]) (t:=45) ?hr ?_;(case hd=>rfl);(case hg=>rfl);(case hr=>exact vz);intro gb230 hg w10 hbox hb;replace HO_3:=qz HO_3 hb;replace HO_4:=qz HO_4 hb;have BK230:=am (hbox);have GW230:=am ((by rw [hg];exact (below_size (bz0 HB.out)):w.heap.size <= gb230));have GE230:=GW230;replace HB:=bs (bz0 HB.out) hb;clear hb hbox hg;obtain ⟨hcz11_0,hcz11_1,hcz11_2,hcz11_3,hcz11_4,hcz11_5,hcz11_6⟩:=cz7 BK230.out;obtain ⟨hfz11_0,hfz11_1,hfz11_2,hfz11_3,hfz11_4,hfz11_5,hfz11_6⟩:=fz7 BK230.out)|((with_reducible refine gate_dst (N:=7) rfl ?_);refine box_event ?hg (N:=7) ?hd (cs:=#[.int .i64 0,.int .i64 0]) (t:=30) ?hr ?_;(case hd=>rfl);(case hg=>rfl);(case hr=>exact vz);intro gb231 hg w12 hbox hb;replace HO_3:=am (Kd.R_below (by refine rq ?_;exact (Kd.R_mono (Kd.R_far (p:=⟨gb230,6,none⟩) (Kd.R_far (p:=⟨gb230,5,none⟩) (Kd.R_far (p:=⟨gb230,4,none⟩) (Kd.R_far (p:=⟨gb230,3,none⟩) (Kd.R_far (p:=⟨gb230,2,none⟩) (Kd.R_far (p:=⟨gb230,1,none⟩) (Kd.R_far (p:=⟨gb230,0,none⟩) (Kd.R_types HO_3.out BK230.out (by decide)) (fun _ hk=>hk.2) (.int .i64 ((rd_T45 l0 x12_1).f0))) (fun _ hk=>hk.2) (.int .i64 ((rd_T45 l0 x12_1).f1))) (fun _ hk=>hk.2) (.int .i64 ((rd_T45 l0 x12_1).f2))) (fun _ hk=>hk.2) (.int .i64 ((rd_T45 l0 x12_1).f3))) (fun _ hk=>hk.2) (.int .i64 ((rd_T45 l0 x12_1).f4))) (fun _ hk=>hk.2) (.string ((rd_T45 l0 x12_1).f5))) (fun _ hk=>hk.2) (.string ((rd_T45 l0 x12_1).f6))) (fun _ h_=>h_.1))) hb);replace HO_4:=am (Kd.R_below (Kd.R_elderB (by refine rq ?_;exact (Kd.R_mono (Kd.R_far (p:=⟨gb230,6,none⟩) (Kd.R_far (p:=⟨gb230,5,none⟩) (Kd.R_far (p:=⟨gb230,4,none⟩) (Kd.R_far (p:=⟨gb230,3,none⟩) (Kd.R_far (p:=⟨gb230,2,none⟩) (Kd.R_far (p:=⟨gb230,1,none⟩) (Kd.R_far (p:=⟨gb230,0,none⟩) (Kd.R_types HO_4.out BK230.out (by decide)) (fun _ hk=>hk.2) (.int .i64 ((rd_T45 l0 x12_1).f0))) (fun _ hk=>hk.2) (.int .i64 ((rd_T45 l0 x12_1).f1))) (fun _ hk=>hk.2) (.int .i64 ((rd_T45 l0 x12_1).f2))) (fun _ hk=>hk.2) (.int .i64 ((rd_T45 l0 x12_1).f3))) (fun _ hk=>hk.2) (.int .i64 ((rd_T45 l0 x12_1).f4))) (fun _ hk=>hk.2) (.string ((rd_T45 l0 x12_1).f5))) (fun _ hk=>hk.2) (.string ((rd_T45 l0 x12_1).f6))) (fun _ h_=>h_.1))) gb231 (Nat.le_of_eq hg.symm)) hb);have BK231:=am (hbox);have GW231:=am ((by rw [hg];exact (below_size (bz1 HB.out GE230.out)):w.heap.size <= gb231));have GE231:=GW231;replace HB:=bs (bz1 HB.out GE230.out) hb;have NB230_231:=am ((by rw [hg];exact Nat.ne_of_lt (blk_lt (g:=gb230) (o:=.cells #[.int .i64 ((rd_T45 l0 x12_1).f0),.int .i64 ((rd_T45 l0 x12_1).f1),.int .i64 ((rd_T45 l0 x12_1).f2),.int .i64 ((rd_T45 l0 x12_1).f3),.int .i64 ((rd_T45 l0 x12_1).f4),.string ((rd_T45 l0 x12_1).f5),.string ((rd_T45 l0 x12_1).f6)] 45 (0,0)) (by refine kq ?_;refine blk_put (cs:=#[.int .i64 ((rd_T45 l0 x12_1).f0),.int .i64 ((rd_T45 l0 x12_1).f1),.int .i64 ((rd_T45 l0 x12_1).f2),.int .i64 ((rd_T45 l0 x12_1).f3),.int .i64 ((rd_T45 l0 x12_1).f4),.string ((rd_T45 l0 x12_1).f5),.string (⟨#[]⟩:ByteArray)]) ?_ 6 _ rfl;refine kq ?_;refine blk_put (cs:=#[.int .i64 ((rd_T45 l0 x12_1).f0),.int .i64 ((rd_T45 l0 x12_1).f1),.int .i64 ((rd_T45 l0 x12_1).f2),.int .i64 ((rd_T45 l0 x12_1).f3),.int .i64 ((rd_T45 l0 x12_1).f4),.string (⟨#[]⟩:ByteArray),.string (⟨#[]⟩:ByteArray)]) ?_ 5 _ rfl;refine kq ?_;refine blk_put (cs:=#[.int .i64 ((rd_T45 l0 x12_1).f0),.int .i64 ((rd_T45 l0 x12_1).f1),.int .i64 ((rd_T45 l0 x12_1).f2),.int .i64 ((rd_T45 l0 x12_1).f3),.int .i64 0,.string (⟨#[]⟩:ByteArray),.string (⟨#[]⟩:ByteArray)]) ?_ 4 _ rfl;refine kq ?_;refine blk_put (cs:=#[.int .i64 ((rd_T45 l0 x12_1).f0),.int .i64 ((rd_T45 l0 x12_1).f1),.int .i64 ((rd_T45 l0 x12_1).f2),.int .i64 0,.int .i64 0,.string (⟨#[]⟩:ByteArray),.string (⟨#[]⟩:ByteArray)]) ?_ 3 _ rfl;refine kq ?_;refine blk_put (cs:=#[.int .i64 ((rd_T45 l0 x12_1).f0),.int .i64 ((rd_T45 l0 x12_1).f1),.int .i64 0,.int .i64 0,.int .i64 0,.string (⟨#[]⟩:ByteArray),.string (⟨#[]⟩:ByteArray)]) ?_ 2 _ rfl;refine kq ?_;refine blk_put (cs:=#[.int .i64 ((rd_T45 l0 x12_1).f0),.int .i64 0,.int .i64 0,.int .i64 0,.int .i64 0,.string (⟨#[]⟩:ByteArray),.string (⟨#[]⟩:ByteArray)]) ?_ 1 _ rfl;refine kq ?_;refine blk_put (cs:=#[.int .i64 0,.int .i64 0,.int .i64 0,.int .i64 0,.int .i64 0,.string (⟨#[]⟩:ByteArray),.string (⟨#[]⟩:ByteArray)]) ?_ 0 _ rfl;refine kq ?_;exact BK230.out)):gb230≠gb231));have NB231_230:=am ((by rw [hg];exact Nat.ne_of_gt (blk_lt (g:=gb230) (o:=.cells #[.int .i64 ((rd_T45 l0 x12_1).f0),.int .i64 ((rd_T45 l0 x12_1).f1),.int .i64 ((rd_T45 l0 x12_1).f2),.int .i64 ((rd_T45 l0 x12_1).f3),.int .i64 ((rd_T45 l0 x12_1).f4),.string ((rd_T45 l0 x12_1).f5),.string ((rd_T45 l0 x12_1).f6)] 45 (0,0)) (by refine kq ?_;refine blk_put (cs:=#[.int .i64 ((rd_T45 l0 x12_1).f0),.int .i64 ((rd_T45 l0 x12_1).f1),.int .i64 ((rd_T45 l0 x12_1).f2),.int .i64 ((rd_T45 l0 x12_1).f3),.int .i64 ((rd_T45 l0 x12_1).f4),.string ((rd_T45 l0 x12_1).f5),.string (⟨#[]⟩:ByteArray)]) ?_ 6 _ rfl;refine kq ?_;refine blk_put (cs:=#[.int .i64 ((rd_T45 l0 x12_1).f0),.int .i64 ((rd_T45 l0 x12_1).f1),.int .i64 ((rd_T45 l0 x12_1).f2),.int .i64 ((rd_T45 l0 x12_1).f3),.int .i64 ((rd_T45 l0 x12_1).f4),.string (⟨#[]⟩:ByteArray),.string (⟨#[]⟩:ByteArray)]) ?_ 5 _ rfl;refine kq ?_;refine blk_put (cs:=#[.int .i64 ((rd_T45 l0 x12_1).f0),.int .i64 ((rd_T45 l0 x12_1).f1),.int .i64 ((rd_T45 l0 x12_1).f2),.int .i64 ((rd_T45 l0 x12_1).f3),.int .i64 0,.string (⟨#[]⟩:ByteArray),.string (⟨#[]⟩:ByteArray)]) ?_ 4 _ rfl;refine kq ?_;refine blk_put (cs:=#[.int .i64 ((rd_T45 l0 x12_1).f0),.int .i64 ((rd_T45 l0 x12_1).f1),.int .i64 ((rd_T45 l0 x12_1).f2),.int .i64 0,.int .i64 0,.string (⟨#[]⟩:ByteArray),.string (⟨#[]⟩:ByteArray)]) ?_ 3 _ rfl;refine kq ?_;refine blk_put (cs:=#[.int .i64 ((rd_T45 l0 x12_1).f0),.int .i64 ((rd_T45 l0 x12_1).f1),.int .i64 0,.int .i64 0,.int .i64 0,.string (⟨#[]⟩:ByteArray),.string (⟨#[]⟩:ByteArray)]) ?_ 2 _ rfl;refine kq ?_;refine blk_put (cs:=#[.int .i64 ((rd_T45 l0 x12_1).f0),.int .i64 0,.int .i64 0,.int .i64 0,.int .i64 0,.string (⟨#[]⟩:ByteArray),.string (⟨#[]⟩:ByteArray)]) ?_ 1 _ rfl;refine kq ?_;refine blk_put (cs:=#[.int .i64 0,.int .i64 0,.int .i64 0,.int .i64 0,.int .i64 0,.string (⟨#[]⟩:ByteArray),.string (⟨#[]⟩:ByteArray)]) ?_ 0 _ rfl;refine kq ?_;exact BK230.out)):gb231≠gb230));replace BK230:=am (blk_below (g:=gb230) (o:=.cells #[.int .i64 ((rd_T45 l0 x12_1).f0),.int .i64 ((rd_T45 l0 x12_1).f1),.int .i64 ((rd_T45 l0 x12_1).f2),.int .i64 ((rd_T45 l0 x12_1).f3),.int .i64 ((rd_T45 l0 x12_1).f4),.string ((rd_T45 l0 x12_1).f5),.string ((rd_T45 l0 x12_1).f6)] 45 (0,0)) (by refine kq ?_;refine blk_put (cs:=#[.int .i64 ((rd_T45 l0 x12_1).f0),.int .i64 ((rd_T45 l0 x12_1).f1),.int .i64 ((rd_T45 l0 x12_1).f2),.int .i64 ((rd_T45 l0 x12_1).f3),.int .i64 ((rd_T45 l0 x12_1).f4),.string ((rd_T45 l0 x12_1).f5),.string (⟨#[]⟩:ByteArray)]) ?_ 6 _ rfl;refine kq ?_;refine blk_put (cs:=#[.int .i64 ((rd_T45 l0 x12_1).f0),.int .i64 ((rd_T45 l0 x12_1).f1),.int .i64 ((rd_T45 l0 x12_1).f2),.int .i64 ((rd_T45 l0 x12_1).f3),.int .i64 ((rd_T45 l0 x12_1).f4),.string (⟨#[]⟩:ByteArray),.string (⟨#[]⟩:ByteArray)]) ?_ 5 _ rfl;refine kq ?_;refine blk_put (cs:=#[.int .i64 ((rd_T45 l0 x12_1).f0),.int .i64 ((rd_T45 l0 x12_1).f1),.int .i64 ((rd_T45 l0 x12_1).f2),.int .i64 ((rd_T45 l0 x12_1).f3),.int .i64 0,.string (⟨#[]⟩:ByteArray),.string (⟨#[]⟩:ByteArray)]) ?_ 4 _ rfl;refine kq ?_;refine blk_put (cs:=#[.int .i64 ((rd_T45 l0 x12_1).f0),.int .i64 ((rd_T45 l0 x12_1).f1),.int .i64 ((rd_T45 l0 x12_1).f2),.int .i64 0,.int .i64 0,.string (⟨#[]⟩:ByteArray),.string (⟨#[]⟩:ByteArray)]) ?_ 3 _ rfl;refine kq ?_;refine blk_put (cs:=#[.int .i64 ((rd_T45 l0 x12_1).f0),.int .i64 ((rd_T45 l0 x12_1).f1),.int .i64 0,.int .i64 0,.int .i64 0,.string (⟨#[]⟩:ByteArray),.string (⟨#[]⟩:ByteArray)]) ?_ 2 _ rfl;refine kq ?_;refine blk_put (cs:=#[.int .i64 ((rd_T45 l0 x12_1).f0),.int .i64 0,.int .i64 0,.int .i64 0,.int .i64 0,.string (⟨#[]⟩:ByteArray),.string (⟨#[]⟩:ByteArray)]) ?_ 1 _ rfl;refine kq ?_;refine blk_put (cs:=#[.int .i64 0,.int .i64 0,.int .i64 0,.int .i64 0,.int .i64 0,.string (⟨#[]⟩:ByteArray),.string (⟨#[]⟩:ByteArray)]) ?_ 0 _ rfl;refine kq ?_;exact BK230.out) hb);clear hb hbox hg;have hnb13:=NB231_230.out;have hnc13:=NB230_231.out;obtain ⟨hcz14_0,hcz14_1⟩:=cz2 BK231.out;obtain ⟨hfz14_0,hfz14_1⟩:=fz2 BK231.out;obtain ⟨hcz15_0,hcz15_1,hcz15_2,hcz15_3,hcz15_4,hcz15_5,hcz15_6⟩:=cz7 BK230.out;obtain ⟨hfz15_0,hfz15_1,hfz15_2,hfz15_3,hfz15_4,hfz15_5,hfz15_6⟩:=fz7 BK230.out;obtain ⟨Ao16,co16,eo16⟩:=Kd.R_slice HO_3.out;subst eo16)|((with_reducible refine gate_callee (f:=54) rfl ?_);refine goesL_ (some 26) rfl rfl Tryz.func54 kr rfl #[.slice (some ad229) l0.length c0,.slice Ao16 t226.length co16,.int .i64 x12_1,.string ((rd_T45 l0 x12_1).f5)] rfl lz ?_;(with_reducible refine (impl_binderOf.calls k1 _ _ l0 _ _ t226 x12_1 ((rd_T45 l0 x12_1).f5) t232 t233 _ ?side1 ?side2 ?side3 ?side4 A8.out).mono ?_);(case side1=>exact Kd.C_below HR0.out (bz2 HB.out GE230.out GE231.out));(case side2=>exact HC0.out);(case side3=>refine (Kd.R_reads' (e:=3) (base:=w.heap.size) (ok:=fun k_=>True) (n:=t226.length) (c:=co16) ?_).2.2;exact (by refine rq ?_;exact (Kd.R_mono (Kd.R_far (p:=⟨gb231,1,none⟩) (Kd.R_far (p:=⟨gb231,0,none⟩) (Kd.R_types HO_3.out BK231.out (by decide)) (fun _ hk=>hk.2) (.int .i64 (-1))) (fun _ hk=>hk.2) (.int .i64 (-1))) (fun _ h_=>h_.1))));(case side4=>exact (Kd.R_reads' HO_3.out).2.1);rintro e w17 ⟨rfl,hb⟩;refine ⟨_,rfl,?_⟩;replace HO_3:=am (Kd.R_below (by refine rq ?_;exact (Kd.R_mono (Kd.R_far (p:=⟨gb231,1,none⟩) (Kd.R_far (p:=⟨gb231,0,none⟩) (Kd.R_types HO_3.out BK231.out (by decide)) (fun _ hk=>hk.2) (.int .i64 (-1))) (fun _ hk=>hk.2) (.int .i64 (-1))) (fun _ h_=>h_.1))) hb);replace HO_4:=am (Kd.R_below (by refine rq ?_;exact (Kd.R_mono (Kd.R_far (p:=⟨gb231,1,none⟩) (Kd.R_far (p:=⟨gb231,0,none⟩) (Kd.R_mono HO_4.out (fun k_ hk=>(⟨hk,hk.2⟩:_ /\ k_≠gb231))) (fun _ hk=>hk.2) (.int .i64 (-1))) (fun _ hk=>hk.2) (.int .i64 (-1))) (fun _ h_=>h_.1))) hb);replace BK230:=am (blk_below (g:=gb230) (o:=.cells #[.int .i64 ((rd_T45 l0 x12_1).f0),.int .i64 ((rd_T45 l0 x12_1).f1),.int .i64 ((rd_T45 l0 x12_1).f2),.int .i64 ((rd_T45 l0 x12_1).f3),.int .i64 ((rd_T45 l0 x12_1).f4),.string ((rd_T45 l0 x12_1).f5),.string ((rd_T45 l0 x12_1).f6)] 45 (0,0)) (by refine kq ?_;refine blk_far ?_ NB230_231.out _;refine kq ?_;refine blk_far ?_ NB230_231.out _;refine kq ?_;exact BK230.out) hb);replace BK231:=am (blk_below (g:=gb231) (o:=.cells #[.int .i64 (-1),.int .i64 (-1)] 30 (0,0)) (by refine kq ?_;refine blk_put (cs:=#[.int .i64 (-1),.int .i64 0]) ?_ 1 _ rfl;refine kq ?_;refine blk_put (cs:=#[.int .i64 0,.int .i64 0]) ?_ 0 _ rfl;refine kq ?_;exact BK231.out) hb);replace HB:=bs (bz2 HB.out GE230.out GE231.out) hb;(try clear hb);(try clear hk);obtain ⟨hcz18_0,hcz18_1⟩:=cz2 BK231.out;obtain ⟨hfz18_0,hfz18_1⟩:=fz2 BK231.out)|((with_reducible refine gate_builtin (b:=.append) (xs:=#[.tmp 27,.tmp 29]) rfl ?_);at_builtin;refine Kd.R_append k30 (w0:=w) w.heap.size rfl (.tmp 27) (.tmp 29) 39 30 (.agg #[(.int .i64 0),(.int .i64 0)]) 16 rfl Tryz.underlying39 info30 rfl (by decide) (by omega) u4 x4_1 (⟨t232,t233⟩:S30) [.int .i64 t232,.int .i64 t233] (fun k_=>k_≠gb231) (fun _=>False) rfl (by first|(go_simp;done)|(go_simp;rfl)) ?aP (fun _ hk=>hk.elim) ?aF ?aO ?aB ?aS ?aL ?_;(case aP=>exact k30_mkM _ _ _ (⟨t232,t233⟩:S30));(case aB=>exact (bz2 HB.out GE230.out GE231.out));(case aF=>exact (fun k_ hk=>Kd.freshB (g:=gb231) (o:=.cells #[.int .i64 t232,.int .i64 t233] 30 (0,0)) (by refine kq ?_;refine blk_put (cs:=#[.int .i64 t232,.int .i64 (-1)]) ?_ 1 _ rfl;refine kq ?_;refine blk_put (cs:=#[.int .i64 (-1),.int .i64 (-1)]) ?_ 0 _ rfl;refine kq ?_;exact BK231.out) k_ hk));(case aO=>exact (by refine rq ?_;first|(with_reducible exact Kd.R_mono (Kd.R_far (p:=⟨gb231,1,none⟩) (Kd.R_far (p:=⟨gb231,0,none⟩) (Kd.R_mono HO_4.out (fun k_ hk=>(⟨hk,hk.2⟩:_ /\ k_≠gb231))) (fun _ hk=>hk.2) (.int .i64 t232)) (fun _ hk=>hk.2) (.int .i64 t233)) (fun _ hk=>hk.1.2))|(with_reducible exact Kd.R_mono (Kd.R_far (p:=⟨gb231,1,none⟩) (Kd.R_drewN (Kd.R_far (p:=⟨gb231,0,none⟩) (Kd.R_mono HO_4.out (fun k_ hk=>(⟨hk,hk.2⟩:_ /\ k_≠gb231))) (fun _ hk=>hk.2) (.int .i64 t232)) _) (fun _ hk=>hk.2) (.int .i64 t233)) (fun _ hk=>hk.1.2))|exact Kd.R_mono (Kd.R_far (p:=⟨gb231,1,none⟩) (Kd.R_drewN (Kd.R_far (p:=⟨gb231,0,none⟩) (Kd.R_mono HO_4.out (fun k_ hk=>(⟨hk,hk.2⟩:_ /\ k_≠gb231))) (fun _ hk=>hk.2) (.int .i64 t232)) _) (fun _ hk=>hk.2) (.int .i64 t233)) (fun _ hk=>hk.1.2)));(case aS=>exact (below_size (bz2 HB.out GE230.out GE231.out)));(case aL=>have:=LMc9.out;omega);intro v235 w19 ho hb hg hat;rw [<- Ny234.out] at ho;have n0_:=am (Kd.R_over' (by refine rq ?_;exact (Kd.R_mono (Kd.R_far (p:=⟨gb231,1,none⟩) (Kd.R_far (p:=⟨gb231,0,none⟩) (Kd.R_types HO_3.out BK231.out (by decide)) (fun _ hk=>hk.2) (.int .i64 t232)) (fun _ hk=>hk.2) (.int .i64 t233)) (fun _ h_=>h_.1))) (Kd.R_typed (by refine rq ?_;exact (Kd.R_mono (Kd.R_far (p:=⟨gb231,1,none⟩) (Kd.R_far (p:=⟨gb231,0,none⟩) (Kd.R_mono HO_4.out (fun k_ hk=>(⟨hk,hk.2⟩:_ /\ k_≠gb231))) (fun _ hk=>hk.2) (.int .i64 t232)) (fun _ hk=>hk.2) (.int .i64 t233)) (fun _ h_=>h_.1)))) (by decide) hg);have n1_:=am (blk_grown (g:=gb230) (o:=.cells #[.int .i64 ((rd_T45 l0 x12_1).f0),.int .i64 ((rd_T45 l0 x12_1).f1),.int .i64 ((rd_T45 l0 x12_1).f2),.int .i64 ((rd_T45 l0 x12_1).f3),.int .i64 ((rd_T45 l0 x12_1).f4),.string ((rd_T45 l0 x12_1).f5),.string ((rd_T45 l0 x12_1).f6)] 45 (0,0)) (by refine kq ?_;refine blk_far ?_ NB230_231.out _;refine kq ?_;refine blk_far ?_ NB230_231.out _;refine kq ?_;exact BK230.out) hg (Kd.R_ne HO_4.out BK230.out (by decide)));have n2_:=am (blk_grown (g:=gb231) (o:=.cells #[.int .i64 t232,.int .i64 t233] 30 (0,0)) (by refine kq ?_;refine blk_put (cs:=#[.int .i64 t232,.int .i64 (-1)]) ?_ 1 _ rfl;refine kq ?_;refine blk_put (cs:=#[.int .i64 (-1),.int .i64 (-1)]) ?_ 0 _ rfl;refine kq ?_;exact BK231.out) hg (Kd.R_away HO_4.out (fun _ hk=>hk.2)));have n3_:=am (hb);have n4_:=am (ho);clear HO_3;clear BK230;clear BK231;clear HB;clear HO_4;have HO_3:=n0_;have BK230:=n1_;have BK231:=n2_;have HB:=n3_;have HO236:=n4_;clear n0_ n1_ n2_ n3_ n4_;clear ho hb hg hat))
     go_roundg k1
     case measure=>have:=HK1.out;omega
     case rel=>exact ⟨(y234),(wrap64 (x12_1+1)),ez,H',⟨by have:=HK1.out;omega⟩,⟨by refine rq ?_;exact HO_3.out⟩,⟨by refine rq ?_;exact Kd.R_mono HO236.out (fun _ hk=>trivial)⟩,⟨(bz2 HB.out GE230.out GE231.out)⟩⟩
    ·rw [if_neg c7] at H
     have c7b0:(((rd_T45 l0 x12_1).f0) == 1)=false:=beq_eq_false_iff_ne.mpr c7
     have c7b1:(((rd_T45 l0 x12_1).f0) != 1)=true:=bne_iff_ne.mpr c7
     replace H:=iz H
     obtain ⟨c20,H⟩:=H
     have LMc20:=am c20
     clear c20
     obtain ⟨y237,hy237⟩:∃ y_:List (S30),y_=(x4_1++[(⟨(-1),(-1)⟩:S30)]):=⟨_,rfl⟩
     replace H:(impl_binders.l0 k1 l0 t226 y237 l0 (l0.length:Int) (wrap64 (x12_1+1)))=some r:=yz hy237 H
     have Ny237:=am hy237
     clear hy237
     have H':=am H
     clear H
     have p229:0 <= (x12_1:Int):=oz
     have q229:x12_1<(l0.length:Int):=oz
     obtain ⟨ad229,e229,hx229_0,hx229_1,hx229_2,hx229_3,hx229_4,hx229_5,hx229_6⟩:=at_T45 (Kd.C_below HR0.out HB.out) x12_1 p229 q229
     cases e229
     replace p229:=eq_true p229
     replace q229:=eq_true q229
     go_wp2_with (first|((with_reducible refine gate_dst (N:=6) rfl ?_);refine box_event ?hg (N:=6) ?hd (cs:=#[.int .i64 0,.int .i64 0,.int .i64 0,.int .i64 0,.int .i64 0,.string (⟨#[]⟩:ByteArray),.string (⟨#[]⟩:ByteArray)]) (t:=45) ?hr ?_;(case hd=>rfl);(case hg=>rfl);(case hr=>exact vz);intro gb230 hg w21 hbox hb;replace HO_3:=qz HO_3 hb;replace HO_4:=qz HO_4 hb;have BK230:=am (hbox);have GW230:=am ((by rw [hg];exact (below_size (bz0 HB.out)):w.heap.size <= gb230));have GE230:=GW230;replace HB:=bs (bz0 HB.out) hb;clear hb hbox hg;obtain ⟨hcz22_0,hcz22_1,hcz22_2,hcz22_3,hcz22_4,hcz22_5,hcz22_6⟩:=cz7 BK230.out;obtain ⟨hfz22_0,hfz22_1,hfz22_2,hfz22_3,hfz22_4,hfz22_5,hfz22_6⟩:=fz7 BK230.out)|((with_reducible refine gate_dst (N:=7) rfl ?_);refine box_event ?hg (N:=7) ?hd (cs:=#[.int .i64 0,.int .i64 0]) (t:=30) ?hr ?_;(case hd=>rfl);(case hg=>rfl);(case hr=>exact vz);intro gb231 hg w23 hbox hb;replace HO_3:=am (Kd.R_below (by refine rq ?_;exact (Kd.R_mono (Kd.R_far (p:=⟨gb230,6,none⟩) (Kd.R_far (p:=⟨gb230,5,none⟩) (Kd.R_far (p:=⟨gb230,4,none⟩) (Kd.R_far (p:=⟨gb230,3,none⟩) (Kd.R_far (p:=⟨gb230,2,none⟩) (Kd.R_far (p:=⟨gb230,1,none⟩) (Kd.R_far (p:=⟨gb230,0,none⟩) (Kd.R_types HO_3.out BK230.out (by decide)) (fun _ hk=>hk.2) (.int .i64 ((rd_T45 l0 x12_1).f0))) (fun _ hk=>hk.2) (.int .i64 ((rd_T45 l0 x12_1).f1))) (fun _ hk=>hk.2) (.int .i64 ((rd_T45 l0 x12_1).f2))) (fun _ hk=>hk.2) (.int .i64 ((rd_T45 l0 x12_1).f3))) (fun _ hk=>hk.2) (.int .i64 ((rd_T45 l0 x12_1).f4))) (fun _ hk=>hk.2) (.string ((rd_T45 l0 x12_1).f5))) (fun _ hk=>hk.2) (.string ((rd_T45 l0 x12_1).f6))) (fun _ h_=>h_.1))) hb);replace HO_4:=am (Kd.R_below (Kd.R_elderB (by refine rq ?_;exact (Kd.R_mono (Kd.R_far (p:=⟨gb230,6,none⟩) (Kd.R_far (p:=⟨gb230,5,none⟩) (Kd.R_far (p:=⟨gb230,4,none⟩) (Kd.R_far (p:=⟨gb230,3,none⟩) (Kd.R_far (p:=⟨gb230,2,none⟩) (Kd.R_far (p:=⟨gb230,1,none⟩) (Kd.R_far (p:=⟨gb230,0,none⟩) (Kd.R_types HO_4.out BK230.out (by decide)) (fun _ hk=>hk.2) (.int .i64 ((rd_T45 l0 x12_1).f0))) (fun _ hk=>hk.2) (.int .i64 ((rd_T45 l0 x12_1).f1))) (fun _ hk=>hk.2) (.int .i64 ((rd_T45 l0 x12_1).f2))) (fun _ hk=>hk.2) (.int .i64 ((rd_T45 l0 x12_1).f3))) (fun _ hk=>hk.2) (.int .i64 ((rd_T45 l0 x12_1).f4))) (fun _ hk=>hk.2) (.string ((rd_T45 l0 x12_1).f5))) (fun _ hk=>hk.2) (.string ((rd_T45 l0 x12_1).f6))) (fun _ h_=>h_.1))) gb231 (Nat.le_of_eq hg.symm)) hb);have BK231:=am (hbox);have GW231:=am ((by rw [hg];exact (below_size (bz1 HB.out GE230.out)):w.heap.size <= gb231));have GE231:=GW231;replace HB:=bs (bz1 HB.out GE230.out) hb;have NB230_231:=am ((by rw [hg];exact Nat.ne_of_lt (blk_lt (g:=gb230) (o:=.cells #[.int .i64 ((rd_T45 l0 x12_1).f0),.int .i64 ((rd_T45 l0 x12_1).f1),.int .i64 ((rd_T45 l0 x12_1).f2),.int .i64 ((rd_T45 l0 x12_1).f3),.int .i64 ((rd_T45 l0 x12_1).f4),.string ((rd_T45 l0 x12_1).f5),.string ((rd_T45 l0 x12_1).f6)] 45 (0,0)) (by refine kq ?_;refine blk_put (cs:=#[.int .i64 ((rd_T45 l0 x12_1).f0),.int .i64 ((rd_T45 l0 x12_1).f1),.int .i64 ((rd_T45 l0 x12_1).f2),.int .i64 ((rd_T45 l0 x12_1).f3),.int .i64 ((rd_T45 l0 x12_1).f4),.string ((rd_T45 l0 x12_1).f5),.string (⟨#[]⟩:ByteArray)]) ?_ 6 _ rfl;refine kq ?_;refine blk_put (cs:=#[.int .i64 ((rd_T45 l0 x12_1).f0),.int .i64 ((rd_T45 l0 x12_1).f1),.int .i64 ((rd_T45 l0 x12_1).f2),.int .i64 ((rd_T45 l0 x12_1).f3),.int .i64 ((rd_T45 l0 x12_1).f4),.string (⟨#[]⟩:ByteArray),.string (⟨#[]⟩:ByteArray)]) ?_ 5 _ rfl;refine kq ?_;refine blk_put (cs:=#[.int .i64 ((rd_T45 l0 x12_1).f0),.int .i64 ((rd_T45 l0 x12_1).f1),.int .i64 ((rd_T45 l0 x12_1).f2),.int .i64 ((rd_T45 l0 x12_1).f3),.int .i64 0,.string (⟨#[]⟩:ByteArray),.string (⟨#[]⟩:ByteArray)]) ?_ 4 _ rfl;refine kq ?_;refine blk_put (cs:=#[.int .i64 ((rd_T45 l0 x12_1).f0),.int .i64 ((rd_T45 l0 x12_1).f1),.int .i64 ((rd_T45 l0 x12_1).f2),.int .i64 0,.int .i64 0,.string (⟨#[]⟩:ByteArray),.string (⟨#[]⟩:ByteArray)]) ?_ 3 _ rfl;refine kq ?_;refine blk_put (cs:=#[.int .i64 ((rd_T45 l0 x12_1).f0),.int .i64 ((rd_T45 l0 x12_1).f1),.int .i64 0,.int .i64 0,.int .i64 0,.string (⟨#[]⟩:ByteArray),.string (⟨#[]⟩:ByteArray)]) ?_ 2 _ rfl;refine kq ?_;refine blk_put (cs:=#[.int .i64 ((rd_T45 l0 x12_1).f0),.int .i64 0,.int .i64 0,.int .i64 0,.int .i64 0,.string (⟨#[]⟩:ByteArray),.string (⟨#[]⟩:ByteArray)]) ?_ 1 _ rfl;refine kq ?_;refine blk_put (cs:=#[.int .i64 0,.int .i64 0,.int .i64 0,.int .i64 0,.int .i64 0,.string (⟨#[]⟩:ByteArray),.string (⟨#[]⟩:ByteArray)]) ?_ 0 _ rfl;refine kq ?_;exact BK230.out)):gb230≠gb231));have NB231_230:=am ((by rw [hg];exact Nat.ne_of_gt (blk_lt (g:=gb230) (o:=.cells #[.int .i64 ((rd_T45 l0 x12_1).f0),.int .i64 ((rd_T45 l0 x12_1).f1),.int .i64 ((rd_T45 l0 x12_1).f2),.int .i64 ((rd_T45 l0 x12_1).f3),.int .i64 ((rd_T45 l0 x12_1).f4),.string ((rd_T45 l0 x12_1).f5),.string ((rd_T45 l0 x12_1).f6)] 45 (0,0)) (by refine kq ?_;refine blk_put (cs:=#[.int .i64 ((rd_T45 l0 x12_1).f0),.int .i64 ((rd_T45 l0 x12_1).f1),.int .i64 ((rd_T45 l0 x12_1).f2),.int .i64 ((rd_T45 l0 x12_1).f3),.int .i64 ((rd_T45 l0 x12_1).f4),.string ((rd_T45 l0 x12_1).f5),.string (⟨#[]⟩:ByteArray)]) ?_ 6 _ rfl;refine kq ?_;refine blk_put (cs:=#[.int .i64 ((rd_T45 l0 x12_1).f0),.int .i64 ((rd_T45 l0 x12_1).f1),.int .i64 ((rd_T45 l0 x12_1).f2),.int .i64 ((rd_T45 l0 x12_1).f3),.int .i64 ((rd_T45 l0 x12_1).f4),.string (⟨#[]⟩:ByteArray),.string (⟨#[]⟩:ByteArray)]) ?_ 5 _ rfl;refine kq ?_;refine blk_put (cs:=#[.int .i64 ((rd_T45 l0 x12_1).f0),.int .i64 ((rd_T45 l0 x12_1).f1),.int .i64 ((rd_T45 l0 x12_1).f2),.int .i64 ((rd_T45 l0 x12_1).f3),.int .i64 0,.string (⟨#[]⟩:ByteArray),.string (⟨#[]⟩:ByteArray)]) ?_ 4 _ rfl;refine kq ?_;refine blk_put (cs:=#[.int .i64 ((rd_T45 l0 x12_1).f0),.int .i64 ((rd_T45 l0 x12_1).f1),.int .i64 ((rd_T45 l0 x12_1).f2),.int .i64 0,.int .i64 0,.string (⟨#[]⟩:ByteArray),.string (⟨#[]⟩:ByteArray)]) ?_ 3 _ rfl;refine kq ?_;refine blk_put (cs:=#[.int .i64 ((rd_T45 l0 x12_1).f0),.int .i64 ((rd_T45 l0 x12_1).f1),.int .i64 0,.int .i64 0,.int .i64 0,.string (⟨#[]⟩:ByteArray),.string (⟨#[]⟩:ByteArray)]) ?_ 2 _ rfl;refine kq ?_;refine blk_put (cs:=#[.int .i64 ((rd_T45 l0 x12_1).f0),.int .i64 0,.int .i64 0,.int .i64 0,.int .i64 0,.string (⟨#[]⟩:ByteArray),.string (⟨#[]⟩:ByteArray)]) ?_ 1 _ rfl;refine kq ?_;refine blk_put (cs:=#[.int .i64 0,.int .i64 0,.int .i64 0,.int .i64 0,.int .i64 0,.string (⟨#[]⟩:ByteArray),.string (⟨#[]⟩:ByteArray)]) ?_ 0 _ rfl;refine kq ?_;exact BK230.out)):gb231≠gb230));replace BK230:=am (blk_below (g:=gb230) (o:=.cells #[.int .i64 ((rd_T45 l0 x12_1).f0),.int .i64 ((rd_T45 l0 x12_1).f1),.int .i64 ((rd_T45 l0 x12_1).f2),.int .i64 ((rd_T45 l0 x12_1).f3),.int .i64 ((rd_T45 l0 x12_1).f4),.string ((rd_T45 l0 x12_1).f5),.string ((rd_T45 l0 x12_1).f6)] 45 (0,0)) (by refine kq ?_;refine blk_put (cs:=#[.int .i64 ((rd_T45 l0 x12_1).f0),.int .i64 ((rd_T45 l0 x12_1).f1),.int .i64 ((rd_T45 l0 x12_1).f2),.int .i64 ((rd_T45 l0 x12_1).f3),.int .i64 ((rd_T45 l0 x12_1).f4),.string ((rd_T45 l0 x12_1).f5),.string (⟨#[]⟩:ByteArray)]) ?_ 6 _ rfl;refine kq ?_;refine blk_put (cs:=#[.int .i64 ((rd_T45 l0 x12_1).f0),.int .i64 ((rd_T45 l0 x12_1).f1),.int .i64 ((rd_T45 l0 x12_1).f2),.int .i64 ((rd_T45 l0 x12_1).f3),.int .i64 ((rd_T45 l0 x12_1).f4),.string (⟨#[]⟩:ByteArray),.string (⟨#[]⟩:ByteArray)]) ?_ 5 _ rfl;refine kq ?_;refine blk_put (cs:=#[.int .i64 ((rd_T45 l0 x12_1).f0),.int .i64 ((rd_T45 l0 x12_1).f1),.int .i64 ((rd_T45 l0 x12_1).f2),.int .i64 ((rd_T45 l0 x12_1).f3),.int .i64 0,.string (⟨#[]⟩:ByteArray),.string (⟨#[]⟩:ByteArray)]) ?_ 4 _ rfl;refine kq ?_;refine blk_put (cs:=#[.int .i64 ((rd_T45 l0 x12_1).f0),.int .i64 ((rd_T45 l0 x12_1).f1),.int .i64 ((rd_T45 l0 x12_1).f2),.int .i64 0,.int .i64 0,.string (⟨#[]⟩:ByteArray),.string (⟨#[]⟩:ByteArray)]) ?_ 3 _ rfl;refine kq ?_;refine blk_put (cs:=#[.int .i64 ((rd_T45 l0 x12_1).f0),.int .i64 ((rd_T45 l0 x12_1).f1),.int .i64 0,.int .i64 0,.int .i64 0,.string (⟨#[]⟩:ByteArray),.string (⟨#[]⟩:ByteArray)]) ?_ 2 _ rfl;refine kq ?_;refine blk_put (cs:=#[.int .i64 ((rd_T45 l0 x12_1).f0),.int .i64 0,.int .i64 0,.int .i64 0,.int .i64 0,.string (⟨#[]⟩:ByteArray),.string (⟨#[]⟩:ByteArray)]) ?_ 1 _ rfl;refine kq ?_;refine blk_put (cs:=#[.int .i64 0,.int .i64 0,.int .i64 0,.int .i64 0,.int .i64 0,.string (⟨#[]⟩:ByteArray),.string (⟨#[]⟩:ByteArray)]) ?_ 0 _ rfl;refine kq ?_;exact BK230.out) hb);clear hb hbox hg;have hnb24:=NB231_230.out;have hnc24:=NB230_231.out;obtain ⟨hcz25_0,hcz25_1⟩:=cz2 BK231.out;obtain ⟨hfz25_0,hfz25_1⟩:=fz2 BK231.out;obtain ⟨hcz26_0,hcz26_1,hcz26_2,hcz26_3,hcz26_4,hcz26_5,hcz26_6⟩:=cz7 BK230.out;obtain ⟨hfz26_0,hfz26_1,hfz26_2,hfz26_3,hfz26_4,hfz26_5,hfz26_6⟩:=fz7 BK230.out)|((with_reducible refine gate_builtin (b:=.append) (xs:=#[.tmp 27,.tmp 29]) rfl ?_);at_builtin;refine Kd.R_append k30 (w0:=w) w.heap.size rfl (.tmp 27) (.tmp 29) 39 30 (.agg #[(.int .i64 0),(.int .i64 0)]) 16 rfl Tryz.underlying39 info30 rfl (by decide) (by omega) u4 x4_1 (⟨(-1),(-1)⟩:S30) [.int .i64 (-1),.int .i64 (-1)] (fun k_=>k_≠gb231) (fun _=>False) rfl (by first|(go_simp;done)|(go_simp;rfl)) ?aP (fun _ hk=>hk.elim) ?aF ?aO ?aB ?aS ?aL ?_;(case aP=>exact k30_mkM _ _ _ (⟨(-1),(-1)⟩:S30));(case aB=>exact (bz2 HB.out GE230.out GE231.out));(case aF=>exact (fun k_ hk=>Kd.freshB (g:=gb231) (o:=.cells #[.int .i64 (-1),.int .i64 (-1)] 30 (0,0)) (by refine kq ?_;refine blk_put (cs:=#[.int .i64 (-1),.int .i64 0]) ?_ 1 _ rfl;refine kq ?_;refine blk_put (cs:=#[.int .i64 0,.int .i64 0]) ?_ 0 _ rfl;refine kq ?_;exact BK231.out) k_ hk));(case aO=>exact (by refine rq ?_;first|(with_reducible exact Kd.R_mono (Kd.R_far (p:=⟨gb231,1,none⟩) (Kd.R_far (p:=⟨gb231,0,none⟩) (Kd.R_mono HO_4.out (fun k_ hk=>(⟨hk,hk.2⟩:_ /\ k_≠gb231))) (fun _ hk=>hk.2) (.int .i64 (-1))) (fun _ hk=>hk.2) (.int .i64 (-1))) (fun _ hk=>hk.1.2))|(with_reducible exact Kd.R_mono (Kd.R_far (p:=⟨gb231,1,none⟩) (Kd.R_drewN (Kd.R_far (p:=⟨gb231,0,none⟩) (Kd.R_mono HO_4.out (fun k_ hk=>(⟨hk,hk.2⟩:_ /\ k_≠gb231))) (fun _ hk=>hk.2) (.int .i64 (-1))) _) (fun _ hk=>hk.2) (.int .i64 (-1))) (fun _ hk=>hk.1.2))|exact Kd.R_mono (Kd.R_far (p:=⟨gb231,1,none⟩) (Kd.R_drewN (Kd.R_far (p:=⟨gb231,0,none⟩) (Kd.R_mono HO_4.out (fun k_ hk=>(⟨hk,hk.2⟩:_ /\ k_≠gb231))) (fun _ hk=>hk.2) (.int .i64 (-1))) _) (fun _ hk=>hk.2) (.int .i64 (-1))) (fun _ hk=>hk.1.2)));(case aS=>exact (below_size (bz2 HB.out GE230.out GE231.out)));(case aL=>have:=LMc20.out;omega);intro v238 w27 ho hb hg hat;rw [<- Ny237.out] at ho;have n0_:=am (Kd.R_over' (by refine rq ?_;exact (Kd.R_mono (Kd.R_far (p:=⟨gb231,1,none⟩) (Kd.R_far (p:=⟨gb231,0,none⟩) (Kd.R_types HO_3.out BK231.out (by decide)) (fun _ hk=>hk.2) (.int .i64 (-1))) (fun _ hk=>hk.2) (.int .i64 (-1))) (fun _ h_=>h_.1))) (Kd.R_typed (by refine rq ?_;exact (Kd.R_mono (Kd.R_far (p:=⟨gb231,1,none⟩) (Kd.R_far (p:=⟨gb231,0,none⟩) (Kd.R_mono HO_4.out (fun k_ hk=>(⟨hk,hk.2⟩:_ /\ k_≠gb231))) (fun _ hk=>hk.2) (.int .i64 (-1))) (fun _ hk=>hk.2) (.int .i64 (-1))) (fun _ h_=>h_.1)))) (by decide) hg);have n1_:=am (blk_grown (g:=gb230) (o:=.cells #[.int .i64 ((rd_T45 l0 x12_1).f0),.int .i64 ((rd_T45 l0 x12_1).f1),.int .i64 ((rd_T45 l0 x12_1).f2),.int .i64 ((rd_T45 l0 x12_1).f3),.int .i64 ((rd_T45 l0 x12_1).f4),.string ((rd_T45 l0 x12_1).f5),.string ((rd_T45 l0 x12_1).f6)] 45 (0,0)) (by refine kq ?_;refine blk_far ?_ NB230_231.out _;refine kq ?_;refine blk_far ?_ NB230_231.out _;refine kq ?_;exact BK230.out) hg (Kd.R_ne HO_4.out BK230.out (by decide)));have n2_:=am (blk_grown (g:=gb231) (o:=.cells #[.int .i64 (-1),.int .i64 (-1)] 30 (0,0)) (by refine kq ?_;refine blk_put (cs:=#[.int .i64 (-1),.int .i64 0]) ?_ 1 _ rfl;refine kq ?_;refine blk_put (cs:=#[.int .i64 0,.int .i64 0]) ?_ 0 _ rfl;refine kq ?_;exact BK231.out) hg (Kd.R_away HO_4.out (fun _ hk=>hk.2)));have n3_:=am (hb);have n4_:=am (ho);clear HO_3;clear BK230;clear BK231;clear HB;clear HO_4;have HO_3:=n0_;have BK230:=n1_;have BK231:=n2_;have HB:=n3_;have HO239:=n4_;clear n0_ n1_ n2_ n3_ n4_;clear ho hb hg hat))
     go_roundg k1
     case measure=>have:=HK1.out;omega
     case rel=>exact ⟨(y237),(wrap64 (x12_1+1)),ez,H',⟨by have:=HK1.out;omega⟩,⟨by refine rq ?_;exact HO_3.out⟩,⟨by refine rq ?_;exact Kd.R_mono HO239.out (fun _ hk=>trivial)⟩,⟨(bz2 HB.out GE230.out GE231.out)⟩⟩
   ·rw [if_neg c4] at H
    have c4b0:=decide_eq_false c4
    clear c4
    obtain rfl:=Option.some.inj H
    go_wp2
    go_ret
    exact ⟨_,gz,by refine rq ?_;exact HO_4.out,(bz0 HB.out)⟩
def sort_Strings.f (l0:List ByteArray):Option (List ByteArray):=if l0.length<4611686018427387904 then (some (sortB l0)) else (none)
theorem sort_Strings.calls (P0_:Nat -> Prop) (u9000_:Value) (l0:List ByteArray) (r1:List ByteArray) (w0 w:World) (hB:Below w0.heap.size w0 w) (ho0:Kd.R Kd.string 9 w w0.heap.size P0_ u9000_ l0) (h:sort_Strings.f l0=some r1) :
  Calls Tryz.prog 67 #[u9000_] w fun e w'=>e=.returned (.tuple #[]) /\ Kd.R Kd.string 9 w' w0.heap.size (fun k_=>(P0_ k_ \/ w.heap.size <= k_)) u9000_ r1 /\ Below w0.heap.size w0 w' /\ Kept w w' (fun k_=>P0_ k_):=by
 unfold sort_Strings.f at h
 split at h
 ·rename_i hl
  obtain rfl:=Option.some.inj h
  exact sort_put (fun blk off cap ss w hH hb hz=>Tryz.sort_Strings blk off cap ss w hH hb hz) (fun p cap w=>Tryz.sort_Strings_none p cap w) P0_ u9000_ l0 w0 w hB ho0 hl
 ·cases h
def impl_sorted.l0:Nat -> List ByteArray -> List ByteArray -> List ByteArray -> Int -> Int -> Option (List ByteArray × List ByteArray)
 | 0,_,_,_,_,_=>none
 | k+1,x0,x3,x8,x9,x10=>if x10<x9 then (if 0 <= x10 then (if x10<(x8.length:Int) then (if x10=0 then (if x3.length<8796093022208 then (impl_sorted.l0 k x0 (x3++[rdOf ByteArray.empty x8 x10]) x8 x9 (wrap64 (x10+1))) else (none)) else (if 0 <= (wrap64 (x10 - 1)) then (if (wrap64 (x10 - 1))<(x0.length:Int) then (if (rdOf ByteArray.empty x0 (wrap64 (x10 - 1))).toList=(rdOf ByteArray.empty x8 x10).toList then (impl_sorted.l0 k x0 x3 x8 x9 (wrap64 (x10+1))) else (if x3.length<8796093022208 then (impl_sorted.l0 k x0 (x3++[rdOf ByteArray.empty x8 x10]) x8 x9 (wrap64 (x10+1))) else (none))) else (none)) else (none))) else (none)) else (none)) else (some (x3,x0))
def impl_sorted.f (k:Nat) (l0:List ByteArray):Option (List ByteArray × List ByteArray):=(sort_Strings.f l0).bind fun t240=>(impl_sorted.l0 k t240 ([]:List ByteArray) t240 (l0.length:Int) 0)
theorem impl_sorted.mono_l:∀ k,(∀ y0 y1 y2 y3 y4,LeO (impl_sorted.l0 k y0 y1 y2 y3 y4) (impl_sorted.l0 (k+1) y0 y1 y2 y3 y4))
 | 0=>fun _ _ _ _ _ r h=>by simp [impl_sorted.l0] at h
 | k+1=>by
  have ih0:=impl_sorted.mono_l k
  ·intro y0 y1 y2 y3 y4
   unfold impl_sorted.l0
   with_reducible repeat' first|exact ih0 _ _ _ _ _|exact lrz _|exact lnz _|refine liz ?_ ?_|refine lbz ?_ fun _=>?_
theorem impl_sorted.mono:∀ a0 k,LeO (impl_sorted.f k a0) (impl_sorted.f (k+1) a0):=by
 intro a0 k
 have ih0:=impl_sorted.mono_l k
 unfold impl_sorted.f
 with_reducible repeat' first|exact ih0 _ _ _ _ _|exact lrz _|exact lnz _|refine liz ?_ ?_|refine lbz ?_ fun _=>?_
set_option maxHeartbeats 8000000 in
set_option maxRecDepth 100000 in
theorem impl_sorted.calls (k:Nat) (P0_:Nat -> Prop) (u9000_:Value) (l0:List ByteArray) (r1:List ByteArray) (r2:List ByteArray) (w0 w:World) (hB:Below w0.heap.size w0 w) (ho0:Kd.R Kd.string 9 w w0.heap.size P0_ u9000_ l0) (h:impl_sorted.f k l0=some (r1,r2)) :
  Calls Tryz.prog 46 #[u9000_] w fun e w'=>∃ v0_:Value,e=.returned (v0_) /\ Kd.R Kd.string 9 w' w0.heap.size (fun k_=>(P0_ k_ \/ w.heap.size <= k_) /\ some k_≠(u9000_:Value).ownBlock) v0_ r1 /\ Kd.R Kd.string 9 w' w0.heap.size (fun k_=>(P0_ k_ \/ w.heap.size <= k_)) u9000_ r2 /\ Below w0.heap.size w0 w' /\ Kept w w' (fun k_=>P0_ k_):=by
 have HO0:=am (show Kd.R Kd.string 9 w w0.heap.size (fun k_=>(P0_ k_ \/ w.heap.size <= k_)) u9000_ l0 from Kd.R_mono ho0 (fun k_ hk=>(.inl hk)))
 have HK:=am (Kept.refl w (fun k_=>P0_ k_))
 have HW0:=am hB.size
 have HB:=am hB
 clear hB
 have H:((sort_Strings.f l0).bind fun t240=>(impl_sorted.l0 k t240 ([]:List ByteArray) t240 (l0.length:Int) 0))=some (r1,r2):=h
 clear h
 replace H:=bi H
 obtain ⟨t240,A20,H⟩:=H
 try dsimp only at H
 have A2:=am A20
 clear A20
 have H':=am H
 clear H
 obtain ⟨Ao3,co3,eo3⟩:=Kd.R_slice HO0.out
 subst eo3
 go_enter Tryz.func46,Tryz.ntmps46
 go_wp2_with (first|((with_reducible refine gate_callee (f:=67) rfl ?_);refine goesL_ (some 7) rfl rfl Tryz.func67 kr rfl #[.slice Ao3 l0.length co3] rfl lz ?_;(with_reducible refine (sort_Strings.calls (fun k_=>some k_=(.slice Ao3 l0.length co3:Value).ownBlock) (.slice Ao3 l0.length co3) l0 t240 w0 _ ?side1 ?side2 A2.out).mono ?_);(case side1=>repeat (first|(with_reducible first|exact HB.out|apply below_alloc|apply pw_below_drewN|apply below_drew1)|exact HB.out));(case side2=>exact Kd.R_tight rfl HO0.out);rintro e w4 ⟨rfl,hy0,hb,hkp⟩;refine ⟨_,rfl,?_⟩;replace HK:=am (Kept.then_ (S:=(fun k_=>P0_ k_)) (by repeat (first|(with_reducible first|exact HK.out|apply Kept.alloc|apply Kept.drewN|apply Kept.drew)|exact HK.out)) hkp (fun k_ hs_=>(fun e_=>(HO0.out.1 k_ e_.symm)) hs_));replace HO0:=am (Kd.R_reok rfl hy0 (fun k_ e_=>HO0.out.1 k_ e_));replace HB:=am (hb);(try clear hb);(try clear hkp);(try clear hy0)))
 go_loopg [3,10] k (fun kq v3 v10 w'=>∃ (x3_1:List ByteArray) (x10_1:Int),v10=.int .i64 x10_1 /\ Aside0 (impl_sorted.l0 kq t240 x3_1 t240 (l0.length:Int) x10_1=some (r1,r2)) /\ Aside0 (kq <= k) /\ Aside0 (Kd.R Kd.string 9 w' w0.heap.size (fun k_=>(P0_ k_ \/ w.heap.size <= k_) /\ some k_≠(v3:Value).ownBlock) (.slice Ao3 l0.length co3) t240) /\ Aside0 (Kd.R Kd.string 9 w' w0.heap.size (fun k_=>(P0_ k_ \/ w.heap.size <= k_) /\ some k_≠((.slice Ao3 l0.length co3):Value).ownBlock /\ some k_≠((.slice Ao3 l0.length co3):Value).ownBlock) v3 x3_1) /\ Aside0 (Kd.R Kd.string 9 w' w0.heap.size (fun k_=>(P0_ k_ \/ w.heap.size <= k_) /\ some k_≠(v3:Value).ownBlock) (.slice Ao3 l0.length co3) t240) /\ Aside0 (Kept w w' (fun k_=>P0_ k_)) /\ Aside0 (Below w0.heap.size w0 w'))
 case atStart=>exact ⟨(([]:List ByteArray)),(0),ez,H',⟨Nat.le_refl _⟩,⟨by refine rq ?_;exact Kd.R_mono HO0.out (fun _ hk=>⟨hk,(by simp [Value.ownBlock])⟩)⟩,⟨by first|exact Kd.R_nil _ _ _ _ _|exact Kd.N_nil _ _ _ _ _|exact Kd.V_nil _ _ _ _ _|exact Kd.Q_nil _ _ _ _ _|exact Kd.S_nil _ _ _ _ _⟩,⟨by refine rq ?_;exact Kd.R_mono HO0.out (fun _ hk=>⟨hk,(by simp [Value.ownBlock])⟩)⟩,⟨by repeat (first|(with_reducible first|exact HK.out|apply Kept.alloc|apply Kept.drewN|apply Kept.drew)|exact HK.out)⟩,⟨(bz0 HB.out)⟩⟩
 case round =>
  clear H'
  try clear p2
  try clear c4
  obtain ⟨x3_1,x10_1,rfl,HA,HK1,HO_0,HO_3,HO_8,HK,HB⟩:=hrel
  have hl0_1:=(Kd.R_reads' HO_0.out).1
  rw [hl0_1] at HO_0
  (try simp only [hl0_1])
  (try simp only [hl0_1] at HO_3)
  (try simp only [hl0_1] at HO_8)
  have hl8_1:=(Kd.R_reads' HO_8.out).1
  rw [hl8_1] at HO_8
  (try simp only [hl8_1])
  (try simp only [hl8_1] at HO_0)
  (try simp only [hl8_1] at HO_3)
  cases gk with
  | zero=>exact absurd HA.out (by simp [impl_sorted.l0])
  | succ k1 =>
   have H:=HA.out
   clear HA
   simp only [impl_sorted.l0] at H
   by_cases c5:x10_1<(l0.length:Int)
   ·rw [if_pos c5] at H
    have c5b0:=decide_eq_true c5
    (try (have c5b0z:=c5b0;simp only [hl0_1] at c5b0z))
    (try (have c5b0z1:=c5b0;simp only [hl8_1] at c5b0z1))
    clear c5
    replace H:=iz H
    obtain ⟨c6,H⟩:=H
    have c6b0:=decide_eq_true c6
    clear c6
    replace H:=iz H
    obtain ⟨c7,H⟩:=H
    have c7b0:=decide_eq_true c7
    clear c7
    by_cases c8:x10_1=0
    ·rw [if_pos c8] at H
     have c8b0:(x10_1 == 0)=true:=beq_iff_eq.mpr c8
     have c8b1:(x10_1 != 0)=false:=bne_eq_false_iff_eq.mpr c8
     clear c8
     replace H:=iz H
     obtain ⟨c9,H⟩:=H
     have LMc9:=am c9
     clear c9
     obtain ⟨y242,hy242⟩:∃ y_:List ByteArray,y_=(x3_1++[rdOf ByteArray.empty t240 x10_1]):=⟨_,rfl⟩
     replace H:(impl_sorted.l0 k1 t240 y242 t240 (l0.length:Int) (wrap64 (x10_1+1)))=some (r1,r2):=yz hy242 H
     have Ny242:=am hy242
     clear hy242
     have H':=am H
     clear H
     have p241:0 <= (x10_1:Int):=oz
     have q241:x10_1<(t240.length:Int):=oz
     obtain ⟨ad241,e241,hx241_0⟩:=Kd.at_string (Kd.R_reads' HO_8.out).2.2 x10_1 p241 q241
     cases e241
     replace p241:=eq_true p241
     replace q241:=eq_true q241
     go_wp2_with (first|((with_reducible refine gate_builtin (b:=.append) (xs:=#[.tmp 26,.tmp 28]) rfl ?_);at_builtin;refine Kd.R_append Kd.string (w0:=w0) w0.heap.size rfl (.tmp 26) (.tmp 28) 42 9 (.string ⟨#[]⟩) 16 rfl Tryz.underlying42 info9 rfl (by decide) (by omega) u3 x3_1 (rdOf ByteArray.empty t240 x10_1) [.string (rdOf ByteArray.empty t240 x10_1)] (fun k_=>(P0_ k_ \/ w.heap.size <= k_) /\ some k_≠(.slice (some ad241) t240.length co3:Value).ownBlock /\ some k_≠(.slice (some ad241) t240.length co3:Value).ownBlock) (fun _=>False) rfl rfl ?aP (fun _ hk=>hk.elim) ?aF ?aO ?aB ?aS ?aL ?_;(case aP=>exact rfl);(case aB=>exact (bz0 HB.out));(case aF=>exact (fun k_ hk=>⟨(.inr (Nat.le_trans (by first|exact HK.out.1|exact (show Kept w _ (fun k_=>P0_ k_) from by repeat (first|(with_reducible first|exact HK.out|apply Kept.alloc|apply Kept.drewN|apply Kept.drew)|exact HK.out)).1) hk)),Kd.fresh' (Kd.R_lt (rz HO_0.out)) k_ hk,Kd.fresh' (Kd.R_lt (rz HO_8.out)) k_ hk⟩));(case aO=>exact (rz HO_3.out));(case aS=>exact (below_size (bz0 HB.out)));(case aL=>have:=LMc9.out;omega);intro v243 w10 ho hb hg hat;rw [<- Ny242.out] at ho;have n0_:=am (Kd.R_after (ok:=(fun k_=>(P0_ k_ \/ w.heap.size <= k_))) (rz HO_0.out) hg hat);have n1_:=am (Kd.R_after (ok:=(fun k_=>(P0_ k_ \/ w.heap.size <= k_))) (rz HO_8.out) hg hat);have n2_:=am (hb);have n3_:=am (Kept.of_grown (S:=(fun k_=>P0_ k_)) hg (by repeat (first|(with_reducible first|exact HK.out|apply Kept.alloc|apply Kept.drewN|apply Kept.drew)|exact HK.out)) (fun k_ e_=>(HO_3.out.1 k_ e_).1));have n4_:=am (ho);clear HO_0;clear HO_8;clear HB;clear HK;clear HO_3;have HO_0:=n0_;have HO_8:=n1_;have HB:=n2_;have HK:=n3_;have HO244:=n4_;clear n0_ n1_ n2_ n3_ n4_;clear ho hb hg hat))
     (first|simp only [<- hl0_1,<- hl8_1]|simp only [<- hl0_1]|simp only [<- hl8_1]|skip)
     go_roundg k1
     case measure=>have:=HK1.out;omega
     case rel=>exact ⟨(y242),(wrap64 (x10_1+1)),ez,H',⟨by have:=HK1.out;omega⟩,⟨by (try simp only [hl0_1]);(try simp only [hl8_1]);refine rq ?_;exact HO_0.out⟩,⟨by (try simp only [hl0_1]);(try simp only [hl8_1]);refine rq ?_;exact HO244.out⟩,⟨by (try simp only [hl0_1]);(try simp only [hl8_1]);refine rq ?_;exact HO_8.out⟩,⟨by repeat (first|(with_reducible first|exact HK.out|apply Kept.alloc|apply Kept.drewN|apply Kept.drew)|exact HK.out)⟩,⟨(bz0 HB.out)⟩⟩
    ·rw [if_neg c8] at H
     have c8b0:(x10_1 == 0)=false:=beq_eq_false_iff_ne.mpr c8
     have c8b1:(x10_1 != 0)=true:=bne_iff_ne.mpr c8
     obtain ⟨ji11,hji11⟩:∃ j_:Int,(wrap64 (x10_1 - 1))=j_:=⟨_,rfl⟩
     replace H:(if 0 <= (ji11) then (if (ji11)<(t240.length:Int) then (if (rdOf ByteArray.empty t240 (ji11)).toList=(rdOf ByteArray.empty t240 x10_1).toList then (impl_sorted.l0 k1 t240 x3_1 t240 (l0.length:Int) (wrap64 (x10_1+1))) else (if x3_1.length<8796093022208 then (impl_sorted.l0 k1 t240 (x3_1++[rdOf ByteArray.empty t240 x10_1]) t240 (l0.length:Int) (wrap64 (x10_1+1))) else (none))) else (none)) else (none))=some (r1,r2):=by first|(rw [hji11] at H;exact H)|(simp only [hji11] at H ⊢;exact H)
     have hji11w:(IntKind.i64.wrap (x10_1 - 1))=ji11:=(i64_w _).trans hji11
     replace H:=iz H
     obtain ⟨c12,H⟩:=H
     have c12b0:=decide_eq_true c12
     clear c12
     replace H:=iz H
     obtain ⟨c13,H⟩:=H
     have c13b0:=decide_eq_true c13
     clear c13
     by_cases c14:(rdOf ByteArray.empty t240 (ji11)).toList=(rdOf ByteArray.empty t240 x10_1).toList
     ·rw [if_pos c14] at H
      have c14b0:((rdOf ByteArray.empty t240 (ji11)).toList == (rdOf ByteArray.empty t240 x10_1).toList)=true:=beq_iff_eq.mpr c14
      have c14b1:((rdOf ByteArray.empty t240 (ji11)).toList != (rdOf ByteArray.empty t240 x10_1).toList)=false:=bne_eq_false_iff_eq.mpr c14
      clear c14
      have H':=am H
      clear H
      have p241:0 <= (x10_1:Int):=oz
      have q241:x10_1<(t240.length:Int):=oz
      obtain ⟨ad241,e241,hx241_0⟩:=Kd.at_string (Kd.R_reads' HO_8.out).2.2 x10_1 p241 q241
      cases e241
      replace p241:=eq_true p241
      replace q241:=eq_true q241
      have p245:0 <= ((ji11):Int):=oz
      have q245:(ji11)<(t240.length:Int):=oz
      obtain ⟨ad245,e245,hx245_0⟩:=Kd.at_string (Kd.R_reads' HO_0.out).2.2 (ji11) p245 q245
      obtain rfl:ad241=ad245:=(by injection e245)
      replace p245:=eq_true p245
      replace q245:=eq_true q245
      go_wp2
      (first|simp only [<- hl0_1,<- hl8_1]|simp only [<- hl0_1]|simp only [<- hl8_1]|skip)
      go_roundg k1
      case measure=>have:=HK1.out;omega
      case rel=>exact ⟨(x3_1),(wrap64 (x10_1+1)),ez,H',⟨by have:=HK1.out;omega⟩,⟨by (try simp only [hl0_1]);(try simp only [hl8_1]);refine rq ?_;exact HO_0.out⟩,⟨by (try simp only [hl0_1]);(try simp only [hl8_1]);refine rq ?_;exact HO_3.out⟩,⟨by (try simp only [hl0_1]);(try simp only [hl8_1]);refine rq ?_;exact HO_8.out⟩,⟨by repeat (first|(with_reducible first|exact HK.out|apply Kept.alloc|apply Kept.drewN|apply Kept.drew)|exact HK.out)⟩,⟨(bz0 HB.out)⟩⟩
     ·rw [if_neg c14] at H
      have c14b0:((rdOf ByteArray.empty t240 (ji11)).toList == (rdOf ByteArray.empty t240 x10_1).toList)=false:=beq_eq_false_iff_ne.mpr c14
      have c14b1:((rdOf ByteArray.empty t240 (ji11)).toList != (rdOf ByteArray.empty t240 x10_1).toList)=true:=bne_iff_ne.mpr c14
      replace H:=iz H
      obtain ⟨c15,H⟩:=H
      have LMc15:=am c15
      clear c15
      obtain ⟨y246,hy246⟩:∃ y_:List ByteArray,y_=(x3_1++[rdOf ByteArray.empty t240 x10_1]):=⟨_,rfl⟩
      replace H:(impl_sorted.l0 k1 t240 y246 t240 (l0.length:Int) (wrap64 (x10_1+1)))=some (r1,r2):=yz hy246 H
      have Ny246:=am hy246
      clear hy246
      have H':=am H
      clear H
      have p241:0 <= (x10_1:Int):=oz
      have q241:x10_1<(t240.length:Int):=oz
      obtain ⟨ad241,e241,hx241_0⟩:=Kd.at_string (Kd.R_reads' HO_8.out).2.2 x10_1 p241 q241
      cases e241
      replace p241:=eq_true p241
      replace q241:=eq_true q241
      have p245:0 <= ((ji11):Int):=oz
      have q245:(ji11)<(t240.length:Int):=oz
      obtain ⟨ad245,e245,hx245_0⟩:=Kd.at_string (Kd.R_reads' HO_0.out).2.2 (ji11) p245 q245
      obtain rfl:ad241=ad245:=(by injection e245)
      replace p245:=eq_true p245
      replace q245:=eq_true q245
      go_wp2_with (first|((with_reducible refine gate_builtin (b:=.append) (xs:=#[.tmp 26,.tmp 28]) rfl ?_);at_builtin;refine Kd.R_append Kd.string (w0:=w0) w0.heap.size rfl (.tmp 26) (.tmp 28) 42 9 (.string ⟨#[]⟩) 16 rfl Tryz.underlying42 info9 rfl (by decide) (by omega) u3 x3_1 (rdOf ByteArray.empty t240 x10_1) [.string (rdOf ByteArray.empty t240 x10_1)] (fun k_=>(P0_ k_ \/ w.heap.size <= k_) /\ some k_≠(.slice (some ad241) t240.length co3:Value).ownBlock /\ some k_≠(.slice (some ad241) t240.length co3:Value).ownBlock) (fun _=>False) rfl rfl ?aP (fun _ hk=>hk.elim) ?aF ?aO ?aB ?aS ?aL ?_;(case aP=>exact rfl);(case aB=>exact (bz0 HB.out));(case aF=>exact (fun k_ hk=>⟨(.inr (Nat.le_trans (by first|exact HK.out.1|exact (show Kept w _ (fun k_=>P0_ k_) from by repeat (first|(with_reducible first|exact HK.out|apply Kept.alloc|apply Kept.drewN|apply Kept.drew)|exact HK.out)).1) hk)),Kd.fresh' (Kd.R_lt (rz HO_0.out)) k_ hk,Kd.fresh' (Kd.R_lt (rz HO_8.out)) k_ hk⟩));(case aO=>exact (rz HO_3.out));(case aS=>exact (below_size (bz0 HB.out)));(case aL=>have:=LMc15.out;omega);intro v247 w16 ho hb hg hat;rw [<- Ny246.out] at ho;have n0_:=am (Kd.R_after (ok:=(fun k_=>(P0_ k_ \/ w.heap.size <= k_))) (rz HO_0.out) hg hat);have n1_:=am (Kd.R_after (ok:=(fun k_=>(P0_ k_ \/ w.heap.size <= k_))) (rz HO_8.out) hg hat);have n2_:=am (hb);have n3_:=am (Kept.of_grown (S:=(fun k_=>P0_ k_)) hg (by repeat (first|(with_reducible first|exact HK.out|apply Kept.alloc|apply Kept.drewN|apply Kept.drew)|exact HK.out)) (fun k_ e_=>(HO_3.out.1 k_ e_).1));have n4_:=am (ho);clear HO_0;clear HO_8;clear HB;clear HK;clear HO_3;have HO_0:=n0_;have HO_8:=n1_;have HB:=n2_;have HK:=n3_;have HO248:=n4_;clear n0_ n1_ n2_ n3_ n4_;clear ho hb hg hat))
      (first|simp only [<- hl0_1,<- hl8_1]|simp only [<- hl0_1]|simp only [<- hl8_1]|skip)
      go_roundg k1
      case measure=>have:=HK1.out;omega
      case rel=>exact ⟨(y246),(wrap64 (x10_1+1)),ez,H',⟨by have:=HK1.out;omega⟩,⟨by (try simp only [hl0_1]);(try simp only [hl8_1]);refine rq ?_;exact HO_0.out⟩,⟨by (try simp only [hl0_1]);(try simp only [hl8_1]);refine rq ?_;exact HO248.out⟩,⟨by (try simp only [hl0_1]);(try simp only [hl8_1]);refine rq ?_;exact HO_8.out⟩,⟨by repeat (first|(with_reducible first|exact HK.out|apply Kept.alloc|apply Kept.drewN|apply Kept.drew)|exact HK.out)⟩,⟨(bz0 HB.out)⟩⟩
   ·rw [if_neg c5] at H
    have c5b0:=decide_eq_false c5
    (try (have c5b0z:=c5b0;simp only [hl0_1] at c5b0z))
    (try (have c5b0z1:=c5b0;simp only [hl8_1] at c5b0z1))
    clear c5
    simp only [Option.some.injEq,Prod.mk.injEq] at H
    obtain ⟨rfl,rfl⟩:=H
    go_wp2
    go_ret
    exact ⟨_,gz,by refine rq ?_;exact Kd.R_mono HO_3.out (fun _ hk=>⟨hk.1,hk.2.1⟩),(by first|exact (by refine rq ?_;exact Kd.R_mono HO_0.out (fun _ hk=>hk.1))|(simp only [hl0_1,hl8_1];exact (by refine rq ?_;exact Kd.R_mono HO_0.out (fun _ hk=>hk.1)))),(bz0 HB.out),by repeat (first|(with_reducible first|exact HK.out|apply Kept.alloc|apply Kept.drewN|apply Kept.drew)|exact HK.out)⟩
end Go.Proofs.YthmpgocaoccnaaaGreatDoor.PFnFresh
