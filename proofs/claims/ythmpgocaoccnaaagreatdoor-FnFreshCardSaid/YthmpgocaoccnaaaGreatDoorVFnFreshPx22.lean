/- PFnFreshx22, of the words and walks that the law FnFresh needs; made by this session's program out of printed texts. -/
import Derived.Test.YthmpgocaoccnaaaGreatDoorVFnFreshPx0
import Derived.Test.YthmpgocaoccnaaaGreatDoorVFnFreshPx16
import Derived.Test.YthmpgocaoccnaaaGreatDoorVFnFreshPx18
import Derived.Test.YthmpgocaoccnaaaGreatDoorVFnFreshPx20
import Derived.Test.YthmpgocaoccnaaaGreatDoorVFnFreshPx21
namespace Go.Proofs.YthmpgocaoccnaaaGreatDoor.PFnFresh
open Go.RowKit Go.Proofs.YthmpgocaoccnaaaGreatDoorW.PrintWords Go.Proofs.YthmpgocaoccnaaaGreatDoorW.PrintLast Go.Proofs.YthmpgocaoccnaaaGreatDoorW.PrintMore
attribute [local go_sem] max2_int min2_int max_two min_two max_three min_three max_four min_four
set_option linter.unusedVariables false
set_option linter.unusedSimpArgs false
mutual
def spec_BinderOf.j0:Nat -> List (S45) -> Int -> Bool -> Int -> Int -> Option (Int × Int)
 | 0,_,_,_,_,_=>none
 | k+1,x0,x1,x30,x692000,x692001=>if x30=true then (some (x692000,x692001)) else ((spec_ParentOf.f k x0 x1).bind fun t695=>(spec_BinderOf.l0 k x0 x1 x1 t695 x692000 x692001))
def spec_BinderOf.l0:Nat -> List (S45) -> Int -> Int -> Int -> Int -> Int -> Option (Int × Int)
 | 0,_,_,_,_,_,_=>none
 | k+1,x0,x1,x6,x7,x692000,x692001=>if x7≥0 then (if 0 <= x7 then (if x7<(x0.length:Int) then ((spec_l6Bound.f k ((rd_T45 x0 x7).f0) ((rd_T45 x0 x7).f1) ((rd_T45 x0 x7).f2) ((rd_T45 x0 x7).f3) ((rd_T45 x0 x7).f4) ((rd_T45 x0 x7).f5) ((rd_T45 x0 x7).f6) x6).bind fun bt697=>(spec_BinderOf.l1 k x0 x1 x7 bt697.1 bt697.2 0 x692000 x692001)) else (none)) else (none)) else (some (x692000,x692001))
def spec_BinderOf.l1:Nat -> List (S45) -> Int -> Int -> List ByteArray -> List Int -> Int -> Int -> Int -> Option (Int × Int)
 | 0,_,_,_,_,_,_,_,_=>none
 | k+1,x0,x1,x7,x8,x9,x10,x692000,x692001=>if x10<(x8.length:Int) then (if 0 <= x10 then (if 0 <= x1 then (if x1<(x0.length:Int) then (if (rdOf ByteArray.empty x8 x10).toList=((rd_T45 x0 x1).f5).toList then (if x10<(x9.length:Int) then (some (x7,rd x9 x10)) else (none)) else (spec_BinderOf.l1 k x0 x1 x7 x8 x9 (wrap64 (x10+1)) x692000 x692001)) else (none)) else (none)) else (none)) else ((spec_ParentOf.f k x0 x7).bind fun t706=>(spec_BinderOf.l0 k x0 x1 x7 t706 x692000 x692001))
end
def spec_BinderOf.f (k:Nat) (l0:List (S45)) (a1:Int):Option (Int × Int):=(spec_NodesOk.f k l0).bind fun t692=>(if t692=true then ((spec_l1In.f a1 0 (wrap64 ((l0.length:Int) - 1))).bind fun t693=>(if t693=true then (if 0 <= a1 then (if a1<(l0.length:Int) then (spec_BinderOf.j0 k l0 a1 (((rd_T45 l0 a1).f0) != 1) (-1) (-1)) else (none)) else (none)) else (spec_BinderOf.j0 k l0 a1 true (-1) (-1)))) else (spec_BinderOf.j0 k l0 a1 true (-1) (-1)))
theorem spec_BinderOf.mono_l:∀ k,(∀ y0 y1 y2 y3 y4,LeO (spec_BinderOf.j0 k y0 y1 y2 y3 y4) (spec_BinderOf.j0 (k+1) y0 y1 y2 y3 y4)) /\ (∀ y0 y1 y2 y3 y4 y5,LeO (spec_BinderOf.l0 k y0 y1 y2 y3 y4 y5) (spec_BinderOf.l0 (k+1) y0 y1 y2 y3 y4 y5)) /\ (∀ y0 y1 y2 y3 y4 y5 y6 y7,LeO (spec_BinderOf.l1 k y0 y1 y2 y3 y4 y5 y6 y7) (spec_BinderOf.l1 (k+1) y0 y1 y2 y3 y4 y5 y6 y7))
 | 0=>⟨fun _ _ _ _ _ r h=>by simp [spec_BinderOf.j0] at h,fun _ _ _ _ _ _ r h=>by simp [spec_BinderOf.l0] at h,fun _ _ _ _ _ _ _ _ r h=>by simp [spec_BinderOf.l1] at h⟩
 | k+1=>by
  obtain ⟨ih0,ih1,ih2⟩:=spec_BinderOf.mono_l k
  refine ⟨?_,?_,?_⟩
  ·intro y0 y1 y2 y3 y4
   unfold spec_BinderOf.j0
   with_reducible repeat' first|exact ih0 _ _ _ _ _|exact ih1 _ _ _ _ _ _|exact ih2 _ _ _ _ _ _ _ _|exact spec_NodesOk.mono _ _|exact spec_ParentOf.mono _ _ _|exact spec_l6Bound.mono _ _ _ _ _ _ _ _ _|exact lrz _|exact lnz _|refine liz ?_ ?_|refine lbz ?_ fun _=>?_
  ·intro y0 y1 y2 y3 y4 y5
   unfold spec_BinderOf.l0
   with_reducible repeat' first|exact ih0 _ _ _ _ _|exact ih1 _ _ _ _ _ _|exact ih2 _ _ _ _ _ _ _ _|exact spec_NodesOk.mono _ _|exact spec_ParentOf.mono _ _ _|exact spec_l6Bound.mono _ _ _ _ _ _ _ _ _|exact lrz _|exact lnz _|refine liz ?_ ?_|refine lbz ?_ fun _=>?_
  ·intro y0 y1 y2 y3 y4 y5 y6 y7
   unfold spec_BinderOf.l1
   with_reducible repeat' first|exact ih0 _ _ _ _ _|exact ih1 _ _ _ _ _ _|exact ih2 _ _ _ _ _ _ _ _|exact spec_NodesOk.mono _ _|exact spec_ParentOf.mono _ _ _|exact spec_l6Bound.mono _ _ _ _ _ _ _ _ _|exact lrz _|exact lnz _|refine liz ?_ ?_|refine lbz ?_ fun _=>?_
theorem spec_BinderOf.mono:∀ a0 a1 k,LeO (spec_BinderOf.f k a0 a1) (spec_BinderOf.f (k+1) a0 a1):=by
 intro a0 a1 k
 obtain ⟨ih0,ih1,ih2⟩:=spec_BinderOf.mono_l k
 unfold spec_BinderOf.f
 with_reducible repeat' first|exact ih0 _ _ _ _ _|exact ih1 _ _ _ _ _ _|exact ih2 _ _ _ _ _ _ _ _|exact spec_NodesOk.mono _ _|exact spec_ParentOf.mono _ _ _|exact spec_l6Bound.mono _ _ _ _ _ _ _ _ _|exact lrz _|exact lnz _|refine liz ?_ ?_|refine lbz ?_ fun _=>?_
set_option maxHeartbeats 8000000 in
set_option maxRecDepth 100000 in
theorem spec_BinderOf.calls (k:Nat) (A0:Option Addr) (c0:Nat) (l0:List (S45)) (a1:Int) (r1:Int) (r2:Int) (w:World) (hr0:Kd.C k45 w A0 l0.length l0) (hc0:l0.length <= c0) (h:spec_BinderOf.f k l0 a1=some (r1,r2)) :
  Calls Tryz.prog 51 #[.slice A0 l0.length c0,.int .i64 a1] w fun e w'=>e=.returned (.agg #[.int .i64 r1,.int .i64 r2]) /\ Below w.heap.size w w':=by
 have hu30:=Tryz.underlying30
 have hu45:=Tryz.underlying45
 have HR0:=am hr0
 have HC0:=am hc0
 clear hr0 hc0
 have HB:=am (Below.refl w.heap.size w)
 have H:((spec_NodesOk.f k l0).bind fun t692=>(if t692=true then ((spec_l1In.f a1 0 (wrap64 ((l0.length:Int) - 1))).bind fun t693=>(if t693=true then (if 0 <= a1 then (if a1<(l0.length:Int) then (spec_BinderOf.j0 k l0 a1 (((rd_T45 l0 a1).f0) != 1) (-1) (-1)) else (none)) else (none)) else (spec_BinderOf.j0 k l0 a1 true (-1) (-1)))) else (spec_BinderOf.j0 k l0 a1 true (-1) (-1))))=some (r1,r2):=h
 clear h
 have HC3:=am H
 clear H
 go_enter Tryz.func51,Tryz.ntmps51
 go_upto_region 2 with (first|((with_reducible refine gate_dst (N:=4) rfl ?_);(try (refine gate_guard (by rfl) ?_;dsimp only));refine box_event ?hg (N:=4) ?hd (cs:=#[.int .i64 0,.int .i64 0]) (t:=30) ?hr ?_;(case hd=>rfl);(case hg=>rfl);(case hr=>exact vz);intro gb690 hg w4 hbox hb;have BK690:=am (hbox);have GW690:=am ((by rw [hg];exact (below_size (bz0 HB.out)):w.heap.size <= gb690));have GE690:=GW690;replace HB:=bs (bz0 HB.out) hb;clear hb hbox hg)|((with_reducible refine gate_dst (N:=5) rfl ?_);(try (refine gate_guard (by rfl) ?_;dsimp only));refine box_event ?hg (N:=5) ?hd (cs:=#[.int .i64 0,.int .i64 0]) (t:=30) ?hr ?_;(case hd=>rfl);(case hg=>rfl);(case hr=>exact vz);intro gb691 hg w5 hbox hb;have BK691:=am (hbox);have GW691:=am ((by rw [hg];exact (below_size (bz1 HB.out GE690.out)):w.heap.size <= gb691));have GE691:=GW691;replace HB:=bs (bz1 HB.out GE690.out) hb;have NB690_691:=am ((by rw [hg];exact Nat.ne_of_lt (blk_lt (kz BK690.out)):gb690≠gb691));have NB691_690:=am ((by rw [hg];exact Nat.ne_of_gt (blk_lt (kz BK690.out)):gb691≠gb690));replace BK690:=kb BK690 hb;clear hb hbox hg;have hnb6:=NB691_690.out;have hnc6:=NB690_691.out;obtain ⟨hcz7_0,hcz7_1⟩:=cz2 BK691.out;obtain ⟨hfz7_0,hfz7_1⟩:=fz2 BK691.out))
 repeat (go_quiet (first|((with_reducible refine gate_dst (N:=4) rfl ?_);(try (refine gate_guard (by rfl) ?_;dsimp only));refine box_event ?hg (N:=4) ?hd (cs:=#[.int .i64 0,.int .i64 0]) (t:=30) ?hr ?_;(case hd=>rfl);(case hg=>rfl);(case hr=>exact vz);intro gb690 hg w4 hbox hb;have BK690:=am (hbox);have GW690:=am ((by rw [hg];exact (below_size (bz0 HB.out)):w.heap.size <= gb690));have GE690:=GW690;replace HB:=bs (bz0 HB.out) hb;clear hb hbox hg)|((with_reducible refine gate_dst (N:=5) rfl ?_);(try (refine gate_guard (by rfl) ?_;dsimp only));refine box_event ?hg (N:=5) ?hd (cs:=#[.int .i64 0,.int .i64 0]) (t:=30) ?hr ?_;(case hd=>rfl);(case hg=>rfl);(case hr=>exact vz);intro gb691 hg w5 hbox hb;have BK691:=am (hbox);have GW691:=am ((by rw [hg];exact (below_size (bz1 HB.out GE690.out)):w.heap.size <= gb691));have GE691:=GW691;replace HB:=bs (bz1 HB.out GE690.out) hb;have NB690_691:=am ((by rw [hg];exact Nat.ne_of_lt (blk_lt (kz BK690.out)):gb690≠gb691));have NB691_690:=am ((by rw [hg];exact Nat.ne_of_gt (blk_lt (kz BK690.out)):gb691≠gb690));replace BK690:=kb BK690 hb;clear hb hbox hg;have hnb6:=NB691_690.out;have hnc6:=NB690_691.out;obtain ⟨hcz7_0,hcz7_1⟩:=cz2 BK691.out;obtain ⟨hfz7_0,hfz7_1⟩:=fz2 BK691.out));go_upto_region 2 with (first|((with_reducible refine gate_dst (N:=4) rfl ?_);(try (refine gate_guard (by rfl) ?_;dsimp only));refine box_event ?hg (N:=4) ?hd (cs:=#[.int .i64 0,.int .i64 0]) (t:=30) ?hr ?_;(case hd=>rfl);(case hg=>rfl);(case hr=>exact vz);intro gb690 hg w4 hbox hb;have BK690:=am (hbox);have GW690:=am ((by rw [hg];exact (below_size (bz0 HB.out)):w.heap.size <= gb690));have GE690:=GW690;replace HB:=bs (bz0 HB.out) hb;clear hb hbox hg)|((with_reducible refine gate_dst (N:=5) rfl ?_);(try (refine gate_guard (by rfl) ?_;dsimp only));refine box_event ?hg (N:=5) ?hd (cs:=#[.int .i64 0,.int .i64 0]) (t:=30) ?hr ?_;(case hd=>rfl);(case hg=>rfl);(case hr=>exact vz);intro gb691 hg w5 hbox hb;have BK691:=am (hbox);have GW691:=am ((by rw [hg];exact (below_size (bz1 HB.out GE690.out)):w.heap.size <= gb691));have GE691:=GW691;replace HB:=bs (bz1 HB.out GE690.out) hb;have NB690_691:=am ((by rw [hg];exact Nat.ne_of_lt (blk_lt (kz BK690.out)):gb690≠gb691));have NB691_690:=am ((by rw [hg];exact Nat.ne_of_gt (blk_lt (kz BK690.out)):gb691≠gb690));replace BK690:=kb BK690 hb;clear hb hbox hg;have hnb6:=NB691_690.out;have hnc6:=NB690_691.out;obtain ⟨hcz7_0,hcz7_1⟩:=cz2 BK691.out;obtain ⟨hfz7_0,hfz7_1⟩:=fz2 BK691.out)))
 (try simp only [Act.put,sz1,sz2,sz3])
 go_cut [30] (fun v30 wc=>∃ (kq:Nat) (x30_2:Bool),v30=.bool x30_2 /\ Aside0 (spec_BinderOf.j0 kq l0 a1 x30_2 (-1) (-1)=some (r1,r2)) /\ Aside0 (kq <= k) /\ Aside0 (wc.heap[gb690]?=some (.cells #[.int .i64 0,.int .i64 0] 30 (0,0))) /\ Aside0 (wc.heap[gb691]?=some (.cells #[.int .i64 (-1),.int .i64 (-1)] 30 (0,0))) /\ Aside0 (Below w.heap.size w wc))
 case first =>
  have H:=HC3.out
  clear HC3
  replace H:=bi H
  obtain ⟨t692,A80,H⟩:=H
  try dsimp only at H
  have A8:=am A80
  clear A80
  by_cases c9:t692=true
  ·subst c9
   have H1:=hp H
   clear H
   have H:=H1
   clear H1
   replace H:=bi H
   obtain ⟨t693,A100,H⟩:=H
   try dsimp only at H
   have A10:=am A100
   clear A100
   by_cases c11:t693=true
   ·subst c11
    have H1:=hp H
    clear H
    have H:=H1
    clear H1
    replace H:=iz H
    obtain ⟨c12,H⟩:=H
    have c12b0:=decide_eq_true c12
    clear c12
    (first|rw [c12b0]|(simp only [i64_w,i32_w];rw [c12b0])|skip)
    replace H:=iz H
    obtain ⟨c13,H⟩:=H
    have c13b0:=decide_eq_true c13
    clear c13
    have H':=am H
    clear H
    go_wp2_with (first|(go_at_call 15;(with_reducible refine (spec_NodesOk.calls k _ _ l0 true _ ?side1 ?side2 A8.out).mono ?_);(case side1=>exact Kd.C_below HR0.out (bz2 HB.out GE690.out GE691.out));(case side2=>exact HC0.out);rintro e w14 ⟨rfl,hb⟩;replace BK690:=am (blk_below (g:=gb690) (o:=.cells #[.int .i64 0,.int .i64 0] 30 (0,0)) (by refine kq ?_;refine blk_far ?_ NB690_691.out _;refine kq ?_;refine blk_far ?_ NB690_691.out _;refine kq ?_;exact BK690.out) hb);replace BK691:=am (blk_below (g:=gb691) (o:=.cells #[.int .i64 (-1),.int .i64 (-1)] 30 (0,0)) (by refine kq ?_;refine blk_put (cs:=#[.int .i64 (-1),.int .i64 0]) ?_ 1 _ rfl;refine kq ?_;refine blk_put (cs:=#[.int .i64 0,.int .i64 0]) ?_ 0 _ rfl;refine kq ?_;exact BK691.out) hb);replace HB:=bs (bz2 HB.out GE690.out GE691.out) hb;(try clear hb);(try clear hi))|(go_at_call 40;(with_reducible refine (spec_l1In.calls a1 0 (wrap64 ((l0.length:Int) - 1)) true _ A10.out).mono ?_);rintro e w' ⟨rfl,⟨nd,rfl⟩⟩;(try first|exact ⟨rfl,_,World.drewN_drewN _ _ _⟩|exact ⟨rfl,_,Eq.trans (World.drewN_drewN _ _ _) (congrArg (World.drewN _) (Nat.add_assoc _ _ _))⟩);have p694:0 <= (a1:Int):=oz;have q694:a1<(l0.length:Int):=oz;obtain ⟨ad694,e694,hx694_0,hx694_1,hx694_2,hx694_3,hx694_4,hx694_5,hx694_6⟩:=at_T45 HR0.out a1 p694 q694;cases e694;replace hx694_0:=hz HB.out hx694_0;replace hx694_1:=hz HB.out hx694_1;replace hx694_2:=hz HB.out hx694_2;replace hx694_3:=hz HB.out hx694_3;replace hx694_4:=hz HB.out hx694_4;replace hx694_5:=hz HB.out hx694_5;replace hx694_6:=hz HB.out hx694_6;replace p694:=eq_true p694;replace q694:=eq_true q694))
    repeat (go_quiet (first|(go_at_call 15;(with_reducible refine (spec_NodesOk.calls k _ _ l0 true _ ?side1 ?side2 A8.out).mono ?_);(case side1=>exact Kd.C_below HR0.out (bz2 HB.out GE690.out GE691.out));(case side2=>exact HC0.out);rintro e w14 ⟨rfl,hb⟩;replace BK690:=am (blk_below (g:=gb690) (o:=.cells #[.int .i64 0,.int .i64 0] 30 (0,0)) (by refine kq ?_;refine blk_far ?_ NB690_691.out _;refine kq ?_;refine blk_far ?_ NB690_691.out _;refine kq ?_;exact BK690.out) hb);replace BK691:=am (blk_below (g:=gb691) (o:=.cells #[.int .i64 (-1),.int .i64 (-1)] 30 (0,0)) (by refine kq ?_;refine blk_put (cs:=#[.int .i64 (-1),.int .i64 0]) ?_ 1 _ rfl;refine kq ?_;refine blk_put (cs:=#[.int .i64 0,.int .i64 0]) ?_ 0 _ rfl;refine kq ?_;exact BK691.out) hb);replace HB:=bs (bz2 HB.out GE690.out GE691.out) hb;(try clear hb);(try clear hi))|(go_at_call 40;(with_reducible refine (spec_l1In.calls a1 0 (wrap64 ((l0.length:Int) - 1)) true _ A10.out).mono ?_);rintro e w' ⟨rfl,⟨nd,rfl⟩⟩;(try first|exact ⟨rfl,_,World.drewN_drewN _ _ _⟩|exact ⟨rfl,_,Eq.trans (World.drewN_drewN _ _ _) (congrArg (World.drewN _) (Nat.add_assoc _ _ _))⟩);have p694:0 <= (a1:Int):=oz;have q694:a1<(l0.length:Int):=oz;obtain ⟨ad694,e694,hx694_0,hx694_1,hx694_2,hx694_3,hx694_4,hx694_5,hx694_6⟩:=at_T45 HR0.out a1 p694 q694;cases e694;replace hx694_0:=hz HB.out hx694_0;replace hx694_1:=hz HB.out hx694_1;replace hx694_2:=hz HB.out hx694_2;replace hx694_3:=hz HB.out hx694_3;replace hx694_4:=hz HB.out hx694_4;replace hx694_5:=hz HB.out hx694_5;replace hx694_6:=hz HB.out hx694_6;replace p694:=eq_true p694;replace q694:=eq_true q694));try go_wp2_with (first|(go_at_call 15;(with_reducible refine (spec_NodesOk.calls k _ _ l0 true _ ?side1 ?side2 A8.out).mono ?_);(case side1=>exact Kd.C_below HR0.out (bz2 HB.out GE690.out GE691.out));(case side2=>exact HC0.out);rintro e w14 ⟨rfl,hb⟩;replace BK690:=am (blk_below (g:=gb690) (o:=.cells #[.int .i64 0,.int .i64 0] 30 (0,0)) (by refine kq ?_;refine blk_far ?_ NB690_691.out _;refine kq ?_;refine blk_far ?_ NB690_691.out _;refine kq ?_;exact BK690.out) hb);replace BK691:=am (blk_below (g:=gb691) (o:=.cells #[.int .i64 (-1),.int .i64 (-1)] 30 (0,0)) (by refine kq ?_;refine blk_put (cs:=#[.int .i64 (-1),.int .i64 0]) ?_ 1 _ rfl;refine kq ?_;refine blk_put (cs:=#[.int .i64 0,.int .i64 0]) ?_ 0 _ rfl;refine kq ?_;exact BK691.out) hb);replace HB:=bs (bz2 HB.out GE690.out GE691.out) hb;(try clear hb);(try clear hi))|(go_at_call 40;(with_reducible refine (spec_l1In.calls a1 0 (wrap64 ((l0.length:Int) - 1)) true _ A10.out).mono ?_);rintro e w' ⟨rfl,⟨nd,rfl⟩⟩;(try first|exact ⟨rfl,_,World.drewN_drewN _ _ _⟩|exact ⟨rfl,_,Eq.trans (World.drewN_drewN _ _ _) (congrArg (World.drewN _) (Nat.add_assoc _ _ _))⟩);have p694:0 <= (a1:Int):=oz;have q694:a1<(l0.length:Int):=oz;obtain ⟨ad694,e694,hx694_0,hx694_1,hx694_2,hx694_3,hx694_4,hx694_5,hx694_6⟩:=at_T45 HR0.out a1 p694 q694;cases e694;replace hx694_0:=hz HB.out hx694_0;replace hx694_1:=hz HB.out hx694_1;replace hx694_2:=hz HB.out hx694_2;replace hx694_3:=hz HB.out hx694_3;replace hx694_4:=hz HB.out hx694_4;replace hx694_5:=hz HB.out hx694_5;replace hx694_6:=hz HB.out hx694_6;replace p694:=eq_true p694;replace q694:=eq_true q694)))
    go_meet
    case rel=>exact ⟨_,((((rd_T45 l0 a1).f0) != 1)),ez,H',⟨by first|omega|exact Nat.le_refl _⟩,⟨by refine kq ?_;exact BK690.out⟩,⟨by refine kq ?_;exact BK691.out⟩,⟨(bz2 HB.out GE690.out GE691.out)⟩⟩
   ·replace c11:=Bool.eq_false_iff.mpr c11
    subst c11
    have H1:=hq H
    clear H
    have H:=H1
    clear H1
    have H':=am H
    clear H
    go_wp2_with (first|(go_at_call 15;(with_reducible refine (spec_NodesOk.calls k _ _ l0 true _ ?side1 ?side2 A8.out).mono ?_);(case side1=>exact Kd.C_below HR0.out (bz2 HB.out GE690.out GE691.out));(case side2=>exact HC0.out);rintro e w15 ⟨rfl,hb⟩;replace BK690:=am (blk_below (g:=gb690) (o:=.cells #[.int .i64 0,.int .i64 0] 30 (0,0)) (by refine kq ?_;refine blk_far ?_ NB690_691.out _;refine kq ?_;refine blk_far ?_ NB690_691.out _;refine kq ?_;exact BK690.out) hb);replace BK691:=am (blk_below (g:=gb691) (o:=.cells #[.int .i64 (-1),.int .i64 (-1)] 30 (0,0)) (by refine kq ?_;refine blk_put (cs:=#[.int .i64 (-1),.int .i64 0]) ?_ 1 _ rfl;refine kq ?_;refine blk_put (cs:=#[.int .i64 0,.int .i64 0]) ?_ 0 _ rfl;refine kq ?_;exact BK691.out) hb);replace HB:=bs (bz2 HB.out GE690.out GE691.out) hb;(try clear hb);(try clear hi))|(go_at_call 40;(with_reducible refine (spec_l1In.calls a1 0 (wrap64 ((l0.length:Int) - 1)) false _ A10.out).mono ?_);rintro e w' ⟨rfl,⟨nd,rfl⟩⟩;(try first|exact ⟨rfl,_,World.drewN_drewN _ _ _⟩|exact ⟨rfl,_,Eq.trans (World.drewN_drewN _ _ _) (congrArg (World.drewN _) (Nat.add_assoc _ _ _))⟩)))
    repeat (go_quiet (first|(go_at_call 15;(with_reducible refine (spec_NodesOk.calls k _ _ l0 true _ ?side1 ?side2 A8.out).mono ?_);(case side1=>exact Kd.C_below HR0.out (bz2 HB.out GE690.out GE691.out));(case side2=>exact HC0.out);rintro e w15 ⟨rfl,hb⟩;replace BK690:=am (blk_below (g:=gb690) (o:=.cells #[.int .i64 0,.int .i64 0] 30 (0,0)) (by refine kq ?_;refine blk_far ?_ NB690_691.out _;refine kq ?_;refine blk_far ?_ NB690_691.out _;refine kq ?_;exact BK690.out) hb);replace BK691:=am (blk_below (g:=gb691) (o:=.cells #[.int .i64 (-1),.int .i64 (-1)] 30 (0,0)) (by refine kq ?_;refine blk_put (cs:=#[.int .i64 (-1),.int .i64 0]) ?_ 1 _ rfl;refine kq ?_;refine blk_put (cs:=#[.int .i64 0,.int .i64 0]) ?_ 0 _ rfl;refine kq ?_;exact BK691.out) hb);replace HB:=bs (bz2 HB.out GE690.out GE691.out) hb;(try clear hb);(try clear hi))|(go_at_call 40;(with_reducible refine (spec_l1In.calls a1 0 (wrap64 ((l0.length:Int) - 1)) false _ A10.out).mono ?_);rintro e w' ⟨rfl,⟨nd,rfl⟩⟩;(try first|exact ⟨rfl,_,World.drewN_drewN _ _ _⟩|exact ⟨rfl,_,Eq.trans (World.drewN_drewN _ _ _) (congrArg (World.drewN _) (Nat.add_assoc _ _ _))⟩)));try go_wp2_with (first|(go_at_call 15;(with_reducible refine (spec_NodesOk.calls k _ _ l0 true _ ?side1 ?side2 A8.out).mono ?_);(case side1=>exact Kd.C_below HR0.out (bz2 HB.out GE690.out GE691.out));(case side2=>exact HC0.out);rintro e w15 ⟨rfl,hb⟩;replace BK690:=am (blk_below (g:=gb690) (o:=.cells #[.int .i64 0,.int .i64 0] 30 (0,0)) (by refine kq ?_;refine blk_far ?_ NB690_691.out _;refine kq ?_;refine blk_far ?_ NB690_691.out _;refine kq ?_;exact BK690.out) hb);replace BK691:=am (blk_below (g:=gb691) (o:=.cells #[.int .i64 (-1),.int .i64 (-1)] 30 (0,0)) (by refine kq ?_;refine blk_put (cs:=#[.int .i64 (-1),.int .i64 0]) ?_ 1 _ rfl;refine kq ?_;refine blk_put (cs:=#[.int .i64 0,.int .i64 0]) ?_ 0 _ rfl;refine kq ?_;exact BK691.out) hb);replace HB:=bs (bz2 HB.out GE690.out GE691.out) hb;(try clear hb);(try clear hi))|(go_at_call 40;(with_reducible refine (spec_l1In.calls a1 0 (wrap64 ((l0.length:Int) - 1)) false _ A10.out).mono ?_);rintro e w' ⟨rfl,⟨nd,rfl⟩⟩;(try first|exact ⟨rfl,_,World.drewN_drewN _ _ _⟩|exact ⟨rfl,_,Eq.trans (World.drewN_drewN _ _ _) (congrArg (World.drewN _) (Nat.add_assoc _ _ _))⟩))))
    go_meet
    case rel=>exact ⟨_,(true),ez,H',⟨by first|omega|exact Nat.le_refl _⟩,⟨by refine kq ?_;exact BK690.out⟩,⟨by refine kq ?_;exact BK691.out⟩,⟨(bz2 HB.out GE690.out GE691.out)⟩⟩
  ·replace c9:=Bool.eq_false_iff.mpr c9
   subst c9
   have H1:=hq H
   clear H
   have H:=H1
   clear H1
   have H':=am H
   clear H
   go_wp2_with (first|(go_at_call 15;(with_reducible refine (spec_NodesOk.calls k _ _ l0 false _ ?side1 ?side2 A8.out).mono ?_);(case side1=>exact Kd.C_below HR0.out (bz2 HB.out GE690.out GE691.out));(case side2=>exact HC0.out);rintro e w16 ⟨rfl,hb⟩;replace BK690:=am (blk_below (g:=gb690) (o:=.cells #[.int .i64 0,.int .i64 0] 30 (0,0)) (by refine kq ?_;refine blk_far ?_ NB690_691.out _;refine kq ?_;refine blk_far ?_ NB690_691.out _;refine kq ?_;exact BK690.out) hb);replace BK691:=am (blk_below (g:=gb691) (o:=.cells #[.int .i64 (-1),.int .i64 (-1)] 30 (0,0)) (by refine kq ?_;refine blk_put (cs:=#[.int .i64 (-1),.int .i64 0]) ?_ 1 _ rfl;refine kq ?_;refine blk_put (cs:=#[.int .i64 0,.int .i64 0]) ?_ 0 _ rfl;refine kq ?_;exact BK691.out) hb);replace HB:=bs (bz2 HB.out GE690.out GE691.out) hb;(try clear hb);(try clear hi)))
   repeat (go_quiet (first|(go_at_call 15;(with_reducible refine (spec_NodesOk.calls k _ _ l0 false _ ?side1 ?side2 A8.out).mono ?_);(case side1=>exact Kd.C_below HR0.out (bz2 HB.out GE690.out GE691.out));(case side2=>exact HC0.out);rintro e w16 ⟨rfl,hb⟩;replace BK690:=am (blk_below (g:=gb690) (o:=.cells #[.int .i64 0,.int .i64 0] 30 (0,0)) (by refine kq ?_;refine blk_far ?_ NB690_691.out _;refine kq ?_;refine blk_far ?_ NB690_691.out _;refine kq ?_;exact BK690.out) hb);replace BK691:=am (blk_below (g:=gb691) (o:=.cells #[.int .i64 (-1),.int .i64 (-1)] 30 (0,0)) (by refine kq ?_;refine blk_put (cs:=#[.int .i64 (-1),.int .i64 0]) ?_ 1 _ rfl;refine kq ?_;refine blk_put (cs:=#[.int .i64 0,.int .i64 0]) ?_ 0 _ rfl;refine kq ?_;exact BK691.out) hb);replace HB:=bs (bz2 HB.out GE690.out GE691.out) hb;(try clear hb);(try clear hi)));try go_wp2_with (first|(go_at_call 15;(with_reducible refine (spec_NodesOk.calls k _ _ l0 false _ ?side1 ?side2 A8.out).mono ?_);(case side1=>exact Kd.C_below HR0.out (bz2 HB.out GE690.out GE691.out));(case side2=>exact HC0.out);rintro e w16 ⟨rfl,hb⟩;replace BK690:=am (blk_below (g:=gb690) (o:=.cells #[.int .i64 0,.int .i64 0] 30 (0,0)) (by refine kq ?_;refine blk_far ?_ NB690_691.out _;refine kq ?_;refine blk_far ?_ NB690_691.out _;refine kq ?_;exact BK690.out) hb);replace BK691:=am (blk_below (g:=gb691) (o:=.cells #[.int .i64 (-1),.int .i64 (-1)] 30 (0,0)) (by refine kq ?_;refine blk_put (cs:=#[.int .i64 (-1),.int .i64 0]) ?_ 1 _ rfl;refine kq ?_;refine blk_put (cs:=#[.int .i64 0,.int .i64 0]) ?_ 0 _ rfl;refine kq ?_;exact BK691.out) hb);replace HB:=bs (bz2 HB.out GE690.out GE691.out) hb;(try clear hb);(try clear hi))))
   go_meet
   case rel=>exact ⟨_,(true),ez,H',⟨by first|omega|exact Nat.le_refl _⟩,⟨by refine kq ?_;exact BK690.out⟩,⟨by refine kq ?_;exact BK691.out⟩,⟨(bz2 HB.out GE690.out GE691.out)⟩⟩
 case rest =>
  clear HC3
  try clear c1
  try clear p2
  try clear c5
  try clear c6
  try clear p6
  try clear q6
  try clear hx6
  try clear c9
  try clear c11
  try clear c12
  try clear c12b0
  try clear c13
  try clear c13b0
  try clear hcz7_0 hcz7_1
  try clear hfz7_0 hfz7_1
  try clear hx694_0
  try clear hx694_1
  try clear hx694_2
  try clear hx694_3
  try clear hx694_4
  try clear hx694_5
  try clear hx694_6
  try clear p694
  try clear q694
  obtain ⟨kq,x30_2,rfl,HA,HJ2,BK690,BK691,HB⟩:=hcut
  cases kq with
  | zero=>exact absurd HA.out (by simp [spec_BinderOf.j0])
  | succ kj2 =>
   have H:=HA.out
   clear HA
   simp only [spec_BinderOf.j0] at H
   by_cases c17:x30_2=true
   ·subst c17
    have H1:=hp H
    clear H
    have H:=H1
    clear H1
    simp only [Option.some.injEq,Prod.mk.injEq] at H
    obtain ⟨rfl,rfl⟩:=H
    have hnb18:=NB691_690.out
    have hnc18:=NB690_691.out
    obtain ⟨hcz19_0,hcz19_1⟩:=cz2 BK691.out
    obtain ⟨hfz19_0,hfz19_1⟩:=fz2 BK691.out
    obtain ⟨hcz20_0,hcz20_1⟩:=cz2 BK690.out
    obtain ⟨hfz20_0,hfz20_1⟩:=fz2 BK690.out
    go_wp2
    repeat (go_quiet (fail);try go_wp2)
    refine bodyPost_ret (results_cell_row rfl _ _ gb690 30 #[.int .i64 (-1),.int .i64 (-1)] (0,0) _ rfl (by refine kq ?_;refine blk_put (cs:=#[.int .i64 (-1),.int .i64 0]) ?_ 1 _ rfl;refine kq ?_;refine blk_put (cs:=#[.int .i64 0,.int .i64 0]) ?_ 0 _ rfl;refine kq ?_;exact BK690.out) Tryz.underlying30 rfl kr) rfl ?_
    exact ⟨gz,(bz2 HB.out GE690.out GE691.out)⟩
   ·replace c17:=Bool.eq_false_iff.mpr c17
    subst c17
    have H1:=hq H
    clear H
    have H:=H1
    clear H1
    replace H:=bi H
    obtain ⟨t695,A210,H⟩:=H
    try dsimp only at H
    have A21:=am A210
    clear A210
    have H':=am H
    clear H
    go_wp2_with (first|(go_at_call 71;(with_reducible refine (spec_ParentOf.calls kj2 _ _ l0 a1 t695 _ ?side1 ?side2 A21.out).mono ?_);(case side1=>exact cz (Kd.C_below HR0.out HB.out));(case side2=>exact HC0.out);rintro e w22 ⟨rfl,hb⟩;replace BK690:=kb BK690 hb;replace BK691:=kb BK691 hb;replace HB:=bs (bz2 HB.out GE690.out GE691.out) hb;(try clear hb);(try clear hi)))
    repeat (go_quiet (first|(go_at_call 71;(with_reducible refine (spec_ParentOf.calls kj2 _ _ l0 a1 t695 _ ?side1 ?side2 A21.out).mono ?_);(case side1=>exact cz (Kd.C_below HR0.out HB.out));(case side2=>exact HC0.out);rintro e w22 ⟨rfl,hb⟩;replace BK690:=kb BK690 hb;replace BK691:=kb BK691 hb;replace HB:=bs (bz2 HB.out GE690.out GE691.out) hb;(try clear hb);(try clear hi)));try go_wp2_with (first|(go_at_call 71;(with_reducible refine (spec_ParentOf.calls kj2 _ _ l0 a1 t695 _ ?side1 ?side2 A21.out).mono ?_);(case side1=>exact cz (Kd.C_below HR0.out HB.out));(case side2=>exact HC0.out);rintro e w22 ⟨rfl,hb⟩;replace BK690:=kb BK690 hb;replace BK691:=kb BK691 hb;replace HB:=bs (bz2 HB.out GE690.out GE691.out) hb;(try clear hb);(try clear hi))))
    go_loopg [6,7] kj2 (fun kq v6 v7 w'=>∃ (x6_2:Int) (x7_2:Int) (x691000_2:Int) (x691001_2:Int),v6=.int .i64 x6_2 /\ v7=.int .i64 x7_2 /\ Aside0 (spec_BinderOf.l0 kq l0 a1 x6_2 x7_2 (-1) (-1)=some (r1,r2)) /\ Aside0 (kq <= kj2) /\ Aside0 (w'.heap[gb690]?=some (.cells #[.int .i64 x691000_2,.int .i64 x691001_2] 30 (0,0))) /\ Aside0 (w'.heap[gb691]?=some (.cells #[.int .i64 (-1),.int .i64 (-1)] 30 (0,0))) /\ Aside0 (Below w.heap.size w w'))
    case atStart=>exact ⟨(a1),(t695),(0),(0),ez,ez,H',⟨Nat.le_refl _⟩,⟨by refine kq ?_;exact BK690.out⟩,⟨by refine kq ?_;exact BK691.out⟩,⟨(bz2 HB.out GE690.out GE691.out)⟩⟩
    case round =>
     clear H'
     try clear c1
     try clear p2
     try clear c5
     try clear c6
     try clear p6
     try clear q6
     try clear hx6
     try clear c9
     try clear c11
     try clear c12
     try clear c12b0
     try clear c13
     try clear c13b0
     try clear c17
     try clear c18
     try clear hcz19_0 hcz19_1
     try clear hcz20_0 hcz20_1
     try clear hcz7_0 hcz7_1
     try clear hfz19_0 hfz19_1
     try clear hfz20_0 hfz20_1
     try clear hfz7_0 hfz7_1
     try clear hx694_0
     try clear hx694_1
     try clear hx694_2
     try clear hx694_3
     try clear hx694_4
     try clear hx694_5
     try clear hx694_6
     try clear p2
     try clear p6
     try clear p694
     try clear q6
     try clear q694
     obtain ⟨x6_2,x7_2,x691000_2,x691001_2,rfl,rfl,HA,HK2,BK690,BK691,HB⟩:=hrel
     cases gk with
     | zero=>exact absurd HA.out (by simp [spec_BinderOf.l0])
     | succ k2 =>
      have H:=HA.out
      clear HA
      simp only [spec_BinderOf.l0] at H
      by_cases c23:x7_2≥0
      ·rw [if_pos c23] at H
       have c23b0:decide (0 <= x7_2)=true:=decide_eq_true c23
       clear c23
       replace H:=iz H
       obtain ⟨c24,H⟩:=H
       have c24b0:=decide_eq_true c24
       clear c24
       replace H:=iz H
       obtain ⟨c25,H⟩:=H
       have c25b0:=decide_eq_true c25
       clear c25
       replace H:=bi H
       obtain ⟨⟨t697,t700⟩,A260,H⟩:=H
       try dsimp only at H
       have A26:=am A260
       clear A260
       have H':=am H
       clear H
       have p696:0 <= (x7_2:Int):=oz
       have q696:x7_2<(l0.length:Int):=oz
       obtain ⟨ad696,e696,hx696_0,hx696_1,hx696_2,hx696_3,hx696_4,hx696_5,hx696_6⟩:=at_T45 (Kd.C_below HR0.out HB.out) x7_2 p696 q696
       cases e696
       replace p696:=eq_true p696
       replace q696:=eq_true q696
       go_wp2_with (first|(go_at_call 72;(with_reducible refine (spec_l6Bound.calls k2 ((rd_T45 l0 x7_2).f0) ((rd_T45 l0 x7_2).f1) ((rd_T45 l0 x7_2).f2) ((rd_T45 l0 x7_2).f3) ((rd_T45 l0 x7_2).f4) ((rd_T45 l0 x7_2).f5) ((rd_T45 l0 x7_2).f6) x6_2 t697 t700 _ A26.out).mono ?_);rintro e w27 ⟨v698,v701,rfl,ho0,ho1,hb⟩;have HO699:=am (Kd.R_lower ho0 (below_size (bz2 HB.out GE690.out GE691.out)));have HO702:=am (Kd.R_lower ho1 (below_size (bz2 HB.out GE690.out GE691.out)));replace BK690:=kb BK690 hb;replace BK691:=kb BK691 hb;replace HB:=bs (bz2 HB.out GE690.out GE691.out) hb;(try clear hb);(try clear ho0);(try clear ho1)))
       repeat (go_quiet (first|(go_at_call 72;(with_reducible refine (spec_l6Bound.calls k2 ((rd_T45 l0 x7_2).f0) ((rd_T45 l0 x7_2).f1) ((rd_T45 l0 x7_2).f2) ((rd_T45 l0 x7_2).f3) ((rd_T45 l0 x7_2).f4) ((rd_T45 l0 x7_2).f5) ((rd_T45 l0 x7_2).f6) x6_2 t697 t700 _ A26.out).mono ?_);rintro e w27 ⟨v698,v701,rfl,ho0,ho1,hb⟩;have HO699:=am (Kd.R_lower ho0 (below_size (bz2 HB.out GE690.out GE691.out)));have HO702:=am (Kd.R_lower ho1 (below_size (bz2 HB.out GE690.out GE691.out)));replace BK690:=kb BK690 hb;replace BK691:=kb BK691 hb;replace HB:=bs (bz2 HB.out GE690.out GE691.out) hb;(try clear hb);(try clear ho0);(try clear ho1)));try go_wp2_with (first|(go_at_call 72;(with_reducible refine (spec_l6Bound.calls k2 ((rd_T45 l0 x7_2).f0) ((rd_T45 l0 x7_2).f1) ((rd_T45 l0 x7_2).f2) ((rd_T45 l0 x7_2).f3) ((rd_T45 l0 x7_2).f4) ((rd_T45 l0 x7_2).f5) ((rd_T45 l0 x7_2).f6) x6_2 t697 t700 _ A26.out).mono ?_);rintro e w27 ⟨v698,v701,rfl,ho0,ho1,hb⟩;have HO699:=am (Kd.R_lower ho0 (below_size (bz2 HB.out GE690.out GE691.out)));have HO702:=am (Kd.R_lower ho1 (below_size (bz2 HB.out GE690.out GE691.out)));replace BK690:=kb BK690 hb;replace BK691:=kb BK691 hb;replace HB:=bs (bz2 HB.out GE690.out GE691.out) hb;(try clear hb);(try clear ho0);(try clear ho1))))
       go_loopg [10] k2 (fun kq v10 w'=>∃ (x10_3:Int) (x691000_3:Int) (x691001_3:Int),v10=.int .i64 x10_3 /\ Aside0 (spec_BinderOf.l1 kq l0 a1 x7_2 t697 t700 x10_3 (-1) (-1)=some (r1,r2)) /\ Aside0 (kq <= k2) /\ Aside0 (Kd.R Kd.string 9 w' w.heap.size (fun _=>True) v698 t697) /\ Aside0 (Kd.R (Kd.int .i64) 3 w' w.heap.size (fun _=>True) v701 t700) /\ Aside0 (w'.heap[gb690]?=some (.cells #[.int .i64 x691000_3,.int .i64 x691001_3] 30 (0,0))) /\ Aside0 (w'.heap[gb691]?=some (.cells #[.int .i64 (-1),.int .i64 (-1)] 30 (0,0))) /\ Aside0 (Below w.heap.size w w'))
       case atStart=>exact ⟨(0),(x691000_2),(x691001_2),ez,H',⟨Nat.le_refl _⟩,⟨by refine rq ?_;exact HO699.out⟩,⟨by refine rq ?_;exact HO702.out⟩,⟨by refine kq ?_;exact BK690.out⟩,⟨by refine kq ?_;exact BK691.out⟩,⟨(bz2 HB.out GE690.out GE691.out)⟩⟩
       case round =>
        clear H'
        try clear c1
        try clear c2
        try clear p2
        try clear c5
        try clear c6
        try clear p6
        try clear q6
        try clear hx6
        try clear c9
        try clear c11
        try clear c12
        try clear c12b0
        try clear c13
        try clear c13b0
        try clear c17
        try clear c18
        try clear c23
        try clear c23b0
        try clear c24
        try clear c24b0
        try clear c25
        try clear c25b0
        try clear hcz19_0 hcz19_1
        try clear hcz20_0 hcz20_1
        try clear hcz7_0 hcz7_1
        try clear hfz19_0 hfz19_1
        try clear hfz20_0 hfz20_1
        try clear hfz7_0 hfz7_1
        try clear hx694_0
        try clear hx694_1
        try clear hx694_2
        try clear hx694_3
        try clear hx694_4
        try clear hx694_5
        try clear hx694_6
        try clear hx696_0
        try clear hx696_1
        try clear hx696_2
        try clear hx696_3
        try clear hx696_4
        try clear hx696_5
        try clear hx696_6
        try clear p2
        try clear p6
        try clear p694
        try clear p696
        try clear q6
        try clear q694
        try clear q696
        obtain ⟨x10_3,x691000_3,x691001_3,rfl,HA,HK3,HO_8,HO_9,BK690,BK691,HB⟩:=hrel
        cases gk with
        | zero=>exact absurd HA.out (by simp [spec_BinderOf.l1])
        | succ k3 =>
         have H:=HA.out
         clear HA
         simp only [spec_BinderOf.l1] at H
         by_cases c28:x10_3<(t697.length:Int)
         ·rw [if_pos c28] at H
          have c28b0:=decide_eq_true c28
          clear c28
          replace H:=iz H
          obtain ⟨c29,H⟩:=H
          have c29b0:=decide_eq_true c29
          clear c29
          replace H:=iz H
          obtain ⟨c30,H⟩:=H
          have c30b0:=decide_eq_true c30
          clear c30
          replace H:=iz H
          obtain ⟨c31,H⟩:=H
          have c31b0:=decide_eq_true c31
          clear c31
          by_cases c32:(rdOf ByteArray.empty t697 x10_3).toList=((rd_T45 l0 a1).f5).toList
          ·rw [if_pos c32] at H
           have c32b0:((rdOf ByteArray.empty t697 x10_3).toList == ((rd_T45 l0 a1).f5).toList)=true:=beq_iff_eq.mpr c32
           have c32b1:((rdOf ByteArray.empty t697 x10_3).toList != ((rd_T45 l0 a1).f5).toList)=false:=bne_eq_false_iff_eq.mpr c32
           clear c32
           replace H:=iz H
           obtain ⟨c33,H⟩:=H
           have c33b0:=decide_eq_true c33
           clear c33
           simp only [Option.some.injEq,Prod.mk.injEq] at H
           obtain ⟨rfl,rfl⟩:=H
           obtain ⟨Ao34,co34,eo34⟩:=Kd.R_slice HO_8.out
           subst eo34
           have p703:0 <= (x10_3:Int):=oz
           have q703:x10_3<(t697.length:Int):=oz
           obtain ⟨ad703,e703,hx703_0⟩:=Kd.at_string (Kd.R_reads' HO_8.out).2.2 x10_3 p703 q703
           cases e703
           replace p703:=eq_true p703
           replace q703:=eq_true q703
           have p704:0 <= (a1:Int):=oz
           have q704:a1<(l0.length:Int):=oz
           obtain ⟨ad704,e704,hx704_0,hx704_1,hx704_2,hx704_3,hx704_4,hx704_5,hx704_6⟩:=at_T45 (Kd.C_below HR0.out HB.out) a1 p704 q704
           obtain rfl:ad696=ad704:=(by injection e704)
           replace p704:=eq_true p704
           replace q704:=eq_true q704
           obtain ⟨Ao35,co35,eo35⟩:=Kd.R_slice HO_9.out
           subst eo35
           have p705:0 <= (x10_3:Int):=oz
           have q705:x10_3<(t700.length:Int):=oz
           obtain ⟨ad705,e705,hx705_0⟩:=Kd.at_int (Kd.R_reads' HO_9.out).2.2 x10_3 p705 q705
           cases e705
           replace p705:=eq_true p705
           replace q705:=eq_true q705
           have hnb36:=NB690_691.out
           have hnc36:=NB691_690.out
           obtain ⟨hcz37_0,hcz37_1⟩:=cz2 BK690.out
           obtain ⟨hfz37_0,hfz37_1⟩:=fz2 BK690.out
           go_wp2
           repeat (go_quiet (fail);try go_wp2)
           refine bodyPost_ret (results_cell_row rfl _ _ gb690 30 #[.int .i64 x7_2,.int .i64 (rd t700 x10_3)] (0,0) _ rfl (by refine kq ?_;refine blk_put (cs:=#[.int .i64 x7_2,.int .i64 x691001_3]) ?_ 1 _ rfl;refine kq ?_;refine blk_put (cs:=#[.int .i64 x691000_3,.int .i64 x691001_3]) ?_ 0 _ rfl;refine kq ?_;exact BK690.out) Tryz.underlying30 rfl kr) rfl ?_
           exact ⟨gz,(bz2 HB.out GE690.out GE691.out)⟩
          ·rw [if_neg c32] at H
           have c32b0:((rdOf ByteArray.empty t697 x10_3).toList == ((rd_T45 l0 a1).f5).toList)=false:=beq_eq_false_iff_ne.mpr c32
           have c32b1:((rdOf ByteArray.empty t697 x10_3).toList != ((rd_T45 l0 a1).f5).toList)=true:=bne_iff_ne.mpr c32
           have H':=am H
           clear H
           obtain ⟨Ao38,co38,eo38⟩:=Kd.R_slice HO_8.out
           subst eo38
           have p703:0 <= (x10_3:Int):=oz
           have q703:x10_3<(t697.length:Int):=oz
           obtain ⟨ad703,e703,hx703_0⟩:=Kd.at_string (Kd.R_reads' HO_8.out).2.2 x10_3 p703 q703
           cases e703
           replace p703:=eq_true p703
           replace q703:=eq_true q703
           have p704:0 <= (a1:Int):=oz
           have q704:a1<(l0.length:Int):=oz
           obtain ⟨ad704,e704,hx704_0,hx704_1,hx704_2,hx704_3,hx704_4,hx704_5,hx704_6⟩:=at_T45 (Kd.C_below HR0.out HB.out) a1 p704 q704
           obtain rfl:ad696=ad704:=(by injection e704)
           replace p704:=eq_true p704
           replace q704:=eq_true q704
           go_wp2
           repeat (go_quiet (fail);try go_wp2)
           go_roundg k3
           case measure=>have:=HJ2.out;have:=HK2.out;have:=HK3.out;omega
           case rel=>exact ⟨(wrap64 (x10_3+1)),(x691000_3),(x691001_3),ez,H',⟨by have:=HJ2.out;have:=HK2.out;have:=HK3.out;omega⟩,⟨by refine rq ?_;exact HO_8.out⟩,⟨by refine rq ?_;exact HO_9.out⟩,⟨by refine kq ?_;exact BK690.out⟩,⟨by refine kq ?_;exact BK691.out⟩,⟨(bz2 HB.out GE690.out GE691.out)⟩⟩
         ·rw [if_neg c28] at H
          have c28b0:=decide_eq_false c28
          clear c28
          replace H:=bi H
          obtain ⟨t706,A390,H⟩:=H
          try dsimp only at H
          have A39:=am A390
          clear A390
          have H':=am H
          clear H
          obtain ⟨Ao40,co40,eo40⟩:=Kd.R_slice HO_8.out
          subst eo40
          go_wp2_with (first|(go_at_call 71;(with_reducible refine (spec_ParentOf.calls k3 _ _ l0 x7_2 t706 _ ?side1 ?side2 A39.out).mono ?_);(case side1=>exact cz (Kd.C_below HR0.out HB.out));(case side2=>exact HC0.out);rintro e w41 ⟨rfl,hb⟩;replace HO_8:=qz HO_8 hb;replace HO_9:=qz HO_9 hb;replace BK690:=kb BK690 hb;replace BK691:=kb BK691 hb;replace HB:=bs (bz2 HB.out GE690.out GE691.out) hb;(try clear hb);(try clear hi)))
          repeat (go_quiet (first|(go_at_call 71;(with_reducible refine (spec_ParentOf.calls k3 _ _ l0 x7_2 t706 _ ?side1 ?side2 A39.out).mono ?_);(case side1=>exact cz (Kd.C_below HR0.out HB.out));(case side2=>exact HC0.out);rintro e w41 ⟨rfl,hb⟩;replace HO_8:=qz HO_8 hb;replace HO_9:=qz HO_9 hb;replace BK690:=kb BK690 hb;replace BK691:=kb BK691 hb;replace HB:=bs (bz2 HB.out GE690.out GE691.out) hb;(try clear hb);(try clear hi)));try go_wp2_with (first|(go_at_call 71;(with_reducible refine (spec_ParentOf.calls k3 _ _ l0 x7_2 t706 _ ?side1 ?side2 A39.out).mono ?_);(case side1=>exact cz (Kd.C_below HR0.out HB.out));(case side2=>exact HC0.out);rintro e w41 ⟨rfl,hb⟩;replace HO_8:=qz HO_8 hb;replace HO_9:=qz HO_9 hb;replace BK690:=kb BK690 hb;replace BK691:=kb BK691 hb;replace HB:=bs (bz2 HB.out GE690.out GE691.out) hb;(try clear hb);(try clear hi))))
          go_roundg k3
          case measure=>have:=HJ2.out;have:=HK2.out;have:=HK3.out;omega
          case rel=>exact ⟨(x7_2),(t706),(x691000_3),(x691001_3),ez,ez,H',⟨by have:=HJ2.out;have:=HK2.out;have:=HK3.out;omega⟩,⟨by refine kq ?_;exact BK690.out⟩,⟨by refine kq ?_;exact BK691.out⟩,⟨(bz2 HB.out GE690.out GE691.out)⟩⟩
      ·rw [if_neg c23] at H
       have c23b0:decide (0 <= x7_2)=false:=decide_eq_false c23
       clear c23
       simp only [Option.some.injEq,Prod.mk.injEq] at H
       obtain ⟨rfl,rfl⟩:=H
       have hnb42:=NB691_690.out
       have hnc42:=NB690_691.out
       obtain ⟨hcz43_0,hcz43_1⟩:=cz2 BK691.out
       obtain ⟨hfz43_0,hfz43_1⟩:=fz2 BK691.out
       obtain ⟨hcz44_0,hcz44_1⟩:=cz2 BK690.out
       obtain ⟨hfz44_0,hfz44_1⟩:=fz2 BK690.out
       go_wp2
       repeat (go_quiet (fail);try go_wp2)
       refine bodyPost_ret (results_cell_row rfl _ _ gb690 30 #[.int .i64 (-1),.int .i64 (-1)] (0,0) _ rfl (by refine kq ?_;refine blk_put (cs:=#[.int .i64 (-1),.int .i64 x691001_2]) ?_ 1 _ rfl;refine kq ?_;refine blk_put (cs:=#[.int .i64 x691000_2,.int .i64 x691001_2]) ?_ 0 _ rfl;refine kq ?_;exact BK690.out) Tryz.underlying30 rfl kr) rfl ?_
       exact ⟨gz,(bz2 HB.out GE690.out GE691.out)⟩
end Go.Proofs.YthmpgocaoccnaaaGreatDoor.PFnFresh
