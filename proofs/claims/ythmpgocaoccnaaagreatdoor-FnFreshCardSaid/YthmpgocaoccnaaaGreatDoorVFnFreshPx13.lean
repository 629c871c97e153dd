/- PFnFreshx13, of the words and walks that the law FnFresh needs; made by this session's program out of printed texts. -/
import Derived.Test.YthmpgocaoccnaaaGreatDoorVFnFreshPx0
namespace Go.Proofs.YthmpgocaoccnaaaGreatDoor.PFnFresh
open Go.RowKit Go.Proofs.YthmpgocaoccnaaaGreatDoorW.PrintWords Go.Proofs.YthmpgocaoccnaaaGreatDoorW.PrintLast Go.Proofs.YthmpgocaoccnaaaGreatDoorW.PrintMore
attribute [local go_sem] max2_int min2_int max_two min_two max_three min_three max_four min_four
set_option linter.unusedVariables false
set_option linter.unusedSimpArgs false
def IsS72 (w0 W:World) (g:Nat) (f0:List Int) (f1:Int) (f2:Int):Prop:=∃ A0 c0,W.heap[g]?=some (.cells #[.slice A0 f0.length c0,.int .i64 f1,.int .i64 f2] 72 (0,0)) /\ w0.heap.size <= g /\ Kd.C (Kd.int .u8) w0 A0 f0.length f0
theorem IsS72.grown {w0 W:World} {g:Nat} {f0:List Int} {f1:Int} {f2:Int} {W1:World} {row:Option Nat} (h:IsS72 w0 W g f0 f1 f2) (hw:W.grownBy W1 row) (hne:some g≠row):IsS72 w0 W1 g f0 f1 f2:=by
 obtain ⟨A0,c0,hb,hg,hr0⟩:=h
 exact ⟨A0,c0,blk_grown hb hw hne,hg,hr0⟩
theorem IsS72.own_neN {w0 W:World} {g:Nat} {f0:List Int} {f1:Int} {f2:Int} {α:Type} {d:Kd α} {e:Nat} {base:Nat} {ok:Nat -> Prop} {v:Value} {xs:List α} (h:IsS72 w0 W g f0 f1 f2) (ho:Kd.N d e W base ok v xs) (ht:e≠72):some g≠v.ownBlock:=by
 obtain ⟨A0,c0,hb,hg,hr0⟩:=h
 exact Kd.N_ne ho hb ht
theorem IsS72.fresh {w0 W:World} {g:Nat} {f0:List Int} {f1:Int} {f2:Int} (h:IsS72 w0 W g f0 f1 f2):∀ k,W.heap.size <= k -> k≠g:=by
 obtain ⟨A0,c0,hb,hg,hr0⟩:=h
 exact Kd.freshB hb
theorem IsS72.kept {w0 W:World} {g:Nat} {f0:List Int} {f1:Int} {f2:Int} {W1:World} {S:Nat -> Prop} (h:IsS72 w0 W g f0 f1 f2) (hk:Kept W W1 S) (hne:¬ S g):IsS72 w0 W1 g f0 f1 f2:=by
 obtain ⟨A0,c0,hb,hg,hr0⟩:=h
 exact ⟨A0,c0,blk_kept hb hk hne,hg,hr0⟩
theorem IsS72.below {w0 W:World} {g:Nat} {f0:List Int} {f1:Int} {f2:Int} {W1:World} (h:IsS72 w0 W g f0 f1 f2) (hw:Below W.heap.size W W1):IsS72 w0 W1 g f0 f1 f2:=h.grown (grown_of_below hw none) (by simp)
theorem IsS72.alloc {w0 W:World} {g:Nat} {f0:List Int} {f1:Int} {f2:Int} (h:IsS72 w0 W g f0 f1 f2) (o:Obj):IsS72 w0 (W.alloc o) g f0 f1 f2:=h.below (below_alloc (Below.refl _ _) o)
theorem IsS72.drewN {w0 W:World} {g:Nat} {f0:List Int} {f1:Int} {f2:Int} (h:IsS72 w0 W g f0 f1 f2) (m:Nat):IsS72 w0 (W.drewN m) g f0 f1 f2:=h
theorem IsS72.drew {w0 W:World} {g:Nat} {f0:List Int} {f1:Int} {f2:Int} (h:IsS72 w0 W g f0 f1 f2):IsS72 w0 W.drew g f0 f1 f2:=h
theorem IsS72.at_ {w0 W:World} {g:Nat} {f0:List Int} {f1:Int} {f2:Int} {w':World} {m:Nat} (hq:W.drewN m=w') (h:IsS72 w0 W g f0 f1 f2):IsS72 w0 w' g f0 f1 f2:=by subst hq;exact IsS72.drewN h m
theorem IsS72.apart {w0 W:World} {g:Nat} {f0:List Int} {f1:Int} {f2:Int} {α:Type} {d:Kd α} {e:Nat} {base:Nat} {ok:Nat -> Prop} {v:Value} {xs:List α} (h:IsS72 w0 W g f0 f1 f2) (ho:d.R e W base ok v xs) (ht:∀ q,q∈e::d.E -> q≠72):d.R e W base (fun k=>ok k /\ k≠g) v xs:=by
 obtain ⟨A0,c0,hb,hg,hr0⟩:=h
 exact Kd.R_types ho hb ht
theorem IsS72.own_ne {w0 W:World} {g:Nat} {f0:List Int} {f1:Int} {f2:Int} {α:Type} {d:Kd α} {e:Nat} {base:Nat} {ok:Nat -> Prop} {v:Value} {xs:List α} (h:IsS72 w0 W g f0 f1 f2) (ho:d.R e W base ok v xs) (ht:e≠72):some g≠v.ownBlock:=by
 obtain ⟨A0,c0,hb,hg,hr0⟩:=h
 exact Kd.R_ne ho hb ht
theorem IsS72.apartQ {w0 W:World} {g:Nat} {f0:List Int} {f1:Int} {f2:Int} {α:Type} {d:Kd α} {e:Nat} {base:Nat} {ok:Nat -> Prop} {v:Value} {xs:List α} (h:IsS72 w0 W g f0 f1 f2) (ho:d.Q e W base ok v xs) (ht:∀ q,q∈e::d.E -> q≠72):d.Q e W base (fun k=>ok k /\ k≠g) v xs:=by
 obtain ⟨A0,c0,hb,hg,hr0⟩:=h
 exact Kd.Q_types ho hb ht
theorem IsS72.own_neQ {w0 W:World} {g:Nat} {f0:List Int} {f1:Int} {f2:Int} {α:Type} {d:Kd α} {e:Nat} {base:Nat} {ok:Nat -> Prop} {v:Value} {xs:List α} (h:IsS72 w0 W g f0 f1 f2) (ho:d.Q e W base ok v xs) (ht:e≠72):some g≠v.ownBlock:=by
 obtain ⟨A0,c0,hb,hg,hr0⟩:=h
 exact Kd.Q_ne ho hb ht
theorem IsS72.apartS {w0 W:World} {g:Nat} {f0:List Int} {f1:Int} {f2:Int} {α:Type} {d:Kd α} {e:Nat} {base:Nat} {ok:Nat -> Prop} {v:Value} {xs:List α} (h:IsS72 w0 W g f0 f1 f2) (ho:d.S e W base ok v xs) (ht:∀ q,q∈e::d.E -> q≠72):d.S e W base (fun k=>ok k /\ k≠g) v xs:=by
 obtain ⟨A0,c0,hb,hg,hr0⟩:=h
 exact Kd.S_types ho hb ht
theorem IsS72.own_neS {w0 W:World} {g:Nat} {f0:List Int} {f1:Int} {f2:Int} {α:Type} {d:Kd α} {e:Nat} {base:Nat} {ok:Nat -> Prop} {v:Value} {xs:List α} (h:IsS72 w0 W g f0 f1 f2) (ho:d.S e W base ok v xs) (ht:e≠72):some g≠v.ownBlock:=by
 obtain ⟨A0,c0,hb,hg,hr0⟩:=h
 exact Kd.S_ne ho hb ht
theorem IsS72.lt {w0 W:World} {g:Nat} {f0:List Int} {f1:Int} {f2:Int} (h:IsS72 w0 W g f0 f1 f2):g<W.heap.size:=by
 obtain ⟨A0,c0,hb,hg,hr0⟩:=h
 exact blk_lt hb
theorem IsS72.ge {w0 W:World} {g:Nat} {f0:List Int} {f1:Int} {f2:Int} (h:IsS72 w0 W g f0 f1 f2):w0.heap.size <= g:=by
 obtain ⟨A0,c0,hb,hg,hr0⟩:=h
 exact hg
theorem IsS72.ne_blk {w0 W:World} {g:Nat} {f0:List Int} {f1:Int} {f2:Int} {a:Nat} {cs:Array Value} {t:TypeId} {fr:Nat × Nat} (h:IsS72 w0 W g f0 f1 f2) (hb2:W.heap[a]?=some (.cells cs t fr)) (ht:t≠72):g≠a:=by
 obtain ⟨A0,c0,hb,hg,hr0⟩:=h
 rintro rfl
 rw [hb] at hb2
 injection hb2 with hb2
 injection hb2 with _ ht2
 exact ht ht2.symm
theorem IsS72.far {w0 W:World} {g:Nat} {f0:List Int} {f1:Int} {f2:Int} {p:Addr} (h:IsS72 w0 W g f0 f1 f2) (hne:g≠p.block) (u:Value):IsS72 w0 (W.setCell p u) g f0 f1 f2:=by
 obtain ⟨A0,c0,hb,hg,hr0⟩:=h
 exact ⟨A0,c0,blk_far hb hne u,hg,hr0⟩
theorem cellS72_0 {W:World} {g:Nat} {A0:Option Addr} {c0:Nat} {f0:List Int} {f1:Int} {f2:Int} (h:W.heap[g]?=some (.cells #[.slice A0 f0.length c0,.int .i64 f1,.int .i64 f2] 72 (0,0))):W.cell? ⟨g,0,none⟩=some (.slice A0 f0.length c0):=(blk_cell h 0).trans rfl
theorem cellS72_1 {W:World} {g:Nat} {A0:Option Addr} {c0:Nat} {f0:List Int} {f1:Int} {f2:Int} (h:W.heap[g]?=some (.cells #[.slice A0 f0.length c0,.int .i64 f1,.int .i64 f2] 72 (0,0))):W.cell? ⟨g,1,none⟩=some (.int .i64 f1):=(blk_cell h 1).trans rfl
theorem IsS72.set_1 {w0 W:World} {g:Nat} {f0:List Int} {f1:Int} {f2:Int} (h:IsS72 w0 W g f0 f1 f2) (x:Int):IsS72 w0 (W.setCell ⟨g,1,none⟩ (.int .i64 x)) g f0 x f2:=by
 obtain ⟨A0,c0,hb,hg,hr0⟩:=h
 exact ⟨A0,c0,by simpa using blk_set hb 1 (.int .i64 x),hg,hr0⟩
theorem cellS72_2 {W:World} {g:Nat} {A0:Option Addr} {c0:Nat} {f0:List Int} {f1:Int} {f2:Int} (h:W.heap[g]?=some (.cells #[.slice A0 f0.length c0,.int .i64 f1,.int .i64 f2] 72 (0,0))):W.cell? ⟨g,2,none⟩=some (.int .i64 f2):=(blk_cell h 2).trans rfl
theorem IsS72.set_2 {w0 W:World} {g:Nat} {f0:List Int} {f1:Int} {f2:Int} (h:IsS72 w0 W g f0 f1 f2) (x:Int):IsS72 w0 (W.setCell ⟨g,2,none⟩ (.int .i64 x)) g f0 f1 x:=by
 obtain ⟨A0,c0,hb,hg,hr0⟩:=h
 exact ⟨A0,c0,by simpa using blk_set hb 2 (.int .i64 x),hg,hr0⟩
theorem IsS72.new (w0 W:World) (A0:Option Addr) (c0:Nat) (f0:List Int) (f1:Int) (f2:Int) (hB:Below w0.heap.size w0 W) (hr0:Kd.C (Kd.int .u8) w0 A0 f0.length f0):IsS72 w0 (W.alloc (.cells #[.slice A0 f0.length c0,.int .i64 f1,.int .i64 f2] 72)) W.heap.size f0 f1 f2:=⟨A0,c0,by simpa using heap_alloc_new W _,hB.size,hr0⟩
def spec_l1New.l0:Nat -> List Int -> Int -> Int -> Option (List Int × Int × Int)
 | 0,_,_,_=>none
 | k+1,x0,x3,x4=>if x4<(x0.length:Int) then (if x4<4000 then (if 0 <= x4 then (spec_l1New.l0 k x0 (Go.bits .and .i64 (wrap64 ((wrap64 ((wrap64 (x3 * 131))+(wrap64 (rd x0 x4))))+7)) 1073741823) (wrap64 (x4+1))) else (none)) else (some (x0,0,x3))) else (some (x0,0,x3))
def spec_l1New.f (k:Nat) (l0:List Int):Option (List Int × Int × Int):=spec_l1New.l0 k l0 (wrap64 (10101+(l0.length:Int))) 0
theorem spec_l1New.mono_l:∀ k,(∀ y0 y1 y2,LeO (spec_l1New.l0 k y0 y1 y2) (spec_l1New.l0 (k+1) y0 y1 y2))
 | 0=>fun _ _ _ r h=>by simp [spec_l1New.l0] at h
 | k+1=>by
  have ih0:=spec_l1New.mono_l k
  ·intro y0 y1 y2
   unfold spec_l1New.l0
   with_reducible repeat' first|exact ih0 _ _ _|exact lrz _|exact lnz _|refine liz ?_ ?_|refine lbz ?_ fun _=>?_
theorem spec_l1New.mono:∀ a0 k,LeO (spec_l1New.f k a0) (spec_l1New.f (k+1) a0):=by
 intro a0 k
 have ih0:=spec_l1New.mono_l k
 unfold spec_l1New.f
 with_reducible repeat' first|exact ih0 _ _ _|exact lrz _|exact lnz _|refine liz ?_ ?_|refine lbz ?_ fun _=>?_
set_option maxHeartbeats 8000000 in
set_option maxRecDepth 100000 in
theorem spec_l1New.calls (k:Nat) (A0:Option Addr) (c0:Nat) (l0:List Int) (r1:List Int) (r2:Int) (r3:Int) (w0 w:World) (hB:Below w0.heap.size w0 w) (hr0:Kd.C (Kd.int .u8) w0 A0 l0.length l0) (hc0:l0.length <= c0) (h:spec_l1New.f k l0=some (r1,r2,r3)) :
  Calls Tryz.prog 38 #[.slice A0 l0.length c0] w fun e w'=>∃ g_:Nat,e=.returned (.pointer (some ⟨g_,0,none⟩)) /\ IsS72 w0 w' g_ r1 r2 r3 /\ Below w0.heap.size w0 w' /\ Below w.heap.size w w':=by
 have hu72:=Tryz.underlying72
 have HR0:=am hr0
 have HC0:=am hc0
 clear hr0 hc0
 have HBW:=am (Below.refl w.heap.size w)
 have HW0:=am hB.size
 have HB:=am hB
 clear hB
 have H:(spec_l1New.l0 k l0 (wrap64 (10101+(l0.length:Int))) 0)=some (r1,r2,r3):=h
 clear h
 have H':=am H
 clear H
 go_enter Tryz.func38,Tryz.ntmps38
 go_wp2
 go_loopg [3,4] k (fun kq v3 v4 w'=>∃ (x3_1:Int) (x4_1:Int),v3=.int .i64 x3_1 /\ v4=.int .i64 x4_1 /\ Aside0 (spec_l1New.l0 kq l0 x3_1 x4_1=some (r1,r2,r3)) /\ Aside0 (kq <= k) /\ Aside0 (Below w0.heap.size w0 w') /\ Aside0 (Below w.heap.size w w'))
 case atStart=>exact ⟨(wrap64 (10101+(l0.length:Int))),(0),ez,ez,H',⟨Nat.le_refl _⟩,⟨(bz0 HB.out)⟩,⟨by repeat (first|(with_reducible first|exact HBW.out|apply below_alloc|apply pw_below_drewN|apply below_drew1)|exact HBW.out)⟩⟩
 case round =>
  clear H'
  obtain ⟨x3_1,x4_1,rfl,rfl,HA,HK1,HB,HBW⟩:=hrel
  cases gk with
  | zero=>exact absurd HA.out (by simp [spec_l1New.l0])
  | succ k1 =>
   have H:=HA.out
   clear HA
   simp only [spec_l1New.l0] at H
   by_cases c2:x4_1<(l0.length:Int)
   ·rw [if_pos c2] at H
    have c2b0:=decide_eq_true c2
    clear c2
    by_cases c3:x4_1<4000
    ·rw [if_pos c3] at H
     have c3b0:=decide_eq_true c3
     clear c3
     replace H:=iz H
     obtain ⟨c4,H⟩:=H
     have c4b0:=decide_eq_true c4
     clear c4
     have H':=am H
     clear H
     have p323:0 <= (x4_1:Int):=oz
     have q323:x4_1<(l0.length:Int):=oz
     obtain ⟨ad323,e323,hx323_0⟩:=Kd.at_int HR0.out x4_1 p323 q323
     cases e323
     replace hx323_0:=pw_cell_below HB.out hx323_0
     replace p323:=eq_true p323
     replace q323:=eq_true q323
     go_wp2
     go_roundg k1
     case measure=>have:=HK1.out;omega
     case rel=>exact ⟨(Go.bits .and .i64 (wrap64 ((wrap64 ((wrap64 (x3_1 * 131))+(wrap64 (rd l0 x4_1))))+7)) 1073741823),(wrap64 (x4_1+1)),ez,ez,H',⟨by have:=HK1.out;omega⟩,⟨(bz0 HB.out)⟩,⟨by repeat (first|(with_reducible first|exact HBW.out|apply below_alloc|apply pw_below_drewN|apply below_drew1)|exact HBW.out)⟩⟩
    ·rw [if_neg c3] at H
     have c3b0:=decide_eq_false c3
     clear c3
     simp only [Option.some.injEq,Prod.mk.injEq] at H
     obtain ⟨rfl,rfl,rfl⟩:=H
     go_wp2_with (first|((with_reducible refine gate_dst (N:=31) rfl ?_);refine box_event ?hg (N:=31) ?hd (cs:=#[.slice A0 l0.length c0,.int .i64 0,.int .i64 x3_1]) (t:=72) ?hr ?_;(case hd=>rfl);(case hg=>rfl);(case hr=>exact vz);intro gb324 hg w5 hbox hb;replace HB:=bs (bz0 HB.out) hb;have BK324:=am (hbox);have GW324:=am ((by rw [hg];exact (below_size (by repeat (first|(with_reducible first|exact HBW.out|apply below_alloc|apply pw_below_drewN|apply below_drew1)|exact HBW.out))):w.heap.size <= gb324));have GE324:=am ((Nat.le_trans HW0.out (by rw [hg];exact (below_size (by repeat (first|(with_reducible first|exact HBW.out|apply below_alloc|apply pw_below_drewN|apply below_drew1)|exact HBW.out))):w.heap.size <= gb324):w0.heap.size <= gb324));replace HBW:=am (below_step HBW.out hb);clear hb hbox hg))
     go_ret
     exact ⟨_,rfl,(show IsS72 w0 _ gb324 l0 0 x3_1 from ⟨_,_,by refine kq ?_;exact BK324.out,GE324.out,HR0.out⟩),(bz1 HB.out GE324.out),by repeat (first|(with_reducible first|exact HBW.out|apply below_alloc|apply pw_below_drewN|apply below_drew1|refine below_set ?_ GW324.out)|exact HBW.out)⟩
   ·rw [if_neg c2] at H
    have c2b0:=decide_eq_false c2
    clear c2
    simp only [Option.some.injEq,Prod.mk.injEq] at H
    obtain ⟨rfl,rfl,rfl⟩:=H
    go_wp2_with (first|((with_reducible refine gate_dst (N:=31) rfl ?_);refine box_event ?hg (N:=31) ?hd (cs:=#[.slice A0 l0.length c0,.int .i64 0,.int .i64 x3_1]) (t:=72) ?hr ?_;(case hd=>rfl);(case hg=>rfl);(case hr=>exact vz);intro gb325 hg w6 hbox hb;replace HB:=bs (bz0 HB.out) hb;have BK325:=am (hbox);have GW325:=am ((by rw [hg];exact (below_size (by repeat (first|(with_reducible first|exact HBW.out|apply below_alloc|apply pw_below_drewN|apply below_drew1)|exact HBW.out))):w.heap.size <= gb325));have GE325:=am ((Nat.le_trans HW0.out (by rw [hg];exact (below_size (by repeat (first|(with_reducible first|exact HBW.out|apply below_alloc|apply pw_below_drewN|apply below_drew1)|exact HBW.out))):w.heap.size <= gb325):w0.heap.size <= gb325));replace HBW:=am (below_step HBW.out hb);clear hb hbox hg))
    go_ret
    exact ⟨_,rfl,(show IsS72 w0 _ gb325 l0 0 x3_1 from ⟨_,_,by refine kq ?_;exact BK325.out,GE325.out,HR0.out⟩),(bz1 HB.out GE325.out),by repeat (first|(with_reducible first|exact HBW.out|apply below_alloc|apply pw_below_drewN|apply below_drew1|refine below_set ?_ GW325.out)|exact HBW.out)⟩
def spec_l1Byte.f (s0_0:List Int) (s0_1:Int) (s0_2:Int):Option (Int × Int × Int):=if s0_1<(s0_0.length:Int) then (if 0 <= s0_1 then (some (Go.bits .and .i64 (wrap64 ((Go.bits .and .i64 (Go.bits .xor .i64 ((wrap64 ((wrap64 (s0_2 * 6364136223846793005))+1442695040888963407)) / 8589934592) ((wrap64 ((wrap64 (s0_2 * 6364136223846793005))+1442695040888963407)) / 35184372088832)) 255)+(wrap64 (rd s0_0 s0_1)))) 255,wrap64 (s0_1+1),wrap64 ((wrap64 (s0_2 * 6364136223846793005))+1442695040888963407))) else (none)) else (some (Go.bits .and .i64 (Go.bits .xor .i64 ((wrap64 ((wrap64 (s0_2 * 6364136223846793005))+1442695040888963407)) / 8589934592) ((wrap64 ((wrap64 (s0_2 * 6364136223846793005))+1442695040888963407)) / 35184372088832)) 255,s0_1,wrap64 ((wrap64 (s0_2 * 6364136223846793005))+1442695040888963407)))
set_option maxHeartbeats 8000000 in
set_option maxRecDepth 100000 in
theorem spec_l1Byte.calls (g:Nat) (s0_0:List Int) (s0_1:Int) (s0_2:Int) (r1:Int) (r2:Int) (r3:Int) (w0 w:World) (hI:IsS72 w0 w g s0_0 s0_1 s0_2) (hB:Below w0.heap.size w0 w) (h:spec_l1Byte.f s0_0 s0_1 s0_2=some (r1,r2,r3)) :
  Calls Tryz.prog 78 #[.pointer (some ⟨g,0,none⟩)] w fun e w'=>e=.returned (.int .i64 r1) /\ IsS72 w0 w' g s0_0 r2 r3 /\ Below w0.heap.size w0 w' /\ KeepBut w w' g none:=by
 have HI0:=am hI
 have HK:=am (KeepBut.refl w g none)
 have HL:=am hB.size
 clear hI
 have HW0:=am hB.size
 have HB:=am hB
 clear hB
 have H:(if s0_1<(s0_0.length:Int) then (if 0 <= s0_1 then (some (Go.bits .and .i64 (wrap64 ((Go.bits .and .i64 (Go.bits .xor .i64 ((wrap64 ((wrap64 (s0_2 * 6364136223846793005))+1442695040888963407)) / 8589934592) ((wrap64 ((wrap64 (s0_2 * 6364136223846793005))+1442695040888963407)) / 35184372088832)) 255)+(wrap64 (rd s0_0 s0_1)))) 255,wrap64 (s0_1+1),wrap64 ((wrap64 (s0_2 * 6364136223846793005))+1442695040888963407))) else (none)) else (some (Go.bits .and .i64 (Go.bits .xor .i64 ((wrap64 ((wrap64 (s0_2 * 6364136223846793005))+1442695040888963407)) / 8589934592) ((wrap64 ((wrap64 (s0_2 * 6364136223846793005))+1442695040888963407)) / 35184372088832)) 255,s0_1,wrap64 ((wrap64 (s0_2 * 6364136223846793005))+1442695040888963407))))=some (r1,r2,r3):=h
 clear h
 by_cases c2:s0_1<(s0_0.length:Int)
 ·rw [if_pos c2] at H
  have c2b0:=decide_eq_true c2
  clear c2
  replace H:=iz H
  obtain ⟨c3,H⟩:=H
  have c3b0:=decide_eq_true c3
  clear c3
  simp only [Option.some.injEq,Prod.mk.injEq] at H
  obtain ⟨rfl,rfl,rfl⟩:=H
  obtain ⟨ASz4_0,cSz4_0,HGz4,hgz4,HSz4_0⟩:=HI0.out
  have hcz4_0:=cellS72_0 HGz4
  have hcz4_1:=cellS72_1 HGz4
  have hcz4_2:=cellS72_2 HGz4
  have hfz4_1:=blk_frozen HGz4 1
  have hfz4_2:=blk_frozen HGz4 2
  clear HGz4 hgz4
  have p326:0 <= (s0_1:Int):=oz
  have q326:s0_1<(s0_0.length:Int):=oz
  obtain ⟨ad326,e326,hx326_0⟩:=Kd.at_int HSz4_0 s0_1 p326 q326
  cases e326
  have hn326_0:ad326.block≠g:=Nat.ne_of_lt (Nat.lt_of_lt_of_le (by have:=World.block_lt_of_cell? _ _ hx326_0;first|rwa [add_block] at this|exact this) (IsS72.ge HI0.out))
  replace hx326_0:=pw_cell_below HB.out hx326_0
  replace hx326_0:=(cell_far (p:=⟨g,2,none⟩) (nz hn326_0) (.int .i64 (wrap64 ((wrap64 (s0_2 * 6364136223846793005))+1442695040888963407)))).trans hx326_0
  (try have hy326_0:=fun (n_:Nat)=>(show (((w.drewN n_).setCell ⟨g,2,none⟩ (.int .i64 (wrap64 ((wrap64 (s0_2 * 6364136223846793005))+1442695040888963407))))).cell? _=some _ from hx326_0))
  clear hn326_0
  replace p326:=eq_true p326
  replace q326:=eq_true q326
  go_enter Tryz.func78,Tryz.ntmps78
  go_wp2
  repeat (go_quiet (fail);try go_wp2)
  go_ret
  exact ⟨gz,by repeat (first|(with_reducible first|exact HI0.out|apply IsS72.alloc|apply IsS72.drewN|apply IsS72.drew|apply IsS72.set_1|apply IsS72.set_2)|exact HI0.out),by repeat (first|(with_reducible first|exact HB.out|apply below_alloc|apply pw_below_drewN|apply below_drew1|refine below_set ?_ (IsS72.ge HI0.out))|exact HB.out),by repeat (first|(with_reducible first|exact HK.out|apply KeepBut.set_|apply keep_drewN|apply keep_drew|apply keep_alloc)|exact HK.out)⟩
 ·rw [if_neg c2] at H
  have c2b0:=decide_eq_false c2
  clear c2
  simp only [Option.some.injEq,Prod.mk.injEq] at H
  obtain ⟨rfl,rfl,rfl⟩:=H
  obtain ⟨ASz5_0,cSz5_0,HGz5,hgz5,HSz5_0⟩:=HI0.out
  have hcz5_0:=cellS72_0 HGz5
  have hcz5_1:=cellS72_1 HGz5
  have hcz5_2:=cellS72_2 HGz5
  have hfz5_1:=blk_frozen HGz5 1
  have hfz5_2:=blk_frozen HGz5 2
  clear HGz5 hgz5
  go_enter Tryz.func78,Tryz.ntmps78
  go_wp2
  repeat (go_quiet (fail);try go_wp2)
  go_ret
  exact ⟨gz,by repeat (first|(with_reducible first|exact HI0.out|apply IsS72.alloc|apply IsS72.drewN|apply IsS72.drew|apply IsS72.set_1|apply IsS72.set_2)|exact HI0.out),by repeat (first|(with_reducible first|exact HB.out|apply below_alloc|apply pw_below_drewN|apply below_drew1|refine below_set ?_ (IsS72.ge HI0.out))|exact HB.out),by repeat (first|(with_reducible first|exact HK.out|apply KeepBut.set_|apply keep_drewN|apply keep_drew|apply keep_alloc)|exact HK.out)⟩
def spec_l1Below.f (s0_0:List Int) (s0_1:Int) (s0_2:Int) (a1:Int):Option (Int × Int × Int):=if a1 <= 0 then (some (0,s0_1,s0_2)) else (if a1 <= 256 then ((spec_l1Byte.f s0_0 s0_1 s0_2).bind fun bt327=>(if a1=0 then (none) else (some (Int.tmod bt327.1 a1,bt327.2.1,bt327.2.2)))) else ((spec_l1Byte.f s0_0 s0_1 s0_2).bind fun bt330=>((spec_l1Byte.f s0_0 bt330.2.1 bt330.2.2).bind fun bt333=>((spec_l1Byte.f s0_0 bt333.2.1 bt333.2.2).bind fun bt336=>((spec_l1Byte.f s0_0 bt336.2.1 bt336.2.2).bind fun bt339=>(if a1=0 then (none) else (some (Int.tmod (wrap64 ((wrap64 ((wrap64 ((wrap64 (bt330.1 * 16777216))+(wrap64 (bt333.1 * 65536))))+(wrap64 (bt336.1 * 256))))+bt339.1)) a1,bt339.2.1,bt339.2.2))))))))
set_option maxHeartbeats 8000000 in
set_option maxRecDepth 100000 in
theorem spec_l1Below.calls (g:Nat) (s0_0:List Int) (s0_1:Int) (s0_2:Int) (a1:Int) (r1:Int) (r2:Int) (r3:Int) (w0 w:World) (hI:IsS72 w0 w g s0_0 s0_1 s0_2) (hB:Below w0.heap.size w0 w) (h:spec_l1Below.f s0_0 s0_1 s0_2 a1=some (r1,r2,r3)) :
  Calls Tryz.prog 59 #[.pointer (some ⟨g,0,none⟩),.int .i64 a1] w fun e w'=>e=.returned (.int .i64 r1) /\ IsS72 w0 w' g s0_0 r2 r3 /\ Below w0.heap.size w0 w' /\ KeepBut w w' g none:=by
 have HI0:=am hI
 have HK:=am (KeepBut.refl w g none)
 have HL:=am hB.size
 clear hI
 have HW0:=am hB.size
 have HB:=am hB
 clear hB
 have H:(if a1 <= 0 then (some (0,s0_1,s0_2)) else (if a1 <= 256 then ((spec_l1Byte.f s0_0 s0_1 s0_2).bind fun bt327=>(if a1=0 then (none) else (some (Int.tmod bt327.1 a1,bt327.2.1,bt327.2.2)))) else ((spec_l1Byte.f s0_0 s0_1 s0_2).bind fun bt330=>((spec_l1Byte.f s0_0 bt330.2.1 bt330.2.2).bind fun bt333=>((spec_l1Byte.f s0_0 bt333.2.1 bt333.2.2).bind fun bt336=>((spec_l1Byte.f s0_0 bt336.2.1 bt336.2.2).bind fun bt339=>(if a1=0 then (none) else (some (Int.tmod (wrap64 ((wrap64 ((wrap64 ((wrap64 (bt330.1 * 16777216))+(wrap64 (bt333.1 * 65536))))+(wrap64 (bt336.1 * 256))))+bt339.1)) a1,bt339.2.1,bt339.2.2)))))))))=some (r1,r2,r3):=h
 clear h
 by_cases c3:a1 <= 0
 ·rw [if_pos c3] at H
  have c3b0:=decide_eq_true c3
  clear c3
  simp only [Option.some.injEq,Prod.mk.injEq] at H
  obtain ⟨rfl,rfl,rfl⟩:=H
  go_enter Tryz.func59,Tryz.ntmps59
  go_wp2
  go_ret
  exact ⟨gz,by repeat (first|(with_reducible first|exact HI0.out|apply IsS72.alloc|apply IsS72.drewN|apply IsS72.drew|apply IsS72.set_1|apply IsS72.set_2)|exact HI0.out),by repeat (first|(with_reducible first|exact HB.out|apply below_alloc|apply pw_below_drewN|apply below_drew1|refine below_set ?_ (IsS72.ge HI0.out))|exact HB.out),by repeat (first|(with_reducible first|exact HK.out|apply KeepBut.set_|apply keep_drewN|apply keep_drew|apply keep_alloc)|exact HK.out)⟩
 ·rw [if_neg c3] at H
  have c3b0:=decide_eq_false c3
  clear c3
  by_cases c4:a1 <= 256
  ·rw [if_pos c4] at H
   have c4b0:=decide_eq_true c4
   clear c4
   replace H:=bi H
   obtain ⟨⟨t327,t328,t329⟩,A50,H⟩:=H
   try dsimp only at H
   have A5:=am A50
   clear A50
   by_cases c6:a1=0
   ·rw [if_pos c6] at H
    exact absurd H (by simp)
   ·rw [if_neg c6] at H
    have c6b0:(a1 == 0)=false:=beq_eq_false_iff_ne.mpr c6
    have c6b1:(a1 != 0)=true:=bne_iff_ne.mpr c6
    simp only [Option.some.injEq,Prod.mk.injEq] at H
    obtain ⟨rfl,rfl,rfl⟩:=H
    go_enter Tryz.func59,Tryz.ntmps59
    go_wp2_with (first|((with_reducible refine gate_callee (f:=78) rfl ?_);refine goesL_ (some 14) rfl rfl Tryz.func78 kr rfl #[.pointer (some ⟨g,0,none⟩)] rfl lz ?_;(with_reducible refine (spec_l1Byte.calls g s0_0 s0_1 s0_2 t327 t328 t329 w0 _ ?side1 ?side2 A5.out).mono ?_);(case side1=>repeat (first|(with_reducible first|exact HI0.out|apply IsS72.alloc|apply IsS72.drewN|apply IsS72.drew|apply IsS72.set_1|apply IsS72.set_2)|exact HI0.out));(case side2=>repeat (first|(with_reducible first|exact HB.out|apply below_alloc|apply pw_below_drewN|apply below_drew1|refine below_set ?_ (IsS72.ge HI0.out))|exact HB.out));rintro e w7 ⟨rfl,hi,hb,hk⟩;refine ⟨_,rfl,?_⟩;replace HK:=am (KeepBut.trans (by repeat (first|(with_reducible first|exact HK.out|apply KeepBut.set_|apply keep_drewN|apply keep_drew|apply keep_alloc)|exact HK.out)) hk (.inl rfl));replace HB:=am (hb);replace HI0:=am (hi);(try clear hb);(try clear hk);(try clear hi)))
    go_ret
    exact ⟨gz,by repeat (first|(with_reducible first|exact HI0.out|apply IsS72.alloc|apply IsS72.drewN|apply IsS72.drew|apply IsS72.set_1|apply IsS72.set_2)|exact HI0.out),by repeat (first|(with_reducible first|exact HB.out|apply below_alloc|apply pw_below_drewN|apply below_drew1|refine below_set ?_ (IsS72.ge HI0.out))|exact HB.out),by repeat (first|(with_reducible first|exact HK.out|apply KeepBut.set_|apply keep_drewN|apply keep_drew|apply keep_alloc)|exact HK.out)⟩
  ·rw [if_neg c4] at H
   have c4b0:=decide_eq_false c4
   clear c4
   replace H:=bi H
   obtain ⟨⟨t330,t331,t332⟩,A80,H⟩:=H
   try dsimp only at H
   have A8:=am A80
   clear A80
   replace H:=bi H
   obtain ⟨⟨t333,t334,t335⟩,A90,H⟩:=H
   try dsimp only at H
   have A9:=am A90
   clear A90
   replace H:=bi H
   obtain ⟨⟨t336,t337,t338⟩,A100,H⟩:=H
   try dsimp only at H
   have A10:=am A100
   clear A100
   replace H:=bi H
   obtain ⟨⟨t339,t340,t341⟩,A110,H⟩:=H
   try dsimp only at H
   have A11:=am A110
   clear A110
   by_cases c12:a1=0
   ·rw [if_pos c12] at H
    exact absurd H (by simp)
   ·rw [if_neg c12] at H
    have c12b0:(a1 == 0)=false:=beq_eq_false_iff_ne.mpr c12
    have c12b1:(a1 != 0)=true:=bne_iff_ne.mpr c12
    simp only [Option.some.injEq,Prod.mk.injEq] at H
    obtain ⟨rfl,rfl,rfl⟩:=H
    go_enter Tryz.func59,Tryz.ntmps59
    go_wp2_with (first|((with_reducible refine gate_callee (f:=78) rfl ?_);refine goesL_ (some 18) rfl rfl Tryz.func78 kr rfl #[.pointer (some ⟨g,0,none⟩)] rfl lz ?_;(with_reducible refine (spec_l1Byte.calls g s0_0 s0_1 s0_2 t330 t331 t332 w0 _ ?side1 ?side2 A8.out).mono ?_);(case side1=>repeat (first|(with_reducible first|exact HI0.out|apply IsS72.alloc|apply IsS72.drewN|apply IsS72.drew|apply IsS72.set_1|apply IsS72.set_2)|exact HI0.out));(case side2=>repeat (first|(with_reducible first|exact HB.out|apply below_alloc|apply pw_below_drewN|apply below_drew1|refine below_set ?_ (IsS72.ge HI0.out))|exact HB.out));rintro e w13 ⟨rfl,hi,hb,hk⟩;refine ⟨_,rfl,?_⟩;replace HK:=am (KeepBut.trans (by repeat (first|(with_reducible first|exact HK.out|apply KeepBut.set_|apply keep_drewN|apply keep_drew|apply keep_alloc)|exact HK.out)) hk (.inl rfl));replace HB:=am (hb);replace HI0:=am (hi);(try clear hb);(try clear hk);(try clear hi))|((with_reducible refine gate_callee (f:=78) rfl ?_);refine goesL_ (some 20) rfl rfl Tryz.func78 kr rfl #[.pointer (some ⟨g,0,none⟩)] rfl lz ?_;(with_reducible refine (spec_l1Byte.calls g s0_0 t331 t332 t333 t334 t335 w0 _ ?side1 ?side2 A9.out).mono ?_);(case side1=>repeat (first|(with_reducible first|exact HI0.out|apply IsS72.alloc|apply IsS72.drewN|apply IsS72.drew|apply IsS72.set_1|apply IsS72.set_2)|exact HI0.out));(case side2=>repeat (first|(with_reducible first|exact HB.out|apply below_alloc|apply pw_below_drewN|apply below_drew1|refine below_set ?_ (IsS72.ge HI0.out))|exact HB.out));rintro e w14 ⟨rfl,hi,hb,hk⟩;refine ⟨_,rfl,?_⟩;replace HK:=am (KeepBut.trans (by repeat (first|(with_reducible first|exact HK.out|apply KeepBut.set_|apply keep_drewN|apply keep_drew|apply keep_alloc)|exact HK.out)) hk (.inl rfl));replace HB:=am (hb);replace HI0:=am (hi);(try clear hb);(try clear hk);(try clear hi))|((with_reducible refine gate_callee (f:=78) rfl ?_);refine goesL_ (some 22) rfl rfl Tryz.func78 kr rfl #[.pointer (some ⟨g,0,none⟩)] rfl lz ?_;(with_reducible refine (spec_l1Byte.calls g s0_0 t334 t335 t336 t337 t338 w0 _ ?side1 ?side2 A10.out).mono ?_);(case side1=>repeat (first|(with_reducible first|exact HI0.out|apply IsS72.alloc|apply IsS72.drewN|apply IsS72.drew|apply IsS72.set_1|apply IsS72.set_2)|exact HI0.out));(case side2=>repeat (first|(with_reducible first|exact HB.out|apply below_alloc|apply pw_below_drewN|apply below_drew1|refine below_set ?_ (IsS72.ge HI0.out))|exact HB.out));rintro e w15 ⟨rfl,hi,hb,hk⟩;refine ⟨_,rfl,?_⟩;replace HK:=am (KeepBut.trans (by repeat (first|(with_reducible first|exact HK.out|apply KeepBut.set_|apply keep_drewN|apply keep_drew|apply keep_alloc)|exact HK.out)) hk (.inl rfl));replace HB:=am (hb);replace HI0:=am (hi);(try clear hb);(try clear hk);(try clear hi))|((with_reducible refine gate_callee (f:=78) rfl ?_);refine goesL_ (some 24) rfl rfl Tryz.func78 kr rfl #[.pointer (some ⟨g,0,none⟩)] rfl lz ?_;(with_reducible refine (spec_l1Byte.calls g s0_0 t337 t338 t339 t340 t341 w0 _ ?side1 ?side2 A11.out).mono ?_);(case side1=>repeat (first|(with_reducible first|exact HI0.out|apply IsS72.alloc|apply IsS72.drewN|apply IsS72.drew|apply IsS72.set_1|apply IsS72.set_2)|exact HI0.out));(case side2=>repeat (first|(with_reducible first|exact HB.out|apply below_alloc|apply pw_below_drewN|apply below_drew1|refine below_set ?_ (IsS72.ge HI0.out))|exact HB.out));rintro e w16 ⟨rfl,hi,hb,hk⟩;refine ⟨_,rfl,?_⟩;replace HK:=am (KeepBut.trans (by repeat (first|(with_reducible first|exact HK.out|apply KeepBut.set_|apply keep_drewN|apply keep_drew|apply keep_alloc)|exact HK.out)) hk (.inl rfl));replace HB:=am (hb);replace HI0:=am (hi);(try clear hb);(try clear hk);(try clear hi)))
    go_ret
    exact ⟨gz,by repeat (first|(with_reducible first|exact HI0.out|apply IsS72.alloc|apply IsS72.drewN|apply IsS72.drew|apply IsS72.set_1|apply IsS72.set_2)|exact HI0.out),by repeat (first|(with_reducible first|exact HB.out|apply below_alloc|apply pw_below_drewN|apply below_drew1|refine below_set ?_ (IsS72.ge HI0.out))|exact HB.out),by repeat (first|(with_reducible first|exact HK.out|apply KeepBut.set_|apply keep_drewN|apply keep_drew|apply keep_alloc)|exact HK.out)⟩
def spec_l1Once.f (s0_0:List Int) (s0_1:Int) (s0_2:Int) (a1:Int):Option (Bool × Int × Int):=(spec_l1Below.f s0_0 s0_1 s0_2 a1).bind fun bt342=>(some ((bt342.1 == 0),bt342.2.1,bt342.2.2))
set_option maxHeartbeats 8000000 in
set_option maxRecDepth 100000 in
theorem spec_l1Once.calls (g:Nat) (s0_0:List Int) (s0_1:Int) (s0_2:Int) (a1:Int) (r1:Bool) (r2:Int) (r3:Int) (w0 w:World) (hI:IsS72 w0 w g s0_0 s0_1 s0_2) (hB:Below w0.heap.size w0 w) (h:spec_l1Once.f s0_0 s0_1 s0_2 a1=some (r1,r2,r3)) :
  Calls Tryz.prog 57 #[.pointer (some ⟨g,0,none⟩),.int .i64 a1] w fun e w'=>e=.returned (.bool r1) /\ IsS72 w0 w' g s0_0 r2 r3 /\ Below w0.heap.size w0 w' /\ KeepBut w w' g none:=by
 have HI0:=am hI
 have HK:=am (KeepBut.refl w g none)
 have HL:=am hB.size
 clear hI
 have HW0:=am hB.size
 have HB:=am hB
 clear hB
 have H:((spec_l1Below.f s0_0 s0_1 s0_2 a1).bind fun bt342=>(some ((bt342.1 == 0),bt342.2.1,bt342.2.2)))=some (r1,r2,r3):=h
 clear h
 replace H:=bi H
 obtain ⟨⟨t342,t343,t344⟩,A30,H⟩:=H
 try dsimp only at H
 have A3:=am A30
 clear A30
 simp only [Option.some.injEq,Prod.mk.injEq] at H
 obtain ⟨rfl,rfl,rfl⟩:=H
 go_enter Tryz.func57,Tryz.ntmps57
 go_wp2_with (first|((with_reducible refine gate_callee (f:=59) rfl ?_);refine goesL_ (some 7) rfl rfl Tryz.func59 kr rfl #[.pointer (some ⟨g,0,none⟩),.int .i64 a1] rfl lz ?_;(with_reducible refine (spec_l1Below.calls g s0_0 s0_1 s0_2 a1 t342 t343 t344 w0 _ ?side1 ?side2 A3.out).mono ?_);(case side1=>repeat (first|(with_reducible first|exact HI0.out|apply IsS72.alloc|apply IsS72.drewN|apply IsS72.drew|apply IsS72.set_1|apply IsS72.set_2)|exact HI0.out));(case side2=>repeat (first|(with_reducible first|exact HB.out|apply below_alloc|apply pw_below_drewN|apply below_drew1|refine below_set ?_ (IsS72.ge HI0.out))|exact HB.out));rintro e w4 ⟨rfl,hi,hb,hk⟩;refine ⟨_,rfl,?_⟩;replace HK:=am (KeepBut.trans (by repeat (first|(with_reducible first|exact HK.out|apply KeepBut.set_|apply keep_drewN|apply keep_drew|apply keep_alloc)|exact HK.out)) hk (.inl rfl));replace HB:=am (hb);replace HI0:=am (hi);(try clear hb);(try clear hk);(try clear hi)))
 go_ret
 exact ⟨gz,by repeat (first|(with_reducible first|exact HI0.out|apply IsS72.alloc|apply IsS72.drewN|apply IsS72.drew|apply IsS72.set_1|apply IsS72.set_2)|exact HI0.out),by repeat (first|(with_reducible first|exact HB.out|apply below_alloc|apply pw_below_drewN|apply below_drew1|refine below_set ?_ (IsS72.ge HI0.out))|exact HB.out),by repeat (first|(with_reducible first|exact HK.out|apply KeepBut.set_|apply keep_drewN|apply keep_drew|apply keep_alloc)|exact HK.out)⟩
def spec_l1PickInt.f (s0_0:List Int) (s0_1:Int) (s0_2:Int) (l1:List Int):Option (Int × Int × Int):=(spec_l1Below.f s0_0 s0_1 s0_2 (l1.length:Int)).bind fun bt345=>(if 0 <= bt345.1 then (if bt345.1<(l1.length:Int) then (some (rd l1 bt345.1,bt345.2.1,bt345.2.2)) else (none)) else (none))
set_option maxHeartbeats 8000000 in
set_option maxRecDepth 100000 in
theorem spec_l1PickInt.calls (g:Nat) (s0_0:List Int) (s0_1:Int) (s0_2:Int) (A1:Option Addr) (c1:Nat) (l1:List Int) (r1:Int) (r2:Int) (r3:Int) (w0 w:World) (hI:IsS72 w0 w g s0_0 s0_1 s0_2) (hB:Below w0.heap.size w0 w) (hr1:Kd.C (Kd.int .i64) w A1 l1.length l1) (hc1:l1.length <= c1) (hf1:∀ ad,A1=some ad -> 0<l1.length -> ad.block≠g) (h:spec_l1PickInt.f s0_0 s0_1 s0_2 l1=some (r1,r2,r3)) :
  Calls Tryz.prog 76 #[.pointer (some ⟨g,0,none⟩),.slice A1 l1.length c1] w fun e w'=>e=.returned (.int .i64 r1) /\ IsS72 w0 w' g s0_0 r2 r3 /\ Below w0.heap.size w0 w' /\ KeepBut w w' g none:=by
 have HR1:=am hr1
 have HC1:=am hc1
 clear hr1 hc1
 have HI0:=am hI
 have HK:=am (KeepBut.refl w g none)
 have HL:=am hB.size
 clear hI
 have HW0:=am hB.size
 have HB:=am hB
 clear hB
 have H:((spec_l1Below.f s0_0 s0_1 s0_2 (l1.length:Int)).bind fun bt345=>(if 0 <= bt345.1 then (if bt345.1<(l1.length:Int) then (some (rd l1 bt345.1,bt345.2.1,bt345.2.2)) else (none)) else (none)))=some (r1,r2,r3):=h
 clear h
 replace H:=bi H
 obtain ⟨⟨t345,t346,t347⟩,A30,H⟩:=H
 try dsimp only at H
 have A3:=am A30
 clear A30
 replace H:=iz H
 obtain ⟨c4,H⟩:=H
 have c4b0:=decide_eq_true c4
 clear c4
 replace H:=iz H
 obtain ⟨c5,H⟩:=H
 have c5b0:=decide_eq_true c5
 clear c5
 simp only [Option.some.injEq,Prod.mk.injEq] at H
 obtain ⟨rfl,rfl,rfl⟩:=H
 go_enter Tryz.func76,Tryz.ntmps76
 go_wp2_with (first|((with_reducible refine gate_callee (f:=59) rfl ?_);refine goesL_ (some 9) rfl rfl Tryz.func59 kr rfl #[.pointer (some ⟨g,0,none⟩),.int .i64 (l1.length:Int)] rfl lz ?_;(with_reducible refine (spec_l1Below.calls g s0_0 s0_1 s0_2 (l1.length:Int) t345 t346 t347 w0 _ ?side1 ?side2 A3.out).mono ?_);(case side1=>repeat (first|(with_reducible first|exact HI0.out|apply IsS72.alloc|apply IsS72.drewN|apply IsS72.drew|apply IsS72.set_1|apply IsS72.set_2)|exact HI0.out));(case side2=>repeat (first|(with_reducible first|exact HB.out|apply below_alloc|apply pw_below_drewN|apply below_drew1|refine below_set ?_ (IsS72.ge HI0.out))|exact HB.out));rintro e w6 ⟨rfl,hi,hb,hk⟩;refine ⟨_,rfl,?_⟩;replace HK:=am (KeepBut.trans (by repeat (first|(with_reducible first|exact HK.out|apply KeepBut.set_|apply keep_drewN|apply keep_drew|apply keep_alloc)|exact HK.out)) hk (.inl rfl));replace HB:=am (hb);replace HI0:=am (hi);(try clear hb);(try clear hk);(try clear hi);have p348:0 <= (t345:Int):=oz;have q348:t345<(l1.length:Int):=oz;obtain ⟨ad348,e348,hx348_0⟩:=Kd.at_int HR1.out t345 p348 q348;cases e348;replace hx348_0:=keep_cell HK.out hx348_0 (by first|(rw [add_block];exact hf1 _ rfl (by omega))|exact hf1 _ rfl (by omega)|exact hf1 ad348 rfl (by omega));replace p348:=eq_true p348;replace q348:=eq_true q348))
 go_ret
 exact ⟨gz,by repeat (first|(with_reducible first|exact HI0.out|apply IsS72.alloc|apply IsS72.drewN|apply IsS72.drew|apply IsS72.set_1|apply IsS72.set_2)|exact HI0.out),by repeat (first|(with_reducible first|exact HB.out|apply below_alloc|apply pw_below_drewN|apply below_drew1|refine below_set ?_ (IsS72.ge HI0.out))|exact HB.out),by repeat (first|(with_reducible first|exact HK.out|apply KeepBut.set_|apply keep_drewN|apply keep_drew|apply keep_alloc)|exact HK.out)⟩
def spec_l1Pick.f (s0_0:List Int) (s0_1:Int) (s0_2:Int) (l1:List ByteArray):Option (ByteArray × Int × Int):=(spec_l1Below.f s0_0 s0_1 s0_2 (l1.length:Int)).bind fun bt349=>(if 0 <= bt349.1 then (if bt349.1<(l1.length:Int) then (some (rdOf ByteArray.empty l1 bt349.1,bt349.2.1,bt349.2.2)) else (none)) else (none))
set_option maxHeartbeats 8000000 in
set_option maxRecDepth 100000 in
theorem spec_l1Pick.calls (g:Nat) (s0_0:List Int) (s0_1:Int) (s0_2:Int) (A1:Option Addr) (c1:Nat) (l1:List ByteArray) (r1:ByteArray) (r2:Int) (r3:Int) (w0 w:World) (hI:IsS72 w0 w g s0_0 s0_1 s0_2) (hB:Below w0.heap.size w0 w) (hr1:Kd.C Kd.string w A1 l1.length l1) (hc1:l1.length <= c1) (hf1:∀ ad,A1=some ad -> 0<l1.length -> ad.block≠g) (h:spec_l1Pick.f s0_0 s0_1 s0_2 l1=some (r1,r2,r3)) :
  Calls Tryz.prog 77 #[.pointer (some ⟨g,0,none⟩),.slice A1 l1.length c1] w fun e w'=>e=.returned (.string r1) /\ IsS72 w0 w' g s0_0 r2 r3 /\ Below w0.heap.size w0 w' /\ KeepBut w w' g none:=by
 have HR1:=am hr1
 have HC1:=am hc1
 clear hr1 hc1
 have HI0:=am hI
 have HK:=am (KeepBut.refl w g none)
 have HL:=am hB.size
 clear hI
 have HW0:=am hB.size
 have HB:=am hB
 clear hB
 have H:((spec_l1Below.f s0_0 s0_1 s0_2 (l1.length:Int)).bind fun bt349=>(if 0 <= bt349.1 then (if bt349.1<(l1.length:Int) then (some (rdOf ByteArray.empty l1 bt349.1,bt349.2.1,bt349.2.2)) else (none)) else (none)))=some (r1,r2,r3):=h
 clear h
 replace H:=bi H
 obtain ⟨⟨t349,t350,t351⟩,A30,H⟩:=H
 try dsimp only at H
 have A3:=am A30
 clear A30
 replace H:=iz H
 obtain ⟨c4,H⟩:=H
 have c4b0:=decide_eq_true c4
 clear c4
 replace H:=iz H
 obtain ⟨c5,H⟩:=H
 have c5b0:=decide_eq_true c5
 clear c5
 simp only [Option.some.injEq,Prod.mk.injEq] at H
 obtain ⟨rfl,rfl,rfl⟩:=H
 go_enter Tryz.func77,Tryz.ntmps77
 go_wp2_with (first|((with_reducible refine gate_callee (f:=59) rfl ?_);refine goesL_ (some 9) rfl rfl Tryz.func59 kr rfl #[.pointer (some ⟨g,0,none⟩),.int .i64 (l1.length:Int)] rfl lz ?_;(with_reducible refine (spec_l1Below.calls g s0_0 s0_1 s0_2 (l1.length:Int) t349 t350 t351 w0 _ ?side1 ?side2 A3.out).mono ?_);(case side1=>repeat (first|(with_reducible first|exact HI0.out|apply IsS72.alloc|apply IsS72.drewN|apply IsS72.drew|apply IsS72.set_1|apply IsS72.set_2)|exact HI0.out));(case side2=>repeat (first|(with_reducible first|exact HB.out|apply below_alloc|apply pw_below_drewN|apply below_drew1|refine below_set ?_ (IsS72.ge HI0.out))|exact HB.out));rintro e w6 ⟨rfl,hi,hb,hk⟩;refine ⟨_,rfl,?_⟩;replace HK:=am (KeepBut.trans (by repeat (first|(with_reducible first|exact HK.out|apply KeepBut.set_|apply keep_drewN|apply keep_drew|apply keep_alloc)|exact HK.out)) hk (.inl rfl));replace HB:=am (hb);replace HI0:=am (hi);(try clear hb);(try clear hk);(try clear hi);have p352:0 <= (t349:Int):=oz;have q352:t349<(l1.length:Int):=oz;obtain ⟨ad352,e352,hx352_0⟩:=Kd.at_string HR1.out t349 p352 q352;cases e352;replace hx352_0:=keep_cell HK.out hx352_0 (by first|(rw [add_block];exact hf1 _ rfl (by omega))|exact hf1 _ rfl (by omega)|exact hf1 ad352 rfl (by omega));replace p352:=eq_true p352;replace q352:=eq_true q352))
 go_ret
 exact ⟨gz,by repeat (first|(with_reducible first|exact HI0.out|apply IsS72.alloc|apply IsS72.drewN|apply IsS72.drew|apply IsS72.set_1|apply IsS72.set_2)|exact HI0.out),by repeat (first|(with_reducible first|exact HB.out|apply below_alloc|apply pw_below_drewN|apply below_drew1|refine below_set ?_ (IsS72.ge HI0.out))|exact HB.out),by repeat (first|(with_reducible first|exact HK.out|apply KeepBut.set_|apply keep_drewN|apply keep_drew|apply keep_alloc)|exact HK.out)⟩
mutual
def spec_Arity.j0:Nat -> Int -> Bool -> Option (Int)
 | 0,_,_=>none
 | k+1,x3,x4=>if x4=true then (some 1) else (if x3=4 then (spec_Arity.j1 k x3 (x3 == 4)) else (if x3=5 then (spec_Arity.j1 k x3 (x3 == 5)) else (if x3=6 then (spec_Arity.j1 k x3 (x3 == 6)) else (if x3=8 then (spec_Arity.j1 k x3 (x3 == 8)) else (if x3=9 then (spec_Arity.j1 k x3 (x3 == 9)) else (if x3=13 then (spec_Arity.j1 k x3 (x3 == 13)) else (if x3=17 then (spec_Arity.j1 k x3 (x3 == 17)) else (spec_Arity.j1 k x3 (x3 == 19)))))))))
def spec_Arity.j1:Nat -> Int -> Bool -> Option (Int)
 | 0,_,_=>none
 | k+1,x3,x11=>if x11=true then (some 2) else (if x3=7 then (some 3) else (if x3=14 then (some 3) else (some 0)))
end
def spec_Arity.f (k:Nat) (a0:Int):Option (Int):=if a0=3 then (spec_Arity.j0 k a0 (a0 == 3)) else (if a0=10 then (spec_Arity.j0 k a0 (a0 == 10)) else (if a0=11 then (spec_Arity.j0 k a0 (a0 == 11)) else (if a0=15 then (spec_Arity.j0 k a0 (a0 == 15)) else (if a0=16 then (spec_Arity.j0 k a0 (a0 == 16)) else (spec_Arity.j0 k a0 (a0 == 18))))))
theorem spec_Arity.mono_l:∀ k,(∀ y0 y1,LeO (spec_Arity.j0 k y0 y1) (spec_Arity.j0 (k+1) y0 y1)) /\ (∀ y0 y1,LeO (spec_Arity.j1 k y0 y1) (spec_Arity.j1 (k+1) y0 y1))
 | 0=>⟨fun _ _ r h=>by simp [spec_Arity.j0] at h,fun _ _ r h=>by simp [spec_Arity.j1] at h⟩
 | k+1=>by
  obtain ⟨ih0,ih1⟩:=spec_Arity.mono_l k
  refine ⟨?_,?_⟩
  ·intro y0 y1
   unfold spec_Arity.j0
   with_reducible repeat' first|exact ih0 _ _|exact ih1 _ _|exact lrz _|exact lnz _|refine liz ?_ ?_|refine lbz ?_ fun _=>?_
  ·intro y0 y1
   unfold spec_Arity.j1
   with_reducible repeat' first|exact ih0 _ _|exact ih1 _ _|exact lrz _|exact lnz _|refine liz ?_ ?_|refine lbz ?_ fun _=>?_
theorem spec_Arity.mono:∀ a0 k,LeO (spec_Arity.f k a0) (spec_Arity.f (k+1) a0):=by
 intro a0 k
 obtain ⟨ih0,ih1⟩:=spec_Arity.mono_l k
 unfold spec_Arity.f
 with_reducible repeat' first|exact ih0 _ _|exact ih1 _ _|exact lrz _|exact lnz _|refine liz ?_ ?_|refine lbz ?_ fun _=>?_
set_option maxHeartbeats 8000000 in
set_option maxRecDepth 100000 in
theorem spec_Arity.calls (k:Nat) (a0:Int) (r:Int) (w:World) (h:spec_Arity.f k a0=some r) :
  Calls Tryz.prog 79 #[.int .i64 a0] w fun e w'=>e=.returned (.int .i64 r) /\ Drawn0 w w':=by
 have H:(if a0=3 then (spec_Arity.j0 k a0 (a0 == 3)) else (if a0=10 then (spec_Arity.j0 k a0 (a0 == 10)) else (if a0=11 then (spec_Arity.j0 k a0 (a0 == 11)) else (if a0=15 then (spec_Arity.j0 k a0 (a0 == 15)) else (if a0=16 then (spec_Arity.j0 k a0 (a0 == 16)) else (spec_Arity.j0 k a0 (a0 == 18)))))))=some r:=h
 clear h
 have HC2:=am H
 clear H
 go_enter Tryz.func79,Tryz.ntmps79
 go_upto_if 4 with (fail)
 go_cut [4] (fun v4 wc=>∃ (kq:Nat) (x4_1:Bool),v4=.bool x4_1 /\ Aside0 (spec_Arity.j0 kq a0 x4_1=some r) /\ Aside0 (kq <= k) /\ Drawn0 w wc)
 case first =>
  have H:=HC2.out
  clear HC2
  by_cases c3:a0=3
  ·rw [if_pos c3] at H
   have c3b0:(a0 == 3)=true:=beq_iff_eq.mpr c3
   have c3b1:(a0 != 3)=false:=bne_eq_false_iff_eq.mpr c3
   clear c3
   (first|rw [c3b0]|(simp only [i64_w,i32_w];rw [c3b0])|skip)
   have H':=am H
   clear H
   go_wp2
   go_meet
   case rel=>exact ⟨_,((a0 == 3)),ez,H',⟨by first|omega|exact Nat.le_refl _⟩,dz⟩
  ·rw [if_neg c3] at H
   have c3b0:(a0 == 3)=false:=beq_eq_false_iff_ne.mpr c3
   have c3b1:(a0 != 3)=true:=bne_iff_ne.mpr c3
   (first|rw [c3b0]|(simp only [i64_w,i32_w];rw [c3b0])|skip)
   by_cases c4:a0=10
   ·rw [if_pos c4] at H
    have c4b0:(a0 == 10)=true:=beq_iff_eq.mpr c4
    have c4b1:(a0 != 10)=false:=bne_eq_false_iff_eq.mpr c4
    clear c4
    have H':=am H
    clear H
    go_wp2
    go_meet
    case rel=>exact ⟨_,((a0 == 10)),ez,H',⟨by first|omega|exact Nat.le_refl _⟩,dz⟩
   ·rw [if_neg c4] at H
    have c4b0:(a0 == 10)=false:=beq_eq_false_iff_ne.mpr c4
    have c4b1:(a0 != 10)=true:=bne_iff_ne.mpr c4
    by_cases c5:a0=11
    ·rw [if_pos c5] at H
     have c5b0:(a0 == 11)=true:=beq_iff_eq.mpr c5
     have c5b1:(a0 != 11)=false:=bne_eq_false_iff_eq.mpr c5
     clear c5
     have H':=am H
     clear H
     go_wp2
     go_meet
     case rel=>exact ⟨_,((a0 == 11)),ez,H',⟨by first|omega|exact Nat.le_refl _⟩,dz⟩
    ·rw [if_neg c5] at H
     have c5b0:(a0 == 11)=false:=beq_eq_false_iff_ne.mpr c5
     have c5b1:(a0 != 11)=true:=bne_iff_ne.mpr c5
     by_cases c6:a0=15
     ·rw [if_pos c6] at H
      have c6b0:(a0 == 15)=true:=beq_iff_eq.mpr c6
      have c6b1:(a0 != 15)=false:=bne_eq_false_iff_eq.mpr c6
      clear c6
      have H':=am H
      clear H
      go_wp2
      go_meet
      case rel=>exact ⟨_,((a0 == 15)),ez,H',⟨by first|omega|exact Nat.le_refl _⟩,dz⟩
     ·rw [if_neg c6] at H
      have c6b0:(a0 == 15)=false:=beq_eq_false_iff_ne.mpr c6
      have c6b1:(a0 != 15)=true:=bne_iff_ne.mpr c6
      by_cases c7:a0=16
      ·rw [if_pos c7] at H
       have c7b0:(a0 == 16)=true:=beq_iff_eq.mpr c7
       have c7b1:(a0 != 16)=false:=bne_eq_false_iff_eq.mpr c7
       clear c7
       have H':=am H
       clear H
       go_wp2
       go_meet
       case rel=>exact ⟨_,((a0 == 16)),ez,H',⟨by first|omega|exact Nat.le_refl _⟩,dz⟩
      ·rw [if_neg c7] at H
       have c7b0:(a0 == 16)=false:=beq_eq_false_iff_ne.mpr c7
       have c7b1:(a0 != 16)=true:=bne_iff_ne.mpr c7
       have H':=am H
       clear H
       go_wp2
       go_meet
       case rel=>exact ⟨_,((a0 == 18)),ez,H',⟨by first|omega|exact Nat.le_refl _⟩,dz⟩
 case rest =>
  clear HC2
  try clear p2
  try clear c3
  try clear c3b0
  try clear c3b1
  try clear c4
  try clear c4b0
  try clear c4b1
  try clear c5
  try clear c5b0
  try clear c5b1
  try clear c6
  try clear c6b0
  try clear c6b1
  try clear c7
  try clear c7b0
  try clear c7b1
  obtain ⟨kq,x4_1,rfl,HA,HJ1,⟨mc1,rfl⟩⟩:=hcut
  cases kq with
  | zero=>exact absurd HA.out (by simp [spec_Arity.j0])
  | succ kj1 =>
   have H:=HA.out
   clear HA
   simp only [spec_Arity.j0] at H
   by_cases c8:x4_1=true
   ·subst c8
    have H1:=hp H
    clear H
    have H:=H1
    clear H1
    obtain rfl:=Option.some.inj H
    go_wp2
    go_ret
    exact ⟨e2z,dz⟩
   ·replace c8:=Bool.eq_false_iff.mpr c8
    subst c8
    have H1:=hq H
    clear H
    have H:=H1
    clear H1
    have HC9:=am H
    clear H
    go_upto_if 11 with (fail)
    go_cut [11] (fun v11 wc=>∃ (kq:Nat) (x11_8:Bool),v11=.bool x11_8 /\ Aside0 (spec_Arity.j1 kq a0 x11_8=some r) /\ Aside0 (kq <= kj1) /\ Drawn0 w wc)
    case first =>
     have H:=HC9.out
     clear HC9
     by_cases c10:a0=4
     ·rw [if_pos c10] at H
      have c10b0:(a0 == 4)=true:=beq_iff_eq.mpr c10
      have c10b1:(a0 != 4)=false:=bne_eq_false_iff_eq.mpr c10
      clear c10
      (first|rw [c10b0]|(simp only [i64_w,i32_w];rw [c10b0])|skip)
      have H':=am H
      clear H
      go_wp2
      go_meet
      case rel=>exact ⟨_,((a0 == 4)),ez,H',⟨by have:=HJ1.out;first|omega|exact Nat.le_refl _⟩,dz⟩
     ·rw [if_neg c10] at H
      have c10b0:(a0 == 4)=false:=beq_eq_false_iff_ne.mpr c10
      have c10b1:(a0 != 4)=true:=bne_iff_ne.mpr c10
      (first|rw [c10b0]|(simp only [i64_w,i32_w];rw [c10b0])|skip)
      by_cases c11:a0=5
      ·rw [if_pos c11] at H
       have c11b0:(a0 == 5)=true:=beq_iff_eq.mpr c11
       have c11b1:(a0 != 5)=false:=bne_eq_false_iff_eq.mpr c11
       clear c11
       have H':=am H
       clear H
       go_wp2
       go_meet
       case rel=>exact ⟨_,((a0 == 5)),ez,H',⟨by have:=HJ1.out;first|omega|exact Nat.le_refl _⟩,dz⟩
      ·rw [if_neg c11] at H
       have c11b0:(a0 == 5)=false:=beq_eq_false_iff_ne.mpr c11
       have c11b1:(a0 != 5)=true:=bne_iff_ne.mpr c11
       by_cases c12:a0=6
       ·rw [if_pos c12] at H
        have c12b0:(a0 == 6)=true:=beq_iff_eq.mpr c12
        have c12b1:(a0 != 6)=false:=bne_eq_false_iff_eq.mpr c12
        clear c12
        have H':=am H
        clear H
        go_wp2
        go_meet
        case rel=>exact ⟨_,((a0 == 6)),ez,H',⟨by have:=HJ1.out;first|omega|exact Nat.le_refl _⟩,dz⟩
       ·rw [if_neg c12] at H
        have c12b0:(a0 == 6)=false:=beq_eq_false_iff_ne.mpr c12
        have c12b1:(a0 != 6)=true:=bne_iff_ne.mpr c12
        by_cases c13:a0=8
        ·rw [if_pos c13] at H
         have c13b0:(a0 == 8)=true:=beq_iff_eq.mpr c13
         have c13b1:(a0 != 8)=false:=bne_eq_false_iff_eq.mpr c13
         clear c13
         have H':=am H
         clear H
         go_wp2
         go_meet
         case rel=>exact ⟨_,((a0 == 8)),ez,H',⟨by have:=HJ1.out;first|omega|exact Nat.le_refl _⟩,dz⟩
        ·rw [if_neg c13] at H
         have c13b0:(a0 == 8)=false:=beq_eq_false_iff_ne.mpr c13
         have c13b1:(a0 != 8)=true:=bne_iff_ne.mpr c13
         by_cases c14:a0=9
         ·rw [if_pos c14] at H
          have c14b0:(a0 == 9)=true:=beq_iff_eq.mpr c14
          have c14b1:(a0 != 9)=false:=bne_eq_false_iff_eq.mpr c14
          clear c14
          have H':=am H
          clear H
          go_wp2
          go_meet
          case rel=>exact ⟨_,((a0 == 9)),ez,H',⟨by have:=HJ1.out;first|omega|exact Nat.le_refl _⟩,dz⟩
         ·rw [if_neg c14] at H
          have c14b0:(a0 == 9)=false:=beq_eq_false_iff_ne.mpr c14
          have c14b1:(a0 != 9)=true:=bne_iff_ne.mpr c14
          by_cases c15:a0=13
          ·rw [if_pos c15] at H
           have c15b0:(a0 == 13)=true:=beq_iff_eq.mpr c15
           have c15b1:(a0 != 13)=false:=bne_eq_false_iff_eq.mpr c15
           clear c15
           have H':=am H
           clear H
           go_wp2
           go_meet
           case rel=>exact ⟨_,((a0 == 13)),ez,H',⟨by have:=HJ1.out;first|omega|exact Nat.le_refl _⟩,dz⟩
          ·rw [if_neg c15] at H
           have c15b0:(a0 == 13)=false:=beq_eq_false_iff_ne.mpr c15
           have c15b1:(a0 != 13)=true:=bne_iff_ne.mpr c15
           by_cases c16:a0=17
           ·rw [if_pos c16] at H
            have c16b0:(a0 == 17)=true:=beq_iff_eq.mpr c16
            have c16b1:(a0 != 17)=false:=bne_eq_false_iff_eq.mpr c16
            clear c16
            have H':=am H
            clear H
            go_wp2
            go_meet
            case rel=>exact ⟨_,((a0 == 17)),ez,H',⟨by have:=HJ1.out;first|omega|exact Nat.le_refl _⟩,dz⟩
           ·rw [if_neg c16] at H
            have c16b0:(a0 == 17)=false:=beq_eq_false_iff_ne.mpr c16
            have c16b1:(a0 != 17)=true:=bne_iff_ne.mpr c16
            have H':=am H
            clear H
            go_wp2
            go_meet
            case rel=>exact ⟨_,((a0 == 19)),ez,H',⟨by have:=HJ1.out;first|omega|exact Nat.le_refl _⟩,dz⟩
    case rest =>
     clear HC9
     try clear c1
     try clear p2
     try clear c3
     try clear c3b0
     try clear c3b1
     try clear c4
     try clear c4b0
     try clear c4b1
     try clear c5
     try clear c5b0
     try clear c5b1
     try clear c6
     try clear c6b0
     try clear c6b1
     try clear c7
     try clear c7b0
     try clear c7b1
     try clear c8
     try clear c10
     try clear c10b0
     try clear c10b1
     try clear c11
     try clear c11b0
     try clear c11b1
     try clear c12
     try clear c12b0
     try clear c12b1
     try clear c13
     try clear c13b0
     try clear c13b1
     try clear c14
     try clear c14b0
     try clear c14b1
     try clear c15
     try clear c15b0
     try clear c15b1
     try clear c16
     try clear c16b0
     try clear c16b1
     try clear p2
     obtain ⟨kq,x11_8,rfl,HA,HJ8,⟨mc8,rfl⟩⟩:=hcut
     cases kq with
     | zero=>exact absurd HA.out (by simp [spec_Arity.j1])
     | succ kj8 =>
      have H:=HA.out
      clear HA
      simp only [spec_Arity.j1] at H
      by_cases c17:x11_8=true
      ·subst c17
       have H1:=hp H
       clear H
       have H:=H1
       clear H1
       obtain rfl:=Option.some.inj H
       go_wp2
       go_ret
       exact ⟨e2z,dz⟩
      ·replace c17:=Bool.eq_false_iff.mpr c17
       subst c17
       have H1:=hq H
       clear H
       have H:=H1
       clear H1
       by_cases c18:a0=7
       ·rw [if_pos c18] at H
        have c18b0:(a0 == 7)=true:=beq_iff_eq.mpr c18
        have c18b1:(a0 != 7)=false:=bne_eq_false_iff_eq.mpr c18
        clear c18
        obtain rfl:=Option.some.inj H
        go_wp2
        go_ret
        exact ⟨e2z,dz⟩
       ·rw [if_neg c18] at H
        have c18b0:(a0 == 7)=false:=beq_eq_false_iff_ne.mpr c18
        have c18b1:(a0 != 7)=true:=bne_iff_ne.mpr c18
        by_cases c19:a0=14
        ·rw [if_pos c19] at H
         have c19b0:(a0 == 14)=true:=beq_iff_eq.mpr c19
         have c19b1:(a0 != 14)=false:=bne_eq_false_iff_eq.mpr c19
         clear c19
         obtain rfl:=Option.some.inj H
         go_wp2
         go_ret
         exact ⟨e2z,dz⟩
        ·rw [if_neg c19] at H
         have c19b0:(a0 == 14)=false:=beq_eq_false_iff_ne.mpr c19
         have c19b1:(a0 != 14)=true:=bne_iff_ne.mpr c19
         obtain rfl:=Option.some.inj H
         go_wp2
         go_ret
         exact ⟨e2z,dz⟩
end Go.Proofs.YthmpgocaoccnaaaGreatDoor.PFnFresh
