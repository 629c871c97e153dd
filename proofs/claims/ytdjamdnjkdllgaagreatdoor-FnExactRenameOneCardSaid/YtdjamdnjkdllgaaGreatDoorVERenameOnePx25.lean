/- PFnExactRenameOnex25,of the words and walks that the law FnExactRenameOne needs;made by this session's program out of printed texts. -/

import Derived.Test.YtdjamdnjkdllgaaGreatDoorVERenameOnePx0
namespace Go.Proofs.YtdjamdnjkdllgaaGreatDoor.PFnExactRenameOne
open Go.RowKit Go.Proofs.YtdjamdnjkdllgaaGreatDoorW.PrintWords Go.Proofs.YtdjamdnjkdllgaaGreatDoorW.PrintLast Go.Proofs.YtdjamdnjkdllgaaGreatDoorW.PrintMore
attribute [local go_sem] max2_int min2_int max_two min_two max_three min_three max_four min_four
set_option linter.unusedVariables false
set_option linter.unusedSimpArgs false
def laws_eqNode.f (a0_0 : Int) (a0_1 : Int) (a0_2 : Int) (a0_3 : Int) (a0_4 : Int) (a0_5 : ByteArray) (a0_6 : ByteArray) (a1_0 : Int) (a1_1 : Int) (a1_2 : Int) (a1_3 : Int) (a1_4 : Int) (a1_5 : ByteArray) (a1_6 : ByteArray) : Option (Bool):= if a0_0 = a1_0 then (if a0_1 = a1_1 then (if a0_2 = a1_2 then (if a0_3 = a1_3 then (if a0_4 = a1_4 then (if a0_5.toList = a1_5.toList then (if a0_6.toList = a1_6.toList then (some true) else (some false)) else (some false)) else (some false)) else (some false)) else (some false)) else (some false)) else (some false)
set_option maxHeartbeats 8000000 in
set_option maxRecDepth 100000 in
theorem laws_eqNode.calls (a0_0 : Int) (a0_1 : Int) (a0_2 : Int) (a0_3 : Int) (a0_4 : Int) (a0_5 : ByteArray) (a0_6 : ByteArray) (a1_0 : Int) (a1_1 : Int) (a1_2 : Int) (a1_3 : Int) (a1_4 : Int) (a1_5 : ByteArray) (a1_6 : ByteArray) (r : Bool) (w : World) (h : laws_eqNode.f a0_0 a0_1 a0_2 a0_3 a0_4 a0_5 a0_6 a1_0 a1_1 a1_2 a1_3 a1_4 a1_5 a1_6 = some r) :
  Calls Tryz.prog 36 #[.agg #[.int .i64 a0_0,.int .i64 a0_1,.int .i64 a0_2,.int .i64 a0_3,.int .i64 a0_4,.string a0_5,.string a0_6],.agg #[.int .i64 a1_0,.int .i64 a1_1,.int .i64 a1_2,.int .i64 a1_3,.int .i64 a1_4,.string a1_5,.string a1_6]] w fun e w'=>e = .returned (.bool r) /\ Below w.heap.size w w':= by
 have hu45:= Tryz.underlying45
 have HB:= am (Below.refl w.heap.size w)
 have H : (if a0_0 = a1_0 then (if a0_1 = a1_1 then (if a0_2 = a1_2 then (if a0_3 = a1_3 then (if a0_4 = a1_4 then (if a0_5.toList = a1_5.toList then (if a0_6.toList = a1_6.toList then (some true) else (some false)) else (some false)) else (some false)) else (some false)) else (some false)) else (some false)) else (some false)) = some r:= h
 clear h
 by_cases c3 : a0_0 = a1_0
 ·rw [if_pos c3] at H
  have c3b0 : (a0_0 == a1_0) = true:= beq_iff_eq.mpr c3
  have c3b1 : (a0_0 != a1_0) = false:= bne_eq_false_iff_eq.mpr c3
  clear c3
  by_cases c4 : a0_1 = a1_1
  ·rw [if_pos c4] at H
   have c4b0 : (a0_1 == a1_1) = true:= beq_iff_eq.mpr c4
   have c4b1 : (a0_1 != a1_1) = false:= bne_eq_false_iff_eq.mpr c4
   clear c4
   by_cases c5 : a0_2 = a1_2
   ·rw [if_pos c5] at H
    have c5b0 : (a0_2 == a1_2) = true:= beq_iff_eq.mpr c5
    have c5b1 : (a0_2 != a1_2) = false:= bne_eq_false_iff_eq.mpr c5
    clear c5
    by_cases c6 : a0_3 = a1_3
    ·rw [if_pos c6] at H
     have c6b0 : (a0_3 == a1_3) = true:= beq_iff_eq.mpr c6
     have c6b1 : (a0_3 != a1_3) = false:= bne_eq_false_iff_eq.mpr c6
     clear c6
     by_cases c7 : a0_4 = a1_4
     ·rw [if_pos c7] at H
      have c7b0 : (a0_4 == a1_4) = true:= beq_iff_eq.mpr c7
      have c7b1 : (a0_4 != a1_4) = false:= bne_eq_false_iff_eq.mpr c7
      clear c7
      by_cases c8 : a0_5.toList = a1_5.toList
      ·rw [if_pos c8] at H
       have c8b0 : (a0_5.toList == a1_5.toList) = true:= beq_iff_eq.mpr c8
       have c8b1 : (a0_5.toList != a1_5.toList) = false:= bne_eq_false_iff_eq.mpr c8
       clear c8
       by_cases c9 : a0_6.toList = a1_6.toList
       ·rw [if_pos c9] at H
        have c9b0 : (a0_6.toList == a1_6.toList) = true:= beq_iff_eq.mpr c9
        have c9b1 : (a0_6.toList != a1_6.toList) = false:= bne_eq_false_iff_eq.mpr c9
        clear c9
        obtain rfl:= Option.some.inj H
        go_enter Tryz.func36,Tryz.ntmps36
        go_wp2_with (first | ((with_reducible refine gate_dst (N:= 2) rfl ?_);refine box_event ?hg (N:= 2) ?hd (cs:= #[.int .i64 a0_0,.int .i64 a0_1,.int .i64 a0_2,.int .i64 a0_3,.int .i64 a0_4,.string a0_5,.string a0_6]) (t:= 45) ?hr ?_;(case hd=>rfl);(case hg=>rfl);(case hr=>exact vz);intro gb623 hg w10 hbox hb;have BK623:= am (hbox);have GW623:= am ((by rw [hg];exact (below_size (bz0 HB.out)) : w.heap.size <= gb623));have GE623:= GW623;replace HB:= bs (bz0 HB.out) hb;clear hb hbox hg) | ((with_reducible refine gate_dst (N:= 3) rfl ?_);refine box_event ?hg (N:= 3) ?hd (cs:= #[.int .i64 a1_0,.int .i64 a1_1,.int .i64 a1_2,.int .i64 a1_3,.int .i64 a1_4,.string a1_5,.string a1_6]) (t:= 45) ?hr ?_;(case hd=>rfl);(case hg=>rfl);(case hr=>exact vz);intro gb624 hg w11 hbox hb;have BK624:= am (hbox);have GW624:= am ((by rw [hg];exact (below_size (bz1 HB.out GE623.out)) : w.heap.size <= gb624));have GE624:= GW624;replace HB:= bs (bz1 HB.out GE623.out) hb;have NB623_624:= am ((by rw [hg];exact Nat.ne_of_lt (blk_lt (kz BK623.out)) : gb623 ≠ gb624));have NB624_623:= am ((by rw [hg];exact Nat.ne_of_gt (blk_lt (kz BK623.out)) : gb624 ≠ gb623));replace BK623:= kb BK623 hb;clear hb hbox hg;have hnb12:= NB623_624.out;have hnc12:= NB624_623.out;obtain ⟨hcz13_0,hcz13_1,hcz13_2,hcz13_3,hcz13_4,hcz13_5,hcz13_6⟩:= cz7 BK623.out;obtain ⟨hfz13_0,hfz13_1,hfz13_2,hfz13_3,hfz13_4,hfz13_5,hfz13_6⟩:= fz7 BK623.out;obtain ⟨hcz14_0,hcz14_1,hcz14_2,hcz14_3,hcz14_4,hcz14_5,hcz14_6⟩:= cz7 BK624.out;obtain ⟨hfz14_0,hfz14_1,hfz14_2,hfz14_3,hfz14_4,hfz14_5,hfz14_6⟩:= fz7 BK624.out))
        go_ret
        exact ⟨gz,(bz2 HB.out GE623.out GE624.out)⟩
       ·rw [if_neg c9] at H
        have c9b0 : (a0_6.toList == a1_6.toList) = false:= beq_eq_false_iff_ne.mpr c9
        have c9b1 : (a0_6.toList != a1_6.toList) = true:= bne_iff_ne.mpr c9
        obtain rfl:= Option.some.inj H
        go_enter Tryz.func36,Tryz.ntmps36
        go_wp2_with (first | ((with_reducible refine gate_dst (N:= 2) rfl ?_);refine box_event ?hg (N:= 2) ?hd (cs:= #[.int .i64 a0_0,.int .i64 a0_1,.int .i64 a0_2,.int .i64 a0_3,.int .i64 a0_4,.string a0_5,.string a0_6]) (t:= 45) ?hr ?_;(case hd=>rfl);(case hg=>rfl);(case hr=>exact vz);intro gb623 hg w15 hbox hb;have BK623:= am (hbox);have GW623:= am ((by rw [hg];exact (below_size (bz0 HB.out)) : w.heap.size <= gb623));have GE623:= GW623;replace HB:= bs (bz0 HB.out) hb;clear hb hbox hg) | ((with_reducible refine gate_dst (N:= 3) rfl ?_);refine box_event ?hg (N:= 3) ?hd (cs:= #[.int .i64 a1_0,.int .i64 a1_1,.int .i64 a1_2,.int .i64 a1_3,.int .i64 a1_4,.string a1_5,.string a1_6]) (t:= 45) ?hr ?_;(case hd=>rfl);(case hg=>rfl);(case hr=>exact vz);intro gb624 hg w16 hbox hb;have BK624:= am (hbox);have GW624:= am ((by rw [hg];exact (below_size (bz1 HB.out GE623.out)) : w.heap.size <= gb624));have GE624:= GW624;replace HB:= bs (bz1 HB.out GE623.out) hb;have NB623_624:= am ((by rw [hg];exact Nat.ne_of_lt (blk_lt (kz BK623.out)) : gb623 ≠ gb624));have NB624_623:= am ((by rw [hg];exact Nat.ne_of_gt (blk_lt (kz BK623.out)) : gb624 ≠ gb623));replace BK623:= kb BK623 hb;clear hb hbox hg;have hnb17:= NB623_624.out;have hnc17:= NB624_623.out;obtain ⟨hcz18_0,hcz18_1,hcz18_2,hcz18_3,hcz18_4,hcz18_5,hcz18_6⟩:= cz7 BK623.out;obtain ⟨hfz18_0,hfz18_1,hfz18_2,hfz18_3,hfz18_4,hfz18_5,hfz18_6⟩:= fz7 BK623.out;obtain ⟨hcz19_0,hcz19_1,hcz19_2,hcz19_3,hcz19_4,hcz19_5,hcz19_6⟩:= cz7 BK624.out;obtain ⟨hfz19_0,hfz19_1,hfz19_2,hfz19_3,hfz19_4,hfz19_5,hfz19_6⟩:= fz7 BK624.out))
        go_ret
        exact ⟨gz,(bz2 HB.out GE623.out GE624.out)⟩
      ·rw [if_neg c8] at H
       have c8b0 : (a0_5.toList == a1_5.toList) = false:= beq_eq_false_iff_ne.mpr c8
       have c8b1 : (a0_5.toList != a1_5.toList) = true:= bne_iff_ne.mpr c8
       obtain rfl:= Option.some.inj H
       go_enter Tryz.func36,Tryz.ntmps36
       go_wp2_with (first | ((with_reducible refine gate_dst (N:= 2) rfl ?_);refine box_event ?hg (N:= 2) ?hd (cs:= #[.int .i64 a0_0,.int .i64 a0_1,.int .i64 a0_2,.int .i64 a0_3,.int .i64 a0_4,.string a0_5,.string a0_6]) (t:= 45) ?hr ?_;(case hd=>rfl);(case hg=>rfl);(case hr=>exact vz);intro gb623 hg w20 hbox hb;have BK623:= am (hbox);have GW623:= am ((by rw [hg];exact (below_size (bz0 HB.out)) : w.heap.size <= gb623));have GE623:= GW623;replace HB:= bs (bz0 HB.out) hb;clear hb hbox hg) | ((with_reducible refine gate_dst (N:= 3) rfl ?_);refine box_event ?hg (N:= 3) ?hd (cs:= #[.int .i64 a1_0,.int .i64 a1_1,.int .i64 a1_2,.int .i64 a1_3,.int .i64 a1_4,.string a1_5,.string a1_6]) (t:= 45) ?hr ?_;(case hd=>rfl);(case hg=>rfl);(case hr=>exact vz);intro gb624 hg w21 hbox hb;have BK624:= am (hbox);have GW624:= am ((by rw [hg];exact (below_size (bz1 HB.out GE623.out)) : w.heap.size <= gb624));have GE624:= GW624;replace HB:= bs (bz1 HB.out GE623.out) hb;have NB623_624:= am ((by rw [hg];exact Nat.ne_of_lt (blk_lt (kz BK623.out)) : gb623 ≠ gb624));have NB624_623:= am ((by rw [hg];exact Nat.ne_of_gt (blk_lt (kz BK623.out)) : gb624 ≠ gb623));replace BK623:= kb BK623 hb;clear hb hbox hg;have hnb22:= NB623_624.out;have hnc22:= NB624_623.out;obtain ⟨hcz23_0,hcz23_1,hcz23_2,hcz23_3,hcz23_4,hcz23_5,hcz23_6⟩:= cz7 BK623.out;obtain ⟨hfz23_0,hfz23_1,hfz23_2,hfz23_3,hfz23_4,hfz23_5,hfz23_6⟩:= fz7 BK623.out;obtain ⟨hcz24_0,hcz24_1,hcz24_2,hcz24_3,hcz24_4,hcz24_5,hcz24_6⟩:= cz7 BK624.out;obtain ⟨hfz24_0,hfz24_1,hfz24_2,hfz24_3,hfz24_4,hfz24_5,hfz24_6⟩:= fz7 BK624.out))
       go_ret
       exact ⟨gz,(bz2 HB.out GE623.out GE624.out)⟩
     ·rw [if_neg c7] at H
      have c7b0 : (a0_4 == a1_4) = false:= beq_eq_false_iff_ne.mpr c7
      have c7b1 : (a0_4 != a1_4) = true:= bne_iff_ne.mpr c7
      obtain rfl:= Option.some.inj H
      go_enter Tryz.func36,Tryz.ntmps36
      go_wp2_with (first | ((with_reducible refine gate_dst (N:= 2) rfl ?_);refine box_event ?hg (N:= 2) ?hd (cs:= #[.int .i64 a0_0,.int .i64 a0_1,.int .i64 a0_2,.int .i64 a0_3,.int .i64 a0_4,.string a0_5,.string a0_6]) (t:= 45) ?hr ?_;(case hd=>rfl);(case hg=>rfl);(case hr=>exact vz);intro gb623 hg w25 hbox hb;have BK623:= am (hbox);have GW623:= am ((by rw [hg];exact (below_size (bz0 HB.out)) : w.heap.size <= gb623));have GE623:= GW623;replace HB:= bs (bz0 HB.out) hb;clear hb hbox hg) | ((with_reducible refine gate_dst (N:= 3) rfl ?_);refine box_event ?hg (N:= 3) ?hd (cs:= #[.int .i64 a1_0,.int .i64 a1_1,.int .i64 a1_2,.int .i64 a1_3,.int .i64 a1_4,.string a1_5,.string a1_6]) (t:= 45) ?hr ?_;(case hd=>rfl);(case hg=>rfl);(case hr=>exact vz);intro gb624 hg w26 hbox hb;have BK624:= am (hbox);have GW624:= am ((by rw [hg];exact (below_size (bz1 HB.out GE623.out)) : w.heap.size <= gb624));have GE624:= GW624;replace HB:= bs (bz1 HB.out GE623.out) hb;have NB623_624:= am ((by rw [hg];exact Nat.ne_of_lt (blk_lt (kz BK623.out)) : gb623 ≠ gb624));have NB624_623:= am ((by rw [hg];exact Nat.ne_of_gt (blk_lt (kz BK623.out)) : gb624 ≠ gb623));replace BK623:= kb BK623 hb;clear hb hbox hg;have hnb27:= NB623_624.out;have hnc27:= NB624_623.out;obtain ⟨hcz28_0,hcz28_1,hcz28_2,hcz28_3,hcz28_4,hcz28_5,hcz28_6⟩:= cz7 BK623.out;obtain ⟨hfz28_0,hfz28_1,hfz28_2,hfz28_3,hfz28_4,hfz28_5,hfz28_6⟩:= fz7 BK623.out;obtain ⟨hcz29_0,hcz29_1,hcz29_2,hcz29_3,hcz29_4,hcz29_5,hcz29_6⟩:= cz7 BK624.out;obtain ⟨hfz29_0,hfz29_1,hfz29_2,hfz29_3,hfz29_4,hfz29_5,hfz29_6⟩:= fz7 BK624.out))
      go_ret
      exact ⟨gz,(bz2 HB.out GE623.out GE624.out)⟩
    ·rw [if_neg c6] at H
     have c6b0 : (a0_3 == a1_3) = false:= beq_eq_false_iff_ne.mpr c6
     have c6b1 : (a0_3 != a1_3) = true:= bne_iff_ne.mpr c6
     obtain rfl:= Option.some.inj H
     go_enter Tryz.func36,Tryz.ntmps36
     go_wp2_with (first | ((with_reducible refine gate_dst (N:= 2) rfl ?_);refine box_event ?hg (N:= 2) ?hd (cs:= #[.int .i64 a0_0,.int .i64 a0_1,.int .i64 a0_2,.int .i64 a0_3,.int .i64 a0_4,.string a0_5,.string a0_6]) (t:= 45) ?hr ?_;(case hd=>rfl);(case hg=>rfl);(case hr=>exact vz);intro gb623 hg w30 hbox hb;have BK623:= am (hbox);have GW623:= am ((by rw [hg];exact (below_size (bz0 HB.out)) : w.heap.size <= gb623));have GE623:= GW623;replace HB:= bs (bz0 HB.out) hb;clear hb hbox hg) | ((with_reducible refine gate_dst (N:= 3) rfl ?_);refine box_event ?hg (N:= 3) ?hd (cs:= #[.int .i64 a1_0,.int .i64 a1_1,.int .i64 a1_2,.int .i64 a1_3,.int .i64 a1_4,.string a1_5,.string a1_6]) (t:= 45) ?hr ?_;(case hd=>rfl);(case hg=>rfl);(case hr=>exact vz);intro gb624 hg w31 hbox hb;have BK624:= am (hbox);have GW624:= am ((by rw [hg];exact (below_size (bz1 HB.out GE623.out)) : w.heap.size <= gb624));have GE624:= GW624;replace HB:= bs (bz1 HB.out GE623.out) hb;have NB623_624:= am ((by rw [hg];exact Nat.ne_of_lt (blk_lt (kz BK623.out)) : gb623 ≠ gb624));have NB624_623:= am ((by rw [hg];exact Nat.ne_of_gt (blk_lt (kz BK623.out)) : gb624 ≠ gb623));replace BK623:= kb BK623 hb;clear hb hbox hg;have hnb32:= NB623_624.out;have hnc32:= NB624_623.out;obtain ⟨hcz33_0,hcz33_1,hcz33_2,hcz33_3,hcz33_4,hcz33_5,hcz33_6⟩:= cz7 BK623.out;obtain ⟨hfz33_0,hfz33_1,hfz33_2,hfz33_3,hfz33_4,hfz33_5,hfz33_6⟩:= fz7 BK623.out;obtain ⟨hcz34_0,hcz34_1,hcz34_2,hcz34_3,hcz34_4,hcz34_5,hcz34_6⟩:= cz7 BK624.out;obtain ⟨hfz34_0,hfz34_1,hfz34_2,hfz34_3,hfz34_4,hfz34_5,hfz34_6⟩:= fz7 BK624.out))
     go_ret
     exact ⟨gz,(bz2 HB.out GE623.out GE624.out)⟩
   ·rw [if_neg c5] at H
    have c5b0 : (a0_2 == a1_2) = false:= beq_eq_false_iff_ne.mpr c5
    have c5b1 : (a0_2 != a1_2) = true:= bne_iff_ne.mpr c5
    obtain rfl:= Option.some.inj H
    go_enter Tryz.func36,Tryz.ntmps36
    go_wp2_with (first | ((with_reducible refine gate_dst (N:= 2) rfl ?_);refine box_event ?hg (N:= 2) ?hd (cs:= #[.int .i64 a0_0,.int .i64 a0_1,.int .i64 a0_2,.int .i64 a0_3,.int .i64 a0_4,.string a0_5,.string a0_6]) (t:= 45) ?hr ?_;(case hd=>rfl);(case hg=>rfl);(case hr=>exact vz);intro gb623 hg w35 hbox hb;have BK623:= am (hbox);have GW623:= am ((by rw [hg];exact (below_size (bz0 HB.out)) : w.heap.size <= gb623));have GE623:= GW623;replace HB:= bs (bz0 HB.out) hb;clear hb hbox hg) | ((with_reducible refine gate_dst (N:= 3) rfl ?_);refine box_event ?hg (N:= 3) ?hd (cs:= #[.int .i64 a1_0,.int .i64 a1_1,.int .i64 a1_2,.int .i64 a1_3,.int .i64 a1_4,.string a1_5,.string a1_6]) (t:= 45) ?hr ?_;(case hd=>rfl);(case hg=>rfl);(case hr=>exact vz);intro gb624 hg w36 hbox hb;have BK624:= am (hbox);have GW624:= am ((by rw [hg];exact (below_size (bz1 HB.out GE623.out)) : w.heap.size <= gb624));have GE624:= GW624;replace HB:= bs (bz1 HB.out GE623.out) hb;have NB623_624:= am ((by rw [hg];exact Nat.ne_of_lt (blk_lt (kz BK623.out)) : gb623 ≠ gb624));have NB624_623:= am ((by rw [hg];exact Nat.ne_of_gt (blk_lt (kz BK623.out)) : gb624 ≠ gb623));replace BK623:= kb BK623 hb;clear hb hbox hg;have hnb37:= NB623_624.out;have hnc37:= NB624_623.out;obtain ⟨hcz38_0,hcz38_1,hcz38_2,hcz38_3,hcz38_4,hcz38_5,hcz38_6⟩:= cz7 BK623.out;obtain ⟨hfz38_0,hfz38_1,hfz38_2,hfz38_3,hfz38_4,hfz38_5,hfz38_6⟩:= fz7 BK623.out;obtain ⟨hcz39_0,hcz39_1,hcz39_2,hcz39_3,hcz39_4,hcz39_5,hcz39_6⟩:= cz7 BK624.out;obtain ⟨hfz39_0,hfz39_1,hfz39_2,hfz39_3,hfz39_4,hfz39_5,hfz39_6⟩:= fz7 BK624.out))
    go_ret
    exact ⟨gz,(bz2 HB.out GE623.out GE624.out)⟩
  ·rw [if_neg c4] at H
   have c4b0 : (a0_1 == a1_1) = false:= beq_eq_false_iff_ne.mpr c4
   have c4b1 : (a0_1 != a1_1) = true:= bne_iff_ne.mpr c4
   obtain rfl:= Option.some.inj H
   go_enter Tryz.func36,Tryz.ntmps36
   go_wp2_with (first | ((with_reducible refine gate_dst (N:= 2) rfl ?_);refine box_event ?hg (N:= 2) ?hd (cs:= #[.int .i64 a0_0,.int .i64 a0_1,.int .i64 a0_2,.int .i64 a0_3,.int .i64 a0_4,.string a0_5,.string a0_6]) (t:= 45) ?hr ?_;(case hd=>rfl);(case hg=>rfl);(case hr=>exact vz);intro gb623 hg w40 hbox hb;have BK623:= am (hbox);have GW623:= am ((by rw [hg];exact (below_size (bz0 HB.out)) : w.heap.size <= gb623));have GE623:= GW623;replace HB:= bs (bz0 HB.out) hb;clear hb hbox hg) | ((with_reducible refine gate_dst (N:= 3) rfl ?_);refine box_event ?hg (N:= 3) ?hd (cs:= #[.int .i64 a1_0,.int .i64 a1_1,.int .i64 a1_2,.int .i64 a1_3,.int .i64 a1_4,.string a1_5,.string a1_6]) (t:= 45) ?hr ?_;(case hd=>rfl);(case hg=>rfl);(case hr=>exact vz);intro gb624 hg w41 hbox hb;have BK624:= am (hbox);have GW624:= am ((by rw [hg];exact (below_size (bz1 HB.out GE623.out)) : w.heap.size <= gb624));have GE624:= GW624;replace HB:= bs (bz1 HB.out GE623.out) hb;have NB623_624:= am ((by rw [hg];exact Nat.ne_of_lt (blk_lt (kz BK623.out)) : gb623 ≠ gb624));have NB624_623:= am ((by rw [hg];exact Nat.ne_of_gt (blk_lt (kz BK623.out)) : gb624 ≠ gb623));replace BK623:= kb BK623 hb;clear hb hbox hg;have hnb42:= NB623_624.out;have hnc42:= NB624_623.out;obtain ⟨hcz43_0,hcz43_1,hcz43_2,hcz43_3,hcz43_4,hcz43_5,hcz43_6⟩:= cz7 BK623.out;obtain ⟨hfz43_0,hfz43_1,hfz43_2,hfz43_3,hfz43_4,hfz43_5,hfz43_6⟩:= fz7 BK623.out;obtain ⟨hcz44_0,hcz44_1,hcz44_2,hcz44_3,hcz44_4,hcz44_5,hcz44_6⟩:= cz7 BK624.out;obtain ⟨hfz44_0,hfz44_1,hfz44_2,hfz44_3,hfz44_4,hfz44_5,hfz44_6⟩:= fz7 BK624.out))
   go_ret
   exact ⟨gz,(bz2 HB.out GE623.out GE624.out)⟩
 ·rw [if_neg c3] at H
  have c3b0 : (a0_0 == a1_0) = false:= beq_eq_false_iff_ne.mpr c3
  have c3b1 : (a0_0 != a1_0) = true:= bne_iff_ne.mpr c3
  obtain rfl:= Option.some.inj H
  go_enter Tryz.func36,Tryz.ntmps36
  go_wp2_with (first | ((with_reducible refine gate_dst (N:= 2) rfl ?_);refine box_event ?hg (N:= 2) ?hd (cs:= #[.int .i64 a0_0,.int .i64 a0_1,.int .i64 a0_2,.int .i64 a0_3,.int .i64 a0_4,.string a0_5,.string a0_6]) (t:= 45) ?hr ?_;(case hd=>rfl);(case hg=>rfl);(case hr=>exact vz);intro gb623 hg w45 hbox hb;have BK623:= am (hbox);have GW623:= am ((by rw [hg];exact (below_size (bz0 HB.out)) : w.heap.size <= gb623));have GE623:= GW623;replace HB:= bs (bz0 HB.out) hb;clear hb hbox hg) | ((with_reducible refine gate_dst (N:= 3) rfl ?_);refine box_event ?hg (N:= 3) ?hd (cs:= #[.int .i64 a1_0,.int .i64 a1_1,.int .i64 a1_2,.int .i64 a1_3,.int .i64 a1_4,.string a1_5,.string a1_6]) (t:= 45) ?hr ?_;(case hd=>rfl);(case hg=>rfl);(case hr=>exact vz);intro gb624 hg w46 hbox hb;have BK624:= am (hbox);have GW624:= am ((by rw [hg];exact (below_size (bz1 HB.out GE623.out)) : w.heap.size <= gb624));have GE624:= GW624;replace HB:= bs (bz1 HB.out GE623.out) hb;have NB623_624:= am ((by rw [hg];exact Nat.ne_of_lt (blk_lt (kz BK623.out)) : gb623 ≠ gb624));have NB624_623:= am ((by rw [hg];exact Nat.ne_of_gt (blk_lt (kz BK623.out)) : gb624 ≠ gb623));replace BK623:= kb BK623 hb;clear hb hbox hg;have hnb47:= NB623_624.out;have hnc47:= NB624_623.out;obtain ⟨hcz48_0,hcz48_1,hcz48_2,hcz48_3,hcz48_4,hcz48_5,hcz48_6⟩:= cz7 BK623.out;obtain ⟨hfz48_0,hfz48_1,hfz48_2,hfz48_3,hfz48_4,hfz48_5,hfz48_6⟩:= fz7 BK623.out;obtain ⟨hcz49_0,hcz49_1,hcz49_2,hcz49_3,hcz49_4,hcz49_5,hcz49_6⟩:= cz7 BK624.out;obtain ⟨hfz49_0,hfz49_1,hfz49_2,hfz49_3,hfz49_4,hfz49_5,hfz49_6⟩:= fz7 BK624.out))
  go_ret
  exact ⟨gz,(bz2 HB.out GE623.out GE624.out)⟩
def laws_eqNodeS.l0 : Nat -> List (S45) -> List (S45) -> Int -> Option (Bool)
 | 0,_,_,_=>none
 | k + 1,x0,x1,x5=>if x5 < (x0.length : Int) then (if 0 <= x5 then (if x5 < (x1.length : Int) then ((laws_eqNode.f ((rd_T45 x0 x5).f0) ((rd_T45 x0 x5).f1) ((rd_T45 x0 x5).f2) ((rd_T45 x0 x5).f3) ((rd_T45 x0 x5).f4) ((rd_T45 x0 x5).f5) ((rd_T45 x0 x5).f6) ((rd_T45 x1 x5).f0) ((rd_T45 x1 x5).f1) ((rd_T45 x1 x5).f2) ((rd_T45 x1 x5).f3) ((rd_T45 x1 x5).f4) ((rd_T45 x1 x5).f5) ((rd_T45 x1 x5).f6)).bind fun t627=>(if t627 = true then (laws_eqNodeS.l0 k x0 x1 (wrap64 (x5 + 1))) else (some false))) else (none)) else (none)) else (some true)
def laws_eqNodeS.f (k : Nat) (l0 : List (S45)) (l1 : List (S45)) : Option (Bool):= if (l0.length : Int) = (l1.length : Int) then (laws_eqNodeS.l0 k l0 l1 0) else (some false)
theorem laws_eqNodeS.mono_l : ∀ k,(∀ y0 y1 y2,LeO (laws_eqNodeS.l0 k y0 y1 y2) (laws_eqNodeS.l0 (k + 1) y0 y1 y2))
 | 0=>fun _ _ _ r h=>by simp [laws_eqNodeS.l0] at h
 | k + 1=>by
  have ih0:= laws_eqNodeS.mono_l k
  ·intro y0 y1 y2
   unfold laws_eqNodeS.l0
   with_reducible repeat' first | exact ih0 _ _ _ | exact lrz _ | exact lnz _ | refine liz ?_ ?_ | refine lbz ?_ fun _=>?_
theorem laws_eqNodeS.mono : ∀ a0 a1 k,LeO (laws_eqNodeS.f k a0 a1) (laws_eqNodeS.f (k + 1) a0 a1):= by
 intro a0 a1 k
 have ih0:= laws_eqNodeS.mono_l k
 unfold laws_eqNodeS.f
 with_reducible repeat' first | exact ih0 _ _ _ | exact lrz _ | exact lnz _ | refine liz ?_ ?_ | refine lbz ?_ fun _=>?_
def laws_eqNodeS.T6 : Bool × List (List Nat × List Nat):= (true,[([],[]),([],[]),([0,1],[0,1]),([2],[2]),([],[]),([],[]),([4,5],[4,5]),([6],[6]),([3,7],[3,7]),([8],[8])])
def laws_eqNodeS.B6 : List Nat:= [0,0,3,7,0,0,48,112,255,511]
theorem laws_eqNodeS.tab6 : rtab .any (opsOf Tryz.f10 6) = laws_eqNodeS.T6:= by kernel_rfl
theorem laws_eqNodeS.bits6 : waitsOk laws_eqNodeS.T6.2 laws_eqNodeS.B6 = true:= by kernel_rfl
set_option maxHeartbeats 8000000 in
set_option maxRecDepth 100000 in
theorem laws_eqNodeS.calls (k : Nat) (A0 : Option Addr) (c0 : Nat) (l0 : List (S45)) (A1 : Option Addr) (c1 : Nat) (l1 : List (S45)) (r : Bool) (w : World) (hr0 : Kd.C k45 w A0 l0.length l0) (hc0 : l0.length <= c0) (hr1 : Kd.C k45 w A1 l1.length l1) (hc1 : l1.length <= c1) (h : laws_eqNodeS.f k l0 l1 = some r) :
  Calls Tryz.prog 10 #[.slice A0 l0.length c0,.slice A1 l1.length c1] w fun e w'=>e = .returned (.bool r) /\ Below w.heap.size w w':= by
 have hu45:= Tryz.underlying45
 have HR0:= am hr0
 have HC0:= am hc0
 clear hr0 hc0
 have HR1:= am hr1
 have HC1:= am hc1
 clear hr1 hc1
 have HB:= am (Below.refl w.heap.size w)
 have H : (if (l0.length : Int) = (l1.length : Int) then (laws_eqNodeS.l0 k l0 l1 0) else (some false)) = some r:= h
 clear h
 by_cases c3 : (l0.length : Int) = (l1.length : Int)
 ·rw [if_pos c3] at H
  have c3b0 : ((l0.length : Int) == (l1.length : Int)) = true:= beq_iff_eq.mpr c3
  have c3b1 : ((l0.length : Int) != (l1.length : Int)) = false:= bne_eq_false_iff_eq.mpr c3
  have c3b2 : (l0.length == l1.length) = true:= by first | simpa using c3 | (simp at c3 ⊢;omega)
  clear c3
  have H':= am H
  clear H
  go_enter Tryz.func10,Tryz.ntmps10
  go_wp2
  go_loopg [5] k (fun kq v5 w'=>∃ (x5_1 : Int),v5 = .int .i64 x5_1 /\ Aside0 (laws_eqNodeS.l0 kq l0 l1 x5_1 = some r) /\ Aside0 (kq <= k) /\ Aside0 (Below w.heap.size w w'))
  case atStart=>exact ⟨(0),ez,H',⟨Nat.le_refl _⟩,⟨(bz0 HB.out)⟩⟩
  case round =>
   clear H'
   try clear c1
   try clear p2
   try clear c3
   try clear c3b0
   try clear c3b1
   try clear c3b2
   obtain ⟨x5_1,rfl,HA,HK1,HB⟩:= hrel
   cases gk with
   | zero=>exact absurd HA.out (by simp [laws_eqNodeS.l0])
   | succ k1 =>
    have H:= HA.out
    clear HA
    simp only [laws_eqNodeS.l0] at H
    by_cases c4 : x5_1 < (l0.length : Int)
    ·rw [if_pos c4] at H
     have c4b0:= decide_eq_true c4
     clear c4
     replace H:= iz H
     obtain ⟨c5,H⟩:= H
     have c5b0:= decide_eq_true c5
     clear c5
     replace H:= iz H
     obtain ⟨c6,H⟩:= H
     have c6b0:= decide_eq_true c6
     clear c6
     replace H:= bi H
     obtain ⟨t627,A70,H⟩:= H
     try dsimp only at H
     have A7:= am A70
     clear A70
     by_cases c8 : t627 = true
     ·subst c8
      have H1:= hp H
      clear H
      have H:= H1
      clear H1
      have H':= am H
      clear H
      try go_wp2
      have n0_:= am (below_drew1 HB.out)
      clear HB
      have HB:= n0_
      clear n0_
      have p625 : 0 <= (x5_1 : Int):= oz
      have q625 : x5_1 < (l0.length : Int):= oz
      obtain ⟨ad625,e625,hx625_0,hx625_1,hx625_2,hx625_3,hx625_4,hx625_5,hx625_6⟩:= at_T45 HR0.out x5_1 p625 q625
      have hw625_6:= hx625_6
      have hw625_5:= hx625_5
      have hw625_4:= hx625_4
      have hw625_3:= hx625_3
      have hw625_2:= hx625_2
      have hw625_1:= hx625_1
      have hw625_0:= hx625_0
      cases e625
      replace hx625_0:= hz HB.out hx625_0
      replace hx625_1:= hz HB.out hx625_1
      replace hx625_2:= hz HB.out hx625_2
      replace hx625_3:= hz HB.out hx625_3
      replace hx625_4:= hz HB.out hx625_4
      replace hx625_5:= hz HB.out hx625_5
      replace hx625_6:= hz HB.out hx625_6
      replace p625:= eq_true p625
      replace q625:= eq_true q625
      have p626 : 0 <= (x5_1 : Int):= oz
      have q626 : x5_1 < (l1.length : Int):= oz
      obtain ⟨ad626,e626,hx626_0,hx626_1,hx626_2,hx626_3,hx626_4,hx626_5,hx626_6⟩:= at_T45 HR1.out x5_1 p626 q626
      have hw626_6:= hx626_6
      have hw626_5:= hx626_5
      have hw626_4:= hx626_4
      have hw626_3:= hx626_3
      have hw626_2:= hx626_2
      have hw626_1:= hx626_1
      have hw626_0:= hx626_0
      cases e626
      replace hx626_0:= hz HB.out hx626_0
      replace hx626_1:= hz HB.out hx626_1
      replace hx626_2:= hz HB.out hx626_2
      replace hx626_3:= hz HB.out hx626_3
      replace hx626_4:= hz HB.out hx626_4
      replace hx626_5:= hz HB.out hx626_5
      replace hx626_6:= hz HB.out hx626_6
      replace p626:= eq_true p626
      replace q626:= eq_true q626
      refine start_ (n:= 10) (S:= fun w'=>w'.cell? (ad625.add ((x5_1).toNat * 7)) = some (.int .i64 ((rd_T45 l0 x5_1).f0)) /\ w'.cell? ⟨(ad625.add ((x5_1).toNat * 7)).block,(ad625.add ((x5_1).toNat * 7)).off + 1,none⟩ = some (.int .i64 ((rd_T45 l0 x5_1).f1)) /\ w'.cell? ⟨(ad625.add ((x5_1).toNat * 7)).block,(ad625.add ((x5_1).toNat * 7)).off + 2,none⟩ = some (.int .i64 ((rd_T45 l0 x5_1).f2)) /\ w'.cell? ⟨(ad625.add ((x5_1).toNat * 7)).block,(ad625.add ((x5_1).toNat * 7)).off + 3,none⟩ = some (.int .i64 ((rd_T45 l0 x5_1).f3)) /\ w'.cell? ⟨(ad625.add ((x5_1).toNat * 7)).block,(ad625.add ((x5_1).toNat * 7)).off + 4,none⟩ = some (.int .i64 ((rd_T45 l0 x5_1).f4)) /\ w'.cell? ⟨(ad625.add ((x5_1).toNat * 7)).block,(ad625.add ((x5_1).toNat * 7)).off + 5,none⟩ = some (.string ((rd_T45 l0 x5_1).f5)) /\ w'.cell? ⟨(ad625.add ((x5_1).toNat * 7)).block,(ad625.add ((x5_1).toNat * 7)).off + 6,none⟩ = some (.string ((rd_T45 l0 x5_1).f6)) /\ w'.cell? (ad626.add ((x5_1).toNat * 7)) = some (.int .i64 ((rd_T45 l1 x5_1).f0)) /\ w'.cell? ⟨(ad626.add ((x5_1).toNat * 7)).block,(ad626.add ((x5_1).toNat * 7)).off + 1,none⟩ = some (.int .i64 ((rd_T45 l1 x5_1).f1)) /\ w'.cell? ⟨(ad626.add ((x5_1).toNat * 7)).block,(ad626.add ((x5_1).toNat * 7)).off + 2,none⟩ = some (.int .i64 ((rd_T45 l1 x5_1).f2)) /\ w'.cell? ⟨(ad626.add ((x5_1).toNat * 7)).block,(ad626.add ((x5_1).toNat * 7)).off + 3,none⟩ = some (.int .i64 ((rd_T45 l1 x5_1).f3)) /\ w'.cell? ⟨(ad626.add ((x5_1).toNat * 7)).block,(ad626.add ((x5_1).toNat * 7)).off + 4,none⟩ = some (.int .i64 ((rd_T45 l1 x5_1).f4)) /\ w'.cell? ⟨(ad626.add ((x5_1).toNat * 7)).block,(ad626.add ((x5_1).toNat * 7)).off + 5,none⟩ = some (.string ((rd_T45 l1 x5_1).f5)) /\ w'.cell? ⟨(ad626.add ((x5_1).toNat * 7)).block,(ad626.add ((x5_1).toNat * 7)).off + 6,none⟩ = some (.string ((rd_T45 l1 x5_1).f6))) (ds:= []) (mk_ 0 10) kr rfl rfl ⟨(hz HB.out hw625_0 :),(hz HB.out hw625_1 :),(hz HB.out hw625_2 :),(hz HB.out hw625_3 :),(hz HB.out hw625_4 :),(hz HB.out hw625_5 :),(hz HB.out hw625_6 :),(hz HB.out hw626_0 :),(hz HB.out hw626_1 :),(hz HB.out hw626_2 :),(hz HB.out hw626_3 :),(hz HB.out hw626_4 :),(hz HB.out hw626_5 :),(hz HB.out hw626_6 :)⟩ (fun hHeld=>?_);refine with_tabW laws_eqNodeS.tab6 laws_eqNodeS.bits6 (fun HT_ HW_=>?_)
      generalize wr.drew = w9 at HB hx625_0 hx625_1 hx625_2 hx625_3 hx625_4 hx625_5 hx625_6 hx626_0 hx626_1 hx626_2 hx626_3 hx626_4 hx626_5 hx626_6 hHeld ⊢
      refine pv 0 17 (mk_ 1 9) HT_ rfl rfl ?_
      refine pv 1 18 (mk_ 2 8) HT_ rfl rfl ?_
      refine pv 2 19 (mk_ 3 7) HT_ rfl rfl ?_
      refine pv 4 21 (bm_ 10 23) HT_ rfl rfl ?_
      refine pv 5 22 (bm_ 10 55) HT_ rfl rfl ?_
      refine pv 6 23 (bm_ 10 119) HT_ rfl rfl ?_
      refine tv14 3 20 (mk_ 7 3) HT_ HW_ rfl rfl hHeld ?_
      refine tv14 7 24 (mk_ 8 2) HT_ HW_ rfl rfl hHeld ?_
      refine one_ (i:= 8) (N:= some 25) (mk_ 9 1) rfl rfl (one_of HT_.out kr) (by decide) (fun K hK=>?_)
      refine goes_ Tryz.func36 kr rfl #[.agg #[.int .i64 ((rd_T45 l0 x5_1).f0),.int .i64 ((rd_T45 l0 x5_1).f1),.int .i64 ((rd_T45 l0 x5_1).f2),.int .i64 ((rd_T45 l0 x5_1).f3),.int .i64 ((rd_T45 l0 x5_1).f4),.string ((rd_T45 l0 x5_1).f5),.string ((rd_T45 l0 x5_1).f6)],.agg #[.int .i64 ((rd_T45 l1 x5_1).f0),.int .i64 ((rd_T45 l1 x5_1).f1),.int .i64 ((rd_T45 l1 x5_1).f2),.int .i64 ((rd_T45 l1 x5_1).f3),.int .i64 ((rd_T45 l1 x5_1).f4),.string ((rd_T45 l1 x5_1).f5),.string ((rd_T45 l1 x5_1).f6)]] (by rfl) rfl rfl lz ?_
      with_reducible refine (laws_eqNode.calls ((rd_T45 l0 x5_1).f0) ((rd_T45 l0 x5_1).f1) ((rd_T45 l0 x5_1).f2) ((rd_T45 l0 x5_1).f3) ((rd_T45 l0 x5_1).f4) ((rd_T45 l0 x5_1).f5) ((rd_T45 l0 x5_1).f6) ((rd_T45 l1 x5_1).f0) ((rd_T45 l1 x5_1).f1) ((rd_T45 l1 x5_1).f2) ((rd_T45 l1 x5_1).f3) ((rd_T45 l1 x5_1).f4) ((rd_T45 l1 x5_1).f5) ((rd_T45 l1 x5_1).f6) true _ A7.out).mono ?_
      rintro e w10 ⟨rfl,hb⟩
      refine ⟨_,rfl,?_⟩
      have n0_:= am (below_step (bz0 HB.out) hb)
      clear HB
      have HB:= n0_
      clear n0_
      (try clear hb)
      (try clear hb2)
      (try clear hk)
      (try clear hi)
      refine hK.out _ _ ⟨(hz HB.out hw625_0 :),(hz HB.out hw625_1 :),(hz HB.out hw625_2 :),(hz HB.out hw625_3 :),(hz HB.out hw625_4 :),(hz HB.out hw625_5 :),(hz HB.out hw625_6 :),(hz HB.out hw626_0 :),(hz HB.out hw626_1 :),(hz HB.out hw626_2 :),(hz HB.out hw626_3 :),(hz HB.out hw626_4 :),(hz HB.out hw626_5 :),(hz HB.out hw626_6 :)⟩ (fun hHeld=>?_)
      clear hK K
      refine norm_ (a':= ?_) ?_ ?_
      rotate_left
      ·show Act.put _ (some 25) _ = _
       simp only [Act.put,sz1,sz2,sz3,i64_w,i32_w]
       rfl
      refine pv 9 26 (mk_ 10 0) HT_ rfl rfl ?_
      refine done_ (done_of HT_.out kr) ?_
      try go_wp2
      go_roundg k1
      case measure=>have:= HK1.out;omega
      case rel=>exact ⟨(wrap64 (x5_1 + 1)),ez,H',⟨by have:= HK1.out;omega⟩,⟨(bz0 HB.out)⟩⟩
     ·replace c8:= Bool.eq_false_iff.mpr c8
      subst c8
      have H1:= hq H
      clear H
      have H:= H1
      clear H1
      obtain rfl:= Option.some.inj H
      try go_wp2
      have n0_:= am (below_drew1 HB.out)
      clear HB
      have HB:= n0_
      clear n0_
      have p625 : 0 <= (x5_1 : Int):= oz
      have q625 : x5_1 < (l0.length : Int):= oz
      obtain ⟨ad625,e625,hx625_0,hx625_1,hx625_2,hx625_3,hx625_4,hx625_5,hx625_6⟩:= at_T45 HR0.out x5_1 p625 q625
      have hw625_6:= hx625_6
      have hw625_5:= hx625_5
      have hw625_4:= hx625_4
      have hw625_3:= hx625_3
      have hw625_2:= hx625_2
      have hw625_1:= hx625_1
      have hw625_0:= hx625_0
      cases e625
      replace hx625_0:= hz HB.out hx625_0
      replace hx625_1:= hz HB.out hx625_1
      replace hx625_2:= hz HB.out hx625_2
      replace hx625_3:= hz HB.out hx625_3
      replace hx625_4:= hz HB.out hx625_4
      replace hx625_5:= hz HB.out hx625_5
      replace hx625_6:= hz HB.out hx625_6
      replace p625:= eq_true p625
      replace q625:= eq_true q625
      have p626 : 0 <= (x5_1 : Int):= oz
      have q626 : x5_1 < (l1.length : Int):= oz
      obtain ⟨ad626,e626,hx626_0,hx626_1,hx626_2,hx626_3,hx626_4,hx626_5,hx626_6⟩:= at_T45 HR1.out x5_1 p626 q626
      have hw626_6:= hx626_6
      have hw626_5:= hx626_5
      have hw626_4:= hx626_4
      have hw626_3:= hx626_3
      have hw626_2:= hx626_2
      have hw626_1:= hx626_1
      have hw626_0:= hx626_0
      cases e626
      replace hx626_0:= hz HB.out hx626_0
      replace hx626_1:= hz HB.out hx626_1
      replace hx626_2:= hz HB.out hx626_2
      replace hx626_3:= hz HB.out hx626_3
      replace hx626_4:= hz HB.out hx626_4
      replace hx626_5:= hz HB.out hx626_5
      replace hx626_6:= hz HB.out hx626_6
      replace p626:= eq_true p626
      replace q626:= eq_true q626
      refine start_ (n:= 10) (S:= fun w'=>w'.cell? (ad625.add ((x5_1).toNat * 7)) = some (.int .i64 ((rd_T45 l0 x5_1).f0)) /\ w'.cell? ⟨(ad625.add ((x5_1).toNat * 7)).block,(ad625.add ((x5_1).toNat * 7)).off + 1,none⟩ = some (.int .i64 ((rd_T45 l0 x5_1).f1)) /\ w'.cell? ⟨(ad625.add ((x5_1).toNat * 7)).block,(ad625.add ((x5_1).toNat * 7)).off + 2,none⟩ = some (.int .i64 ((rd_T45 l0 x5_1).f2)) /\ w'.cell? ⟨(ad625.add ((x5_1).toNat * 7)).block,(ad625.add ((x5_1).toNat * 7)).off + 3,none⟩ = some (.int .i64 ((rd_T45 l0 x5_1).f3)) /\ w'.cell? ⟨(ad625.add ((x5_1).toNat * 7)).block,(ad625.add ((x5_1).toNat * 7)).off + 4,none⟩ = some (.int .i64 ((rd_T45 l0 x5_1).f4)) /\ w'.cell? ⟨(ad625.add ((x5_1).toNat * 7)).block,(ad625.add ((x5_1).toNat * 7)).off + 5,none⟩ = some (.string ((rd_T45 l0 x5_1).f5)) /\ w'.cell? ⟨(ad625.add ((x5_1).toNat * 7)).block,(ad625.add ((x5_1).toNat * 7)).off + 6,none⟩ = some (.string ((rd_T45 l0 x5_1).f6)) /\ w'.cell? (ad626.add ((x5_1).toNat * 7)) = some (.int .i64 ((rd_T45 l1 x5_1).f0)) /\ w'.cell? ⟨(ad626.add ((x5_1).toNat * 7)).block,(ad626.add ((x5_1).toNat * 7)).off + 1,none⟩ = some (.int .i64 ((rd_T45 l1 x5_1).f1)) /\ w'.cell? ⟨(ad626.add ((x5_1).toNat * 7)).block,(ad626.add ((x5_1).toNat * 7)).off + 2,none⟩ = some (.int .i64 ((rd_T45 l1 x5_1).f2)) /\ w'.cell? ⟨(ad626.add ((x5_1).toNat * 7)).block,(ad626.add ((x5_1).toNat * 7)).off + 3,none⟩ = some (.int .i64 ((rd_T45 l1 x5_1).f3)) /\ w'.cell? ⟨(ad626.add ((x5_1).toNat * 7)).block,(ad626.add ((x5_1).toNat * 7)).off + 4,none⟩ = some (.int .i64 ((rd_T45 l1 x5_1).f4)) /\ w'.cell? ⟨(ad626.add ((x5_1).toNat * 7)).block,(ad626.add ((x5_1).toNat * 7)).off + 5,none⟩ = some (.string ((rd_T45 l1 x5_1).f5)) /\ w'.cell? ⟨(ad626.add ((x5_1).toNat * 7)).block,(ad626.add ((x5_1).toNat * 7)).off + 6,none⟩ = some (.string ((rd_T45 l1 x5_1).f6))) (ds:= []) (mk_ 0 10) kr rfl rfl ⟨(hz HB.out hw625_0 :),(hz HB.out hw625_1 :),(hz HB.out hw625_2 :),(hz HB.out hw625_3 :),(hz HB.out hw625_4 :),(hz HB.out hw625_5 :),(hz HB.out hw625_6 :),(hz HB.out hw626_0 :),(hz HB.out hw626_1 :),(hz HB.out hw626_2 :),(hz HB.out hw626_3 :),(hz HB.out hw626_4 :),(hz HB.out hw626_5 :),(hz HB.out hw626_6 :)⟩ (fun hHeld=>?_);refine with_tabW laws_eqNodeS.tab6 laws_eqNodeS.bits6 (fun HT_ HW_=>?_)
      generalize wr.drew = w11 at HB hx625_0 hx625_1 hx625_2 hx625_3 hx625_4 hx625_5 hx625_6 hx626_0 hx626_1 hx626_2 hx626_3 hx626_4 hx626_5 hx626_6 hHeld ⊢
      refine pv 0 17 (mk_ 1 9) HT_ rfl rfl ?_
      refine pv 1 18 (mk_ 2 8) HT_ rfl rfl ?_
      refine pv 2 19 (mk_ 3 7) HT_ rfl rfl ?_
      refine pv 4 21 (bm_ 10 23) HT_ rfl rfl ?_
      refine pv 5 22 (bm_ 10 55) HT_ rfl rfl ?_
      refine pv 6 23 (bm_ 10 119) HT_ rfl rfl ?_
      refine tv14 3 20 (mk_ 7 3) HT_ HW_ rfl rfl hHeld ?_
      refine tv14 7 24 (mk_ 8 2) HT_ HW_ rfl rfl hHeld ?_
      refine one_ (i:= 8) (N:= some 25) (mk_ 9 1) rfl rfl (one_of HT_.out kr) (by decide) (fun K hK=>?_)
      refine goes_ Tryz.func36 kr rfl #[.agg #[.int .i64 ((rd_T45 l0 x5_1).f0),.int .i64 ((rd_T45 l0 x5_1).f1),.int .i64 ((rd_T45 l0 x5_1).f2),.int .i64 ((rd_T45 l0 x5_1).f3),.int .i64 ((rd_T45 l0 x5_1).f4),.string ((rd_T45 l0 x5_1).f5),.string ((rd_T45 l0 x5_1).f6)],.agg #[.int .i64 ((rd_T45 l1 x5_1).f0),.int .i64 ((rd_T45 l1 x5_1).f1),.int .i64 ((rd_T45 l1 x5_1).f2),.int .i64 ((rd_T45 l1 x5_1).f3),.int .i64 ((rd_T45 l1 x5_1).f4),.string ((rd_T45 l1 x5_1).f5),.string ((rd_T45 l1 x5_1).f6)]] (by rfl) rfl rfl lz ?_
      with_reducible refine (laws_eqNode.calls ((rd_T45 l0 x5_1).f0) ((rd_T45 l0 x5_1).f1) ((rd_T45 l0 x5_1).f2) ((rd_T45 l0 x5_1).f3) ((rd_T45 l0 x5_1).f4) ((rd_T45 l0 x5_1).f5) ((rd_T45 l0 x5_1).f6) ((rd_T45 l1 x5_1).f0) ((rd_T45 l1 x5_1).f1) ((rd_T45 l1 x5_1).f2) ((rd_T45 l1 x5_1).f3) ((rd_T45 l1 x5_1).f4) ((rd_T45 l1 x5_1).f5) ((rd_T45 l1 x5_1).f6) false _ A7.out).mono ?_
      rintro e w12 ⟨rfl,hb⟩
      refine ⟨_,rfl,?_⟩
      have n0_:= am (below_step (bz0 HB.out) hb)
      clear HB
      have HB:= n0_
      clear n0_
      (try clear hb)
      (try clear hb2)
      (try clear hk)
      (try clear hi)
      refine hK.out _ _ ⟨(hz HB.out hw625_0 :),(hz HB.out hw625_1 :),(hz HB.out hw625_2 :),(hz HB.out hw625_3 :),(hz HB.out hw625_4 :),(hz HB.out hw625_5 :),(hz HB.out hw625_6 :),(hz HB.out hw626_0 :),(hz HB.out hw626_1 :),(hz HB.out hw626_2 :),(hz HB.out hw626_3 :),(hz HB.out hw626_4 :),(hz HB.out hw626_5 :),(hz HB.out hw626_6 :)⟩ (fun hHeld=>?_)
      clear hK K
      refine norm_ (a':= ?_) ?_ ?_
      rotate_left
      ·show Act.put _ (some 25) _ = _
       simp only [Act.put,sz1,sz2,sz3,i64_w,i32_w]
       rfl
      refine pv 9 26 (mk_ 10 0) HT_ rfl rfl ?_
      refine done_ (done_of HT_.out kr) ?_
      try go_wp2
      go_ret
      exact ⟨gz,(bz0 HB.out)⟩
    ·rw [if_neg c4] at H
     have c4b0:= decide_eq_false c4
     clear c4
     obtain rfl:= Option.some.inj H
     go_wp2
     go_ret
     exact ⟨gz,(bz0 HB.out)⟩
 ·rw [if_neg c3] at H
  have c3b0 : ((l0.length : Int) == (l1.length : Int)) = false:= beq_eq_false_iff_ne.mpr c3
  have c3b1 : ((l0.length : Int) != (l1.length : Int)) = true:= bne_iff_ne.mpr c3
  have c3b2 : (l0.length == l1.length) = false:= by first | simpa using c3 | (simp at c3 ⊢;omega)
  obtain rfl:= Option.some.inj H
  go_enter Tryz.func10,Tryz.ntmps10
  go_wp2
  go_ret
  exact ⟨gz,(bz0 HB.out)⟩
def laws_markText.l0 : Nat -> Int -> ByteArray -> Option (ByteArray)
 | 0,_,_=>none
 | k + 1,x0,x3=>if x0 > 0 then ((some (([(wrap64 (48 + (Int.tmod x0 10))) % 256] : List Int) : List Int)).bind fun y628=>(if (strOfNums y628).size + x3.size <= 9223372036854775807 then (laws_markText.l0 k (wrap64 (Int.tdiv x0 10)) ((strOfNums y628) ++ x3)) else (none))) else (if 1 + x3.size <= 9223372036854775807 then (some ((⟨#[109]⟩ : ByteArray) ++ x3)) else (none))
def laws_markText.f (k : Nat) (a0 : Int) : Option (ByteArray):= if a0 <= 0 then (some (⟨#[109,48]⟩ : ByteArray)) else (laws_markText.l0 k a0 (⟨#[]⟩ : ByteArray))
theorem laws_markText.mono_l : ∀ k,(∀ y0 y1,LeO (laws_markText.l0 k y0 y1) (laws_markText.l0 (k + 1) y0 y1))
 | 0=>fun _ _ r h=>by simp [laws_markText.l0] at h
 | k + 1=>by
  have ih0:= laws_markText.mono_l k
  ·intro y0 y1
   unfold laws_markText.l0
   with_reducible repeat' first | exact ih0 _ _ | exact lrz _ | exact lnz _ | refine liz ?_ ?_ | refine lbz ?_ fun _=>?_
theorem laws_markText.mono : ∀ a0 k,LeO (laws_markText.f k a0) (laws_markText.f (k + 1) a0):= by
 intro a0 k
 have ih0:= laws_markText.mono_l k
 unfold laws_markText.f
 with_reducible repeat' first | exact ih0 _ _ | exact lrz _ | exact lnz _ | refine liz ?_ ?_ | refine lbz ?_ fun _=>?_
set_option maxHeartbeats 8000000 in
set_option maxRecDepth 100000 in
theorem laws_markText.calls (k : Nat) (a0 : Int) (r : ByteArray) (w : World) (h : laws_markText.f k a0 = some r) :
  Calls Tryz.prog 37 #[.int .i64 a0] w fun e w'=>e = .returned (.string r) /\ Below w.heap.size w w':= by
 have HB:= am (Below.refl w.heap.size w)
 have H : (if a0 <= 0 then (some (⟨#[109,48]⟩ : ByteArray)) else (laws_markText.l0 k a0 (⟨#[]⟩ : ByteArray))) = some r:= h
 clear h
 by_cases c2 : a0 <= 0
 ·rw [if_pos c2] at H
  have c2b0:= decide_eq_true c2
  clear c2
  obtain rfl:= Option.some.inj H
  go_enter Tryz.func37,Tryz.ntmps37
  go_wp2
  go_ret
  exact ⟨gz,(bz0 HB.out)⟩
 ·rw [if_neg c2] at H
  have c2b0:= decide_eq_false c2
  clear c2
  have H':= am H
  clear H
  go_enter Tryz.func37,Tryz.ntmps37
  go_wp2
  go_loopg [0,3] k (fun kq v0 v3 w'=>∃ (x0_1 : Int) (x3_1 : ByteArray),v0 = .int .i64 x0_1 /\ v3 = .string x3_1 /\ Aside0 (laws_markText.l0 kq x0_1 x3_1 = some r) /\ Aside0 (kq <= k) /\ Aside0 (Below w.heap.size w w'))
  case atStart=>exact ⟨(a0),((⟨#[]⟩ : ByteArray)),ez,ez,H',⟨Nat.le_refl _⟩,⟨(bz0 HB.out)⟩⟩
  case round =>
   clear H'
   try clear c2
   try clear c2b0
   try clear p2
   obtain ⟨x0_1,x3_1,rfl,rfl,HA,HK1,HB⟩:= hrel
   cases gk with
   | zero=>exact absurd HA.out (by simp [laws_markText.l0])
   | succ k1 =>
    have H:= HA.out
    clear HA
    simp only [laws_markText.l0] at H
    by_cases c3 : x0_1 > 0
    ·rw [if_pos c3] at H
     have c3b0 : decide (0 < x0_1) = true:= decide_eq_true c3
     clear c3
     obtain ⟨y628,hy628⟩ : ∃ y_ : List Int,y_ = (([(wrap64 (48 + (Int.tmod x0_1 10))) % 256] : List Int)):= ⟨_,rfl⟩
     replace H : (if (strOfNums y628).size + x3_1.size <= 9223372036854775807 then (laws_markText.l0 k1 (wrap64 (Int.tdiv x0_1 10)) ((strOfNums y628) ++ x3_1)) else (none)) = some r:= yz hy628 H
     have Ny628:= am hy628
     clear hy628
     replace H:= iz H
     obtain ⟨c4,H⟩:= H
     have c4b0:= eq_true c4
     have c4b1 : decide ((strOfNums y628).size + x3_1.size <= 9223372036854775807) = true:= decide_eq_true c4
     try have c4b2 : (9223372036854775807 < (strOfNums y628).size + x3_1.size) = False:= eq_false (Nat.not_lt.2 c4)
     have H':= am H
     clear H
     go_wp2_with (first | ((with_reducible refine gate_dst (N:= 12) rfl ?_);refine Kd.R_lit (Kd.int .u8) _ 5 ?hg (N:= 12) ?hd (xs:= ([(wrap64 (48 + (Int.tmod x0_1 10))) % 256] : List Int)) (inner:= [.int .u8 ((wrap64 (48 + (Int.tmod x0_1 10))) % 256)]) (ok:= fun _=>True) (okp:= fun _=>True) ?hr ?hp (fun _ hk=>hk) trivial (Below.refl _ _) (Nat.le_refl _) (by simp) ?_;(case hd=>rfl);(case hg=>rfl);(case hr=>exact vz);(case hp=>exact (Reps.one (show Kd.M (Kd.int .u8) _ _ _ ((wrap64 (48 + (Int.tmod x0_1 10))) % 256) [.int .u8 ((wrap64 (48 + (Int.tmod x0_1 10))) % 256)] from rfl) (Reps.none _ _)));intro v629 w5 ho6 hb hg_ hnew_;clear hg_ hnew_;(first | rw [<- Ny628.out] at ho6 | (simp only [Int.reduceToNat] at ho6;rw [<- Ny628.out] at ho6));have HO630:= am (Kd.R_lower ho6 (below_size (bz0 HB.out)));replace HB:= bs (bz0 HB.out) hb;clear hb ho6;have hcv7:= own_string (P:= Tryz.prog) Tryz.underlying35 Tryz.underlying5 Tryz.underlying9 (Kd.own_of_R HO630.out)))
     go_roundg k1
     case measure=>have:= HK1.out;omega
     case rel=>exact ⟨(wrap64 (Int.tdiv x0_1 10)),((strOfNums y628) ++ x3_1),ez,ez,H',⟨by have:= HK1.out;omega⟩,⟨(bz0 HB.out)⟩⟩
    ·rw [if_neg c3] at H
     have c3b0 : decide (0 < x0_1) = false:= decide_eq_false c3
     clear c3
     replace H:= iz H
     obtain ⟨c8,H⟩:= H
     have c8b0:= eq_true c8
     have c8b1 : decide (1 + x3_1.size <= 9223372036854775807) = true:= decide_eq_true c8
     try have c8b2 : (9223372036854775807 < 1 + x3_1.size) = False:= eq_false (Nat.not_lt.2 c8)
     obtain rfl:= Option.some.inj H
     go_wp2
     go_ret
     exact ⟨gz,(bz0 HB.out)⟩
def laws_markNodeS.l0 : Nat -> List (S45) -> Int -> Int -> Option (Int × (List (S45)))
 | 0,_,_,_=>none
 | k + 1,x0,x1,x5=>if x5 < (x0.length : Int) then (if 0 <= x5 then ((some (x0.set (x5 : Int).toNat (⟨x1,(rd_T45 x0 x5).f1,(rd_T45 x0 x5).f2,(rd_T45 x0 x5).f3,(rd_T45 x0 x5).f4,(rd_T45 x0 x5).f5,(rd_T45 x0 x5).f6⟩ : S45) : List (S45))).bind fun y631=>((some (y631.set (x5 : Int).toNat (⟨(rd_T45 y631 x5).f0,wrap64 (x1 + 1),(rd_T45 y631 x5).f2,(rd_T45 y631 x5).f3,(rd_T45 y631 x5).f4,(rd_T45 y631 x5).f5,(rd_T45 y631 x5).f6⟩ : S45) : List (S45))).bind fun y632=>((some (y632.set (x5 : Int).toNat (⟨(rd_T45 y632 x5).f0,(rd_T45 y632 x5).f1,wrap64 ((wrap64 (x1 + 1)) + 1),(rd_T45 y632 x5).f3,(rd_T45 y632 x5).f4,(rd_T45 y632 x5).f5,(rd_T45 y632 x5).f6⟩ : S45) : List (S45))).bind fun y633=>((some (y633.set (x5 : Int).toNat (⟨(rd_T45 y633 x5).f0,(rd_T45 y633 x5).f1,(rd_T45 y633 x5).f2,wrap64 ((wrap64 ((wrap64 (x1 + 1)) + 1)) + 1),(rd_T45 y633 x5).f4,(rd_T45 y633 x5).f5,(rd_T45 y633 x5).f6⟩ : S45) : List (S45))).bind fun y634=>((some (y634.set (x5 : Int).toNat (⟨(rd_T45 y634 x5).f0,(rd_T45 y634 x5).f1,(rd_T45 y634 x5).f2,(rd_T45 y634 x5).f3,wrap64 ((wrap64 ((wrap64 ((wrap64 (x1 + 1)) + 1)) + 1)) + 1),(rd_T45 y634 x5).f5,(rd_T45 y634 x5).f6⟩ : S45) : List (S45))).bind fun y635=>((laws_markText.f k (wrap64 ((wrap64 ((wrap64 ((wrap64 ((wrap64 (x1 + 1)) + 1)) + 1)) + 1)) + 1))).bind fun t636=>((some (y635.set (x5 : Int).toNat (⟨(rd_T45 y635 x5).f0,(rd_T45 y635 x5).f1,(rd_T45 y635 x5).f2,(rd_T45 y635 x5).f3,(rd_T45 y635 x5).f4,t636,(rd_T45 y635 x5).f6⟩ : S45) : List (S45))).bind fun y637=>((laws_markText.f k (wrap64 ((wrap64 ((wrap64 ((wrap64 ((wrap64 ((wrap64 (x1 + 1)) + 1)) + 1)) + 1)) + 1)) + 1))).bind fun t638=>(laws_markNodeS.l0 k (y637.set (x5 : Int).toNat (⟨(rd_T45 y637 x5).f0,(rd_T45 y637 x5).f1,(rd_T45 y637 x5).f2,(rd_T45 y637 x5).f3,(rd_T45 y637 x5).f4,(rd_T45 y637 x5).f5,t638⟩ : S45)) (wrap64 ((wrap64 ((wrap64 ((wrap64 ((wrap64 ((wrap64 ((wrap64 (x1 + 1)) + 1)) + 1)) + 1)) + 1)) + 1)) + 1)) (wrap64 (x5 + 1))))))))))) else (none)) else (some (x1,x0))
def laws_markNodeS.f (k : Nat) (l0 : List (S45)) (a1 : Int) : Option (Int × (List (S45))):= laws_markNodeS.l0 k l0 a1 0
theorem laws_markNodeS.mono_l : ∀ k,(∀ y0 y1 y2,LeO (laws_markNodeS.l0 k y0 y1 y2) (laws_markNodeS.l0 (k + 1) y0 y1 y2))
 | 0=>fun _ _ _ r h=>by simp [laws_markNodeS.l0] at h
 | k + 1=>by
  have ih0:= laws_markNodeS.mono_l k
  ·intro y0 y1 y2
   unfold laws_markNodeS.l0
   with_reducible repeat' first | exact ih0 _ _ _ | exact laws_markText.mono _ _ | exact lrz _ | exact lnz _ | refine liz ?_ ?_ | refine lbz ?_ fun _=>?_
theorem laws_markNodeS.mono : ∀ a0 a1 k,LeO (laws_markNodeS.f k a0 a1) (laws_markNodeS.f (k + 1) a0 a1):= by
 intro a0 a1 k
 have ih0:= laws_markNodeS.mono_l k
 unfold laws_markNodeS.f
 with_reducible repeat' first | exact ih0 _ _ _ | exact laws_markText.mono _ _ | exact lrz _ | exact lnz _ | refine liz ?_ ?_ | refine lbz ?_ fun _=>?_
set_option maxHeartbeats 8000000 in
set_option maxRecDepth 100000 in
theorem laws_markNodeS.calls (k : Nat) (P0_ : Nat -> Prop) (u9000_ : Value) (l0 : List (S45)) (a1 : Int) (r1 : Int) (r2 : List (S45)) (w0 w : World) (hB : Below w0.heap.size w0 w) (ho0 : Kd.R k45 45 w w0.heap.size P0_ u9000_ l0) (h : laws_markNodeS.f k l0 a1 = some (r1,r2)) :
  Calls Tryz.prog 11 #[u9000_,.int .i64 a1] w fun e w'=>e = .returned (.int .i64 r1) /\ Kd.R k45 45 w' w0.heap.size (fun k_=>(P0_ k_ \/ w.heap.size <= k_)) u9000_ r2 /\ Below w0.heap.size w0 w' /\ Kept w w' (fun k_=>P0_ k_):= by
 have HO0:= am (show Kd.R k45 45 w w0.heap.size (fun k_=>(P0_ k_ \/ w.heap.size <= k_)) u9000_ l0 from Kd.R_mono ho0 (fun k_ hk=>(.inl hk)))
 have HK:= am (Kept.refl w (fun k_=>P0_ k_))
 have HW0:= am hB.size
 have HB:= am hB
 clear hB
 have H : (laws_markNodeS.l0 k l0 a1 0) = some (r1,r2):= h
 clear h
 have H':= am H
 clear H
 go_enter Tryz.func11,Tryz.ntmps11
 go_wp2
 go_loopg [1,5] k (fun kq v1 v5 w'=>∃ (x0_1 : List (S45)) (x1_1 : Int) (x5_1 : Int),v1 = .int .i64 x1_1 /\ v5 = .int .i64 x5_1 /\ Aside0 (laws_markNodeS.l0 kq x0_1 x1_1 x5_1 = some (r1,r2)) /\ Aside0 (kq <= k) /\ Aside0 (Kd.R k45 45 w' w0.heap.size (fun k_=>(P0_ k_ \/ w.heap.size <= k_)) u9000_ x0_1) /\ Aside0 (Kept w w' (fun k_=>P0_ k_)) /\ Aside0 (Below w0.heap.size w0 w'))
 case atStart=>exact ⟨(l0),(a1),(0),ez,ez,H',⟨Nat.le_refl _⟩,⟨by refine rq ?_;exact HO0.out⟩,⟨by repeat (first | (with_reducible first | exact HK.out | apply Kept.alloc | apply Kept.drewN | apply Kept.drew) | exact HK.out)⟩,⟨(bz0 HB.out)⟩⟩
 case round =>
  clear H'
  try clear c1
  try clear p2
  obtain ⟨x0_1,x1_1,x5_1,rfl,rfl,HA,HK1,HO_0,HK,HB⟩:= hrel
  cases gk with
  | zero=>exact absurd HA.out (by simp [laws_markNodeS.l0])
  | succ k1 =>
   have H:= HA.out
   clear HA
   simp only [laws_markNodeS.l0] at H
   by_cases c3 : x5_1 < (x0_1.length : Int)
   ·rw [if_pos c3] at H
    have c3b0:= decide_eq_true c3
    clear c3
    replace H:= iz H
    obtain ⟨c4,H⟩:= H
    have c4b0:= decide_eq_true c4
    clear c4
    obtain ⟨y631,hy631⟩ : ∃ y_ : List (S45),y_ = (x0_1.set (x5_1 : Int).toNat (⟨x1_1,(rd_T45 x0_1 x5_1).f1,(rd_T45 x0_1 x5_1).f2,(rd_T45 x0_1 x5_1).f3,(rd_T45 x0_1 x5_1).f4,(rd_T45 x0_1 x5_1).f5,(rd_T45 x0_1 x5_1).f6⟩ : S45)):= ⟨_,rfl⟩
    replace H : ((some (y631.set (x5_1 : Int).toNat (⟨(rd_T45 y631 x5_1).f0,wrap64 (x1_1 + 1),(rd_T45 y631 x5_1).f2,(rd_T45 y631 x5_1).f3,(rd_T45 y631 x5_1).f4,(rd_T45 y631 x5_1).f5,(rd_T45 y631 x5_1).f6⟩ : S45) : List (S45))).bind fun y632=>((some (y632.set (x5_1 : Int).toNat (⟨(rd_T45 y632 x5_1).f0,(rd_T45 y632 x5_1).f1,wrap64 ((wrap64 (x1_1 + 1)) + 1),(rd_T45 y632 x5_1).f3,(rd_T45 y632 x5_1).f4,(rd_T45 y632 x5_1).f5,(rd_T45 y632 x5_1).f6⟩ : S45) : List (S45))).bind fun y633=>((some (y633.set (x5_1 : Int).toNat (⟨(rd_T45 y633 x5_1).f0,(rd_T45 y633 x5_1).f1,(rd_T45 y633 x5_1).f2,wrap64 ((wrap64 ((wrap64 (x1_1 + 1)) + 1)) + 1),(rd_T45 y633 x5_1).f4,(rd_T45 y633 x5_1).f5,(rd_T45 y633 x5_1).f6⟩ : S45) : List (S45))).bind fun y634=>((some (y634.set (x5_1 : Int).toNat (⟨(rd_T45 y634 x5_1).f0,(rd_T45 y634 x5_1).f1,(rd_T45 y634 x5_1).f2,(rd_T45 y634 x5_1).f3,wrap64 ((wrap64 ((wrap64 ((wrap64 (x1_1 + 1)) + 1)) + 1)) + 1),(rd_T45 y634 x5_1).f5,(rd_T45 y634 x5_1).f6⟩ : S45) : List (S45))).bind fun y635=>((laws_markText.f k1 (wrap64 ((wrap64 ((wrap64 ((wrap64 ((wrap64 (x1_1 + 1)) + 1)) + 1)) + 1)) + 1))).bind fun t636=>((some (y635.set (x5_1 : Int).toNat (⟨(rd_T45 y635 x5_1).f0,(rd_T45 y635 x5_1).f1,(rd_T45 y635 x5_1).f2,(rd_T45 y635 x5_1).f3,(rd_T45 y635 x5_1).f4,t636,(rd_T45 y635 x5_1).f6⟩ : S45) : List (S45))).bind fun y637=>((laws_markText.f k1 (wrap64 ((wrap64 ((wrap64 ((wrap64 ((wrap64 ((wrap64 (x1_1 + 1)) + 1)) + 1)) + 1)) + 1)) + 1))).bind fun t638=>(laws_markNodeS.l0 k1 (y637.set (x5_1 : Int).toNat (⟨(rd_T45 y637 x5_1).f0,(rd_T45 y637 x5_1).f1,(rd_T45 y637 x5_1).f2,(rd_T45 y637 x5_1).f3,(rd_T45 y637 x5_1).f4,(rd_T45 y637 x5_1).f5,t638⟩ : S45)) (wrap64 ((wrap64 ((wrap64 ((wrap64 ((wrap64 ((wrap64 ((wrap64 (x1_1 + 1)) + 1)) + 1)) + 1)) + 1)) + 1)) + 1)) (wrap64 (x5_1 + 1)))))))))) = some (r1,r2):= yz hy631 H
    have Ny631:= am hy631
    clear hy631
    obtain ⟨y632,hy632⟩ : ∃ y_ : List (S45),y_ = (y631.set (x5_1 : Int).toNat (⟨(rd_T45 y631 x5_1).f0,wrap64 (x1_1 + 1),(rd_T45 y631 x5_1).f2,(rd_T45 y631 x5_1).f3,(rd_T45 y631 x5_1).f4,(rd_T45 y631 x5_1).f5,(rd_T45 y631 x5_1).f6⟩ : S45)):= ⟨_,rfl⟩
    replace H : ((some (y632.set (x5_1 : Int).toNat (⟨(rd_T45 y632 x5_1).f0,(rd_T45 y632 x5_1).f1,wrap64 ((wrap64 (x1_1 + 1)) + 1),(rd_T45 y632 x5_1).f3,(rd_T45 y632 x5_1).f4,(rd_T45 y632 x5_1).f5,(rd_T45 y632 x5_1).f6⟩ : S45) : List (S45))).bind fun y633=>((some (y633.set (x5_1 : Int).toNat (⟨(rd_T45 y633 x5_1).f0,(rd_T45 y633 x5_1).f1,(rd_T45 y633 x5_1).f2,wrap64 ((wrap64 ((wrap64 (x1_1 + 1)) + 1)) + 1),(rd_T45 y633 x5_1).f4,(rd_T45 y633 x5_1).f5,(rd_T45 y633 x5_1).f6⟩ : S45) : List (S45))).bind fun y634=>((some (y634.set (x5_1 : Int).toNat (⟨(rd_T45 y634 x5_1).f0,(rd_T45 y634 x5_1).f1,(rd_T45 y634 x5_1).f2,(rd_T45 y634 x5_1).f3,wrap64 ((wrap64 ((wrap64 ((wrap64 (x1_1 + 1)) + 1)) + 1)) + 1),(rd_T45 y634 x5_1).f5,(rd_T45 y634 x5_1).f6⟩ : S45) : List (S45))).bind fun y635=>((laws_markText.f k1 (wrap64 ((wrap64 ((wrap64 ((wrap64 ((wrap64 (x1_1 + 1)) + 1)) + 1)) + 1)) + 1))).bind fun t636=>((some (y635.set (x5_1 : Int).toNat (⟨(rd_T45 y635 x5_1).f0,(rd_T45 y635 x5_1).f1,(rd_T45 y635 x5_1).f2,(rd_T45 y635 x5_1).f3,(rd_T45 y635 x5_1).f4,t636,(rd_T45 y635 x5_1).f6⟩ : S45) : List (S45))).bind fun y637=>((laws_markText.f k1 (wrap64 ((wrap64 ((wrap64 ((wrap64 ((wrap64 ((wrap64 (x1_1 + 1)) + 1)) + 1)) + 1)) + 1)) + 1))).bind fun t638=>(laws_markNodeS.l0 k1 (y637.set (x5_1 : Int).toNat (⟨(rd_T45 y637 x5_1).f0,(rd_T45 y637 x5_1).f1,(rd_T45 y637 x5_1).f2,(rd_T45 y637 x5_1).f3,(rd_T45 y637 x5_1).f4,(rd_T45 y637 x5_1).f5,t638⟩ : S45)) (wrap64 ((wrap64 ((wrap64 ((wrap64 ((wrap64 ((wrap64 ((wrap64 (x1_1 + 1)) + 1)) + 1)) + 1)) + 1)) + 1)) + 1)) (wrap64 (x5_1 + 1))))))))) = some (r1,r2):= yz hy632 H
    have Ny632:= am hy632
    clear hy632
    obtain ⟨y633,hy633⟩ : ∃ y_ : List (S45),y_ = (y632.set (x5_1 : Int).toNat (⟨(rd_T45 y632 x5_1).f0,(rd_T45 y632 x5_1).f1,wrap64 ((wrap64 (x1_1 + 1)) + 1),(rd_T45 y632 x5_1).f3,(rd_T45 y632 x5_1).f4,(rd_T45 y632 x5_1).f5,(rd_T45 y632 x5_1).f6⟩ : S45)):= ⟨_,rfl⟩
    replace H : ((some (y633.set (x5_1 : Int).toNat (⟨(rd_T45 y633 x5_1).f0,(rd_T45 y633 x5_1).f1,(rd_T45 y633 x5_1).f2,wrap64 ((wrap64 ((wrap64 (x1_1 + 1)) + 1)) + 1),(rd_T45 y633 x5_1).f4,(rd_T45 y633 x5_1).f5,(rd_T45 y633 x5_1).f6⟩ : S45) : List (S45))).bind fun y634=>((some (y634.set (x5_1 : Int).toNat (⟨(rd_T45 y634 x5_1).f0,(rd_T45 y634 x5_1).f1,(rd_T45 y634 x5_1).f2,(rd_T45 y634 x5_1).f3,wrap64 ((wrap64 ((wrap64 ((wrap64 (x1_1 + 1)) + 1)) + 1)) + 1),(rd_T45 y634 x5_1).f5,(rd_T45 y634 x5_1).f6⟩ : S45) : List (S45))).bind fun y635=>((laws_markText.f k1 (wrap64 ((wrap64 ((wrap64 ((wrap64 ((wrap64 (x1_1 + 1)) + 1)) + 1)) + 1)) + 1))).bind fun t636=>((some (y635.set (x5_1 : Int).toNat (⟨(rd_T45 y635 x5_1).f0,(rd_T45 y635 x5_1).f1,(rd_T45 y635 x5_1).f2,(rd_T45 y635 x5_1).f3,(rd_T45 y635 x5_1).f4,t636,(rd_T45 y635 x5_1).f6⟩ : S45) : List (S45))).bind fun y637=>((laws_markText.f k1 (wrap64 ((wrap64 ((wrap64 ((wrap64 ((wrap64 ((wrap64 (x1_1 + 1)) + 1)) + 1)) + 1)) + 1)) + 1))).bind fun t638=>(laws_markNodeS.l0 k1 (y637.set (x5_1 : Int).toNat (⟨(rd_T45 y637 x5_1).f0,(rd_T45 y637 x5_1).f1,(rd_T45 y637 x5_1).f2,(rd_T45 y637 x5_1).f3,(rd_T45 y637 x5_1).f4,(rd_T45 y637 x5_1).f5,t638⟩ : S45)) (wrap64 ((wrap64 ((wrap64 ((wrap64 ((wrap64 ((wrap64 ((wrap64 (x1_1 + 1)) + 1)) + 1)) + 1)) + 1)) + 1)) + 1)) (wrap64 (x5_1 + 1)))))))) = some (r1,r2):= yz hy633 H
    have Ny633:= am hy633
    clear hy633
    obtain ⟨y634,hy634⟩ : ∃ y_ : List (S45),y_ = (y633.set (x5_1 : Int).toNat (⟨(rd_T45 y633 x5_1).f0,(rd_T45 y633 x5_1).f1,(rd_T45 y633 x5_1).f2,wrap64 ((wrap64 ((wrap64 (x1_1 + 1)) + 1)) + 1),(rd_T45 y633 x5_1).f4,(rd_T45 y633 x5_1).f5,(rd_T45 y633 x5_1).f6⟩ : S45)):= ⟨_,rfl⟩
    replace H : ((some (y634.set (x5_1 : Int).toNat (⟨(rd_T45 y634 x5_1).f0,(rd_T45 y634 x5_1).f1,(rd_T45 y634 x5_1).f2,(rd_T45 y634 x5_1).f3,wrap64 ((wrap64 ((wrap64 ((wrap64 (x1_1 + 1)) + 1)) + 1)) + 1),(rd_T45 y634 x5_1).f5,(rd_T45 y634 x5_1).f6⟩ : S45) : List (S45))).bind fun y635=>((laws_markText.f k1 (wrap64 ((wrap64 ((wrap64 ((wrap64 ((wrap64 (x1_1 + 1)) + 1)) + 1)) + 1)) + 1))).bind fun t636=>((some (y635.set (x5_1 : Int).toNat (⟨(rd_T45 y635 x5_1).f0,(rd_T45 y635 x5_1).f1,(rd_T45 y635 x5_1).f2,(rd_T45 y635 x5_1).f3,(rd_T45 y635 x5_1).f4,t636,(rd_T45 y635 x5_1).f6⟩ : S45) : List (S45))).bind fun y637=>((laws_markText.f k1 (wrap64 ((wrap64 ((wrap64 ((wrap64 ((wrap64 ((wrap64 (x1_1 + 1)) + 1)) + 1)) + 1)) + 1)) + 1))).bind fun t638=>(laws_markNodeS.l0 k1 (y637.set (x5_1 : Int).toNat (⟨(rd_T45 y637 x5_1).f0,(rd_T45 y637 x5_1).f1,(rd_T45 y637 x5_1).f2,(rd_T45 y637 x5_1).f3,(rd_T45 y637 x5_1).f4,(rd_T45 y637 x5_1).f5,t638⟩ : S45)) (wrap64 ((wrap64 ((wrap64 ((wrap64 ((wrap64 ((wrap64 ((wrap64 (x1_1 + 1)) + 1)) + 1)) + 1)) + 1)) + 1)) + 1)) (wrap64 (x5_1 + 1))))))) = some (r1,r2):= yz hy634 H
    have Ny634:= am hy634
    clear hy634
    obtain ⟨y635,hy635⟩ : ∃ y_ : List (S45),y_ = (y634.set (x5_1 : Int).toNat (⟨(rd_T45 y634 x5_1).f0,(rd_T45 y634 x5_1).f1,(rd_T45 y634 x5_1).f2,(rd_T45 y634 x5_1).f3,wrap64 ((wrap64 ((wrap64 ((wrap64 (x1_1 + 1)) + 1)) + 1)) + 1),(rd_T45 y634 x5_1).f5,(rd_T45 y634 x5_1).f6⟩ : S45)):= ⟨_,rfl⟩
    replace H : ((laws_markText.f k1 (wrap64 ((wrap64 ((wrap64 ((wrap64 ((wrap64 (x1_1 + 1)) + 1)) + 1)) + 1)) + 1))).bind fun t636=>((some (y635.set (x5_1 : Int).toNat (⟨(rd_T45 y635 x5_1).f0,(rd_T45 y635 x5_1).f1,(rd_T45 y635 x5_1).f2,(rd_T45 y635 x5_1).f3,(rd_T45 y635 x5_1).f4,t636,(rd_T45 y635 x5_1).f6⟩ : S45) : List (S45))).bind fun y637=>((laws_markText.f k1 (wrap64 ((wrap64 ((wrap64 ((wrap64 ((wrap64 ((wrap64 (x1_1 + 1)) + 1)) + 1)) + 1)) + 1)) + 1))).bind fun t638=>(laws_markNodeS.l0 k1 (y637.set (x5_1 : Int).toNat (⟨(rd_T45 y637 x5_1).f0,(rd_T45 y637 x5_1).f1,(rd_T45 y637 x5_1).f2,(rd_T45 y637 x5_1).f3,(rd_T45 y637 x5_1).f4,(rd_T45 y637 x5_1).f5,t638⟩ : S45)) (wrap64 ((wrap64 ((wrap64 ((wrap64 ((wrap64 ((wrap64 ((wrap64 (x1_1 + 1)) + 1)) + 1)) + 1)) + 1)) + 1)) + 1)) (wrap64 (x5_1 + 1)))))) = some (r1,r2):= yz hy635 H
    have Ny635:= am hy635
    clear hy635
    replace H:= bi H
    obtain ⟨t636,A100,H⟩:= H
    try dsimp only at H
    have A10:= am A100
    clear A100
    obtain ⟨y637,hy637⟩ : ∃ y_ : List (S45),y_ = (y635.set (x5_1 : Int).toNat (⟨(rd_T45 y635 x5_1).f0,(rd_T45 y635 x5_1).f1,(rd_T45 y635 x5_1).f2,(rd_T45 y635 x5_1).f3,(rd_T45 y635 x5_1).f4,t636,(rd_T45 y635 x5_1).f6⟩ : S45)):= ⟨_,rfl⟩
    replace H : ((laws_markText.f k1 (wrap64 ((wrap64 ((wrap64 ((wrap64 ((wrap64 ((wrap64 (x1_1 + 1)) + 1)) + 1)) + 1)) + 1)) + 1))).bind fun t638=>(laws_markNodeS.l0 k1 (y637.set (x5_1 : Int).toNat (⟨(rd_T45 y637 x5_1).f0,(rd_T45 y637 x5_1).f1,(rd_T45 y637 x5_1).f2,(rd_T45 y637 x5_1).f3,(rd_T45 y637 x5_1).f4,(rd_T45 y637 x5_1).f5,t638⟩ : S45)) (wrap64 ((wrap64 ((wrap64 ((wrap64 ((wrap64 ((wrap64 ((wrap64 (x1_1 + 1)) + 1)) + 1)) + 1)) + 1)) + 1)) + 1)) (wrap64 (x5_1 + 1)))) = some (r1,r2):= yz hy637 H
    have Ny637:= am hy637
    clear hy637
    replace H:= bi H
    obtain ⟨t638,A120,H⟩:= H
    try dsimp only at H
    have A12:= am A120
    clear A120
    obtain ⟨y639,hy639⟩ : ∃ y_ : List (S45),y_ = (y637.set (x5_1 : Int).toNat (⟨(rd_T45 y637 x5_1).f0,(rd_T45 y637 x5_1).f1,(rd_T45 y637 x5_1).f2,(rd_T45 y637 x5_1).f3,(rd_T45 y637 x5_1).f4,(rd_T45 y637 x5_1).f5,t638⟩ : S45)):= ⟨_,rfl⟩
    replace H : (laws_markNodeS.l0 k1 y639 (wrap64 ((wrap64 ((wrap64 ((wrap64 ((wrap64 ((wrap64 ((wrap64 (x1_1 + 1)) + 1)) + 1)) + 1)) + 1)) + 1)) + 1)) (wrap64 (x5_1 + 1))) = some (r1,r2):= yz hy639 H
    have Ny639:= am hy639
    clear hy639
    have H':= am H
    clear H
    obtain ⟨Ao14,co14,eo14⟩:= Kd.R_slice HO_0.out
    subst eo14
    have p5 : 0 <= (x5_1 : Int):= oz
    have q5 : (x5_1 : Int) < ((x0_1.length : Int) : Int):= oz
    obtain ⟨go5,co5,eo5,gb5,gl5,cl5,HG5⟩:= Kd.R_form HO_0.out (by omega)
    (first | cases eo5 | (injection eo5 with ea_ en_ ec_;(first | subst ea_ | (injection ea_ with ea_;subst ea_));subst ec_;clear en_))
    have GB5:= am gb5
    have GG5:= am HG5
    clear gb5 gl5 HG5
    have HMgo5:= am (show (P0_ go5 \/ w.heap.size <= go5) from (HO_0.out.1 _ rfl))
    obtain ⟨ce5,hcl5,hM5,hcc5,hfr5⟩:= Kd.R_elem HO_0.out z45 (x5_1 : Int) p5 q5
    obtain rfl:= k45_openM hM5
    have hx5_0 : wr.cell? ⟨go5,(x5_1 : Int).toNat * 7,none⟩ = some (.int .i64 ((rd_T45 x0_1 x5_1).f0)):= hcc5 0 _ rfl
    have hx5_1 : wr.cell? ⟨go5,(x5_1 : Int).toNat * 7 + 1,none⟩ = some (.int .i64 ((rd_T45 x0_1 x5_1).f1)):= hcc5 1 _ rfl
    have hx5_2 : wr.cell? ⟨go5,(x5_1 : Int).toNat * 7 + 2,none⟩ = some (.int .i64 ((rd_T45 x0_1 x5_1).f2)):= hcc5 2 _ rfl
    have hx5_3 : wr.cell? ⟨go5,(x5_1 : Int).toNat * 7 + 3,none⟩ = some (.int .i64 ((rd_T45 x0_1 x5_1).f3)):= hcc5 3 _ rfl
    have hx5_4 : wr.cell? ⟨go5,(x5_1 : Int).toNat * 7 + 4,none⟩ = some (.int .i64 ((rd_T45 x0_1 x5_1).f4)):= hcc5 4 _ rfl
    have hx5_5 : wr.cell? ⟨go5,(x5_1 : Int).toNat * 7 + 5,none⟩ = some (.string ((rd_T45 x0_1 x5_1).f5)):= hcc5 5 _ rfl
    have hx5_6 : wr.cell? ⟨go5,(x5_1 : Int).toNat * 7 + 6,none⟩ = some (.string ((rd_T45 x0_1 x5_1).f6)):= hcc5 6 _ rfl
    have hf5_0 : wr.frozen? ⟨go5,(x5_1 : Int).toNat * 7,none⟩ = false:= hfr5 0
    have hf5_1 : wr.frozen? ⟨go5,(x5_1 : Int).toNat * 7 + 1,none⟩ = false:= hfr5 1
    have hf5_2 : wr.frozen? ⟨go5,(x5_1 : Int).toNat * 7 + 2,none⟩ = false:= hfr5 2
    have hf5_3 : wr.frozen? ⟨go5,(x5_1 : Int).toNat * 7 + 3,none⟩ = false:= hfr5 3
    have hf5_4 : wr.frozen? ⟨go5,(x5_1 : Int).toNat * 7 + 4,none⟩ = false:= hfr5 4
    have hf5_5 : wr.frozen? ⟨go5,(x5_1 : Int).toNat * 7 + 5,none⟩ = false:= hfr5 5
    have hf5_6 : wr.frozen? ⟨go5,(x5_1 : Int).toNat * 7 + 6,none⟩ = false:= hfr5 6
    clear hcl5 hcc5 hfr5 hM5
    replace p5:= eq_true p5
    replace q5:= eq_true q5
    have HX15:= am (show Kd.R k45 45 wr w0.heap.size (fun k_=>(P0_ k_ \/ w.heap.size <= k_)) (.slice (some ⟨go5,0,none⟩) x0_1.length co14) x0_1 from (rz HO_0.out))
    obtain ⟨ce15,hcl15,hM15,hcc15,hfr15⟩:= Kd.R_elem HX15.out z45 (x5_1 : Int) (of_decide_eq_true az) (by have h_ : (x5_1 : Int) < ((x0_1.length : Int) : Int):= oz;first | exact h_ | (have e_:= (Kd.R_reads' HO_0.out).1;omega) | simpa using h_)
    obtain rfl:= k45_openM hM15
    have HP15:= Kd.R_seg HX15.out (x5_1 : Int) (of_decide_eq_true az) (by have h_ : (x5_1 : Int) < ((x0_1.length : Int) : Int):= oz;first | exact h_ | (have e_:= (Kd.R_reads' HO_0.out).1;omega) | simpa using h_) (seg:= [.int .i64 x1_1]) (j:= 0) hcl15 hcc15 (show 1 <= 7 from by decide) (x':= (⟨x1_1,(rd_T45 x0_1 x5_1).f1,(rd_T45 x0_1 x5_1).f2,(rd_T45 x0_1 x5_1).f3,(rd_T45 x0_1 x5_1).f4,(rd_T45 x0_1 x5_1).f5,(rd_T45 x0_1 x5_1).f6⟩ : S45)) (k45_mkM _ _ _ (⟨x1_1,(rd_T45 x0_1 x5_1).f1,(rd_T45 x0_1 x5_1).f2,(rd_T45 x0_1 x5_1).f3,(rd_T45 x0_1 x5_1).f4,(rd_T45 x0_1 x5_1).f5,(rd_T45 x0_1 x5_1).f6⟩ : S45) ) (fun _ hk=>hk)
    have hx15_0:= hcc15 0 _ rfl
    (try simp only [show (k45).sz = 7 from rfl,Nat.mul_one,Nat.add_zero] at hx15_0)
    have hf15_0:= hfr15 0
    (try simp only [show (k45).sz = 7 from rfl,Nat.mul_one,Nat.add_zero] at hf15_0)
    clear hcl15 hcc15 hfr15 hM15
    go_wp2_with (first | ((with_reducible refine gate_store (t:= 3) (p:= 16) rfl ?_);refine store_event (t:= 3) (p:= 16) (v:= ?vo_w16) (w1:= (wr.setCell ⟨go5,(x5_1 : Int).toNat * 7,none⟩ (.int .i64 x1_1))) ?hg ?ho ?hn ?hr ?_;(case ho=>rfl);(case hg=>rfl);(case hn=>rfl);(case hr=>exact vz);intro w16 hw;have hg : wr.grownBy w16 (some go5):= (by rw [hw];exact HP15.2);have hp_ : Kd.R k45 45 w16 w0.heap.size (fun k_=>(P0_ k_ \/ w.heap.size <= k_)) (.slice (some ⟨go5,0,none⟩) x0_1.length co14) y631:= (by rw [hw,Ny631.out];exact HP15.1);clear HP15;replace HB:= am ((by rw [hw];exact below_set (HB.out) GB5.out : Below w0.heap.size w0 w16));replace HK:= am (Kept.of_grown (S:= (fun k_=>P0_ k_)) hg (by repeat (first | (with_reducible first | exact HK.out | apply Kept.alloc | apply Kept.drewN | apply Kept.drew) | exact HK.out)) (fun k_ e_=>(HO_0.out.1 k_ e_)));replace HO_0:= am (hp_);clear hg hw hp_;have p6 : 0 <= (x5_1 : Int):= oz;have q6 : (x5_1 : Int) < ((x0_1.length : Int) : Int):= oz;obtain ⟨ce6,hcl6,hM6,hcc6,hfr6⟩:= Kd.R_elem HO_0.out z45 (x5_1 : Int) p6 q6;obtain rfl:= k45_openM hM6;have hx6_0 : w16.cell? ⟨go5,(x5_1 : Int).toNat * 7,none⟩ = some (.int .i64 ((rd_T45 y631 x5_1).f0)):= hcc6 0 _ rfl;have hx6_1 : w16.cell? ⟨go5,(x5_1 : Int).toNat * 7 + 1,none⟩ = some (.int .i64 ((rd_T45 y631 x5_1).f1)):= hcc6 1 _ rfl;have hx6_2 : w16.cell? ⟨go5,(x5_1 : Int).toNat * 7 + 2,none⟩ = some (.int .i64 ((rd_T45 y631 x5_1).f2)):= hcc6 2 _ rfl;have hx6_3 : w16.cell? ⟨go5,(x5_1 : Int).toNat * 7 + 3,none⟩ = some (.int .i64 ((rd_T45 y631 x5_1).f3)):= hcc6 3 _ rfl;have hx6_4 : w16.cell? ⟨go5,(x5_1 : Int).toNat * 7 + 4,none⟩ = some (.int .i64 ((rd_T45 y631 x5_1).f4)):= hcc6 4 _ rfl;have hx6_5 : w16.cell? ⟨go5,(x5_1 : Int).toNat * 7 + 5,none⟩ = some (.string ((rd_T45 y631 x5_1).f5)):= hcc6 5 _ rfl;have hx6_6 : w16.cell? ⟨go5,(x5_1 : Int).toNat * 7 + 6,none⟩ = some (.string ((rd_T45 y631 x5_1).f6)):= hcc6 6 _ rfl;have hf6_0 : w16.frozen? ⟨go5,(x5_1 : Int).toNat * 7,none⟩ = false:= hfr6 0;have hf6_1 : w16.frozen? ⟨go5,(x5_1 : Int).toNat * 7 + 1,none⟩ = false:= hfr6 1;have hf6_2 : w16.frozen? ⟨go5,(x5_1 : Int).toNat * 7 + 2,none⟩ = false:= hfr6 2;have hf6_3 : w16.frozen? ⟨go5,(x5_1 : Int).toNat * 7 + 3,none⟩ = false:= hfr6 3;have hf6_4 : w16.frozen? ⟨go5,(x5_1 : Int).toNat * 7 + 4,none⟩ = false:= hfr6 4;have hf6_5 : w16.frozen? ⟨go5,(x5_1 : Int).toNat * 7 + 5,none⟩ = false:= hfr6 5;have hf6_6 : w16.frozen? ⟨go5,(x5_1 : Int).toNat * 7 + 6,none⟩ = false:= hfr6 6;clear hcl6 hcc6 hfr6 hM6;replace p6:= eq_true p6;replace q6:= eq_true q6;have HX17:= am (show Kd.R k45 45 w16 w0.heap.size (fun k_=>(P0_ k_ \/ w.heap.size <= k_)) (.slice (some ⟨go5,0,none⟩) x0_1.length co14) y631 from (rz HO_0.out));obtain ⟨ce17,hcl17,hM17,hcc17,hfr17⟩:= Kd.R_elem HX17.out z45 (x5_1 : Int) (of_decide_eq_true az) (by have h_ : (x5_1 : Int) < ((x0_1.length : Int) : Int):= oz;first | exact h_ | (have e_:= (Kd.R_reads' HO_0.out).1;omega) | simpa using h_);obtain rfl:= k45_openM hM17;have HP17:= Kd.R_seg HX17.out (x5_1 : Int) (of_decide_eq_true az) (by have h_ : (x5_1 : Int) < ((x0_1.length : Int) : Int):= oz;first | exact h_ | (have e_:= (Kd.R_reads' HO_0.out).1;omega) | simpa using h_) (seg:= [.int .i64 (wrap64 (x1_1 + 1))]) (j:= 1) hcl17 hcc17 (show 2 <= 7 from by decide) (x':= (⟨(rd_T45 y631 x5_1).f0,wrap64 (x1_1 + 1),(rd_T45 y631 x5_1).f2,(rd_T45 y631 x5_1).f3,(rd_T45 y631 x5_1).f4,(rd_T45 y631 x5_1).f5,(rd_T45 y631 x5_1).f6⟩ : S45)) (k45_mkM _ _ _ (⟨(rd_T45 y631 x5_1).f0,wrap64 (x1_1 + 1),(rd_T45 y631 x5_1).f2,(rd_T45 y631 x5_1).f3,(rd_T45 y631 x5_1).f4,(rd_T45 y631 x5_1).f5,(rd_T45 y631 x5_1).f6⟩ : S45) ) (fun _ hk=>hk);have hx17_1:= hcc17 1 _ rfl;(try simp only [show (k45).sz = 7 from rfl,Nat.mul_one,Nat.add_zero] at hx17_1);have hf17_1:= hfr17 1;(try simp only [show (k45).sz = 7 from rfl,Nat.mul_one,Nat.add_zero] at hf17_1);clear hcl17 hcc17 hfr17 hM17) | ((with_reducible refine gate_store (t:= 3) (p:= 23) rfl ?_);refine store_event (t:= 3) (p:= 23) (v:= ?vo_w18) (w1:= (w16.setCell ⟨go5,(x5_1 : Int).toNat * 7 + 1,none⟩ (.int .i64 (wrap64 (x1_1 + 1))))) ?hg ?ho ?hn ?hr ?_;(case ho=>rfl);(case hg=>rfl);(case hn=>rfl);(case hr=>exact vz);intro w18 hw;have hg : w16.grownBy w18 (some go5):= (by rw [hw];exact HP17.2);have hp_ : Kd.R k45 45 w18 w0.heap.size (fun k_=>(P0_ k_ \/ w.heap.size <= k_)) (.slice (some ⟨go5,0,none⟩) x0_1.length co14) y632:= (by rw [hw,Ny632.out];exact HP17.1);clear HP17;replace HB:= am ((by rw [hw];exact below_set (HB.out) GB5.out : Below w0.heap.size w0 w18));replace HK:= am (Kept.of_grown (S:= (fun k_=>P0_ k_)) hg (by repeat (first | (with_reducible first | exact HK.out | apply Kept.alloc | apply Kept.drewN | apply Kept.drew) | exact HK.out)) (fun k_ e_=>(HO_0.out.1 k_ e_)));replace HO_0:= am (hp_);clear hg hw hp_;have p7 : 0 <= (x5_1 : Int):= oz;have q7 : (x5_1 : Int) < ((x0_1.length : Int) : Int):= oz;obtain ⟨ce7,hcl7,hM7,hcc7,hfr7⟩:= Kd.R_elem HO_0.out z45 (x5_1 : Int) p7 q7;obtain rfl:= k45_openM hM7;have hx7_0 : w18.cell? ⟨go5,(x5_1 : Int).toNat * 7,none⟩ = some (.int .i64 ((rd_T45 y632 x5_1).f0)):= hcc7 0 _ rfl;have hx7_1 : w18.cell? ⟨go5,(x5_1 : Int).toNat * 7 + 1,none⟩ = some (.int .i64 ((rd_T45 y632 x5_1).f1)):= hcc7 1 _ rfl;have hx7_2 : w18.cell? ⟨go5,(x5_1 : Int).toNat * 7 + 2,none⟩ = some (.int .i64 ((rd_T45 y632 x5_1).f2)):= hcc7 2 _ rfl;have hx7_3 : w18.cell? ⟨go5,(x5_1 : Int).toNat * 7 + 3,none⟩ = some (.int .i64 ((rd_T45 y632 x5_1).f3)):= hcc7 3 _ rfl;have hx7_4 : w18.cell? ⟨go5,(x5_1 : Int).toNat * 7 + 4,none⟩ = some (.int .i64 ((rd_T45 y632 x5_1).f4)):= hcc7 4 _ rfl;have hx7_5 : w18.cell? ⟨go5,(x5_1 : Int).toNat * 7 + 5,none⟩ = some (.string ((rd_T45 y632 x5_1).f5)):= hcc7 5 _ rfl;have hx7_6 : w18.cell? ⟨go5,(x5_1 : Int).toNat * 7 + 6,none⟩ = some (.string ((rd_T45 y632 x5_1).f6)):= hcc7 6 _ rfl;have hf7_0 : w18.frozen? ⟨go5,(x5_1 : Int).toNat * 7,none⟩ = false:= hfr7 0;have hf7_1 : w18.frozen? ⟨go5,(x5_1 : Int).toNat * 7 + 1,none⟩ = false:= hfr7 1;have hf7_2 : w18.frozen? ⟨go5,(x5_1 : Int).toNat * 7 + 2,none⟩ = false:= hfr7 2;have hf7_3 : w18.frozen? ⟨go5,(x5_1 : Int).toNat * 7 + 3,none⟩ = false:= hfr7 3;have hf7_4 : w18.frozen? ⟨go5,(x5_1 : Int).toNat * 7 + 4,none⟩ = false:= hfr7 4;have hf7_5 : w18.frozen? ⟨go5,(x5_1 : Int).toNat * 7 + 5,none⟩ = false:= hfr7 5;have hf7_6 : w18.frozen? ⟨go5,(x5_1 : Int).toNat * 7 + 6,none⟩ = false:= hfr7 6;clear hcl7 hcc7 hfr7 hM7;replace p7:= eq_true p7;replace q7:= eq_true q7;have HX19:= am (show Kd.R k45 45 w18 w0.heap.size (fun k_=>(P0_ k_ \/ w.heap.size <= k_)) (.slice (some ⟨go5,0,none⟩) x0_1.length co14) y632 from (rz HO_0.out));obtain ⟨ce19,hcl19,hM19,hcc19,hfr19⟩:= Kd.R_elem HX19.out z45 (x5_1 : Int) (of_decide_eq_true az) (by have h_ : (x5_1 : Int) < ((x0_1.length : Int) : Int):= oz;first | exact h_ | (have e_:= (Kd.R_reads' HO_0.out).1;omega) | simpa using h_);obtain rfl:= k45_openM hM19;have HP19:= Kd.R_seg HX19.out (x5_1 : Int) (of_decide_eq_true az) (by have h_ : (x5_1 : Int) < ((x0_1.length : Int) : Int):= oz;first | exact h_ | (have e_:= (Kd.R_reads' HO_0.out).1;omega) | simpa using h_) (seg:= [.int .i64 (wrap64 ((wrap64 (x1_1 + 1)) + 1))]) (j:= 2) hcl19 hcc19 (show 3 <= 7 from by decide) (x':= (⟨(rd_T45 y632 x5_1).f0,(rd_T45 y632 x5_1).f1,wrap64 ((wrap64 (x1_1 + 1)) + 1),(rd_T45 y632 x5_1).f3,(rd_T45 y632 x5_1).f4,(rd_T45 y632 x5_1).f5,(rd_T45 y632 x5_1).f6⟩ : S45)) (k45_mkM _ _ _ (⟨(rd_T45 y632 x5_1).f0,(rd_T45 y632 x5_1).f1,wrap64 ((wrap64 (x1_1 + 1)) + 1),(rd_T45 y632 x5_1).f3,(rd_T45 y632 x5_1).f4,(rd_T45 y632 x5_1).f5,(rd_T45 y632 x5_1).f6⟩ : S45) ) (fun _ hk=>hk);have hx19_2:= hcc19 2 _ rfl;(try simp only [show (k45).sz = 7 from rfl,Nat.mul_one,Nat.add_zero] at hx19_2);have hf19_2:= hfr19 2;(try simp only [show (k45).sz = 7 from rfl,Nat.mul_one,Nat.add_zero] at hf19_2);clear hcl19 hcc19 hfr19 hM19) | ((with_reducible refine gate_store (t:= 3) (p:= 30) rfl ?_);refine store_event (t:= 3) (p:= 30) (v:= ?vo_w20) (w1:= (w18.setCell ⟨go5,(x5_1 : Int).toNat * 7 + 2,none⟩ (.int .i64 (wrap64 ((wrap64 (x1_1 + 1)) + 1))))) ?hg ?ho ?hn ?hr ?_;(case ho=>rfl);(case hg=>rfl);(case hn=>rfl);(case hr=>exact vz);intro w20 hw;have hg : w18.grownBy w20 (some go5):= (by rw [hw];exact HP19.2);have hp_ : Kd.R k45 45 w20 w0.heap.size (fun k_=>(P0_ k_ \/ w.heap.size <= k_)) (.slice (some ⟨go5,0,none⟩) x0_1.length co14) y633:= (by rw [hw,Ny633.out];exact HP19.1);clear HP19;replace HB:= am ((by rw [hw];exact below_set (HB.out) GB5.out : Below w0.heap.size w0 w20));replace HK:= am (Kept.of_grown (S:= (fun k_=>P0_ k_)) hg (by repeat (first | (with_reducible first | exact HK.out | apply Kept.alloc | apply Kept.drewN | apply Kept.drew) | exact HK.out)) (fun k_ e_=>(HO_0.out.1 k_ e_)));replace HO_0:= am (hp_);clear hg hw hp_;have p8 : 0 <= (x5_1 : Int):= oz;have q8 : (x5_1 : Int) < ((x0_1.length : Int) : Int):= oz;obtain ⟨ce8,hcl8,hM8,hcc8,hfr8⟩:= Kd.R_elem HO_0.out z45 (x5_1 : Int) p8 q8;obtain rfl:= k45_openM hM8;have hx8_0 : w20.cell? ⟨go5,(x5_1 : Int).toNat * 7,none⟩ = some (.int .i64 ((rd_T45 y633 x5_1).f0)):= hcc8 0 _ rfl;have hx8_1 : w20.cell? ⟨go5,(x5_1 : Int).toNat * 7 + 1,none⟩ = some (.int .i64 ((rd_T45 y633 x5_1).f1)):= hcc8 1 _ rfl;have hx8_2 : w20.cell? ⟨go5,(x5_1 : Int).toNat * 7 + 2,none⟩ = some (.int .i64 ((rd_T45 y633 x5_1).f2)):= hcc8 2 _ rfl;have hx8_3 : w20.cell? ⟨go5,(x5_1 : Int).toNat * 7 + 3,none⟩ = some (.int .i64 ((rd_T45 y633 x5_1).f3)):= hcc8 3 _ rfl;have hx8_4 : w20.cell? ⟨go5,(x5_1 : Int).toNat * 7 + 4,none⟩ = some (.int .i64 ((rd_T45 y633 x5_1).f4)):= hcc8 4 _ rfl;have hx8_5 : w20.cell? ⟨go5,(x5_1 : Int).toNat * 7 + 5,none⟩ = some (.string ((rd_T45 y633 x5_1).f5)):= hcc8 5 _ rfl;have hx8_6 : w20.cell? ⟨go5,(x5_1 : Int).toNat * 7 + 6,none⟩ = some (.string ((rd_T45 y633 x5_1).f6)):= hcc8 6 _ rfl;have hf8_0 : w20.frozen? ⟨go5,(x5_1 : Int).toNat * 7,none⟩ = false:= hfr8 0;have hf8_1 : w20.frozen? ⟨go5,(x5_1 : Int).toNat * 7 + 1,none⟩ = false:= hfr8 1;have hf8_2 : w20.frozen? ⟨go5,(x5_1 : Int).toNat * 7 + 2,none⟩ = false:= hfr8 2;have hf8_3 : w20.frozen? ⟨go5,(x5_1 : Int).toNat * 7 + 3,none⟩ = false:= hfr8 3;have hf8_4 : w20.frozen? ⟨go5,(x5_1 : Int).toNat * 7 + 4,none⟩ = false:= hfr8 4;have hf8_5 : w20.frozen? ⟨go5,(x5_1 : Int).toNat * 7 + 5,none⟩ = false:= hfr8 5;have hf8_6 : w20.frozen? ⟨go5,(x5_1 : Int).toNat * 7 + 6,none⟩ = false:= hfr8 6;clear hcl8 hcc8 hfr8 hM8;replace p8:= eq_true p8;replace q8:= eq_true q8;have HX21:= am (show Kd.R k45 45 w20 w0.heap.size (fun k_=>(P0_ k_ \/ w.heap.size <= k_)) (.slice (some ⟨go5,0,none⟩) x0_1.length co14) y633 from (rz HO_0.out));obtain ⟨ce21,hcl21,hM21,hcc21,hfr21⟩:= Kd.R_elem HX21.out z45 (x5_1 : Int) (of_decide_eq_true az) (by have h_ : (x5_1 : Int) < ((x0_1.length : Int) : Int):= oz;first | exact h_ | (have e_:= (Kd.R_reads' HO_0.out).1;omega) | simpa using h_);obtain rfl:= k45_openM hM21;have HP21:= Kd.R_seg HX21.out (x5_1 : Int) (of_decide_eq_true az) (by have h_ : (x5_1 : Int) < ((x0_1.length : Int) : Int):= oz;first | exact h_ | (have e_:= (Kd.R_reads' HO_0.out).1;omega) | simpa using h_) (seg:= [.int .i64 (wrap64 ((wrap64 ((wrap64 (x1_1 + 1)) + 1)) + 1))]) (j:= 3) hcl21 hcc21 (show 4 <= 7 from by decide) (x':= (⟨(rd_T45 y633 x5_1).f0,(rd_T45 y633 x5_1).f1,(rd_T45 y633 x5_1).f2,wrap64 ((wrap64 ((wrap64 (x1_1 + 1)) + 1)) + 1),(rd_T45 y633 x5_1).f4,(rd_T45 y633 x5_1).f5,(rd_T45 y633 x5_1).f6⟩ : S45)) (k45_mkM _ _ _ (⟨(rd_T45 y633 x5_1).f0,(rd_T45 y633 x5_1).f1,(rd_T45 y633 x5_1).f2,wrap64 ((wrap64 ((wrap64 (x1_1 + 1)) + 1)) + 1),(rd_T45 y633 x5_1).f4,(rd_T45 y633 x5_1).f5,(rd_T45 y633 x5_1).f6⟩ : S45) ) (fun _ hk=>hk);have hx21_3:= hcc21 3 _ rfl;(try simp only [show (k45).sz = 7 from rfl,Nat.mul_one,Nat.add_zero] at hx21_3);have hf21_3:= hfr21 3;(try simp only [show (k45).sz = 7 from rfl,Nat.mul_one,Nat.add_zero] at hf21_3);clear hcl21 hcc21 hfr21 hM21) | ((with_reducible refine gate_store (t:= 3) (p:= 37) rfl ?_);refine store_event (t:= 3) (p:= 37) (v:= ?vo_w22) (w1:= (w20.setCell ⟨go5,(x5_1 : Int).toNat * 7 + 3,none⟩ (.int .i64 (wrap64 ((wrap64 ((wrap64 (x1_1 + 1)) + 1)) + 1))))) ?hg ?ho ?hn ?hr ?_;(case ho=>rfl);(case hg=>rfl);(case hn=>rfl);(case hr=>exact vz);intro w22 hw;have hg : w20.grownBy w22 (some go5):= (by rw [hw];exact HP21.2);have hp_ : Kd.R k45 45 w22 w0.heap.size (fun k_=>(P0_ k_ \/ w.heap.size <= k_)) (.slice (some ⟨go5,0,none⟩) x0_1.length co14) y634:= (by rw [hw,Ny634.out];exact HP21.1);clear HP21;replace HB:= am ((by rw [hw];exact below_set (HB.out) GB5.out : Below w0.heap.size w0 w22));replace HK:= am (Kept.of_grown (S:= (fun k_=>P0_ k_)) hg (by repeat (first | (with_reducible first | exact HK.out | apply Kept.alloc | apply Kept.drewN | apply Kept.drew) | exact HK.out)) (fun k_ e_=>(HO_0.out.1 k_ e_)));replace HO_0:= am (hp_);clear hg hw hp_;have p9 : 0 <= (x5_1 : Int):= oz;have q9 : (x5_1 : Int) < ((x0_1.length : Int) : Int):= oz;obtain ⟨ce9,hcl9,hM9,hcc9,hfr9⟩:= Kd.R_elem HO_0.out z45 (x5_1 : Int) p9 q9;obtain rfl:= k45_openM hM9;have hx9_0 : w22.cell? ⟨go5,(x5_1 : Int).toNat * 7,none⟩ = some (.int .i64 ((rd_T45 y634 x5_1).f0)):= hcc9 0 _ rfl;have hx9_1 : w22.cell? ⟨go5,(x5_1 : Int).toNat * 7 + 1,none⟩ = some (.int .i64 ((rd_T45 y634 x5_1).f1)):= hcc9 1 _ rfl;have hx9_2 : w22.cell? ⟨go5,(x5_1 : Int).toNat * 7 + 2,none⟩ = some (.int .i64 ((rd_T45 y634 x5_1).f2)):= hcc9 2 _ rfl;have hx9_3 : w22.cell? ⟨go5,(x5_1 : Int).toNat * 7 + 3,none⟩ = some (.int .i64 ((rd_T45 y634 x5_1).f3)):= hcc9 3 _ rfl;have hx9_4 : w22.cell? ⟨go5,(x5_1 : Int).toNat * 7 + 4,none⟩ = some (.int .i64 ((rd_T45 y634 x5_1).f4)):= hcc9 4 _ rfl;have hx9_5 : w22.cell? ⟨go5,(x5_1 : Int).toNat * 7 + 5,none⟩ = some (.string ((rd_T45 y634 x5_1).f5)):= hcc9 5 _ rfl;have hx9_6 : w22.cell? ⟨go5,(x5_1 : Int).toNat * 7 + 6,none⟩ = some (.string ((rd_T45 y634 x5_1).f6)):= hcc9 6 _ rfl;have hf9_0 : w22.frozen? ⟨go5,(x5_1 : Int).toNat * 7,none⟩ = false:= hfr9 0;have hf9_1 : w22.frozen? ⟨go5,(x5_1 : Int).toNat * 7 + 1,none⟩ = false:= hfr9 1;have hf9_2 : w22.frozen? ⟨go5,(x5_1 : Int).toNat * 7 + 2,none⟩ = false:= hfr9 2;have hf9_3 : w22.frozen? ⟨go5,(x5_1 : Int).toNat * 7 + 3,none⟩ = false:= hfr9 3;have hf9_4 : w22.frozen? ⟨go5,(x5_1 : Int).toNat * 7 + 4,none⟩ = false:= hfr9 4;have hf9_5 : w22.frozen? ⟨go5,(x5_1 : Int).toNat * 7 + 5,none⟩ = false:= hfr9 5;have hf9_6 : w22.frozen? ⟨go5,(x5_1 : Int).toNat * 7 + 6,none⟩ = false:= hfr9 6;clear hcl9 hcc9 hfr9 hM9;replace p9:= eq_true p9;replace q9:= eq_true q9;have HX23:= am (show Kd.R k45 45 w22 w0.heap.size (fun k_=>(P0_ k_ \/ w.heap.size <= k_)) (.slice (some ⟨go5,0,none⟩) x0_1.length co14) y634 from (rz HO_0.out));obtain ⟨ce23,hcl23,hM23,hcc23,hfr23⟩:= Kd.R_elem HX23.out z45 (x5_1 : Int) (of_decide_eq_true az) (by have h_ : (x5_1 : Int) < ((x0_1.length : Int) : Int):= oz;first | exact h_ | (have e_:= (Kd.R_reads' HO_0.out).1;omega) | simpa using h_);obtain rfl:= k45_openM hM23;have HP23:= Kd.R_seg HX23.out (x5_1 : Int) (of_decide_eq_true az) (by have h_ : (x5_1 : Int) < ((x0_1.length : Int) : Int):= oz;first | exact h_ | (have e_:= (Kd.R_reads' HO_0.out).1;omega) | simpa using h_) (seg:= [.int .i64 (wrap64 ((wrap64 ((wrap64 ((wrap64 (x1_1 + 1)) + 1)) + 1)) + 1))]) (j:= 4) hcl23 hcc23 (show 5 <= 7 from by decide) (x':= (⟨(rd_T45 y634 x5_1).f0,(rd_T45 y634 x5_1).f1,(rd_T45 y634 x5_1).f2,(rd_T45 y634 x5_1).f3,wrap64 ((wrap64 ((wrap64 ((wrap64 (x1_1 + 1)) + 1)) + 1)) + 1),(rd_T45 y634 x5_1).f5,(rd_T45 y634 x5_1).f6⟩ : S45)) (k45_mkM _ _ _ (⟨(rd_T45 y634 x5_1).f0,(rd_T45 y634 x5_1).f1,(rd_T45 y634 x5_1).f2,(rd_T45 y634 x5_1).f3,wrap64 ((wrap64 ((wrap64 ((wrap64 (x1_1 + 1)) + 1)) + 1)) + 1),(rd_T45 y634 x5_1).f5,(rd_T45 y634 x5_1).f6⟩ : S45) ) (fun _ hk=>hk);have hx23_4:= hcc23 4 _ rfl;(try simp only [show (k45).sz = 7 from rfl,Nat.mul_one,Nat.add_zero] at hx23_4);have hf23_4:= hfr23 4;(try simp only [show (k45).sz = 7 from rfl,Nat.mul_one,Nat.add_zero] at hf23_4);clear hcl23 hcc23 hfr23 hM23) | ((with_reducible refine gate_store (t:= 3) (p:= 44) rfl ?_);refine store_event (t:= 3) (p:= 44) (v:= ?vo_w24) (w1:= (w22.setCell ⟨go5,(x5_1 : Int).toNat * 7 + 4,none⟩ (.int .i64 (wrap64 ((wrap64 ((wrap64 ((wrap64 (x1_1 + 1)) + 1)) + 1)) + 1))))) ?hg ?ho ?hn ?hr ?_;(case ho=>rfl);(case hg=>rfl);(case hn=>rfl);(case hr=>exact vz);intro w24 hw;have hg : w22.grownBy w24 (some go5):= (by rw [hw];exact HP23.2);have hp_ : Kd.R k45 45 w24 w0.heap.size (fun k_=>(P0_ k_ \/ w.heap.size <= k_)) (.slice (some ⟨go5,0,none⟩) x0_1.length co14) y635:= (by rw [hw,Ny635.out];exact HP23.1);clear HP23;replace HB:= am ((by rw [hw];exact below_set (HB.out) GB5.out : Below w0.heap.size w0 w24));replace HK:= am (Kept.of_grown (S:= (fun k_=>P0_ k_)) hg (by repeat (first | (with_reducible first | exact HK.out | apply Kept.alloc | apply Kept.drewN | apply Kept.drew) | exact HK.out)) (fun k_ e_=>(HO_0.out.1 k_ e_)));replace HO_0:= am (hp_);clear hg hw hp_) | ((with_reducible refine gate_callee (f:= 37) rfl ?_);refine goesL_ (some 50) rfl rfl Tryz.func37 kr rfl #[.int .i64 (wrap64 ((wrap64 ((wrap64 ((wrap64 ((wrap64 (x1_1 + 1)) + 1)) + 1)) + 1)) + 1))] rfl lz ?_;(with_reducible refine (laws_markText.calls k1 (wrap64 ((wrap64 ((wrap64 ((wrap64 ((wrap64 (x1_1 + 1)) + 1)) + 1)) + 1)) + 1)) t636 _ A10.out).mono ?_);rintro e w25 ⟨rfl,hb⟩;refine ⟨_,rfl,?_⟩;replace HO_0:= qz HO_0 hb;replace HK:= am (Kept.below (S:= (fun k_=>P0_ k_)) (by repeat (first | (with_reducible first | exact HK.out | apply Kept.alloc | apply Kept.drewN | apply Kept.drew) | exact HK.out)) hb);replace HB:= bs (bz0 HB.out) hb;(try clear hb);(try clear hk);have p11 : 0 <= (x5_1 : Int):= oz;have q11 : (x5_1 : Int) < ((x0_1.length : Int) : Int):= oz;obtain ⟨ce11,hcl11,hM11,hcc11,hfr11⟩:= Kd.R_elem HO_0.out z45 (x5_1 : Int) p11 q11;obtain rfl:= k45_openM hM11;have hx11_0 : w25.cell? ⟨go5,(x5_1 : Int).toNat * 7,none⟩ = some (.int .i64 ((rd_T45 y635 x5_1).f0)):= hcc11 0 _ rfl;have hx11_1 : w25.cell? ⟨go5,(x5_1 : Int).toNat * 7 + 1,none⟩ = some (.int .i64 ((rd_T45 y635 x5_1).f1)):= hcc11 1 _ rfl;have hx11_2 : w25.cell? ⟨go5,(x5_1 : Int).toNat * 7 + 2,none⟩ = some (.int .i64 ((rd_T45 y635 x5_1).f2)):= hcc11 2 _ rfl;have hx11_3 : w25.cell? ⟨go5,(x5_1 : Int).toNat * 7 + 3,none⟩ = some (.int .i64 ((rd_T45 y635 x5_1).f3)):= hcc11 3 _ rfl;have hx11_4 : w25.cell? ⟨go5,(x5_1 : Int).toNat * 7 + 4,none⟩ = some (.int .i64 ((rd_T45 y635 x5_1).f4)):= hcc11 4 _ rfl;have hx11_5 : w25.cell? ⟨go5,(x5_1 : Int).toNat * 7 + 5,none⟩ = some (.string ((rd_T45 y635 x5_1).f5)):= hcc11 5 _ rfl;have hx11_6 : w25.cell? ⟨go5,(x5_1 : Int).toNat * 7 + 6,none⟩ = some (.string ((rd_T45 y635 x5_1).f6)):= hcc11 6 _ rfl;have hf11_0 : w25.frozen? ⟨go5,(x5_1 : Int).toNat * 7,none⟩ = false:= hfr11 0;have hf11_1 : w25.frozen? ⟨go5,(x5_1 : Int).toNat * 7 + 1,none⟩ = false:= hfr11 1;have hf11_2 : w25.frozen? ⟨go5,(x5_1 : Int).toNat * 7 + 2,none⟩ = false:= hfr11 2;have hf11_3 : w25.frozen? ⟨go5,(x5_1 : Int).toNat * 7 + 3,none⟩ = false:= hfr11 3;have hf11_4 : w25.frozen? ⟨go5,(x5_1 : Int).toNat * 7 + 4,none⟩ = false:= hfr11 4;have hf11_5 : w25.frozen? ⟨go5,(x5_1 : Int).toNat * 7 + 5,none⟩ = false:= hfr11 5;have hf11_6 : w25.frozen? ⟨go5,(x5_1 : Int).toNat * 7 + 6,none⟩ = false:= hfr11 6;clear hcl11 hcc11 hfr11 hM11;replace p11:= eq_true p11;replace q11:= eq_true q11;have HX26:= am (show Kd.R k45 45 w25 w0.heap.size (fun k_=>(P0_ k_ \/ w.heap.size <= k_)) (.slice (some ⟨go5,0,none⟩) x0_1.length co14) y635 from (rz HO_0.out));obtain ⟨ce26,hcl26,hM26,hcc26,hfr26⟩:= Kd.R_elem HX26.out z45 (x5_1 : Int) (of_decide_eq_true az) (by have h_ : (x5_1 : Int) < ((x0_1.length : Int) : Int):= oz;first | exact h_ | (have e_:= (Kd.R_reads' HO_0.out).1;omega) | simpa using h_);obtain rfl:= k45_openM hM26;have HP26:= Kd.R_seg HX26.out (x5_1 : Int) (of_decide_eq_true az) (by have h_ : (x5_1 : Int) < ((x0_1.length : Int) : Int):= oz;first | exact h_ | (have e_:= (Kd.R_reads' HO_0.out).1;omega) | simpa using h_) (seg:= [.string t636]) (j:= 5) hcl26 hcc26 (show 6 <= 7 from by decide) (x':= (⟨(rd_T45 y635 x5_1).f0,(rd_T45 y635 x5_1).f1,(rd_T45 y635 x5_1).f2,(rd_T45 y635 x5_1).f3,(rd_T45 y635 x5_1).f4,t636,(rd_T45 y635 x5_1).f6⟩ : S45)) (k45_mkM _ _ _ (⟨(rd_T45 y635 x5_1).f0,(rd_T45 y635 x5_1).f1,(rd_T45 y635 x5_1).f2,(rd_T45 y635 x5_1).f3,(rd_T45 y635 x5_1).f4,t636,(rd_T45 y635 x5_1).f6⟩ : S45) ) (fun _ hk=>hk);have hx26_5:= hcc26 5 _ rfl;(try simp only [show (k45).sz = 7 from rfl,Nat.mul_one,Nat.add_zero] at hx26_5);have hf26_5:= hfr26 5;(try simp only [show (k45).sz = 7 from rfl,Nat.mul_one,Nat.add_zero] at hf26_5);clear hcl26 hcc26 hfr26 hM26) | ((with_reducible refine gate_store (t:= 9) (p:= 52) rfl ?_);refine store_event (t:= 9) (p:= 52) (v:= ?vo_w27) (w1:= (w25.setCell ⟨go5,(x5_1 : Int).toNat * 7 + 5,none⟩ (.string t636))) ?hg ?ho ?hn ?hr ?_;(case ho=>rfl);(case hg=>rfl);(case hn=>rfl);(case hr=>exact vz);intro w27 hw;have hg : w25.grownBy w27 (some go5):= (by rw [hw];exact HP26.2);have hp_ : Kd.R k45 45 w27 w0.heap.size (fun k_=>(P0_ k_ \/ w.heap.size <= k_)) (.slice (some ⟨go5,0,none⟩) x0_1.length co14) y637:= (by rw [hw,Ny637.out];exact HP26.1);clear HP26;replace HB:= am ((by rw [hw];exact below_set (HB.out) GB5.out : Below w0.heap.size w0 w27));replace HK:= am (Kept.of_grown (S:= (fun k_=>P0_ k_)) hg (by repeat (first | (with_reducible first | exact HK.out | apply Kept.alloc | apply Kept.drewN | apply Kept.drew) | exact HK.out)) (fun k_ e_=>(HO_0.out.1 k_ e_)));replace HO_0:= am (hp_);clear hg hw hp_) | ((with_reducible refine gate_callee (f:= 37) rfl ?_);refine goesL_ (some 58) rfl rfl Tryz.func37 kr rfl #[.int .i64 (wrap64 ((wrap64 ((wrap64 ((wrap64 ((wrap64 ((wrap64 (x1_1 + 1)) + 1)) + 1)) + 1)) + 1)) + 1))] rfl lz ?_;(with_reducible refine (laws_markText.calls k1 (wrap64 ((wrap64 ((wrap64 ((wrap64 ((wrap64 ((wrap64 (x1_1 + 1)) + 1)) + 1)) + 1)) + 1)) + 1)) t638 _ A12.out).mono ?_);rintro e w28 ⟨rfl,hb⟩;refine ⟨_,rfl,?_⟩;replace HO_0:= qz HO_0 hb;replace HK:= am (Kept.below (S:= (fun k_=>P0_ k_)) (by repeat (first | (with_reducible first | exact HK.out | apply Kept.alloc | apply Kept.drewN | apply Kept.drew) | exact HK.out)) hb);replace HB:= bs (bz0 HB.out) hb;(try clear hb);(try clear hk);have p13 : 0 <= (x5_1 : Int):= oz;have q13 : (x5_1 : Int) < ((x0_1.length : Int) : Int):= oz;obtain ⟨ce13,hcl13,hM13,hcc13,hfr13⟩:= Kd.R_elem HO_0.out z45 (x5_1 : Int) p13 q13;obtain rfl:= k45_openM hM13;have hx13_0 : w28.cell? ⟨go5,(x5_1 : Int).toNat * 7,none⟩ = some (.int .i64 ((rd_T45 y637 x5_1).f0)):= hcc13 0 _ rfl;have hx13_1 : w28.cell? ⟨go5,(x5_1 : Int).toNat * 7 + 1,none⟩ = some (.int .i64 ((rd_T45 y637 x5_1).f1)):= hcc13 1 _ rfl;have hx13_2 : w28.cell? ⟨go5,(x5_1 : Int).toNat * 7 + 2,none⟩ = some (.int .i64 ((rd_T45 y637 x5_1).f2)):= hcc13 2 _ rfl;have hx13_3 : w28.cell? ⟨go5,(x5_1 : Int).toNat * 7 + 3,none⟩ = some (.int .i64 ((rd_T45 y637 x5_1).f3)):= hcc13 3 _ rfl;have hx13_4 : w28.cell? ⟨go5,(x5_1 : Int).toNat * 7 + 4,none⟩ = some (.int .i64 ((rd_T45 y637 x5_1).f4)):= hcc13 4 _ rfl;have hx13_5 : w28.cell? ⟨go5,(x5_1 : Int).toNat * 7 + 5,none⟩ = some (.string ((rd_T45 y637 x5_1).f5)):= hcc13 5 _ rfl;have hx13_6 : w28.cell? ⟨go5,(x5_1 : Int).toNat * 7 + 6,none⟩ = some (.string ((rd_T45 y637 x5_1).f6)):= hcc13 6 _ rfl;have hf13_0 : w28.frozen? ⟨go5,(x5_1 : Int).toNat * 7,none⟩ = false:= hfr13 0;have hf13_1 : w28.frozen? ⟨go5,(x5_1 : Int).toNat * 7 + 1,none⟩ = false:= hfr13 1;have hf13_2 : w28.frozen? ⟨go5,(x5_1 : Int).toNat * 7 + 2,none⟩ = false:= hfr13 2;have hf13_3 : w28.frozen? ⟨go5,(x5_1 : Int).toNat * 7 + 3,none⟩ = false:= hfr13 3;have hf13_4 : w28.frozen? ⟨go5,(x5_1 : Int).toNat * 7 + 4,none⟩ = false:= hfr13 4;have hf13_5 : w28.frozen? ⟨go5,(x5_1 : Int).toNat * 7 + 5,none⟩ = false:= hfr13 5;have hf13_6 : w28.frozen? ⟨go5,(x5_1 : Int).toNat * 7 + 6,none⟩ = false:= hfr13 6;clear hcl13 hcc13 hfr13 hM13;replace p13:= eq_true p13;replace q13:= eq_true q13;have HX29:= am (show Kd.R k45 45 w28 w0.heap.size (fun k_=>(P0_ k_ \/ w.heap.size <= k_)) (.slice (some ⟨go5,0,none⟩) x0_1.length co14) y637 from (rz HO_0.out));obtain ⟨ce29,hcl29,hM29,hcc29,hfr29⟩:= Kd.R_elem HX29.out z45 (x5_1 : Int) (of_decide_eq_true az) (by have h_ : (x5_1 : Int) < ((x0_1.length : Int) : Int):= oz;first | exact h_ | (have e_:= (Kd.R_reads' HO_0.out).1;omega) | simpa using h_);obtain rfl:= k45_openM hM29;have HP29:= Kd.R_seg HX29.out (x5_1 : Int) (of_decide_eq_true az) (by have h_ : (x5_1 : Int) < ((x0_1.length : Int) : Int):= oz;first | exact h_ | (have e_:= (Kd.R_reads' HO_0.out).1;omega) | simpa using h_) (seg:= [.string t638]) (j:= 6) hcl29 hcc29 (show 7 <= 7 from by decide) (x':= (⟨(rd_T45 y637 x5_1).f0,(rd_T45 y637 x5_1).f1,(rd_T45 y637 x5_1).f2,(rd_T45 y637 x5_1).f3,(rd_T45 y637 x5_1).f4,(rd_T45 y637 x5_1).f5,t638⟩ : S45)) (k45_mkM _ _ _ (⟨(rd_T45 y637 x5_1).f0,(rd_T45 y637 x5_1).f1,(rd_T45 y637 x5_1).f2,(rd_T45 y637 x5_1).f3,(rd_T45 y637 x5_1).f4,(rd_T45 y637 x5_1).f5,t638⟩ : S45) ) (fun _ hk=>hk);have hx29_6:= hcc29 6 _ rfl;(try simp only [show (k45).sz = 7 from rfl,Nat.mul_one,Nat.add_zero] at hx29_6);have hf29_6:= hfr29 6;(try simp only [show (k45).sz = 7 from rfl,Nat.mul_one,Nat.add_zero] at hf29_6);clear hcl29 hcc29 hfr29 hM29) | ((with_reducible refine gate_store (t:= 9) (p:= 60) rfl ?_);refine store_event (t:= 9) (p:= 60) (v:= ?vo_w30) (w1:= (w28.setCell ⟨go5,(x5_1 : Int).toNat * 7 + 6,none⟩ (.string t638))) ?hg ?ho ?hn ?hr ?_;(case ho=>rfl);(case hg=>rfl);(case hn=>rfl);(case hr=>exact vz);intro w30 hw;have hg : w28.grownBy w30 (some go5):= (by rw [hw];exact HP29.2);have hp_ : Kd.R k45 45 w30 w0.heap.size (fun k_=>(P0_ k_ \/ w.heap.size <= k_)) (.slice (some ⟨go5,0,none⟩) x0_1.length co14) y639:= (by rw [hw,Ny639.out];exact HP29.1);clear HP29;replace HB:= am ((by rw [hw];exact below_set (HB.out) GB5.out : Below w0.heap.size w0 w30));replace HK:= am (Kept.of_grown (S:= (fun k_=>P0_ k_)) hg (by repeat (first | (with_reducible first | exact HK.out | apply Kept.alloc | apply Kept.drewN | apply Kept.drew) | exact HK.out)) (fun k_ e_=>(HO_0.out.1 k_ e_)));replace HO_0:= am (hp_);clear hg hw hp_))
    go_roundg k1
    case measure=>have:= HK1.out;omega
    case rel=>exact ⟨(y639),(wrap64 ((wrap64 ((wrap64 ((wrap64 ((wrap64 ((wrap64 ((wrap64 (x1_1 + 1)) + 1)) + 1)) + 1)) + 1)) + 1)) + 1)),(wrap64 (x5_1 + 1)),ez,ez,H',⟨by have:= HK1.out;omega⟩,⟨by refine rq ?_;exact HO_0.out⟩,⟨by repeat (first | (with_reducible first | exact HK.out | apply Kept.alloc | apply Kept.drewN | apply Kept.drew) | exact HK.out)⟩,⟨(bz0 HB.out)⟩⟩
   ·rw [if_neg c3] at H
    have c3b0:= decide_eq_false c3
    clear c3
    simp only [Option.some.injEq,Prod.mk.injEq] at H
    obtain ⟨rfl,rfl⟩:= H
    obtain ⟨Ao31,co31,eo31⟩:= Kd.R_slice HO_0.out
    subst eo31
    go_wp2
    go_ret
    exact ⟨gz,by refine rq ?_;exact HO_0.out,(bz0 HB.out),by repeat (first | (with_reducible first | exact HK.out | apply Kept.alloc | apply Kept.drewN | apply Kept.drew) | exact HK.out)⟩
end Go.Proofs.YtdjamdnjkdllgaaGreatDoor.PFnExactRenameOne
