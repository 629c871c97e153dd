/- PFnFreshx16, of the words and walks that the law FnFresh needs; made by this session's program out of printed texts. -/
import Derived.Test.YthmpgocaoccnaaaGreatDoorVFnFreshPx0
namespace Go.Proofs.YthmpgocaoccnaaaGreatDoor.PFnFresh
open Go.RowKit Go.Proofs.YthmpgocaoccnaaaGreatDoorW.PrintWords Go.Proofs.YthmpgocaoccnaaaGreatDoorW.PrintLast Go.Proofs.YthmpgocaoccnaaaGreatDoorW.PrintMore
attribute [local go_sem] max2_int min2_int max_two min_two max_three min_three max_four min_four
set_option linter.unusedVariables false
set_option linter.unusedSimpArgs false
def spec_l3Int.f (a0:Int):Option ((List (S45))):=some (([(⟨2,0,0,0,a0,(⟨#[]⟩:ByteArray),(⟨#[]⟩:ByteArray)⟩:S45)]:List (S45)))
set_option maxHeartbeats 8000000 in
set_option maxRecDepth 100000 in
theorem spec_l3Int.calls (a0:Int) (r:List (S45)) (w:World) (h:spec_l3Int.f a0=some r) :
  Calls Tryz.prog 91 #[.int .i64 a0] w fun e w'=>∃ v0_:Value,e=.returned (v0_) /\ Kd.R k45 45 w' w.heap.size (fun _=>True) v0_ r /\ Below w.heap.size w w':=by
 have hu45:=Tryz.underlying45
 have HB:=am (Below.refl w.heap.size w)
 have H:(some (([(⟨2,0,0,0,a0,(⟨#[]⟩:ByteArray),(⟨#[]⟩:ByteArray)⟩:S45)]:List (S45))))=some r:=h
 clear h
 obtain ⟨y457,hy457⟩:∃ y_:List (S45),y_=(([(⟨2,0,0,0,a0,(⟨#[]⟩:ByteArray),(⟨#[]⟩:ByteArray)⟩:S45)]:List (S45))):=⟨_,rfl⟩
 replace H:(some y457)=some r:=yz hy457 H
 have Ny457:=am hy457
 clear hy457
 obtain rfl:=Option.some.inj H
 go_enter Tryz.func91,Tryz.ntmps91
 go_wp2_with (first|((with_reducible refine gate_dst (N:=5) rfl ?_);refine Kd.R_lit k45 _ 45 ?hg (N:=5) ?hd (xs:=([(⟨2,0,0,0,a0,(⟨#[]⟩:ByteArray),(⟨#[]⟩:ByteArray)⟩:S45)]:List (S45))) (inner:=[.int .i64 2,.int .i64 0,.int .i64 0,.int .i64 0,.int .i64 a0,.string (⟨#[]⟩:ByteArray),.string (⟨#[]⟩:ByteArray)]) (ok:=fun _=>True) (okp:=fun _=>True) ?hr ?hp (fun _ hk=>hk) trivial (Below.refl _ _) (Nat.le_refl _) (by simp) ?_;(case hd=>rfl);(case hg=>rfl);(case hr=>exact vz);(case hp=>exact (Reps.c7 (show Kd.M k45 _ _ _ (⟨2,0,0,0,a0,(⟨#[]⟩:ByteArray),(⟨#[]⟩:ByteArray)⟩:S45) [.int .i64 2,.int .i64 0,.int .i64 0,.int .i64 0,.int .i64 a0,.string (⟨#[]⟩:ByteArray),.string (⟨#[]⟩:ByteArray)] from (k45_mkM _ _ _ (⟨2,0,0,0,a0,(⟨#[]⟩:ByteArray),(⟨#[]⟩:ByteArray)⟩:S45) )) (Reps.none _ _)));intro v458 w2 ho3 hb hg_ hnew_;clear hg_ hnew_;(first|rw [<- Ny457.out] at ho3|(simp only [Int.reduceToNat] at ho3;rw [<- Ny457.out] at ho3));have HO459:=am (Kd.R_lower ho3 (below_size (bz0 HB.out)));replace HB:=bs (bz0 HB.out) hb;clear hb ho3))
 go_ret
 exact ⟨_,gz,by refine rq ?_;exact HO459.out,(bz0 HB.out)⟩
def spec_l3Var.f (a0:ByteArray):Option ((List (S45))):=some (([(⟨1,0,0,0,0,a0,(⟨#[]⟩:ByteArray)⟩:S45)]:List (S45)))
set_option maxHeartbeats 8000000 in
set_option maxRecDepth 100000 in
theorem spec_l3Var.calls (a0:ByteArray) (r:List (S45)) (w:World) (h:spec_l3Var.f a0=some r) :
  Calls Tryz.prog 99 #[.string a0] w fun e w'=>∃ v0_:Value,e=.returned (v0_) /\ Kd.R k45 45 w' w.heap.size (fun _=>True) v0_ r /\ Below w.heap.size w w':=by
 have hu45:=Tryz.underlying45
 have HB:=am (Below.refl w.heap.size w)
 have H:(some (([(⟨1,0,0,0,0,a0,(⟨#[]⟩:ByteArray)⟩:S45)]:List (S45))))=some r:=h
 clear h
 obtain ⟨y460,hy460⟩:∃ y_:List (S45),y_=(([(⟨1,0,0,0,0,a0,(⟨#[]⟩:ByteArray)⟩:S45)]:List (S45))):=⟨_,rfl⟩
 replace H:(some y460)=some r:=yz hy460 H
 have Ny460:=am hy460
 clear hy460
 obtain rfl:=Option.some.inj H
 go_enter Tryz.func99,Tryz.ntmps99
 go_wp2_with (first|((with_reducible refine gate_dst (N:=5) rfl ?_);refine Kd.R_lit k45 _ 45 ?hg (N:=5) ?hd (xs:=([(⟨1,0,0,0,0,a0,(⟨#[]⟩:ByteArray)⟩:S45)]:List (S45))) (inner:=[.int .i64 1,.int .i64 0,.int .i64 0,.int .i64 0,.int .i64 0,.string a0,.string (⟨#[]⟩:ByteArray)]) (ok:=fun _=>True) (okp:=fun _=>True) ?hr ?hp (fun _ hk=>hk) trivial (Below.refl _ _) (Nat.le_refl _) (by simp) ?_;(case hd=>rfl);(case hg=>rfl);(case hr=>exact vz);(case hp=>exact (Reps.c7 (show Kd.M k45 _ _ _ (⟨1,0,0,0,0,a0,(⟨#[]⟩:ByteArray)⟩:S45) [.int .i64 1,.int .i64 0,.int .i64 0,.int .i64 0,.int .i64 0,.string a0,.string (⟨#[]⟩:ByteArray)] from (k45_mkM _ _ _ (⟨1,0,0,0,0,a0,(⟨#[]⟩:ByteArray)⟩:S45) )) (Reps.none _ _)));intro v461 w2 ho3 hb hg_ hnew_;clear hg_ hnew_;(first|rw [<- Ny460.out] at ho3|(simp only [Int.reduceToNat] at ho3;rw [<- Ny460.out] at ho3));have HO462:=am (Kd.R_lower ho3 (below_size (bz0 HB.out)));replace HB:=bs (bz0 HB.out) hb;clear hb ho3))
 go_ret
 exact ⟨_,gz,by refine rq ?_;exact HO462.out,(bz0 HB.out)⟩
def spec_l1In.f (a0:Int) (a1:Int) (a2:Int):Option (Bool):=if a0≥a1 then (some (decide (a0 <= a2))) else (some false)
set_option maxHeartbeats 8000000 in
set_option maxRecDepth 100000 in
theorem spec_l1In.calls (a0:Int) (a1:Int) (a2:Int) (r:Bool) (w:World) (h:spec_l1In.f a0 a1 a2=some r) :
  Calls Tryz.prog 40 #[.int .i64 a0,.int .i64 a1,.int .i64 a2] w fun e w'=>e=.returned (.bool r) /\ Drawn0 w w':=by
 have H:(if a0≥a1 then (some (decide (a0 <= a2))) else (some false))=some r:=h
 clear h
 by_cases c4:a0≥a1
 ·rw [if_pos c4] at H
  have c4b0:decide (a1 <= a0)=true:=decide_eq_true c4
  clear c4
  obtain rfl:=Option.some.inj H
  go_enter Tryz.func40,Tryz.ntmps40
  go_wp2
  go_ret
  exact ⟨e2z,dz⟩
 ·rw [if_neg c4] at H
  have c4b0:decide (a1 <= a0)=false:=decide_eq_false c4
  clear c4
  obtain rfl:=Option.some.inj H
  go_enter Tryz.func40,Tryz.ntmps40
  go_wp2
  go_ret
  exact ⟨e2z,dz⟩
def spec_l2Letter.f (a0:Int):Option (Bool):=if a0≥97 then (some (decide (a0 <= 122))) else (some false)
set_option maxHeartbeats 8000000 in
set_option maxRecDepth 100000 in
theorem spec_l2Letter.calls (a0:Int) (r:Bool) (w:World) (h:spec_l2Letter.f a0=some r) :
  Calls Tryz.prog 69 #[.int .u8 a0] w fun e w'=>e=.returned (.bool r) /\ Drawn0 w w':=by
 have H:(if a0≥97 then (some (decide (a0 <= 122))) else (some false))=some r:=h
 clear h
 by_cases c2:a0≥97
 ·rw [if_pos c2] at H
  have c2b0:decide (97 <= a0)=true:=decide_eq_true c2
  clear c2
  obtain rfl:=Option.some.inj H
  go_enter Tryz.func69,Tryz.ntmps69
  go_wp2
  go_ret
  exact ⟨e2z,dz⟩
 ·rw [if_neg c2] at H
  have c2b0:decide (97 <= a0)=false:=decide_eq_false c2
  clear c2
  obtain rfl:=Option.some.inj H
  go_enter Tryz.func69,Tryz.ntmps69
  go_wp2
  go_ret
  exact ⟨e2z,dz⟩
def spec_IsWord.l0:Nat -> ByteArray -> Int -> Option (Bool)
 | 0,_,_=>none
 | k+1,x0,x3=>if x3<(x0.size:Int) then (if 0 <= x3 then ((spec_l2Letter.f (bt x0 x3)).bind fun t548=>(if t548=true then (spec_IsWord.l0 k x0 (wrap64 (x3+1))) else (some false))) else (none)) else ((spec_l1In.f (x0.size:Int) 1 8).bind fun t549=>(some t549))
def spec_IsWord.f (k:Nat) (a0:ByteArray):Option (Bool):=spec_IsWord.l0 k a0 0
theorem spec_IsWord.mono_l:∀ k,(∀ y0 y1,LeO (spec_IsWord.l0 k y0 y1) (spec_IsWord.l0 (k+1) y0 y1))
 | 0=>fun _ _ r h=>by simp [spec_IsWord.l0] at h
 | k+1=>by
  have ih0:=spec_IsWord.mono_l k
  ·intro y0 y1
   unfold spec_IsWord.l0
   with_reducible repeat' first|exact ih0 _ _|exact lrz _|exact lnz _|refine liz ?_ ?_|refine lbz ?_ fun _=>?_
theorem spec_IsWord.mono:∀ a0 k,LeO (spec_IsWord.f k a0) (spec_IsWord.f (k+1) a0):=by
 intro a0 k
 have ih0:=spec_IsWord.mono_l k
 unfold spec_IsWord.f
 with_reducible repeat' first|exact ih0 _ _|exact lrz _|exact lnz _|refine liz ?_ ?_|refine lbz ?_ fun _=>?_
set_option maxHeartbeats 8000000 in
set_option maxRecDepth 100000 in
theorem spec_IsWord.calls (k:Nat) (a0:ByteArray) (r:Bool) (w:World) (h:spec_IsWord.f k a0=some r) :
  Calls Tryz.prog 49 #[.string a0] w fun e w'=>e=.returned (.bool r) /\ Drawn0 w w':=by
 have H:(spec_IsWord.l0 k a0 0)=some r:=h
 clear h
 have H':=am H
 clear H
 go_enter Tryz.func49,Tryz.ntmps49
 go_wp2
 go_loopg [3] k (fun kq v3 w'=>∃ (x3_1:Int),v3=.int .i64 x3_1 /\ Aside0 (spec_IsWord.l0 kq a0 x3_1=some r) /\ Aside0 (kq <= k) /\ Drawn0 w w')
 case atStart=>exact ⟨(0),ez,H',⟨Nat.le_refl _⟩,dz⟩
 case round =>
  clear H'
  obtain ⟨x3_1,rfl,HA,HK1,⟨m1,rfl⟩⟩:=hrel
  cases gk with
  | zero=>exact absurd HA.out (by simp [spec_IsWord.l0])
  | succ k1 =>
   have H:=HA.out
   clear HA
   simp only [spec_IsWord.l0] at H
   by_cases c2:x3_1<(a0.size:Int)
   ·rw [if_pos c2] at H
    have c2b0:=decide_eq_true c2
    clear c2
    replace H:=iz H
    obtain ⟨c3,H⟩:=H
    have c3b0:=decide_eq_true c3
    clear c3
    replace H:=bi H
    obtain ⟨t548,A50,H⟩:=H
    try dsimp only at H
    have A5:=am A50
    clear A50
    by_cases c6:t548=true
    ·subst c6
     have H1:=hp H
     clear H
     have H:=H1
     clear H1
     have H':=am H
     clear H
     have p4:0 <= (x3_1:Int):=oz
     have q4:x3_1<(a0.size:Int):=oz
     have hx4:=bt_at a0 x3_1
     replace p4:=eq_true p4
     replace q4:=eq_true q4
     go_wp2_with (first|((with_reducible refine gate_callee (f:=69) rfl ?_);refine goesL_ (some 13) rfl rfl Tryz.func69 kr rfl #[.int .u8 (bt a0 x3_1)] rfl lz ?_;(with_reducible refine (spec_l2Letter.calls (bt a0 x3_1) true _ A5.out).mono ?_);rintro e w' ⟨rfl,⟨nd,rfl⟩⟩;refine ⟨_,rfl,?_⟩))
     go_roundg k1
     case measure=>have:=HK1.out;omega
     case rel=>exact ⟨(wrap64 (x3_1+1)),ez,H',⟨by have:=HK1.out;omega⟩,dz⟩
    ·replace c6:=Bool.eq_false_iff.mpr c6
     subst c6
     have H1:=hq H
     clear H
     have H:=H1
     clear H1
     obtain rfl:=Option.some.inj H
     have p4:0 <= (x3_1:Int):=oz
     have q4:x3_1<(a0.size:Int):=oz
     have hx4:=bt_at a0 x3_1
     replace p4:=eq_true p4
     replace q4:=eq_true q4
     go_wp2_with (first|((with_reducible refine gate_callee (f:=69) rfl ?_);refine goesL_ (some 13) rfl rfl Tryz.func69 kr rfl #[.int .u8 (bt a0 x3_1)] rfl lz ?_;(with_reducible refine (spec_l2Letter.calls (bt a0 x3_1) false _ A5.out).mono ?_);rintro e w' ⟨rfl,⟨nd,rfl⟩⟩;refine ⟨_,rfl,?_⟩))
     go_ret
     exact ⟨e2z,dz⟩
   ·rw [if_neg c2] at H
    have c2b0:=decide_eq_false c2
    clear c2
    replace H:=bi H
    obtain ⟨t549,A70,H⟩:=H
    try dsimp only at H
    have A7:=am A70
    clear A70
    obtain rfl:=Option.some.inj H
    go_wp2_with (first|((with_reducible refine gate_callee (f:=40) rfl ?_);refine goesL_ (some 17) rfl rfl Tryz.func40 kr rfl #[.int .i64 (a0.size:Int),.int .i64 1,.int .i64 8] rfl lz ?_;(with_reducible refine (spec_l1In.calls (a0.size:Int) 1 8 t549 _ A7.out).mono ?_);rintro e w' ⟨rfl,⟨nd,rfl⟩⟩;refine ⟨_,rfl,?_⟩))
    go_ret
    exact ⟨e2z,dz⟩
def spec_l3Keys.f :Option (List ByteArray):=some (([(⟨#[102,117,110]⟩:ByteArray),(⟨#[97,112,112]⟩:ByteArray),(⟨#[108,101,116]⟩:ByteArray),(⟨#[114,101,99]⟩:ByteArray),(⟨#[105,102]⟩:ByteArray),(⟨#[97,100,100]⟩:ByteArray),(⟨#[115,117,98]⟩:ByteArray),(⟨#[108,101,115,115]⟩:ByteArray),(⟨#[115,97,109,101]⟩:ByteArray),(⟨#[112,97,105,114]⟩:ByteArray),(⟨#[102,115,116]⟩:ByteArray),(⟨#[115,110,100]⟩:ByteArray),(⟨#[110,105,108]⟩:ByteArray),(⟨#[99,111,110,115]⟩:ByteArray),(⟨#[109,97,116,99,104]⟩:ByteArray),(⟨#[114,101,102]⟩:ByteArray),(⟨#[103,101,116]⟩:ByteArray),(⟨#[115,101,116]⟩:ByteArray),(⟨#[114,97,105,115,101]⟩:ByteArray),(⟨#[116,114,121]⟩:ByteArray)]:List ByteArray))
set_option maxHeartbeats 8000000 in
set_option maxRecDepth 100000 in
theorem spec_l3Keys.calls  (r:List ByteArray) (w:World) (h:spec_l3Keys.f =some r) :
  Calls Tryz.prog 70 #[] w fun e w'=>∃ v0_:Value,e=.returned (v0_) /\ Kd.R Kd.string 9 w' w.heap.size (fun _=>True) v0_ r /\ Below w.heap.size w w':=by
 have HB:=am (Below.refl w.heap.size w)
 have H:(some (([(⟨#[102,117,110]⟩:ByteArray),(⟨#[97,112,112]⟩:ByteArray),(⟨#[108,101,116]⟩:ByteArray),(⟨#[114,101,99]⟩:ByteArray),(⟨#[105,102]⟩:ByteArray),(⟨#[97,100,100]⟩:ByteArray),(⟨#[115,117,98]⟩:ByteArray),(⟨#[108,101,115,115]⟩:ByteArray),(⟨#[115,97,109,101]⟩:ByteArray),(⟨#[112,97,105,114]⟩:ByteArray),(⟨#[102,115,116]⟩:ByteArray),(⟨#[115,110,100]⟩:ByteArray),(⟨#[110,105,108]⟩:ByteArray),(⟨#[99,111,110,115]⟩:ByteArray),(⟨#[109,97,116,99,104]⟩:ByteArray),(⟨#[114,101,102]⟩:ByteArray),(⟨#[103,101,116]⟩:ByteArray),(⟨#[115,101,116]⟩:ByteArray),(⟨#[114,97,105,115,101]⟩:ByteArray),(⟨#[116,114,121]⟩:ByteArray)]:List ByteArray)))=some r:=h
 clear h
 obtain ⟨y550,hy550⟩:∃ y_:List ByteArray,y_=(([(⟨#[102,117,110]⟩:ByteArray),(⟨#[97,112,112]⟩:ByteArray),(⟨#[108,101,116]⟩:ByteArray),(⟨#[114,101,99]⟩:ByteArray),(⟨#[105,102]⟩:ByteArray),(⟨#[97,100,100]⟩:ByteArray),(⟨#[115,117,98]⟩:ByteArray),(⟨#[108,101,115,115]⟩:ByteArray),(⟨#[115,97,109,101]⟩:ByteArray),(⟨#[112,97,105,114]⟩:ByteArray),(⟨#[102,115,116]⟩:ByteArray),(⟨#[115,110,100]⟩:ByteArray),(⟨#[110,105,108]⟩:ByteArray),(⟨#[99,111,110,115]⟩:ByteArray),(⟨#[109,97,116,99,104]⟩:ByteArray),(⟨#[114,101,102]⟩:ByteArray),(⟨#[103,101,116]⟩:ByteArray),(⟨#[115,101,116]⟩:ByteArray),(⟨#[114,97,105,115,101]⟩:ByteArray),(⟨#[116,114,121]⟩:ByteArray)]:List ByteArray)):=⟨_,rfl⟩
 replace H:(some y550)=some r:=yz hy550 H
 have Ny550:=am hy550
 clear hy550
 obtain rfl:=Option.some.inj H
 go_enter Tryz.func70,Tryz.ntmps70
 go_wp2_with (first|((with_reducible refine gate_dst (N:=1) rfl ?_);refine Kd.R_lit Kd.string _ 9 ?hg (N:=1) ?hd (xs:=([(⟨#[102,117,110]⟩:ByteArray),(⟨#[97,112,112]⟩:ByteArray),(⟨#[108,101,116]⟩:ByteArray),(⟨#[114,101,99]⟩:ByteArray),(⟨#[105,102]⟩:ByteArray),(⟨#[97,100,100]⟩:ByteArray),(⟨#[115,117,98]⟩:ByteArray),(⟨#[108,101,115,115]⟩:ByteArray),(⟨#[115,97,109,101]⟩:ByteArray),(⟨#[112,97,105,114]⟩:ByteArray),(⟨#[102,115,116]⟩:ByteArray),(⟨#[115,110,100]⟩:ByteArray),(⟨#[110,105,108]⟩:ByteArray),(⟨#[99,111,110,115]⟩:ByteArray),(⟨#[109,97,116,99,104]⟩:ByteArray),(⟨#[114,101,102]⟩:ByteArray),(⟨#[103,101,116]⟩:ByteArray),(⟨#[115,101,116]⟩:ByteArray),(⟨#[114,97,105,115,101]⟩:ByteArray),(⟨#[116,114,121]⟩:ByteArray)]:List ByteArray)) (inner:=[.string (⟨#[102,117,110]⟩:ByteArray),.string (⟨#[97,112,112]⟩:ByteArray),.string (⟨#[108,101,116]⟩:ByteArray),.string (⟨#[114,101,99]⟩:ByteArray),.string (⟨#[105,102]⟩:ByteArray),.string (⟨#[97,100,100]⟩:ByteArray),.string (⟨#[115,117,98]⟩:ByteArray),.string (⟨#[108,101,115,115]⟩:ByteArray),.string (⟨#[115,97,109,101]⟩:ByteArray),.string (⟨#[112,97,105,114]⟩:ByteArray),.string (⟨#[102,115,116]⟩:ByteArray),.string (⟨#[115,110,100]⟩:ByteArray),.string (⟨#[110,105,108]⟩:ByteArray),.string (⟨#[99,111,110,115]⟩:ByteArray),.string (⟨#[109,97,116,99,104]⟩:ByteArray),.string (⟨#[114,101,102]⟩:ByteArray),.string (⟨#[103,101,116]⟩:ByteArray),.string (⟨#[115,101,116]⟩:ByteArray),.string (⟨#[114,97,105,115,101]⟩:ByteArray),.string (⟨#[116,114,121]⟩:ByteArray)]) (ok:=fun _=>True) (okp:=fun _=>True) ?hr ?hp (fun _ hk=>hk) trivial (Below.refl _ _) (Nat.le_refl _) (by simp) ?_;(case hd=>rfl);(case hg=>rfl);(case hr=>exact vz);(case hp=>exact (Reps.one (show Kd.M Kd.string _ _ _ (⟨#[102,117,110]⟩:ByteArray) [.string (⟨#[102,117,110]⟩:ByteArray)] from rfl) (Reps.one (show Kd.M Kd.string _ _ _ (⟨#[97,112,112]⟩:ByteArray) [.string (⟨#[97,112,112]⟩:ByteArray)] from rfl) (Reps.one (show Kd.M Kd.string _ _ _ (⟨#[108,101,116]⟩:ByteArray) [.string (⟨#[108,101,116]⟩:ByteArray)] from rfl) (Reps.one (show Kd.M Kd.string _ _ _ (⟨#[114,101,99]⟩:ByteArray) [.string (⟨#[114,101,99]⟩:ByteArray)] from rfl) (Reps.one (show Kd.M Kd.string _ _ _ (⟨#[105,102]⟩:ByteArray) [.string (⟨#[105,102]⟩:ByteArray)] from rfl) (Reps.one (show Kd.M Kd.string _ _ _ (⟨#[97,100,100]⟩:ByteArray) [.string (⟨#[97,100,100]⟩:ByteArray)] from rfl) (Reps.one (show Kd.M Kd.string _ _ _ (⟨#[115,117,98]⟩:ByteArray) [.string (⟨#[115,117,98]⟩:ByteArray)] from rfl) (Reps.one (show Kd.M Kd.string _ _ _ (⟨#[108,101,115,115]⟩:ByteArray) [.string (⟨#[108,101,115,115]⟩:ByteArray)] from rfl) (Reps.one (show Kd.M Kd.string _ _ _ (⟨#[115,97,109,101]⟩:ByteArray) [.string (⟨#[115,97,109,101]⟩:ByteArray)] from rfl) (Reps.one (show Kd.M Kd.string _ _ _ (⟨#[112,97,105,114]⟩:ByteArray) [.string (⟨#[112,97,105,114]⟩:ByteArray)] from rfl) (Reps.one (show Kd.M Kd.string _ _ _ (⟨#[102,115,116]⟩:ByteArray) [.string (⟨#[102,115,116]⟩:ByteArray)] from rfl) (Reps.one (show Kd.M Kd.string _ _ _ (⟨#[115,110,100]⟩:ByteArray) [.string (⟨#[115,110,100]⟩:ByteArray)] from rfl) (Reps.one (show Kd.M Kd.string _ _ _ (⟨#[110,105,108]⟩:ByteArray) [.string (⟨#[110,105,108]⟩:ByteArray)] from rfl) (Reps.one (show Kd.M Kd.string _ _ _ (⟨#[99,111,110,115]⟩:ByteArray) [.string (⟨#[99,111,110,115]⟩:ByteArray)] from rfl) (Reps.one (show Kd.M Kd.string _ _ _ (⟨#[109,97,116,99,104]⟩:ByteArray) [.string (⟨#[109,97,116,99,104]⟩:ByteArray)] from rfl) (Reps.one (show Kd.M Kd.string _ _ _ (⟨#[114,101,102]⟩:ByteArray) [.string (⟨#[114,101,102]⟩:ByteArray)] from rfl) (Reps.one (show Kd.M Kd.string _ _ _ (⟨#[103,101,116]⟩:ByteArray) [.string (⟨#[103,101,116]⟩:ByteArray)] from rfl) (Reps.one (show Kd.M Kd.string _ _ _ (⟨#[115,101,116]⟩:ByteArray) [.string (⟨#[115,101,116]⟩:ByteArray)] from rfl) (Reps.one (show Kd.M Kd.string _ _ _ (⟨#[114,97,105,115,101]⟩:ByteArray) [.string (⟨#[114,97,105,115,101]⟩:ByteArray)] from rfl) (Reps.one (show Kd.M Kd.string _ _ _ (⟨#[116,114,121]⟩:ByteArray) [.string (⟨#[116,114,121]⟩:ByteArray)] from rfl) (Reps.none _ _))))))))))))))))))))));intro v551 w1 ho2 hb hg_ hnew_;clear hg_ hnew_;(first|rw [<- Ny550.out] at ho2|(simp only [Int.reduceToNat] at ho2;rw [<- Ny550.out] at ho2));have HO552:=am (Kd.R_lower ho2 (below_size (bz0 HB.out)));replace HB:=bs (bz0 HB.out) hb;clear hb ho2))
 go_ret
 exact ⟨_,gz,by refine rq ?_;exact HO552.out,(bz0 HB.out)⟩
def spec_IsKey.l0:Nat -> ByteArray -> List ByteArray -> Int -> Option (Bool)
 | 0,_,_,_=>none
 | k+1,x0,x3,x4=>if x4<(x3.length:Int) then (if 0 <= x4 then (if (rdOf ByteArray.empty x3 x4).toList=x0.toList then (some true) else (spec_IsKey.l0 k x0 x3 (wrap64 (x4+1)))) else (none)) else (some false)
def spec_IsKey.f (k:Nat) (a0:ByteArray):Option (Bool):=(spec_l3Keys.f).bind fun t553=>(spec_IsKey.l0 k a0 t553 0)
theorem spec_IsKey.mono_l:∀ k,(∀ y0 y1 y2,LeO (spec_IsKey.l0 k y0 y1 y2) (spec_IsKey.l0 (k+1) y0 y1 y2))
 | 0=>fun _ _ _ r h=>by simp [spec_IsKey.l0] at h
 | k+1=>by
  have ih0:=spec_IsKey.mono_l k
  ·intro y0 y1 y2
   unfold spec_IsKey.l0
   with_reducible repeat' first|exact ih0 _ _ _|exact lrz _|exact lnz _|refine liz ?_ ?_|refine lbz ?_ fun _=>?_
theorem spec_IsKey.mono:∀ a0 k,LeO (spec_IsKey.f k a0) (spec_IsKey.f (k+1) a0):=by
 intro a0 k
 have ih0:=spec_IsKey.mono_l k
 unfold spec_IsKey.f
 with_reducible repeat' first|exact ih0 _ _ _|exact lrz _|exact lnz _|refine liz ?_ ?_|refine lbz ?_ fun _=>?_
set_option maxHeartbeats 8000000 in
set_option maxRecDepth 100000 in
theorem spec_IsKey.calls (k:Nat) (a0:ByteArray) (r:Bool) (w:World) (h:spec_IsKey.f k a0=some r) :
  Calls Tryz.prog 50 #[.string a0] w fun e w'=>e=.returned (.bool r) /\ Below w.heap.size w w':=by
 have HB:=am (Below.refl w.heap.size w)
 have H:((spec_l3Keys.f).bind fun t553=>(spec_IsKey.l0 k a0 t553 0))=some r:=h
 clear h
 replace H:=bi H
 obtain ⟨t553,A20,H⟩:=H
 try dsimp only at H
 have A2:=am A20
 clear A20
 have H':=am H
 clear H
 go_enter Tryz.func50,Tryz.ntmps50
 go_wp2_with (first|((with_reducible refine gate_callee (f:=70) rfl ?_);refine goesL_ (some 5) rfl rfl Tryz.func70 kr rfl #[] rfl lz ?_;(with_reducible refine (spec_l3Keys.calls  t553 _ A2.out).mono ?_);rintro e w3 ⟨v554,rfl,ho0,hb⟩;refine ⟨_,rfl,?_⟩;have HO555:=am (Kd.R_lower ho0 (below_size (bz0 HB.out)));replace HB:=bs (bz0 HB.out) hb;(try clear hb);(try clear ho0)))
 go_loopg [4] k (fun kq v4 w'=>∃ (x4_1:Int),v4=.int .i64 x4_1 /\ Aside0 (spec_IsKey.l0 kq a0 t553 x4_1=some r) /\ Aside0 (kq <= k) /\ Aside0 (Kd.R Kd.string 9 w' w.heap.size (fun _=>True) v554 t553) /\ Aside0 (Below w.heap.size w w'))
 case atStart=>exact ⟨(0),ez,H',⟨Nat.le_refl _⟩,⟨by refine rq ?_;exact HO555.out⟩,⟨(bz0 HB.out)⟩⟩
 case round =>
  clear H'
  try clear p2
  obtain ⟨x4_1,rfl,HA,HK1,HO_3,HB⟩:=hrel
  cases gk with
  | zero=>exact absurd HA.out (by simp [spec_IsKey.l0])
  | succ k1 =>
   have H:=HA.out
   clear HA
   simp only [spec_IsKey.l0] at H
   by_cases c4:x4_1<(t553.length:Int)
   ·rw [if_pos c4] at H
    have c4b0:=decide_eq_true c4
    clear c4
    replace H:=iz H
    obtain ⟨c5,H⟩:=H
    have c5b0:=decide_eq_true c5
    clear c5
    by_cases c6:(rdOf ByteArray.empty t553 x4_1).toList=a0.toList
    ·rw [if_pos c6] at H
     have c6b0:((rdOf ByteArray.empty t553 x4_1).toList == a0.toList)=true:=beq_iff_eq.mpr c6
     have c6b1:((rdOf ByteArray.empty t553 x4_1).toList != a0.toList)=false:=bne_eq_false_iff_eq.mpr c6
     clear c6
     obtain rfl:=Option.some.inj H
     obtain ⟨Ao7,co7,eo7⟩:=Kd.R_slice HO_3.out
     subst eo7
     have p556:0 <= (x4_1:Int):=oz
     have q556:x4_1<(t553.length:Int):=oz
     obtain ⟨ad556,e556,hx556_0⟩:=Kd.at_string (Kd.R_reads' HO_3.out).2.2 x4_1 p556 q556
     cases e556
     replace p556:=eq_true p556
     replace q556:=eq_true q556
     go_wp2
     go_ret
     exact ⟨gz,(bz0 HB.out)⟩
    ·rw [if_neg c6] at H
     have c6b0:((rdOf ByteArray.empty t553 x4_1).toList == a0.toList)=false:=beq_eq_false_iff_ne.mpr c6
     have c6b1:((rdOf ByteArray.empty t553 x4_1).toList != a0.toList)=true:=bne_iff_ne.mpr c6
     have H':=am H
     clear H
     obtain ⟨Ao8,co8,eo8⟩:=Kd.R_slice HO_3.out
     subst eo8
     have p556:0 <= (x4_1:Int):=oz
     have q556:x4_1<(t553.length:Int):=oz
     obtain ⟨ad556,e556,hx556_0⟩:=Kd.at_string (Kd.R_reads' HO_3.out).2.2 x4_1 p556 q556
     cases e556
     replace p556:=eq_true p556
     replace q556:=eq_true q556
     go_wp2
     go_roundg k1
     case measure=>have:=HK1.out;omega
     case rel=>exact ⟨(wrap64 (x4_1+1)),ez,H',⟨by have:=HK1.out;omega⟩,⟨by refine rq ?_;exact HO_3.out⟩,⟨(bz0 HB.out)⟩⟩
   ·rw [if_neg c4] at H
    have c4b0:=decide_eq_false c4
    clear c4
    obtain rfl:=Option.some.inj H
    obtain ⟨Ao9,co9,eo9⟩:=Kd.R_slice HO_3.out
    subst eo9
    go_wp2
    go_ret
    exact ⟨gz,(bz0 HB.out)⟩
def spec_l3Name.f (k:Nat) (a0:ByteArray):Option (Bool):=(spec_IsWord.f k a0).bind fun t557=>(if t557=true then ((spec_IsKey.f k a0).bind fun t558=>(some (!t558))) else (some false))
theorem spec_l3Name.mono:∀ a0 k,LeO (spec_l3Name.f k a0) (spec_l3Name.f (k+1) a0):=by
 intro a0 k
 unfold spec_l3Name.f
 with_reducible repeat' first|exact spec_IsKey.mono _ _|exact spec_IsWord.mono _ _|exact lrz _|exact lnz _|refine liz ?_ ?_|refine lbz ?_ fun _=>?_
set_option maxHeartbeats 8000000 in
set_option maxRecDepth 100000 in
theorem spec_l3Name.calls (k:Nat) (a0:ByteArray) (r:Bool) (w:World) (h:spec_l3Name.f k a0=some r) :
  Calls Tryz.prog 26 #[.string a0] w fun e w'=>e=.returned (.bool r) /\ Below w.heap.size w w':=by
 have HB:=am (Below.refl w.heap.size w)
 have H:((spec_IsWord.f k a0).bind fun t557=>(if t557=true then ((spec_IsKey.f k a0).bind fun t558=>(some (!t558))) else (some false)))=some r:=h
 clear h
 replace H:=bi H
 obtain ⟨t557,A20,H⟩:=H
 try dsimp only at H
 have A2:=am A20
 clear A20
 by_cases c3:t557=true
 ·subst c3
  have H1:=hp H
  clear H
  have H:=H1
  clear H1
  replace H:=bi H
  obtain ⟨t558,A40,H⟩:=H
  try dsimp only at H
  have A4:=am A40
  clear A40
  obtain rfl:=Option.some.inj H
  go_enter Tryz.func26,Tryz.ntmps26
  go_wp2_with (first|((with_reducible refine gate_callee (f:=49) rfl ?_);refine goesL_ (some 4) rfl rfl Tryz.func49 kr rfl #[.string a0] rfl lz ?_;(with_reducible refine (spec_IsWord.calls k a0 true _ A2.out).mono ?_);rintro e w' ⟨rfl,⟨nd,rfl⟩⟩;refine ⟨_,rfl,?_⟩)|(go_at_call 50;(with_reducible refine (spec_IsKey.calls k a0 t558 _ A4.out).mono ?_);rintro e w5 ⟨rfl,hb⟩;replace HB:=bs (bz0 HB.out) hb;(try clear hb);(try clear hi)))
  go_ret
  exact ⟨gz,(bz0 HB.out)⟩
 ·replace c3:=Bool.eq_false_iff.mpr c3
  subst c3
  have H1:=hq H
  clear H
  have H:=H1
  clear H1
  obtain rfl:=Option.some.inj H
  go_enter Tryz.func26,Tryz.ntmps26
  go_wp2_with (first|((with_reducible refine gate_callee (f:=49) rfl ?_);refine goesL_ (some 4) rfl rfl Tryz.func49 kr rfl #[.string a0] rfl lz ?_;(with_reducible refine (spec_IsWord.calls k a0 false _ A2.out).mono ?_);rintro e w' ⟨rfl,⟨nd,rfl⟩⟩;refine ⟨_,rfl,?_⟩))
  go_ret
  exact ⟨gz,(bz0 HB.out)⟩
end Go.Proofs.YthmpgocaoccnaaaGreatDoor.PFnFresh
