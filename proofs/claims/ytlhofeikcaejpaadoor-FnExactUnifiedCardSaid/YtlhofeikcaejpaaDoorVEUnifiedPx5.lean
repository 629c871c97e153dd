/- PFnExactUnifiedx5, of the words and walks that the law FnExactUnified needs; made by this session's program out of printed texts. -/

import Derived.Test.YtlhofeikcaejpaaDoorVEUnifiedPx0
import Derived.Test.YtlhofeikcaejpaaDoorVEUnifiedPx4
namespace Go.Proofs.YtlhofeikcaejpaaDoor.PFnExactUnified
open Go.RowKit Go.Proofs.YtlhofeikcaejpaaDoorW.PrintWords Go.Proofs.YtlhofeikcaejpaaDoorW.PrintLast Go.Proofs.YtlhofeikcaejpaaDoorW.PrintMore
attribute [local go_sem] max2_int min2_int max_two min_two max_three min_three max_four min_four
set_option linter.unusedVariables false
set_option linter.unusedSimpArgs false
def chase : Nat -> List S55 -> Int -> Option Int
 | 0, _, _ => none
 | k + 1, l, i => if 0 <= i then (if i < (l.length : Int) then (if (rd_T55 l i).f0 = 0 then (if (rd_T55 l i).f1 ≥ 0 then (chase k l (rd_T55 l i).f1) else (some i)) else (some i)) else (none)) else (none)
def seek : Nat -> List Int -> Int -> Int -> Option (Option Int)
 | 0, _, _, _ => none
 | k + 1, fr, i, j => if j < (fr.length : Int) then (if 0 <= j then (if rd fr j = i then (some (some j)) else (seek k fr i (wrap64 (j + 1)))) else (none)) else (some none)
def okCat (a b : ByteArray) (r : Option ByteArray) : Prop := True
def cat (a b : ByteArray) : Option ByteArray := if a.size + b.size <= 9223372036854775807 then some (a ++ b) else none
def show2 (h m : ByteArray) (a b : ByteArray) : Option ByteArray := (cat h a).bind fun x => (cat x m).bind fun y => (cat y b).bind fun z => cat z (⟨#[41]⟩ : ByteArray)
def show1 (h : ByteArray) (a : ByteArray) : Option ByteArray := (cat h a).bind fun x => cat x (⟨#[41]⟩ : ByteArray)
def shower : Nat -> List S55 -> List Int -> Int -> Option (ByteArray × List Int)
 | 0, _, _, _ => none
 | k + 1, l, fr, i0 => (chase k l i0).bind fun i =>
  if (rd_T55 l i).f0 = 1 then some ((⟨#[105, 110, 116]⟩ : ByteArray), fr)
  else if (rd_T55 l i).f0 = 2 then (shower k l fr (rd_T55 l i).f1).bind fun a => (shower k l a.2 (rd_T55 l i).f2).bind fun b => (show2 (⟨#[40]⟩ : ByteArray) (⟨#[32, 45, 62, 32]⟩ : ByteArray) a.1 b.1).bind fun s => some (s, b.2)
  else if (rd_T55 l i).f0 = 3 then (shower k l fr (rd_T55 l i).f1).bind fun a => (shower k l a.2 (rd_T55 l i).f2).bind fun b => (show2 (⟨#[40]⟩ : ByteArray) (⟨#[32, 42, 32]⟩ : ByteArray) a.1 b.1).bind fun s => some (s, b.2)
  else if (rd_T55 l i).f0 = 4 then (shower k l fr (rd_T55 l i).f1).bind fun a => (show1 (⟨#[40, 108, 105, 115, 116, 32]⟩ : ByteArray) a.1).bind fun s => some (s, a.2)
  else if (rd_T55 l i).f0 = 5 then (shower k l fr (rd_T55 l i).f1).bind fun a => (show1 (⟨#[40, 114, 101, 102, 32]⟩ : ByteArray) a.1).bind fun s => some (s, a.2)
  else (seek k fr i 0).bind fun q => match q with
   | some j => (impl_Dec.f j).bind fun d => (cat (⟨#[39]⟩ : ByteArray) d).bind fun s => some (s, fr)
   | none => if (fr.length + 1) * 8 <= 140737488355328 then (impl_Dec.f (wrap64 (fr.length : Int))).bind fun d => (cat (⟨#[39]⟩ : ByteArray) d).bind fun s => some (s, fr ++ [i]) else none
def ShAt (B b : Nat) (A : Option Addr) (n c : Nat) (fr : List Int) (w : World) : Prop := ∃ F, w.heap[b]? = some (.cells #[.slice A n c, F] 126 (0, 0)) /\ Kd.R (Kd.int .i64) 3 w B (fun k => k ≠ b) F fr
def Rest (w w' : World) : Prop := ∀ (k : Nat) (cs : Array Value) (t : TypeId), w.heap[k]? = some (.cells cs t (0, 0)) -> t ≠ 126 /\ t ≠ 3 -> w'.heap[k]? = w.heap[k]?
theorem Rest.below {w w1 : World} (hb : Below w.heap.size w w1) : Rest w w1 := fun k cs t hk _ => (blk_below hk hb).trans hk.symm
theorem Rest.trans {w w1 w2 : World} (h : Rest w w1) (g : Rest w1 w2) : Rest w w2 := fun k cs t hk ht => (g k cs t ((h k cs t hk ht).trans hk) ht).trans (h k cs t hk ht)
theorem ShAt.below {B b : Nat} {A : Option Addr} {n c : Nat} {fr : List Int} {w w1 : World} (h : ShAt B b A n c fr w) (hb : Below w.heap.size w w1) : ShAt B b A n c fr w1 := by
 obtain ⟨F, h1, h2⟩ := h
 exact ⟨F, blk_below h1 hb, Kd.R_below h2 hb⟩
theorem ShAt.set {B b : Nat} {A : Option Addr} {n c : Nat} {fr : List Int} {w : World} (h : ShAt B b A n c fr w) {g : Nat} {cs : Array Value} (hg : w.heap[g]? = some (.cells cs 55 (0, 0))) (q : Nat) (v : Value) : ShAt B b A n c fr (w.setCell ⟨g, q, none⟩ v) := by
 obtain ⟨F, h1, h2⟩ := h
 have hne : b ≠ g := fun e => by
  subst e
  rw [h1] at hg
  injection hg with hg
  injection hg with _ hg
  cases hg
 exact ⟨F, (Below.heap_setCell _ _ _ _ hne).trans h1, Kd.R_mono (Kd.R_far (p := ⟨g, q, none⟩) (Kd.R_types h2 hg (by decide)) (fun _ hk => hk.2) v) (fun _ hk => hk.1)⟩
def ShF (B b : Nat) (A : Option Addr) (n c : Nat) (F : Value) (fr : List Int) (w : World) : Prop := w.heap[b]? = some (.cells #[.slice A n c, F] 126 (0, 0)) /\ Kd.R (Kd.int .i64) 3 w B (fun k => k ≠ b) F fr
theorem ShF.toAt {B b : Nat} {A : Option Addr} {n c : Nat} {F : Value} {fr : List Int} {w : World} (h : ShF B b A n c F fr w) : ShAt B b A n c fr w := ⟨F, h⟩
theorem ShF.below {B b : Nat} {A : Option Addr} {n c : Nat} {F : Value} {fr : List Int} {w w1 : World} (h : ShF B b A n c F fr w) (hb : Below w.heap.size w w1) : ShF B b A n c F fr w1 := ⟨blk_below h.1 hb, Kd.R_below h.2 hb⟩
theorem ShF.row {B b : Nat} {A : Option Addr} {n c : Nat} {F : Value} {fr : List Int} {w : World} (h : ShF B b A n c F fr w) : F.ownBlock ≠ some b := fun e => (h.2.1 b e) rfl
theorem ShF.row2 {B b : Nat} {A : Option Addr} {n c : Nat} {F : Value} {fr : List Int} {w : World} (h : ShF B b A n c F fr w) {k : Nat} {cs : Array Value} {t : TypeId} (hk : w.heap[k]? = some (.cells cs t (0, 0))) (ht : t ≠ 3) : F.ownBlock ≠ some k := fun e =>
 ((Kd.R_types h.2 hk (fun q hq => by
  rcases List.mem_cons.1 hq with rfl | hq
  ·exact fun e => ht e.symm
  ·cases hq)).1 k e).2 rfl
theorem ShF.grown {B b : Nat} {A : Option Addr} {n c : Nat} {F F2 : Value} {fr fr2 : List Int} {w w1 : World} (h : ShF B b A n c F fr w) (hr : Kd.R (Kd.int .i64) 3 w1 B (fun k => k ≠ b) F2 fr2) (hg : w.grownBy w1 F.ownBlock) : ShF B b A n c F2 fr2 (w1.setCell ⟨b, 1, none⟩ F2) /\ Rest w (w1.setCell ⟨b, 1, none⟩ F2) /\ w1.heap[b]? = some (.cells #[.slice A n c, F] 126 (0, 0)) := by
 have lt : ∀ {k : Nat} {o : Obj}, w.heap[k]? = some o -> k < w.heap.size := fun {k o} hk => by
  rcases Nat.lt_or_ge k w.heap.size with z | z
  ·exact z
  ·rw [Array.getElem?_eq_none z] at hk; cases hk
 have hb1 : w1.heap[b]? = some (.cells #[.slice A n c, F] 126 (0, 0)) := (hg.block b (lt h.1) (fun e => h.row e.symm)).trans h.1
 refine ⟨⟨blk_put hb1 1 F2 rfl, Kd.R_far (p := ⟨b, 1, none⟩) hr (fun _ hk => hk) F2⟩, fun k cs t hk ht => ?_, hb1⟩
 have hkb : k ≠ b := fun e => by
  subst e
  rw [h.1] at hk
  injection hk with hk
  injection hk with _ hk
  exact ht.1 hk.symm
 exact (Below.heap_setCell _ _ _ _ hkb).trans (hg.block k (lt hk) (fun e => h.row2 hk ht.2 e.symm))
theorem ShF.set {B b : Nat} {A : Option Addr} {n c : Nat} {F : Value} {fr : List Int} {w : World} (h : ShF B b A n c F fr w) {g : Nat} {cs : Array Value} (hg : w.heap[g]? = some (.cells cs 55 (0, 0))) (q : Nat) (v : Value) : ShF B b A n c F fr (w.setCell ⟨g, q, none⟩ v) := by
 obtain ⟨h1, h2⟩ := h
 have hne : b ≠ g := fun e => by
  subst e
  rw [h1] at hg
  injection hg with hg
  injection hg with _ hg
  cases hg
 exact ⟨(Below.heap_setCell _ _ _ _ hne).trans h1, Kd.R_mono (Kd.R_far (p := ⟨g, q, none⟩) (Kd.R_types h2 hg (by decide)) (fun _ hk => hk.2) v) (fun _ hk => hk.1)⟩
theorem ShF.set3 {B b : Nat} {A : Option Addr} {n c : Nat} {F : Value} {fr : List Int} {w : World} (h : ShF B b A n c F fr w) {g : Nat} (hg : w.heap[g]? = some (.cells #[.int .i64 0, .int .i64 0, .int .i64 0] 55 (0, 0))) (x y z : Value) : ShF B b A n c F fr (((w.setCell ⟨g, 0, none⟩ x).setCell ⟨g, 1, none⟩ y).setCell ⟨g, 2, none⟩ z) :=
 have b1 := blk_put (cs := #[.int .i64 0, .int .i64 0, .int .i64 0]) hg 0 x rfl
 ((h.set hg 0 x).set b1 1 y).set (blk_put b1 1 y rfl) 2 z
theorem Rest.set {w w1 : World} (h : Rest w w1) {g : Nat} (hg : w.heap.size <= g) (q : Nat) (v : Value) : Rest w (w1.setCell ⟨g, q, none⟩ v) := fun k cs t hk ht => by
 have hlt : k < w.heap.size := by
  rcases Nat.lt_or_ge k w.heap.size with z | z
  ·exact z
  ·rw [Array.getElem?_eq_none z] at hk; cases hk
 exact (Below.heap_setCell _ _ _ _ (fun e => Nat.lt_irrefl k (Nat.lt_of_lt_of_le hlt (Nat.le_trans hg (Nat.le_of_eq e.symm))))).trans (h k cs t hk ht)
theorem cat_some {a b r : ByteArray} (h : cat a b = some r) : a ++ b = r /\ a.size + b.size <= 9223372036854775807 := by
 unfold cat at h
 split at h
 ·rename_i q; exact ⟨Option.some.inj h, q⟩
 ·cases h
theorem chase_in {l : List S55} {j : Int} : ∀ {k : Nat} {i : Int}, chase k l i = some j -> 0 <= j /\ j < (l.length : Int) := by
 intro k
 induction k with
 | zero => intro i h; cases h
 | succ k ih =>
  intro i h
  simp only [chase] at h
  split at h
  ·split at h
   ·split at h
    ·split at h
     ·exact ih h
     ·obtain rfl := Option.some.inj h; omega
    ·obtain rfl := Option.some.inj h; omega
   ·cases h
  ·cases h
theorem boxed {w0 w wc w1 : World} {B b n c g : Nat} {A : Option Addr} {fr : List Int} (HB : Below B w0 w) (HD : Below w.heap.size w wc) (hg : wc.heap.size <= g) (hbox : w1.heap[g]? = some (.cells #[.int .i64 0, .int .i64 0, .int .i64 0] 55 (0, 0))) (hb1 : Below wc.heap.size wc w1) (hs : ShAt B b A n c fr w1) (x y z : Value) (hB : B <= w.heap.size) :
  let W := ((w1.setCell ⟨g, 0, none⟩ x).setCell ⟨g, 1, none⟩ y).setCell ⟨g, 2, none⟩ z
  Below B w0 W /\ ShAt B b A n c fr W /\ Rest w W /\ W.heap[g]? = some (.cells #[x, y, z] 55 (0, 0)) := by
 have h1 : Below w.heap.size w w1 := below_then HD HD.size hb1
 have hwg : w.heap.size <= g := Nat.le_trans HD.size hg
 have h0 : Below B w0 w1 := below_then HB hB h1
 have s1 := ShAt.set hs hbox 0 x
 have b1 := blk_put (cs := #[.int .i64 0, .int .i64 0, .int .i64 0]) hbox 0 x rfl
 have s2 := ShAt.set s1 b1 1 y
 have b2 := blk_put b1 1 y rfl
 have s3 := ShAt.set s2 b2 2 z
 have b3 := blk_put b2 2 z rfl
 refine ⟨?_, s3, Rest.set (Rest.set (Rest.set (Rest.below h1) hwg 0 x) hwg 1 y) hwg 2 z, b3⟩
 have hBg : B <= g := Nat.le_trans hB hwg
 exact ((h0.setCell (p := ⟨g, 0, none⟩) hBg x).setCell (p := ⟨g, 1, none⟩) hBg y).setCell (p := ⟨g, 2, none⟩) hBg z
set_option maxHeartbeats 8000000 in
set_option maxRecDepth 100000 in
theorem shower.calls (k : Nat) : ∀ (A0 : Option Addr) (c0 : Nat) (l0 : List S55) (b : Nat) (fr : List Int) (i : Int) (r1 : ByteArray) (r2 : List Int) (w0 w : World) (hr0 : Kd.C k55 w0 A0 l0.length l0) (hB : Below w0.heap.size w0 w) (hb : w0.heap.size <= b) (hs : ShAt w0.heap.size b A0 l0.length c0 fr w) (hT_ : PW w0) (h : shower k l0 fr i = some (r1, r2)),
  Calls Tryd.prog 82 #[.pointer (some ⟨b, 0, none⟩), .int .i64 i] w fun e w' => e = .returned (.string r1) /\ Below w0.heap.size w0 w' /\ ShAt w0.heap.size b A0 l0.length c0 r2 w' /\ Rest w w' := by
 induction k using Nat.strongRecOn with
 | _ k ih =>
 intro A0 c0 l0 b fr i r1 r2 w0 w hr0 hB hb hs hT_ h
 cases k with
 | zero => exact absurd h (by simp [shower])
 | succ k =>
 simp only [shower] at h
 have hu55 := Tryd.underlying55
 have HR0 := Aside0.mk hr0
 have HB := Aside0.mk hB
 clear hr0 hB
 obtain ⟨F, hbk, hF⟩ := hs
 obtain ⟨j, hch, h2⟩ := Option.bind_eq_some_iff.mp h
 have HC := Aside0.mk hch
 have HH := Aside0.mk h2
 have BK := Aside0.mk hbk
 have HF := Aside0.mk hF
 clear hch h h2 hbk hF
 go_enter Tryd.func82, Tryd.ntmps82
 go_upto_block 0 with (fail)
 go_cut [1] (fun v1 wc => v1 = .int .i64 j /\ Aside0 (Below w.heap.size w wc))
 case first =>
  go_wp2
  go_loopg [1] k (fun kq v1 w' => ∃ (x : Int), v1 = .int .i64 x /\ Aside0 (chase kq l0 x = some j) /\ Aside0 (Below w.heap.size w w'))
  case atStart => exact ⟨i, rfl, HC, ⟨Below.refl _ _⟩⟩
  case round =>
   obtain ⟨x, rfl, HA, HD⟩ := hrel
   cases gk with
   | zero => exact absurd HA.out (by simp [chase])
   | succ k1 =>
    have H := HA.out
    clear HA
    simp only [chase] at H
    by_cases c5 : 0 <= x
    ·rw [if_pos c5] at H
     by_cases c6 : x < (l0.length : Int)
     ·rw [if_pos c6] at H
      obtain ⟨ad, rfl, hx0, hx1, hx2⟩ := at_T55 HR0.out x c5 c6
      have HE := Aside0.mk (below_then HB.out HB.out.size HD.out)
      replace hx0 := (HE.out.cell (World.block_lt_of_cell? w0 _ hx0)).trans hx0
      replace hx1 := (HE.out.cell (World.block_lt_of_cell? w0 _ hx1)).trans hx1
      have BK1 := Aside0.mk (blk_below BK.out HD.out)
      have hc0 : World.cell? _ ⟨b, 0, none⟩ = some (.slice (some ad) l0.length c0) := (blk_cell BK1.out 0).trans rfl
      have c5b := eq_true c5
      have c6b := eq_true c6
      by_cases c7 : ((rd_T55 l0 x).f0) = 0
      ·rw [if_pos c7] at H
       have c7b0 : (((rd_T55 l0 x).f0) == 0) = true := beq_iff_eq.mpr c7
       by_cases c8 : ((rd_T55 l0 x).f1) ≥ 0
       ·rw [if_pos c8] at H
        have c8b0 : decide (0 <= ((rd_T55 l0 x).f1)) = true := decide_eq_true c8
        have H' := Aside0.mk H
        clear H
        go_wp2
        go_roundg k1
        case measure => omega
        case rel => exact ⟨_, rfl, H', ⟨by repeat (first | (with_reducible first | exact HD.out | apply below_alloc | apply pw_below_drewN | apply below_drew1) | exact HD.out)⟩⟩
       ·rw [if_neg c8] at H
        have c8b0 : decide (0 <= ((rd_T55 l0 x).f1)) = false := decide_eq_false c8
        obtain rfl := Option.some.inj H
        go_wp2
        go_meet
        case rel => exact ⟨rfl, ⟨by repeat (first | (with_reducible first | exact HD.out | apply below_alloc | apply pw_below_drewN | apply below_drew1) | exact HD.out)⟩⟩
      ·rw [if_neg c7] at H
       have c7b0 : (((rd_T55 l0 x).f0) == 0) = false := beq_eq_false_iff_ne.mpr c7
       obtain rfl := Option.some.inj H
       go_wp2
       go_meet
       case rel => exact ⟨rfl, ⟨by repeat (first | (with_reducible first | exact HD.out | apply below_alloc | apply pw_below_drewN | apply below_drew1) | exact HD.out)⟩⟩
     ·rw [if_neg c6] at H
      cases H
    ·rw [if_neg c5] at H
     cases H
 case rest =>
  obtain ⟨rfl, HD⟩ := hcut
  obtain ⟨p, q⟩ := chase_in HC.out
  have HE := Aside0.mk (below_then HB.out HB.out.size HD.out)
  obtain ⟨ad, e_, hx0, hx1, hx2⟩ := at_T55 HR0.out j p q
  have hn0 := congrArg (Option.map Addr.block) e_
  replace hx0 := (HE.out.cell (World.block_lt_of_cell? w0 _ hx0)).trans hx0
  replace hx1 := (HE.out.cell (World.block_lt_of_cell? w0 _ hx1)).trans hx1
  replace hx2 := (HE.out.cell (World.block_lt_of_cell? w0 _ hx2)).trans hx2
  subst e_
  have BK1 := Aside0.mk (blk_below BK.out HD.out)
  have hc0 : World.cell? _ ⟨b, 0, none⟩ = some (.slice (some ad) l0.length c0) := (blk_cell BK1.out 0).trans rfl
  have SH1 := Aside0.mk (ShAt.below ⟨F, BK.out, HF.out⟩ HD.out)
  have pb := eq_true p
  have qb := eq_true q
  have RS := Aside0.mk (Rest.below HD.out)
  generalize hgf : rd_T55 l0 j = E at *
  obtain ⟨e0, e1, e2⟩ := E
  simp only at hx0 hx1 hx2 HH
  have H := HH.out
  clear HH
  have step : True := trivial
  by_cases k1 : e0 = 1
  ·rw [if_pos k1] at H
   subst k1
   obtain ⟨rfl, rfl⟩ := Prod.mk.inj (Option.some.inj H)
   go_wp2_with (first | ((with_reducible refine gate_dst (N := 5) rfl ?_); refine box_event ?hg (N := 5) ?hd (cs := #[.int .i64 0, .int .i64 0, .int .i64 0]) (t := 55) ?hr ?_; (case hd => rfl); (case hg => rfl); (case hr => exact vz); intro g hg w1 hbox hb1; have GE := Aside0.mk hbox; have GW := Aside0.mk (Nat.le_of_eq hg.symm); have SH := Aside0.mk (ShAt.below SH1.out hb1); have HN := Aside0.mk hb1; have hcz0 : World.cell? w1 ⟨g, 0, none⟩ = some (.int .i64 0) := (blk_cell hbox 0).trans rfl; have hcz1 : World.cell? w1 ⟨g, 1, none⟩ = some (.int .i64 0) := (blk_cell hbox 1).trans rfl; have hcz2 : World.cell? w1 ⟨g, 2, none⟩ = some (.int .i64 0) := (blk_cell hbox 2).trans rfl; have hfz0 := blk_frozen hbox 0; have hfz1 := blk_frozen hbox 1; have hfz2 := blk_frozen hbox 2; clear hg hbox hb1))
   go_ret
   obtain ⟨q1, q2, q3, _⟩ := boxed HB.out HD.out GW.out GE.out HN.out SH.out (.int .i64 1) (.int .i64 e1) (.int .i64 e2) HB.out.size
   exact ⟨rfl, q1, q2, q3⟩
  ·rw [if_neg k1] at H
   have k1b : (e0 == 1) = false := beq_eq_false_iff_ne.mpr k1
   by_cases k2 : e0 = 2
   ·rw [if_pos k2] at H
    subst k2
    obtain ⟨⟨a1, a2⟩, ha, H⟩ := bi H
    obtain ⟨⟨b1, b2⟩, hb_, H⟩ := bi H
    obtain ⟨t, hsh, H⟩ := bi H
    obtain ⟨rfl, rfl⟩ := Prod.mk.inj (Option.some.inj H)
    have A1 := Aside0.mk ha
    have A2 := Aside0.mk hb_
    obtain ⟨x, hx, hsh⟩ := Option.bind_eq_some_iff.mp hsh
    obtain ⟨y, hy, hsh⟩ := Option.bind_eq_some_iff.mp hsh
    obtain ⟨z, hz, hsh⟩ := Option.bind_eq_some_iff.mp hsh
    obtain ⟨rfl, d1⟩ := cat_some hx
    obtain ⟨rfl, d2⟩ := cat_some hy
    obtain ⟨rfl, d3⟩ := cat_some hz
    obtain ⟨rfl, d4⟩ := cat_some hsh
    clear H ha hb_ hx hy hz hsh
    simp only [ByteArray.size_append] at d2 d3 d4
    have n1 : 1 + a1.size <= 9223372036854775807 := d1
    have n1a := eq_true n1
    have n1b : decide (1 + a1.size <= 9223372036854775807) = true := decide_eq_true n1
    have n1c : (9223372036854775807 < 1 + a1.size) = False := eq_false (Nat.not_lt.2 n1)
    have n2 : 1 + a1.size + 4 <= 9223372036854775807 := d2
    have n2a := eq_true n2
    have n2b : decide (1 + a1.size + 4 <= 9223372036854775807) = true := decide_eq_true n2
    have n2c : (9223372036854775807 < 1 + a1.size + 4) = False := eq_false (Nat.not_lt.2 n2)
    have n3 : 1 + a1.size + 4 + b1.size <= 9223372036854775807 := d3
    have n3a := eq_true n3
    have n3b : decide (1 + a1.size + 4 + b1.size <= 9223372036854775807) = true := decide_eq_true n3
    have n3c : (9223372036854775807 < 1 + a1.size + 4 + b1.size) = False := eq_false (Nat.not_lt.2 n3)
    have n4 : 1 + a1.size + 4 + b1.size + 1 <= 9223372036854775807 := d4
    have n4a := eq_true n4
    have n4b : decide (1 + a1.size + 4 + b1.size + 1 <= 9223372036854775807) = true := decide_eq_true n4
    have n4c : (9223372036854775807 < 1 + a1.size + 4 + b1.size + 1) = False := eq_false (Nat.not_lt.2 n4)
    clear d1 d2 d3 d4 n1 n2 n3 n4
    go_wp2_with (first | ((with_reducible refine gate_dst (N := 5) rfl ?_); refine box_event ?hg (N := 5) ?hd (cs := #[.int .i64 0, .int .i64 0, .int .i64 0]) (t := 55) ?hr ?_; (case hd => rfl); (case hg => rfl); (case hr => exact vz); intro g hg w1 hbox hb1; have GE := Aside0.mk hbox; have GW := Aside0.mk (Nat.le_of_eq hg.symm); have SH := Aside0.mk (ShAt.below SH1.out hb1); have HN := Aside0.mk hb1; have hcz0 : World.cell? w1 ⟨g, 0, none⟩ = some (.int .i64 0) := (blk_cell hbox 0).trans rfl; have hcz1 : World.cell? w1 ⟨g, 1, none⟩ = some (.int .i64 0) := (blk_cell hbox 1).trans rfl; have hcz2 : World.cell? w1 ⟨g, 2, none⟩ = some (.int .i64 0) := (blk_cell hbox 2).trans rfl; have hfz0 := blk_frozen hbox 0; have hfz1 := blk_frozen hbox 1; have hfz2 := blk_frozen hbox 2; clear hg hbox hb1) | ((with_reducible refine gate_callee (f := 82) rfl ?_); refine goesL_ (some 54) rfl rfl Tryd.func82 (by kernel_rfl) rfl #[.pointer (some ⟨b, 0, none⟩), .int .i64 e1] rfl (by (try simp only [List.map_toArray, List.map_cons, List.map_nil]); first | done | rfl) ?_; obtain ⟨q1, q2, q3, q4⟩ := boxed HB.out HD.out GW.out GE.out HN.out SH.out (.int .i64 2) (.int .i64 e1) (.int .i64 e2) HB.out.size; refine (ih k (Nat.lt_succ_self k) _ _ _ b fr e1 _ _ w0 _ HR0.out q1 hb q2 hT_ A1.out).mono ?_; rintro e_ w2 ⟨rfl, t1, t2, t3⟩; refine ⟨_, rfl, ?_⟩; have HB2 := Aside0.mk t1; have SH2 := Aside0.mk t2; have RS2 := Aside0.mk (Rest.trans q3 t3); have GE2 := Aside0.mk ((t3 g _ _ q4 (by decide)).trans q4); have hcy0 : World.cell? w2 ⟨g, 0, none⟩ = some (.int .i64 2) := (blk_cell GE2.out 0).trans rfl; have hcy1 : World.cell? w2 ⟨g, 1, none⟩ = some (.int .i64 e1) := (blk_cell GE2.out 1).trans rfl; have hcy2 : World.cell? w2 ⟨g, 2, none⟩ = some (.int .i64 e2) := (blk_cell GE2.out 2).trans rfl; clear q1 q2 q3 q4 t1 t2 t3) | ((with_reducible refine gate_callee (f := 82) rfl ?_); refine goesL_ (some 61) rfl rfl Tryd.func82 (by kernel_rfl) rfl #[.pointer (some ⟨b, 0, none⟩), .int .i64 e2] rfl (by (try simp only [List.map_toArray, List.map_cons, List.map_nil]); first | done | rfl) ?_; refine (ih k (Nat.lt_succ_self k) _ _ _ b a2 _ _ _ w0 _ HR0.out HB2.out hb SH2.out hT_ A2.out).mono ?_; rintro e_ w3 ⟨rfl, t1, t2, t3⟩; refine ⟨_, rfl, ?_⟩; have HB3 := Aside0.mk t1; have SH3 := Aside0.mk t2; have RS3 := Aside0.mk (Rest.trans RS2.out t3); clear t1 t2 t3))
    go_ret
    exact ⟨rfl, HB3.out, SH3.out, RS3.out⟩
   ·rw [if_neg k2] at H
    have k2b : (e0 == 2) = false := beq_eq_false_iff_ne.mpr k2
    by_cases k3 : e0 = 3
    ·rw [if_pos k3] at H
     subst k3
     obtain ⟨⟨a1, a2⟩, ha, H⟩ := bi H
     obtain ⟨⟨b1, b2⟩, hb_, H⟩ := bi H
     obtain ⟨t, hsh, H⟩ := bi H
     obtain ⟨rfl, rfl⟩ := Prod.mk.inj (Option.some.inj H)
     have A1 := Aside0.mk ha
     have A2 := Aside0.mk hb_
     obtain ⟨x, hx, hsh⟩ := Option.bind_eq_some_iff.mp hsh
     obtain ⟨y, hy, hsh⟩ := Option.bind_eq_some_iff.mp hsh
     obtain ⟨z, hz, hsh⟩ := Option.bind_eq_some_iff.mp hsh
     obtain ⟨rfl, d1⟩ := cat_some hx
     obtain ⟨rfl, d2⟩ := cat_some hy
     obtain ⟨rfl, d3⟩ := cat_some hz
     obtain ⟨rfl, d4⟩ := cat_some hsh
     clear H ha hb_ hx hy hz hsh
     simp only [ByteArray.size_append] at d2 d3 d4
     have n1 : 1 + a1.size <= 9223372036854775807 := d1
     have n1a := eq_true n1
     have n1b : decide (1 + a1.size <= 9223372036854775807) = true := decide_eq_true n1
     have n1c : (9223372036854775807 < 1 + a1.size) = False := eq_false (Nat.not_lt.2 n1)
     have n2 : 1 + a1.size + 3 <= 9223372036854775807 := d2
     have n2a := eq_true n2
     have n2b : decide (1 + a1.size + 3 <= 9223372036854775807) = true := decide_eq_true n2
     have n2c : (9223372036854775807 < 1 + a1.size + 3) = False := eq_false (Nat.not_lt.2 n2)
     have n3 : 1 + a1.size + 3 + b1.size <= 9223372036854775807 := d3
     have n3a := eq_true n3
     have n3b : decide (1 + a1.size + 3 + b1.size <= 9223372036854775807) = true := decide_eq_true n3
     have n3c : (9223372036854775807 < 1 + a1.size + 3 + b1.size) = False := eq_false (Nat.not_lt.2 n3)
     have n4 : 1 + a1.size + 3 + b1.size + 1 <= 9223372036854775807 := d4
     have n4a := eq_true n4
     have n4b : decide (1 + a1.size + 3 + b1.size + 1 <= 9223372036854775807) = true := decide_eq_true n4
     have n4c : (9223372036854775807 < 1 + a1.size + 3 + b1.size + 1) = False := eq_false (Nat.not_lt.2 n4)
     clear d1 d2 d3 d4 n1 n2 n3 n4
     go_wp2_with (first | ((with_reducible refine gate_dst (N := 5) rfl ?_); refine box_event ?hg (N := 5) ?hd (cs := #[.int .i64 0, .int .i64 0, .int .i64 0]) (t := 55) ?hr ?_; (case hd => rfl); (case hg => rfl); (case hr => exact vz); intro g hg w1 hbox hb1; have GE := Aside0.mk hbox; have GW := Aside0.mk (Nat.le_of_eq hg.symm); have SH := Aside0.mk (ShAt.below SH1.out hb1); have HN := Aside0.mk hb1; have hcz0 : World.cell? w1 ⟨g, 0, none⟩ = some (.int .i64 0) := (blk_cell hbox 0).trans rfl; have hcz1 : World.cell? w1 ⟨g, 1, none⟩ = some (.int .i64 0) := (blk_cell hbox 1).trans rfl; have hcz2 : World.cell? w1 ⟨g, 2, none⟩ = some (.int .i64 0) := (blk_cell hbox 2).trans rfl; have hfz0 := blk_frozen hbox 0; have hfz1 := blk_frozen hbox 1; have hfz2 := blk_frozen hbox 2; clear hg hbox hb1) | ((with_reducible refine gate_callee (f := 82) rfl ?_); refine goesL_ (some 69) rfl rfl Tryd.func82 (by kernel_rfl) rfl #[.pointer (some ⟨b, 0, none⟩), .int .i64 e1] rfl (by (try simp only [List.map_toArray, List.map_cons, List.map_nil]); first | done | rfl) ?_; obtain ⟨q1, q2, q3, q4⟩ := boxed HB.out HD.out GW.out GE.out HN.out SH.out (.int .i64 3) (.int .i64 e1) (.int .i64 e2) HB.out.size; refine (ih k (Nat.lt_succ_self k) _ _ _ b fr e1 _ _ w0 _ HR0.out q1 hb q2 hT_ A1.out).mono ?_; rintro e_ w2 ⟨rfl, t1, t2, t3⟩; refine ⟨_, rfl, ?_⟩; have HB2 := Aside0.mk t1; have SH2 := Aside0.mk t2; have RS2 := Aside0.mk (Rest.trans q3 t3); have GE2 := Aside0.mk ((t3 g _ _ q4 (by decide)).trans q4); have hcy0 : World.cell? w2 ⟨g, 0, none⟩ = some (.int .i64 3) := (blk_cell GE2.out 0).trans rfl; have hcy1 : World.cell? w2 ⟨g, 1, none⟩ = some (.int .i64 e1) := (blk_cell GE2.out 1).trans rfl; have hcy2 : World.cell? w2 ⟨g, 2, none⟩ = some (.int .i64 e2) := (blk_cell GE2.out 2).trans rfl; clear q1 q2 q3 q4 t1 t2 t3) | ((with_reducible refine gate_callee (f := 82) rfl ?_); refine goesL_ (some 76) rfl rfl Tryd.func82 (by kernel_rfl) rfl #[.pointer (some ⟨b, 0, none⟩), .int .i64 e2] rfl (by (try simp only [List.map_toArray, List.map_cons, List.map_nil]); first | done | rfl) ?_; refine (ih k (Nat.lt_succ_self k) _ _ _ b a2 _ _ _ w0 _ HR0.out HB2.out hb SH2.out hT_ A2.out).mono ?_; rintro e_ w3 ⟨rfl, t1, t2, t3⟩; refine ⟨_, rfl, ?_⟩; have HB3 := Aside0.mk t1; have SH3 := Aside0.mk t2; have RS3 := Aside0.mk (Rest.trans RS2.out t3); clear t1 t2 t3))
     go_ret
     exact ⟨rfl, HB3.out, SH3.out, RS3.out⟩
    ·rw [if_neg k3] at H
     have k3b : (e0 == 3) = false := beq_eq_false_iff_ne.mpr k3
     by_cases k4 : e0 = 4
     ·rw [if_pos k4] at H
      subst k4
      obtain ⟨⟨a1, a2⟩, ha, H⟩ := bi H
      obtain ⟨t, hsh, H⟩ := bi H
      obtain ⟨rfl, rfl⟩ := Prod.mk.inj (Option.some.inj H)
      have A1 := Aside0.mk ha
      obtain ⟨x, hx, hsh⟩ := Option.bind_eq_some_iff.mp hsh
      obtain ⟨rfl, d1⟩ := cat_some hx
      obtain ⟨rfl, d2⟩ := cat_some hsh
      clear H ha hx hsh
      have d1' : 6 + a1.size <= 9223372036854775807 := d1
      have d2' : ((⟨#[40, 108, 105, 115, 116, 32]⟩ : ByteArray) ++ a1).size + 1 <= 9223372036854775807 := d2
      have d1a := eq_true d1'
      have d1b : decide (6 + a1.size <= 9223372036854775807) = true := decide_eq_true d1'
      have d1c : (9223372036854775807 < 6 + a1.size) = False := eq_false (Nat.not_lt.2 d1')
      rw [ByteArray.size_append] at d2'
      have d2n : 6 + a1.size + 1 <= 9223372036854775807 := d2'
      have d2a := eq_true d2n
      have d2b : decide (6 + a1.size + 1 <= 9223372036854775807) = true := decide_eq_true d2n
      have d2c : (9223372036854775807 < 6 + a1.size + 1) = False := eq_false (Nat.not_lt.2 d2n)
      clear d2n
      clear d1 d2 d1' d2'
      go_wp2_with (first | ((with_reducible refine gate_dst (N := 5) rfl ?_); refine box_event ?hg (N := 5) ?hd (cs := #[.int .i64 0, .int .i64 0, .int .i64 0]) (t := 55) ?hr ?_; (case hd => rfl); (case hg => rfl); (case hr => exact vz); intro g hg w1 hbox hb1; have GE := Aside0.mk hbox; have GW := Aside0.mk (Nat.le_of_eq hg.symm); have SH := Aside0.mk (ShAt.below SH1.out hb1); have HN := Aside0.mk hb1; have hcz0 : World.cell? w1 ⟨g, 0, none⟩ = some (.int .i64 0) := (blk_cell hbox 0).trans rfl; have hcz1 : World.cell? w1 ⟨g, 1, none⟩ = some (.int .i64 0) := (blk_cell hbox 1).trans rfl; have hcz2 : World.cell? w1 ⟨g, 2, none⟩ = some (.int .i64 0) := (blk_cell hbox 2).trans rfl; have hfz0 := blk_frozen hbox 0; have hfz1 := blk_frozen hbox 1; have hfz2 := blk_frozen hbox 2; clear hg hbox hb1) | ((with_reducible refine gate_callee (f := 82) rfl ?_); refine goesL_ (some 84) rfl rfl Tryd.func82 (by kernel_rfl) rfl #[.pointer (some ⟨b, 0, none⟩), .int .i64 e1] rfl (by (try simp only [List.map_toArray, List.map_cons, List.map_nil]); first | done | rfl) ?_; obtain ⟨q1, q2, q3, q4⟩ := boxed HB.out HD.out GW.out GE.out HN.out SH.out (.int .i64 4) (.int .i64 e1) (.int .i64 e2) HB.out.size; refine (ih k (Nat.lt_succ_self k) _ _ _ b fr e1 _ _ w0 _ HR0.out q1 hb q2 hT_ A1.out).mono ?_; rintro e_ w2 ⟨rfl, t1, t2, t3⟩; refine ⟨_, rfl, ?_⟩; have HB2 := Aside0.mk t1; have SH2 := Aside0.mk t2; have RS2 := Aside0.mk (Rest.trans q3 t3); have GE2 := Aside0.mk ((t3 g _ _ q4 (by decide)).trans q4); have hcy0 : World.cell? w2 ⟨g, 0, none⟩ = some (.int .i64 4) := (blk_cell GE2.out 0).trans rfl; have hcy1 : World.cell? w2 ⟨g, 1, none⟩ = some (.int .i64 e1) := (blk_cell GE2.out 1).trans rfl; have hcy2 : World.cell? w2 ⟨g, 2, none⟩ = some (.int .i64 e2) := (blk_cell GE2.out 2).trans rfl; clear q1 q2 q3 q4 t1 t2 t3))
      go_ret
      exact ⟨rfl, HB2.out, SH2.out, RS2.out⟩
     ·rw [if_neg k4] at H
      have k4b : (e0 == 4) = false := beq_eq_false_iff_ne.mpr k4
      by_cases k5 : e0 = 5
      ·rw [if_pos k5] at H
       subst k5
       obtain ⟨⟨a1, a2⟩, ha, H⟩ := bi H
       obtain ⟨t, hsh, H⟩ := bi H
       obtain ⟨rfl, rfl⟩ := Prod.mk.inj (Option.some.inj H)
       have A1 := Aside0.mk ha
       obtain ⟨x, hx, hsh⟩ := Option.bind_eq_some_iff.mp hsh
       obtain ⟨rfl, d1⟩ := cat_some hx
       obtain ⟨rfl, d2⟩ := cat_some hsh
       clear H ha hx hsh
       have d1' : 5 + a1.size <= 9223372036854775807 := d1
       have d2' : ((⟨#[40, 114, 101, 102, 32]⟩ : ByteArray) ++ a1).size + 1 <= 9223372036854775807 := d2
       have d1a := eq_true d1'
       have d1b : decide (5 + a1.size <= 9223372036854775807) = true := decide_eq_true d1'
       have d1c : (9223372036854775807 < 5 + a1.size) = False := eq_false (Nat.not_lt.2 d1')
       rw [ByteArray.size_append] at d2'
       have d2n : 5 + a1.size + 1 <= 9223372036854775807 := d2'
       have d2a := eq_true d2n
       have d2b : decide (5 + a1.size + 1 <= 9223372036854775807) = true := decide_eq_true d2n
       have d2c : (9223372036854775807 < 5 + a1.size + 1) = False := eq_false (Nat.not_lt.2 d2n)
       clear d2n
       clear d1 d2 d1' d2'
       go_wp2_with (first | ((with_reducible refine gate_dst (N := 5) rfl ?_); refine box_event ?hg (N := 5) ?hd (cs := #[.int .i64 0, .int .i64 0, .int .i64 0]) (t := 55) ?hr ?_; (case hd => rfl); (case hg => rfl); (case hr => exact vz); intro g hg w1 hbox hb1; have GE := Aside0.mk hbox; have GW := Aside0.mk (Nat.le_of_eq hg.symm); have SH := Aside0.mk (ShAt.below SH1.out hb1); have HN := Aside0.mk hb1; have hcz0 : World.cell? w1 ⟨g, 0, none⟩ = some (.int .i64 0) := (blk_cell hbox 0).trans rfl; have hcz1 : World.cell? w1 ⟨g, 1, none⟩ = some (.int .i64 0) := (blk_cell hbox 1).trans rfl; have hcz2 : World.cell? w1 ⟨g, 2, none⟩ = some (.int .i64 0) := (blk_cell hbox 2).trans rfl; have hfz0 := blk_frozen hbox 0; have hfz1 := blk_frozen hbox 1; have hfz2 := blk_frozen hbox 2; clear hg hbox hb1) | ((with_reducible refine gate_callee (f := 82) rfl ?_); refine goesL_ (some 92) rfl rfl Tryd.func82 (by kernel_rfl) rfl #[.pointer (some ⟨b, 0, none⟩), .int .i64 e1] rfl (by (try simp only [List.map_toArray, List.map_cons, List.map_nil]); first | done | rfl) ?_; obtain ⟨q1, q2, q3, q4⟩ := boxed HB.out HD.out GW.out GE.out HN.out SH.out (.int .i64 5) (.int .i64 e1) (.int .i64 e2) HB.out.size; refine (ih k (Nat.lt_succ_self k) _ _ _ b fr e1 _ _ w0 _ HR0.out q1 hb q2 hT_ A1.out).mono ?_; rintro e_ w2 ⟨rfl, t1, t2, t3⟩; refine ⟨_, rfl, ?_⟩; have HB2 := Aside0.mk t1; have SH2 := Aside0.mk t2; have RS2 := Aside0.mk (Rest.trans q3 t3); have GE2 := Aside0.mk ((t3 g _ _ q4 (by decide)).trans q4); have hcy0 : World.cell? w2 ⟨g, 0, none⟩ = some (.int .i64 5) := (blk_cell GE2.out 0).trans rfl; have hcy1 : World.cell? w2 ⟨g, 1, none⟩ = some (.int .i64 e1) := (blk_cell GE2.out 1).trans rfl; have hcy2 : World.cell? w2 ⟨g, 2, none⟩ = some (.int .i64 e2) := (blk_cell GE2.out 2).trans rfl; clear q1 q2 q3 q4 t1 t2 t3))
       go_ret
       exact ⟨rfl, HB2.out, SH2.out, RS2.out⟩
      ·rw [if_neg k5] at H
       have k5b : (e0 == 5) = false := beq_eq_false_iff_ne.mpr k5
       obtain ⟨qo, hq, H⟩ := bi H
       have HS := Aside0.mk hq
       have HQ := Aside0.mk H
       clear H hq
       obtain ⟨Ao, co, eo⟩ := Kd.R_slice HF.out
       subst eo
       go_wp2_with (first | ((with_reducible refine gate_dst (N := 5) rfl ?_); refine box_event ?hg (N := 5) ?hd (cs := #[.int .i64 0, .int .i64 0, .int .i64 0]) (t := 55) ?hr ?_; (case hd => rfl); (case hg => rfl); (case hr => exact vz); intro g hg w1 hbox hb1; have GE := Aside0.mk hbox; have GW := Aside0.mk (Nat.le_of_eq hg.symm); have SH := Aside0.mk (ShAt.below SH1.out hb1); have HN := Aside0.mk hb1; have hcz0 : World.cell? w1 ⟨g, 0, none⟩ = some (.int .i64 0) := (blk_cell hbox 0).trans rfl; have hcz1 : World.cell? w1 ⟨g, 1, none⟩ = some (.int .i64 0) := (blk_cell hbox 1).trans rfl; have hcz2 : World.cell? w1 ⟨g, 2, none⟩ = some (.int .i64 0) := (blk_cell hbox 2).trans rfl; have hfz0 := blk_frozen hbox 0; have hfz1 := blk_frozen hbox 1; have hfz2 := blk_frozen hbox 2; have hcb1 : World.cell? w1 ⟨b, 1, none⟩ = some (.slice Ao fr.length co) := (blk_cell (blk_below BK1.out hb1) 1).trans rfl; have hnb : b ≠ g := (by rw [hg]; exact Nat.ne_of_lt (blk_lt BK1.out)); have hnc : g ≠ b := hnb.symm; have SF1 := Aside0.mk (ShF.below ⟨BK.out, HF.out⟩ (below_then HD.out HD.out.size hb1)); clear hg hbox hb1))
       (try simp only [Act.put, sz1, sz2, sz3])
       go_loopg [100] k (fun kq v100 w' => ∃ (x : Int), v100 = .int .i64 x /\ Aside0 (seek kq fr j x = some qo) /\ Aside0 (Below w0.heap.size w0 w') /\ Aside0 (ShF w0.heap.size b (some ad) l0.length c0 (.slice Ao fr.length co) fr w') /\ Aside0 (Rest w w'))
       case atStart =>
        obtain ⟨q1, q2, q3, q4⟩ := boxed HB.out HD.out GW.out GE.out HN.out SH.out (.int .i64 e0) (.int .i64 e1) (.int .i64 e2) HB.out.size
        exact ⟨0, rfl, HS, ⟨q1⟩, ⟨ShF.set3 SF1.out GE.out _ _ _⟩, ⟨q3⟩⟩
       case round =>
        obtain ⟨x, rfl, HA, HB2, SF, RS2⟩ := hrel
        clear GE GW SH HN hcz0 hcz1 hcz2 hfz0 hfz1 hfz2 hcb1 SF1
        cases gk with
        | zero => exact absurd HA.out (by simp [seek])
        | succ kk =>
         have H := HA.out
         clear HA
         simp only [seek] at H
         by_cases c1 : x < (fr.length : Int)
         ·rw [if_pos c1] at H
          have c1b : decide (x < (fr.length : Int)) = true := decide_eq_true c1
          by_cases c2 : 0 <= x
          ·rw [if_pos c2] at H
           obtain ⟨ad2, e2_, hy⟩ := Kd.at_int (Kd.R_reads' SF.out.2).2.2 x c2 c1
           cases e2_
           have c1e := eq_true c1
           have c2e := eq_true c2
           clear c1 c2
           by_cases c3 : rd fr x = j
           ·rw [if_pos c3] at H
            have c3b : (rd fr x == j) = true := beq_iff_eq.mpr c3
            obtain rfl := Option.some.inj H
            have H := HQ.out
            simp only at H
            obtain ⟨d, hd, H⟩ := bi H
            obtain ⟨t, ht, H⟩ := bi H
            obtain ⟨rfl, rfl⟩ := Prod.mk.inj (Option.some.inj H)
            have AD := Aside0.mk hd
            obtain ⟨rfl, d1⟩ := cat_some ht
            have n1 : 1 + d.size <= 9223372036854775807 := d1
            have n1a := eq_true n1
            have n1b : decide (1 + d.size <= 9223372036854775807) = true := decide_eq_true n1
            have n1c : (9223372036854775807 < 1 + d.size) = False := eq_false (Nat.not_lt.2 n1)
            clear H HQ hd ht d1 n1
            go_wp2_with (first | ((with_reducible refine gate_callee (f := 18) rfl ?_); refine goesL_ (some 109) rfl rfl Tryd.func18 (by kernel_rfl) rfl #[.int .i64 x] rfl (by (try simp only [List.map_toArray, List.map_cons, List.map_nil]); first | done | rfl) ?_; refine (impl_Dec.calls x d _ AD.out (PW.below hT_ HB2.out)).mono ?_; rintro e_ w3 ⟨rfl, hb3⟩; refine ⟨_, rfl, ?_⟩; have HB3 := Aside0.mk (below_then HB2.out HB2.out.size hb3); have SF3 := Aside0.mk (ShF.below SF.out hb3); have RS3 := Aside0.mk (Rest.trans RS2.out (Rest.below hb3)); clear hb3))
            go_ret
            exact ⟨rfl, HB3.out, SF3.out.toAt, RS3.out⟩
           ·rw [if_neg c3] at H
            have c3b : (rd fr x == j) = false := beq_eq_false_iff_ne.mpr c3
            have H' := Aside0.mk H
            clear H
            go_wp2
            go_roundg kk
            case measure => omega
            case rel => exact ⟨_, rfl, H', HB2, SF, RS2⟩
          ·rw [if_neg c2] at H
           cases H
         ·rw [if_neg c1] at H
          have c1b : decide (x < (fr.length : Int)) = false := decide_eq_false c1
          obtain rfl := Option.some.inj H
          have H := HQ.out
          simp only at H
          by_cases c9 : (fr.length + 1) * 8 <= 140737488355328
          ·rw [if_pos c9] at H
           obtain ⟨d, hd, H⟩ := bi H
           obtain ⟨t, ht, H⟩ := bi H
           obtain ⟨rfl, rfl⟩ := Prod.mk.inj (Option.some.inj H)
           have AD := Aside0.mk hd
           obtain ⟨rfl, d1⟩ := cat_some ht
           have n1 : 1 + d.size <= 9223372036854775807 := d1
           have n1a := eq_true n1
           have n1b : decide (1 + d.size <= 9223372036854775807) = true := decide_eq_true n1
           have n1c : (9223372036854775807 < 1 + d.size) = False := eq_false (Nat.not_lt.2 n1)
           have LM := Aside0.mk c9
           clear H HQ hd ht d1 n1 c1 c9
           have hcb : World.cell? _ ⟨b, 1, none⟩ = some (.slice Ao fr.length co) := (blk_cell SF.out.1 1).trans rfl
           go_wp2_with (first | (at_builtin; refine Kd.R_append (Kd.int .i64) (w0 := w0) w0.heap.size rfl (.tmp 116) (.tmp 118) 89 3 (.int .i64 0) 8 rfl Tryd.underlying89 info3 rfl (by decide) (by omega) (.slice Ao fr.length co) fr j [.int .i64 j] (fun k => k ≠ b) (fun _ => False) rfl rfl ?aP (fun _ hk => hk.elim) ?aF ?aO ?aB ?aS ?aL ?_; (case aP => exact rfl); (case aF => exact (fun k_ hk => Nat.ne_of_gt (Nat.lt_of_lt_of_le (blk_lt SF.out.1) hk))); (case aO => exact SF.out.2); (case aB => exact HB2.out); (case aS => exact HB2.out.size); (case aL => have := LM.out; omega); intro v1 w4 hr4 hb4 hg4 hat4; obtain ⟨t1, t2, t3⟩ := ShF.grown SF.out hr4 hg4; have SF4 := Aside0.mk t1; have RS4 := Aside0.mk (Rest.trans RS2.out t2); have HB4 := Aside0.mk (Below.setCell hb4 (p := ⟨b, 1, none⟩) hb v1); obtain ⟨A4, c4, e4_⟩ := Kd.R_slice hr4; rw [List.length_append, List.length_singleton] at e4_; subst e4_; have hcb4 : World.cell? w4 ⟨b, 1, none⟩ = some (.slice Ao fr.length co) := (blk_cell t3 1).trans rfl; have hfb4 := blk_frozen t3 1; clear hcb t1 t2 t3 hr4 hb4 hg4 hat4) | ((with_reducible refine gate_callee (f := 18) rfl ?_); refine goesL_ (some 128) rfl rfl Tryd.func18 (by kernel_rfl) rfl #[.int .i64 (wrap64 (fr.length : Int))] rfl (by (try simp only [List.map_toArray, List.map_cons, List.map_nil]); first | done | rfl) ?_; refine (impl_Dec.calls (wrap64 (fr.length : Int)) d _ AD.out (PW.below hT_ HB4.out)).mono ?_; rintro e_ w5 ⟨rfl, hb5⟩; refine ⟨_, rfl, ?_⟩; have HB5 := Aside0.mk (below_then HB4.out HB4.out.size hb5); have SF5 := Aside0.mk (ShF.below SF4.out hb5); have RS5 := Aside0.mk (Rest.trans RS4.out (Rest.below hb5)); clear hb5))
           go_ret
           exact ⟨rfl, HB5.out, SF5.out.toAt, RS5.out⟩
          ·rw [if_neg c9] at H
           cases H
def showTypeF (k : Nat) (l : List S55) (i : Int) : Option ByteArray := (shower k l [] i).bind fun q => some q.1
set_option maxHeartbeats 8000000 in
set_option maxRecDepth 100000 in
theorem showTypeF.calls (k : Nat) (A0 : Option Addr) (c0 : Nat) (l0 : List S55) (a1 : Int) (r : ByteArray) (w : World) (hr0 : Kd.C k55 w A0 l0.length l0) (hc0 : l0.length <= c0) (h : showTypeF k l0 a1 = some r) (hT_ : PW w) :
  Calls Tryd.prog 55 #[.slice A0 l0.length c0, .int .i64 a1] w fun e w' => e = .returned (.string r) /\ Below w.heap.size w w' := by
 obtain ⟨⟨r1, r2⟩, hs, h⟩ := Option.bind_eq_some_iff.mp h
 obtain rfl := Option.some.inj h
 have HR0 := Aside0.mk hr0
 have A1 := Aside0.mk hs
 clear hr0 hs h
 go_enter Tryd.func55, Tryd.ntmps55
 go_wp2_with (first | ((with_reducible refine gate_dst (N := 8) rfl ?_); refine box_event ?hg (N := 8) ?hd (cs := #[.slice A0 l0.length c0, .slice none 0 0]) (t := 126) ?hr ?_; (case hd => rfl); (case hg => rfl); (case hr => exact vz); intro g hg w1 hbox hb1; have GW := Aside0.mk (Nat.le_of_eq hg.symm); have HN := Aside0.mk hb1; have SH := Aside0.mk (show ShAt w.heap.size g A0 l0.length c0 [] w1 from ⟨.slice none 0 0, hbox, Kd.R_nil _ _ _ _ _⟩); clear hg hbox hb1) | ((with_reducible refine gate_callee (f := 82) rfl ?_); refine goesL_ (some 11) rfl rfl Tryd.func82 (by kernel_rfl) rfl #[.pointer (some ⟨g, 0, none⟩), .int .i64 a1] rfl (by (try simp only [List.map_toArray, List.map_cons, List.map_nil]); first | done | rfl) ?_; refine (shower.calls k _ _ l0 g [] _ _ _ w _ HR0.out HN.out GW.out SH.out hT_ A1.out).mono ?_; rintro e_ w2 ⟨rfl, t1, t2, t3⟩; refine ⟨_, rfl, ?_⟩; have HB2 := Aside0.mk t1; clear t1 t2 t3))
 go_ret
 exact ⟨rfl, HB2.out⟩
theorem chase.mono : ∀ (k : Nat) (l : List S55) (i : Int), LeO (chase k l i) (chase (k + 1) l i)
 | 0, _, _ => fun r h => by simp [chase] at h
 | k + 1, l, i => by
  have ih := chase.mono k
  unfold chase
  with_reducible repeat' first | exact ih _ _ | exact lrz _ | exact lnz _ | refine liz ?_ ?_
theorem seek.mono : ∀ (k : Nat) (fr : List Int) (i j : Int), LeO (seek k fr i j) (seek (k + 1) fr i j)
 | 0, _, _, _ => fun r h => by simp [seek] at h
 | k + 1, fr, i, j => by
  have ih := seek.mono k
  unfold seek
  with_reducible repeat' first | exact ih _ _ _ | exact lrz _ | exact lnz _ | refine liz ?_ ?_
theorem shower.mono : ∀ (k : Nat) (l : List S55) (fr : List Int) (i : Int), LeO (shower k l fr i) (shower (k + 1) l fr i)
 | 0, _, _, _ => fun r h => by simp [shower] at h
 | k + 1, l, fr, i => by
  have ih := shower.mono k
  unfold shower
  with_reducible repeat' first | exact ih _ _ _ | exact chase.mono _ _ _ | exact seek.mono _ _ _ _ | exact lrz _ | exact lnz _ | refine liz ?_ ?_ | refine lbz ?_ fun _ => ?_
theorem showTypeF.mono (l : List S55) (i : Int) (k : Nat) : LeO (showTypeF k l i) (showTypeF (k + 1) l i) := by
 unfold showTypeF
 exact LeO.bind (shower.mono _ _ _ _) (fun _ => LeO.refl _)
def impl_showType.f (k : Nat) (l0 : List (S55)) (a1 : Int) : Option (ByteArray) := showTypeF k l0 a1
theorem impl_showType.mono : ∀ a0 a1 k, LeO (impl_showType.f k a0 a1) (impl_showType.f (k + 1) a0 a1) := fun a0 a1 k => showTypeF.mono a0 a1 k
theorem impl_showType.calls (k : Nat) (A0 : Option Addr) (c0 : Nat) (l0 : List (S55)) (a1 : Int) (r : ByteArray) (w : World) (hr0 : Kd.C k55 w A0 l0.length l0) (hc0 : l0.length <= c0) (h : impl_showType.f k l0 a1 = some r) (hT_ : PW w) :
  Calls Tryd.prog 55 #[.slice A0 l0.length c0, .int .i64 a1] w fun e w' => e = .returned (.string r) /\ Below w.heap.size w w' := showTypeF.calls k A0 c0 l0 a1 r w hr0 hc0 h hT_
end Go.Proofs.YtlhofeikcaejpaaDoor.PFnExactUnified
