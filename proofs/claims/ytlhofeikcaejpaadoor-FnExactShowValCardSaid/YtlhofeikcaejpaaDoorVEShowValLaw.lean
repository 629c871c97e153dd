/- FnExactShowVal holds for every input that can be read: the row, out of the pure statement and the walk. -/
import Derived.Test.YtlhofeikcaejpaaDoorTie
import Derived.Test.YtlhofeikcaejpaaDoorCards
import Derived.LaidMore
import Derived.Lay
import Derived.SevenTiedAt
import Derived.Stop.Joined
import Derived.Test.YtlhofeikcaejpaaDoorRows
import Derived.Test.YtlhofeikcaejpaaDoorVEShowValSay
import Derived.Test.YtlhofeikcaejpaaDoorVEShowValPure
import Derived.WalkKit
import Derived.ProofKit
import Derived.OpenShut
import Derived.ShutString
import Derived.ChangeOld
import Derived.Below
import Derived.SizedLaws
import Derived.Carry
set_option linter.unusedVariables false
set_option linter.unusedSimpArgs false
namespace Go.Proofs.YtlhofeikcaejpaaDoor.fnExactShowVal
open Go.ChangeShapes Go.WideShapes Go.ChangeAt Go.RowKit
open Go.ChangeMaps (open_string shut_string)
open Go.Proofs.YtlhofeikcaejpaaDoor.SayFnExactShowVal Go.Proofs.YtlhofeikcaejpaaDoor.PFnExactShowVal Go.Proofs.YtlhofeikcaejpaaDoorW.PrintWords Go.Proofs.YtlhofeikcaejpaaDoorW.Opens Go.Proofs.YtlhofeikcaejpaaDoor
theorem own : ownKnob Tryd.prog.godebug = none := by kernel_rfl
theorem laidOut : laidOutB Tryd.prog = true := by kernel_rfl
set_option maxRecDepth 100000 in
theorem lifted (os : Os) (started : os.Started) (H : Type) (enc : TypeId × Value → H) :
    ReturnsInHanded {} Tryd.checked os 7 .any (fun w args => (Rows.fnExactShowValSpec.pre enc Tryd.prog Tryd.f7 Rows.fnExactShowValRow.domain false w args ∧ laidMetH Tryd.prog Rows.fnExactShowValRow.laid w) ∧ sizedMet enc Tryd.prog Tryd.f7 (OpenSpec.ofChange Rows.fnExactShowValSpec) false w args) (Rows.fnExactShowValSpec.post enc Tryd.prog Tryd.f7 false true false false) := by
  refine returnsInHanded_of_change_and (C := Tryd.checked) (X := fun w _ => laidMetH Tryd.prog Rows.fnExactShowValRow.laid w) (fun _ _ _ hh h => h.of_heap hh) own started (by kernel_rfl) Tryd.func7
    (ChangeSpec.witness_shaped (enc := enc) (C := Tryd.checked) (os := os) (X := fun w _ => laidMetH Tryd.prog Rows.fnExactShowValRow.laid w) false (World.laidAll Tryd.prog os Rows.fnExactShowValRow.laid) #[.agg #[.slice none 0 0, .slice none 0 0, .slice none 0 0, .slice none 0 0], .agg #[.int .i64 0, .int .i64 0], .int .i64 0] 8 (World.laidAll_os _ _ _)
      (World.shaped_of_ZipB (by kernel_rfl) (by kernel_rfl)) (by kernel_rfl) (by kernel_rfl) (by kernel_rfl)
      (by rw [MakeChecks.laidMetH_plain _ _ _ (by kernel_rfl)]; exact laidMet_laidAll _ (by kernel_rfl) (by kernel_rfl))) ?_
  intro W base args ds gs before hval0 hW _ _ hL _
  have hval : ∀ (j : Nat) t v, Tryd.f7.params[j]? = some t → args[j]? = some v → Value.okWide Tryd.prog W .any base t v := hval0
  have hW' := hW
  obtain ⟨p, q, hA0, hV, rfl, hfz, hnd⟩ := hW
  have hA : DataW.TrodAll enc Tryd.prog W 0 (fun _ => true) true Tryd.f7.params.toList args.toList ds p := hA0
  rw [Tryd.params7] at hA hval
  obtain ⟨v0, vs0, d0, ds0, p0, q0, hargs, rfl, rfl, h0, r0⟩ := trodAll_cons hA
  obtain ⟨v1, vs1, d1, ds1, p1, q1, rfl, rfl, rfl, h1, r1⟩ := trodAll_cons r0
  obtain ⟨v2, vs2, d2, ds2, p2, q2, rfl, rfl, rfl, h2, r2⟩ := trodAll_cons r1
  obtain ⟨rfl, rfl, rfl⟩ := trodAll_nil r2
  obtain rfl : args = #[v0, v1, v2] := by cases args; simp_all
  obtain ⟨rfl, rfl⟩ := trodVars_none hV
  have k0 := h0
  have lt0 : ∀ x ∈ p0, x.block < W.heap.size := by obtain ⟨m, hm⟩ := k0; exact DataW.trod_lt m _ _ _ hm
  obtain ⟨cs0, rfl, _⟩ := okWide_struct Tryd.underlying70 (hval 0 70 v0 rfl rfl)
  obtain ⟨fuel0, hf0⟩ := h0
  obtain ⟨⟨l0_0, l0_1, l0_2, l0_3⟩, ⟨_, _, hv0, ⟨A0_0, c0_0, rfl, hc0_0, hr0_0⟩, ⟨_, _, rfl, ⟨A0_1, c0_1, rfl, hc0_1, hr0_1⟩, ⟨_, _, rfl, ⟨A0_2, c0_2, rfl, hc0_2, hr0_2⟩, ⟨A0_3, c0_3, rfl, hc0_3, hr0_3⟩⟩⟩⟩, ⟨g0, g1, g2, g3⟩⟩ := (opens_struct (fun x => x) (fun x => x) (fun _ => rfl) Tryd.underlying70 (by kernel_rfl) (opensFs_cons rfl (opens_slice Tryd.underlying65 (by kernel_rfl) opens_k130) (by kernel_rfl) (opensFs_cons rfl (opens_slice Tryd.underlying66 (by kernel_rfl) opens_k132) (by kernel_rfl) (opensFs_cons rfl (opens_slice Tryd.underlying67 (by kernel_rfl) opens_k135) (by kernel_rfl) (opensFs_last rfl (opens_slice Tryd.underlying68 (by kernel_rfl) opens_k71)))))).2 _ _ _ _ _ _ _ _ _ hf0
  obtain rfl : cs0 = #[.slice A0_0 l0_0.length c0_0, .slice A0_1 l0_1.length c0_1, .slice A0_2 l0_2.length c0_2, .slice A0_3 l0_3.length c0_3] := by
    apply Array.toList_inj.1
    simpa [Value.cells] using hv0
  clear hv0
  have k1 := h1
  have lt1 : ∀ x ∈ p1, x.block < W.heap.size := by obtain ⟨m, hm⟩ := k1; exact DataW.trod_lt m _ _ _ hm
  obtain ⟨cs1, rfl, _⟩ := okWide_struct Tryd.underlying71 (hval 1 71 v1 rfl rfl)
  obtain ⟨fuel1, hf1⟩ := h1
  obtain ⟨⟨a1_0, a1_1⟩, ⟨_, _, hv1, rfl, rfl⟩, ⟨g4, g5⟩⟩ := (opens_struct (fun x => x) (fun x => x) (fun _ => rfl) Tryd.underlying71 (by kernel_rfl) (opensFs_cons rfl (opens_int Tryd.underlying3 (by kernel_rfl)) (by kernel_rfl) (opensFs_last rfl (opens_int Tryd.underlying3 (by kernel_rfl))))).2 _ _ _ _ _ _ _ _ _ hf1
  obtain rfl : cs1 = #[.int .i64 a1_0, .int .i64 a1_1] := by
    apply Array.toList_inj.1
    simpa [Value.cells] using hv1
  clear hv1
  obtain ⟨a2, rfl, rfl, rfl, g6⟩ := open_int Tryd.underlying3 (hval 2 3 v2 rfl rfl) h2
  have hT_ : PW W := PW.of_laidFnExactShowVal hL
  clear hA0 hval0 hL
  refine (walk Pure.FnExactShowVal _ _ l0_0 _ _ l0_1 _ _ l0_2 _ _ l0_3 a1_0 a1_1 a2 W hr0_0 hc0_0 hr0_1 hc0_1 hr0_2 hc0_2 hr0_3 hc0_3 g0 g1 g2 g3 g4 g5 g6 hT_).mono fun e W' ⟨he, bel⟩ => ?_
  subst he
  exact ⟨_, rfl, _, _, _, [], _, [], hW', trodAll_mk1 (shut_bool Tryd.underlying4 _), (trodAll_cons_mk (Below.trod laidOut (by kernel_rfl) (of_decide_eq_true (by kernel_rfl)) k0 bel lt0) (trodAll_cons_mk (Below.trod laidOut (by kernel_rfl) (of_decide_eq_true (by kernel_rfl)) k1 bel lt1) (trodAll_cons_mk (shut_int Tryd.underlying3 g6) trodAll_mk0))), rfl, bel.frame _, fun h => by cases h⟩
theorem over : Rows.fnExactShowValRow.holds Tryd.pinned (OpenSpec.ofChange Rows.fnExactShowValSpec) :=
  OpenClaim.holds_of_wide 7 Tryd.f7 rfl rfl rfl rfl rfl rfl rfl ⟨rfl, rfl, rfl, rfl, rfl⟩ rfl rfl rfl rfl rfl (by kernel_rfl) Tryd.func7 (by kernel_rfl)
    (of_decide_eq_true (by kernel_rfl)) (by unfold Func.isWrapper; first | (rw [if_pos (by decide +kernel)]; kernel_rfl) | (rw [if_neg (by decide +kernel)]; exact ⟨rfl, rfl⟩))
    (fun os started H enc _ => lifted os started H enc)
theorem proved : Rows.FnExactShowValCardSaid :=
  Claim7.holds_tied_plain_at .later [] [.data, .data, .data] true (true, "f59e5b1a7855c1ac323bfe8c4320a2d6e88d966a959f0c1d2a1666acd1c27535") false over (fun _ h => by cases h) (by kernel_rfl) (fun _ h => by cases h) fnExactShowVal_row_tie rfl ⟨rfl, rfl⟩ (by kernel_rfl) rfl
    (fun f fn hf hfn => by
      obtain rfl : f = 7 := Option.some.inj ((show Tryd.prog.funcNamed "loop.example/g01292/laws.FnExactShowVal" = some 7 by kernel_rfl).symm.trans hf) |>.symm
      obtain rfl : fn = Tryd.f7 := (Option.some.inj (Tryd.func7.symm.trans hfn)).symm
      exact ⟨by kernel_rfl, fun j t ht => by
        rw [Tryd.params7] at ht
        have hm : t ∈ [70, 71, 3] := by simpa using Array.mem_of_getElem? ht
        have hall : ([70, 71, 3].all fun u => !Tryd.prog.wantsStandIn u) = true := by kernel_rfl
        exact (show Tryd.prog.wantsStandIn t = false by simpa using List.all_eq_true.1 hall t hm)⟩)
    (by kernel_rfl)
#print axioms proved
end Go.Proofs.YtlhofeikcaejpaaDoor.fnExactShowVal
namespace Go.Proofs.YtlhofeikcaejpaaDoor
/-- The row, under a short name, for the claim. -/
theorem fnExactShowVal_holds : Rows.FnExactShowValCardSaid := fnExactShowVal.proved
end Go.Proofs.YtlhofeikcaejpaaDoor
