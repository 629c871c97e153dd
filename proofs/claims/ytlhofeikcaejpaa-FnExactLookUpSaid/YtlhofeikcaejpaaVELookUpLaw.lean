/- FnExactLookUp holds for every input that can be read: the row, out of the pure statement and the walk. -/
import Derived.Test.YtlhofeikcaejpaaRows
import Derived.Test.YtlhofeikcaejpaaVELookUpSay
import Derived.Test.YtlhofeikcaejpaaVELookUpPure
import Derived.WalkKit
import Derived.ProofKit
import Derived.OpenShut
import Derived.ShutString
import Derived.ChangeOld
import Derived.Below
import Derived.SizedLaws
import Derived.Carry
set_option linter.unusedVariables false
set_option linter.unusedSimpArgs false
namespace Go.Proofs.Ytlhofeikcaejpaa.fnExactLookUp
open Go.ChangeShapes Go.WideShapes Go.ChangeAt Go.RowKit
open Go.ChangeMaps (open_string shut_string)
open Go.Proofs.Ytlhofeikcaejpaa.SayFnExactLookUp Go.Proofs.Ytlhofeikcaejpaa.PFnExactLookUp Go.Proofs.YtlhofeikcaejpaaW.PrintWords Go.Proofs.YtlhofeikcaejpaaW.Opens Go.Proofs.Ytlhofeikcaejpaa
theorem own : ownKnob Try.prog.godebug = none := by kernel_rfl
theorem laidOut : laidOutB Try.prog = true := by kernel_rfl
set_option maxRecDepth 100000 in
theorem lifted (os : Os) (started : os.Started) (H : Type) (enc : TypeId × Value → H) :
    ReturnsInHanded {} Try.checked os 5 .any (Rows.fnExactLookUpSpec.pre6 enc Try.prog Try.f5 Rows.fnExactLookUpRow.domain false) (Rows.fnExactLookUpSpec.post enc Try.prog Try.f5 false true false false) := by
  refine returnsInHanded_of_change_sized (C := Try.checked) own started (by kernel_rfl) Try.func5
    (ChangeSpec.witness6 (enc := enc) (C := Try.checked) false ⟨#[], #[.agg #[.slice none 0 0, .slice none 0 0, .slice none 0 0, .slice none 0 0], .int .i64 0, .agg #[.int .i64 0, .int .i64 0]], []⟩ 8 (by kernel_rfl) (by kernel_rfl) (by kernel_rfl) (by kernel_rfl)) ?_
  intro W base args ds gs before hval0 hW hcnd hsz0 _
  have hval : ∀ (j : Nat) t v, Try.f5.params[j]? = some t → args[j]? = some v → Value.okWide Try.prog W .any base t v := hval0
  have hW' := hW
  obtain ⟨p, q, hA0, hV, rfl, hfz, hnd⟩ := hW
  have hA : DataW.TrodAll enc Try.prog W 0 (fun _ => true) true Try.f5.params.toList args.toList ds p := hA0
  rw [Try.params5] at hA hval
  obtain ⟨v0, vs0, d0, ds0, p0, q0, hargs, rfl, rfl, h0, r0⟩ := trodAll_cons hA
  obtain ⟨v1, vs1, d1, ds1, p1, q1, rfl, rfl, rfl, h1, r1⟩ := trodAll_cons r0
  obtain ⟨v2, vs2, d2, ds2, p2, q2, rfl, rfl, rfl, h2, r2⟩ := trodAll_cons r1
  obtain ⟨rfl, rfl, rfl⟩ := trodAll_nil r2
  obtain rfl : args = #[v0, v1, v2] := by cases args; simp_all
  obtain ⟨rfl, rfl⟩ := trodVars_none hV
  have k0 := h0
  have lt0 : ∀ x ∈ p0, x.block < W.heap.size := by obtain ⟨m, hm⟩ := k0; exact DataW.trod_lt m _ _ _ hm
  obtain ⟨cs0, rfl, _⟩ := okWide_struct Try.underlying44 (hval 0 44 v0 rfl rfl)
  obtain ⟨fuel0, hf0⟩ := h0
  obtain ⟨⟨l0_0, l0_1, l0_2, l0_3⟩, ⟨_, _, hv0, ⟨A0_0, c0_0, rfl, hc0_0, hr0_0⟩, ⟨_, _, rfl, ⟨A0_1, c0_1, rfl, hc0_1, hr0_1⟩, ⟨_, _, rfl, ⟨A0_2, c0_2, rfl, hc0_2, hr0_2⟩, ⟨A0_3, c0_3, rfl, hc0_3, hr0_3⟩⟩⟩⟩, ⟨g0, g1, g2, g3⟩⟩ := (opens_struct (fun x => x) (fun x => x) (fun _ => rfl) Try.underlying44 (by kernel_rfl) (opensFs_cons rfl (opens_slice Try.underlying39 (by kernel_rfl) opens_k106) (by kernel_rfl) (opensFs_cons rfl (opens_slice Try.underlying40 (by kernel_rfl) opens_k108) (by kernel_rfl) (opensFs_cons rfl (opens_slice Try.underlying41 (by kernel_rfl) opens_k111) (by kernel_rfl) (opensFs_last rfl (opens_slice Try.underlying42 (by kernel_rfl) opens_k104)))))).2 _ _ _ _ _ _ _ _ _ hf0
  obtain rfl : cs0 = #[.slice A0_0 l0_0.length c0_0, .slice A0_1 l0_1.length c0_1, .slice A0_2 l0_2.length c0_2, .slice A0_3 l0_3.length c0_3] := by
    apply Array.toList_inj.1
    simpa [Value.cells] using hv0
  clear hv0
  obtain ⟨a1, rfl, rfl, rfl, g4⟩ := open_int Try.underlying3 (hval 1 3 v1 rfl rfl) h1
  have k2 := h2
  have lt2 : ∀ x ∈ p2, x.block < W.heap.size := by obtain ⟨m, hm⟩ := k2; exact DataW.trod_lt m _ _ _ hm
  obtain ⟨cs2, rfl, _⟩ := okWide_struct Try.underlying46 (hval 2 46 v2 rfl rfl)
  obtain ⟨fuel2, hf2⟩ := h2
  obtain ⟨⟨a2_0, a2_1⟩, ⟨_, _, hv2, rfl, rfl⟩, ⟨g5, g6⟩⟩ := (opens_struct (fun x => x) (fun x => x) (fun _ => rfl) Try.underlying46 (by kernel_rfl) (opensFs_cons rfl (opens_int Try.underlying3 (by kernel_rfl)) (by kernel_rfl) (opensFs_last rfl (opens_int Try.underlying3 (by kernel_rfl))))).2 _ _ _ _ _ _ _ _ _ hf2
  obtain rfl : cs2 = #[.int .i64 a2_0, .int .i64 a2_1] := by
    apply Array.toList_inj.1
    simpa [Value.cells] using hv2
  clear hv2
  clear hA0 hval0 hsz0
  refine (walk Pure.FnExactLookUp _ _ l0_0 _ _ l0_1 _ _ l0_2 _ _ l0_3 a1 a2_0 a2_1 W hr0_0 hc0_0 hr0_1 hc0_1 hr0_2 hc0_2 hr0_3 hc0_3 g0 g1 g2 g3 g4 g5 g6).mono fun e W' ⟨he, bel⟩ => ?_
  subst he
  exact ⟨_, rfl, _, _, _, [], _, [], hW', trodAll_mk1 (shut_bool Try.underlying4 _), (trodAll_cons_mk (Below.trod laidOut (by kernel_rfl) (of_decide_eq_true (by kernel_rfl)) k0 bel lt0) (trodAll_cons_mk (shut_int Try.underlying3 g4) (trodAll_cons_mk (Below.trod laidOut (by kernel_rfl) (of_decide_eq_true (by kernel_rfl)) k2 bel lt2) trodAll_mk0))), rfl, bel.frame _, fun h => by cases h⟩
theorem over : Rows.fnExactLookUpRow.holds Try.pinned (OpenSpec.ofChange Rows.fnExactLookUpSpec) :=
  OpenClaim.holds_of_wide 5 Try.f5 rfl rfl rfl rfl rfl rfl rfl ⟨rfl, rfl, rfl, rfl, rfl⟩ rfl rfl rfl rfl rfl (by kernel_rfl) Try.func5 (by kernel_rfl)
    (of_decide_eq_true (by kernel_rfl)) (by unfold Func.isWrapper; first | (rw [if_pos (by decide +kernel)]; kernel_rfl) | (rw [if_neg (by decide +kernel)]; exact ⟨rfl, rfl⟩))
    (fun os started H enc _ => lifted os started H enc)
theorem proved : Rows.FnExactLookUpSaid := over
#print axioms proved
end Go.Proofs.Ytlhofeikcaejpaa.fnExactLookUp
namespace Go.Proofs.Ytlhofeikcaejpaa
/-- The row, under a short name, for the claim. -/
theorem fnExactLookUp_holds : Rows.FnExactLookUpSaid := fnExactLookUp.proved
end Go.Proofs.Ytlhofeikcaejpaa
