-- written by a program of this session, over the form of the kit's print
import Derived.Test.YtojbcpklmegjpaaRows
import Derived.Test.YtojbcpklmegjpaaQFnVisitsChancex29
import Derived.Test.YtojbcpklmegjpaaPureFnVisitsChance
import Derived.Test.YtojbcpklmegjpaaV
import Derived.WalkKit
import Derived.ProofKit
import Derived.OpenShut
import Derived.ShutString
import Derived.ChangeOld
import Derived.Below
import Derived.SizedLaws
namespace Go.Proofs.Ytojbcpklmegjpaa.fnVisitsChance
open Go.ChangeShapes Go.WideShapes Go.ChangeAt Go.RowKit Go.Deep
open Go.ChangeMaps (open_string shut_string)
open Go.Proofs.Ytojbcpklmegjpaa.QFnVisitsChance Go.Proofs.YtojbcpklmegjpaaV
open Go.Proofs.YtojbcpklmegjpaaW.PrintWords Go.Proofs.YtojbcpklmegjpaaW.PrintLast
set_option linter.unusedVariables false
theorem own : ownKnob Try.prog.godebug = none := by kernel_rfl
theorem laidOut : laidOutB Try.prog = true := by kernel_rfl
set_option maxRecDepth 100000 in
theorem lifted (os : Os) (started : os.Started) (H : Type) (enc : TypeId × Value → H) :
    ReturnsInHanded {} Try.checked os 5 .any (Rows.fnVisitsChanceSpec.pre6 enc Try.prog Try.f5 Rows.fnVisitsChanceRow.domain false) (Rows.fnVisitsChanceSpec.post enc Try.prog Try.f5 false true false false) := by
  refine returnsInHanded_of_change_sized (C := Try.checked) own started (by kernel_rfl) Try.func5
    (ChangeSpec.witness6 (enc := enc) (C := Try.checked) false ⟨#[], #[.slice none 0 0, .slice none 0 0], []⟩ 8 (by kernel_rfl) (by kernel_rfl) (by kernel_rfl) (by kernel_rfl)) ?_
  intro W base args ds gs before hval0 hW hcnd hsz0 _
  have hsz : (DataW.weightsEach Try.prog (Try.f5.params.toList ++ Rows.fnVisitsChanceSpec.plain.varTypes Try.prog) (ds ++ gs)).all (· ≤ reachBytes) = true := hsz0
  have hval : ∀ (j : Nat) t v, Try.f5.params[j]? = some t → args[j]? = some v → Value.okWide Try.prog W .any base t v := hval0
  have hW' := hW
  obtain ⟨p, q, hA0, hV, rfl, hfz, hnd⟩ := hW
  have hA : DataW.TrodAll enc Try.prog W 0 (fun _ => true) true Try.f5.params.toList args.toList ds p := hA0
  rw [Try.params5] at hA hval hsz
  obtain ⟨v0, vs0, d0, ds0, p0, q0, hargs, rfl, rfl, h0, r0⟩ := trodAll_cons hA
  obtain ⟨v1, vs1, d1, ds1, p1, q1, rfl, rfl, rfl, h1, r1⟩ := trodAll_cons r0
  obtain ⟨rfl, rfl, rfl⟩ := trodAll_nil r1
  obtain rfl : args = #[v0, v1] := by cases args; simp_all
  obtain ⟨rfl, rfl⟩ := trodVars_none hV
  have k0 := h0
  have lt0 : ∀ x ∈ p0, x.block < W.heap.size := by obtain ⟨m, hm⟩ := k0; exact DataW.trod_lt m _ _ _ hm
  obtain ⟨_, _, _, hv0⟩ := okWide_slice Try.underlying36 (hval 0 36 v0 rfl rfl)
  obtain ⟨fuel0, hf0⟩ := h0
  have ht0 : DataW.trod enc Try.prog W 0 (fun _ => true) true fuel0 36 [v0] = some (d0, p0) := by rw [hv0] at hf0 ⊢; exact hf0
  obtain ⟨A0, c0, z0, rfl, hc0, hm0, hr0, hw0⟩ := open_ints_row Try.underlying36 Try.underlying5 (by kernel_rfl) ht0
  have k1 := h1
  have lt1 : ∀ x ∈ p1, x.block < W.heap.size := by obtain ⟨m, hm⟩ := k1; exact DataW.trod_lt m _ _ _ hm
  obtain ⟨_, _, _, hv1⟩ := okWide_slice Try.underlying36 (hval 1 36 v1 rfl rfl)
  obtain ⟨fuel1, hf1⟩ := h1
  have ht1 : DataW.trod enc Try.prog W 0 (fun _ => true) true fuel1 36 [v1] = some (d1, p1) := by rw [hv1] at hf1 ⊢; exact hf1
  obtain ⟨A1, c1, z1, rfl, hc1, hm1, hr1, hw1⟩ := open_ints_row Try.underlying36 Try.underlying5 (by kernel_rfl) ht1
  clear hA0 hval0 hsz0 hsz
  obtain ⟨k, hk⟩ := Pure.FnVisitsChance z0 z1 hm0 hw0 hm1 hw1
  refine (QFnVisitsChance.laws_FnVisitsChance.calls k A0 c0 z0 A1 c1 z1 true W hr0 hc0 hr1 hc1 hk).mono ?_
  rintro e W' ⟨rfl, bel0⟩
  have bel : Below W.heap.size W W' := bel0
  exact ⟨_, rfl, _, _, _, [], _, [], hW', trodAll_mk1 (shut_bool Try.underlying4 _), (trodAll_cons_mk (Below.trod laidOut (by kernel_rfl) (of_decide_eq_true (by kernel_rfl)) k0 bel lt0) (trodAll_cons_mk (Below.trod laidOut (by kernel_rfl) (of_decide_eq_true (by kernel_rfl)) k1 bel lt1) trodAll_mk0)), rfl, bel.frame _, fun h => by cases h⟩
theorem over : Rows.fnVisitsChanceRow.holds Try.pinned (OpenSpec.ofChange Rows.fnVisitsChanceSpec) :=
  OpenClaim.holds_of_wide 5 Try.f5 rfl rfl rfl rfl rfl rfl rfl ⟨rfl, rfl, rfl, rfl, rfl⟩ rfl rfl rfl rfl rfl (by kernel_rfl) Try.func5 (by kernel_rfl)
    (of_decide_eq_true (by kernel_rfl)) (by unfold Func.isWrapper; first | (rw [if_pos (by decide +kernel)]; kernel_rfl) | (rw [if_neg (by decide +kernel)]; exact ⟨rfl, rfl⟩))
    (fun os started H enc _ => lifted os started H enc)
theorem proved : Rows.FnVisitsChanceSaid := over
#print axioms proved
end Go.Proofs.Ytojbcpklmegjpaa.fnVisitsChance
namespace Go.Proofs.Ytojbcpklmegjpaa
/-- The row, under a short name, for the claim. -/
theorem fnVisitsChance_holds : Rows.FnVisitsChanceSaid := fnVisitsChance.proved
end Go.Proofs.Ytojbcpklmegjpaa
