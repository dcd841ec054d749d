-- written by a program of this session, over the form of the kit's print
import Derived.Test.YtojbcpklmegjpaaRows
import Derived.Test.YtojbcpklmegjpaaQFnExactEmptyTimesx5
import Derived.Test.YtojbcpklmegjpaaPureFnExactEmptyTimes
import Derived.Test.YtojbcpklmegjpaaV
import Derived.WalkKit
import Derived.ProofKit
import Derived.OpenShut
import Derived.ShutString
import Derived.ChangeOld
import Derived.Below
import Derived.SizedLaws
namespace Go.Proofs.Ytojbcpklmegjpaa.fnExactEmptyTimes
open Go.ChangeShapes Go.WideShapes Go.ChangeAt Go.RowKit Go.Deep
open Go.ChangeMaps (open_string shut_string)
open Go.Proofs.Ytojbcpklmegjpaa.QFnExactEmptyTimes Go.Proofs.YtojbcpklmegjpaaV
open Go.Proofs.YtojbcpklmegjpaaW.PrintWords Go.Proofs.YtojbcpklmegjpaaW.PrintLast
set_option linter.unusedVariables false
theorem own : ownKnob Try.prog.godebug = none := by kernel_rfl
theorem laidOut : laidOutB Try.prog = true := by kernel_rfl
def mk57 (zs : List Int) : S57 := ⟨zs.getD 0 0, zs.getD 1 0⟩
theorem mkK57 (w : World) (zs : List Int) (h : zs.length = 2) : k57.K w (mk57 zs) (zs.map (Value.int .i64)) := by
  match zs, h with
  | [z0, z1], _ => exact k57_mk w _
theorem mkW57 {L : List (List Int)} (h : ∀ zs ∈ L, zs.length = 2 ∧ ∀ z ∈ zs, (Lit.int .i64 z).wf = true) : ∀ x ∈ L.map mk57, (Lit.int .i64 x.f0).wf = true ∧ (Lit.int .i64 x.f1).wf = true := by
  intro x hx
  obtain ⟨zs, hz, rfl⟩ := List.mem_map.1 hx
  obtain ⟨h1, h2⟩ := h zs hz
  match zs, h1 with
  | [z0, z1], _ => exact ⟨h2 z0 (by simp), h2 z1 (by simp)⟩
theorem ints57 : ∀ {fs : Array Field}, Try.prog.underlying 57 = some (.struct fs) → AllInts Try.prog fs := by
  intro fs h j f hj
  rw [Try.underlying57] at h
  obtain rfl := TypeDesc.struct.inj (Option.some.inj h)
  rcases j with _ | _ | j
  · obtain rfl := Option.some.inj hj; exact Try.underlying3
  · obtain rfl := Option.some.inj hj; exact Try.underlying3
  · simp at hj
set_option maxRecDepth 100000 in
theorem lifted (os : Os) (started : os.Started) (H : Type) (enc : TypeId × Value → H) :
    ReturnsInHanded {} Try.checked os 4 .any (Rows.fnExactEmptyTimesSpec.pre6 enc Try.prog Try.f4 Rows.fnExactEmptyTimesRow.domain false) (Rows.fnExactEmptyTimesSpec.post enc Try.prog Try.f4 false true false false) := by
  refine returnsInHanded_of_change_sized (C := Try.checked) own started (by kernel_rfl) Try.func4
    (ChangeSpec.witness6 (enc := enc) (C := Try.checked) false ⟨#[], #[.slice none 0 0, .int .i64 0], []⟩ 8 (by kernel_rfl) (by kernel_rfl) (by kernel_rfl) (by kernel_rfl)) ?_
  intro W base args ds gs before hval0 hW hcnd hsz0 _
  have hsz : (DataW.weightsEach Try.prog (Try.f4.params.toList ++ Rows.fnExactEmptyTimesSpec.plain.varTypes Try.prog) (ds ++ gs)).all (· ≤ reachBytes) = true := hsz0
  have hval : ∀ (j : Nat) t v, Try.f4.params[j]? = some t → args[j]? = some v → Value.okWide Try.prog W .any base t v := hval0
  have hW' := hW
  obtain ⟨p, q, hA0, hV, rfl, hfz, hnd⟩ := hW
  have hA : DataW.TrodAll enc Try.prog W 0 (fun _ => true) true Try.f4.params.toList args.toList ds p := hA0
  rw [Try.params4] at hA hval hsz
  obtain ⟨v0, vs0, d0, ds0, p0, q0, hargs, rfl, rfl, h0, r0⟩ := trodAll_cons hA
  obtain ⟨v1, vs1, d1, ds1, p1, q1, rfl, rfl, rfl, h1, r1⟩ := trodAll_cons r0
  obtain ⟨rfl, rfl, rfl⟩ := trodAll_nil r1
  obtain rfl : args = #[v0, v1] := by cases args; simp_all
  obtain ⟨rfl, rfl⟩ := trodVars_none hV
  have k0 := h0
  have lt0 : ∀ x ∈ p0, x.block < W.heap.size := by obtain ⟨m, hm⟩ := k0; exact DataW.trod_lt m _ _ _ hm
  obtain ⟨_, _, _, hv0⟩ := okWide_slice Try.underlying22 (hval 0 22 v0 rfl rfl)
  obtain ⟨fuel0, hf0⟩ := h0
  have ht0 : DataW.trod enc Try.prog W 0 (fun _ => true) true fuel0 22 [v0] = some (d0, p0) := by rw [hv0] at hf0 ⊢; exact hf0
  obtain ⟨A0, c0, L0, rfl, hc0, hm0, hr0, hw0⟩ := open_int_structs k57 mk57 Try.underlying22 Try.underlying57 (by kernel_rfl) (by kernel_rfl) (ints57 Try.underlying57) rfl (mkK57 W) ht0
  obtain ⟨a1, rfl, rfl, rfl, w1⟩ := open_int Try.underlying3 (hval 1 3 v1 rfl rfl) h1
  clear hA0 hval0 hsz0 hsz
  obtain ⟨k, hk⟩ := Pure.FnExactEmptyTimes (L0.map mk57) a1 hm0 (mkW57 hw0) w1
  refine (QFnExactEmptyTimes.laws_FnExactEmptyTimes.calls k A0 c0 (L0.map mk57) a1 true W hr0 hc0 hk).mono ?_
  rintro e W' ⟨rfl, bel0⟩
  have bel : Below W.heap.size W W' := bel0
  exact ⟨_, rfl, _, _, _, [], _, [], hW', trodAll_mk1 (shut_bool Try.underlying4 _), (trodAll_cons_mk (Below.trod laidOut (by kernel_rfl) (of_decide_eq_true (by kernel_rfl)) k0 bel lt0) (trodAll_cons_mk (shut_int Try.underlying3 w1) trodAll_mk0)), rfl, bel.frame _, fun h => by cases h⟩
theorem over : Rows.fnExactEmptyTimesRow.holds Try.pinned (OpenSpec.ofChange Rows.fnExactEmptyTimesSpec) :=
  OpenClaim.holds_of_wide 4 Try.f4 rfl rfl rfl rfl rfl rfl rfl ⟨rfl, rfl, rfl, rfl, rfl⟩ rfl rfl rfl rfl rfl (by kernel_rfl) Try.func4 (by kernel_rfl)
    (of_decide_eq_true (by kernel_rfl)) (by unfold Func.isWrapper; first | (rw [if_pos (by decide +kernel)]; kernel_rfl) | (rw [if_neg (by decide +kernel)]; exact ⟨rfl, rfl⟩))
    (fun os started H enc _ => lifted os started H enc)
theorem proved : Rows.FnExactEmptyTimesSaid := over
#print axioms proved
end Go.Proofs.Ytojbcpklmegjpaa.fnExactEmptyTimes
namespace Go.Proofs.Ytojbcpklmegjpaa
/-- The row, under a short name, for the claim. -/
theorem fnExactEmptyTimes_holds : Rows.FnExactEmptyTimesSaid := fnExactEmptyTimes.proved
end Go.Proofs.Ytojbcpklmegjpaa
