-- written by a program of this session, over the form of the kit's print
import Derived.Test.YtmfcpebojnikkaaRows
import Derived.Test.YtmfcpebojnikkaaQFnExactDoesFitx3
import Derived.Test.YtmfcpebojnikkaaPureFnExactDoesFit
import Derived.Test.YtmfcpebojnikkaaV
import Derived.WalkKit
import Derived.ProofKit
import Derived.OpenShut
import Derived.ShutString
import Derived.ChangeOld
import Derived.Below
import Derived.SizedLaws
namespace Go.Proofs.Ytmfcpebojnikkaa.fnExactDoesFit
open Go.ChangeShapes Go.WideShapes Go.ChangeAt Go.RowKit Go.Deep
open Go.ChangeMaps (open_string shut_string)
open Go.Proofs.Ytmfcpebojnikkaa.QFnExactDoesFit Go.Proofs.YtmfcpebojnikkaaV
open Go.Proofs.YtmfcpebojnikkaaW.PrintWords Go.Proofs.YtmfcpebojnikkaaW.PrintLast
set_option linter.unusedVariables false
theorem own : ownKnob Try.prog.godebug = none := by kernel_rfl
theorem laidOut : laidOutB Try.prog = true := by kernel_rfl
set_option maxRecDepth 100000 in
theorem lifted (os : Os) (started : os.Started) (H : Type) (enc : TypeId × Value → H) :
    ReturnsInHanded {} Try.checked os 4 .any (Rows.fnExactDoesFitSpec.pre6 enc Try.prog Try.f4 Rows.fnExactDoesFitRow.domain false) (Rows.fnExactDoesFitSpec.post enc Try.prog Try.f4 false true false false) := by
  refine returnsInHanded_of_change_sized (C := Try.checked) own started (by kernel_rfl) Try.func4
    (ChangeSpec.witness6 (enc := enc) (C := Try.checked) false ⟨#[], #[.agg #[.int .i64 0, .int .i64 0, .int .i64 0], .agg #[.int .i64 0, .int .i64 0]], []⟩ 8 (by kernel_rfl) (by kernel_rfl) (by kernel_rfl) (by kernel_rfl)) ?_
  intro W base args ds gs before hval0 hW hcnd hsz0 _
  have hsz : (DataW.weightsEach Try.prog (Try.f4.params.toList ++ Rows.fnExactDoesFitSpec.plain.varTypes Try.prog) (ds ++ gs)).all (· ≤ reachBytes) = true := hsz0
  have hval : ∀ (j : Nat) t v, Try.f4.params[j]? = some t → args[j]? = some v → Value.okWide Try.prog W .any base t v := hval0
  have hW' := hW
  obtain ⟨p, q, hA0, hV, rfl, hfz, hnd⟩ := hW
  have hA : DataW.TrodAll enc Try.prog W 0 (fun _ => true) true Try.f4.params.toList args.toList ds p := hA0
  rw [Try.params4] at hA hval hsz
  obtain ⟨v0, vs0, d0, ds0, p0, q0, hargs, rfl, rfl, h0, r0⟩ := trodAll_cons hA
  obtain ⟨v1, vs1, d1, ds1, p1, q1, rfl, rfl, rfl, h1, r1⟩ := trodAll_cons r0
  obtain ⟨rfl, rfl, rfl⟩ := trodAll_nil r1
  obtain rfl : args = #[v0, v1] := by cases args; simp_all
  obtain ⟨rfl, rfl⟩ := trodVars_none hV
  have k0 := h0
  have lt0 : ∀ x ∈ p0, x.block < W.heap.size := by obtain ⟨m, hm⟩ := k0; exact DataW.trod_lt m _ _ _ hm
  obtain ⟨cs0, n0, rfl, hl0, hf0⟩ := open_aggs Try.underlying34 (by kernel_rfl) (by kernel_rfl) (hval 0 34 v0 rfl rfl) h0
  obtain ⟨u0_0, _, hg0_0, ht0_0⟩ := hf0 0 _ rfl
  obtain ⟨u0_1, _, hg0_1, ht0_1⟩ := hf0 1 _ rfl
  obtain ⟨u0_2, _, hg0_2, ht0_2⟩ := hf0 2 _ rfl
  obtain rfl : cs0 = [u0_0, u0_1, u0_2] := by
    apply List.ext_getElem? 
    intro j
    rcases j with _ | _ | _ | j
    · exact hg0_0
    · exact hg0_1
    · exact hg0_2
    · rw [List.getElem?_eq_none (by rw [hl0]; exact Nat.le_add_left _ _), List.getElem?_eq_none (by exact Nat.le_add_left _ _)]
  obtain ⟨a0_0, e0_0, _, w0_0⟩ := DataW.trod_int Try.underlying3 ht0_0
  obtain rfl : u0_0 = .int .i64 a0_0 := by simpa using e0_0
  obtain ⟨a0_1, e0_1, _, w0_1⟩ := DataW.trod_int Try.underlying3 ht0_1
  obtain rfl : u0_1 = .int .i64 a0_1 := by simpa using e0_1
  obtain ⟨a0_2, e0_2, _, w0_2⟩ := DataW.trod_int Try.underlying3 ht0_2
  obtain rfl : u0_2 = .int .i64 a0_2 := by simpa using e0_2
  have k1 := h1
  have lt1 : ∀ x ∈ p1, x.block < W.heap.size := by obtain ⟨m, hm⟩ := k1; exact DataW.trod_lt m _ _ _ hm
  obtain ⟨cs1, n1, rfl, hl1, hf1⟩ := open_aggs Try.underlying36 (by kernel_rfl) (by kernel_rfl) (hval 1 36 v1 rfl rfl) h1
  obtain ⟨u1_0, _, hg1_0, ht1_0⟩ := hf1 0 _ rfl
  obtain ⟨u1_1, _, hg1_1, ht1_1⟩ := hf1 1 _ rfl
  obtain rfl : cs1 = [u1_0, u1_1] := by
    apply List.ext_getElem? 
    intro j
    rcases j with _ | _ | j
    · exact hg1_0
    · exact hg1_1
    · rw [List.getElem?_eq_none (by rw [hl1]; exact Nat.le_add_left _ _), List.getElem?_eq_none (by exact Nat.le_add_left _ _)]
  obtain ⟨a1_0, e1_0, _, w1_0⟩ := DataW.trod_int Try.underlying3 ht1_0
  obtain rfl : u1_0 = .int .i64 a1_0 := by simpa using e1_0
  obtain ⟨a1_1, e1_1, _, w1_1⟩ := DataW.trod_int Try.underlying3 ht1_1
  obtain rfl : u1_1 = .int .i64 a1_1 := by simpa using e1_1
  clear hA0 hval0 hsz0 hsz
  have hk := Pure.FnExactDoesFit a0_0 a0_1 a0_2 a1_0 a1_1 w0_0 w0_1 w0_2 w1_0 w1_1
  refine (QFnExactDoesFit.laws_FnExactDoesFit.calls a0_0 a0_1 a0_2 a1_0 a1_1 true W  hk).mono ?_
  rintro e W' ⟨rfl, bel0⟩
  have bel : Below W.heap.size W W' := bel0
  exact ⟨_, rfl, _, _, _, [], _, [], hW', trodAll_mk1 (shut_bool Try.underlying4 _), (trodAll_cons_mk (Below.trod laidOut (by kernel_rfl) (of_decide_eq_true (by kernel_rfl)) k0 bel lt0) (trodAll_cons_mk (Below.trod laidOut (by kernel_rfl) (of_decide_eq_true (by kernel_rfl)) k1 bel lt1) trodAll_mk0)), rfl, bel.frame _, fun h => by cases h⟩
theorem over : Rows.fnExactDoesFitRow.holds Try.pinned (OpenSpec.ofChange Rows.fnExactDoesFitSpec) :=
  OpenClaim.holds_of_wide 4 Try.f4 rfl rfl rfl rfl rfl rfl rfl ⟨rfl, rfl, rfl, rfl, rfl⟩ rfl rfl rfl rfl rfl (by kernel_rfl) Try.func4 (by kernel_rfl)
    (of_decide_eq_true (by kernel_rfl)) (by unfold Func.isWrapper; first | (rw [if_pos (by decide +kernel)]; kernel_rfl) | (rw [if_neg (by decide +kernel)]; exact ⟨rfl, rfl⟩))
    (fun os started H enc _ => lifted os started H enc)
theorem proved : Rows.FnExactDoesFitSaid := over
#print axioms proved
end Go.Proofs.Ytmfcpebojnikkaa.fnExactDoesFit
namespace Go.Proofs.Ytmfcpebojnikkaa
/-- The row, under a short name, for the claim. -/
theorem fnExactDoesFit_holds : Rows.FnExactDoesFitSaid := fnExactDoesFit.proved
end Go.Proofs.Ytmfcpebojnikkaa
