-- written by a program of this session, over the form of the kit's print
import Derived.Test.YtfmnphonbklkfaaRows
import Derived.Test.YtfmnphonbklkfaaQFnExactIsDeskx3
import Derived.Test.YtfmnphonbklkfaaPureFnExactIsDesk
import Derived.Test.YtfmnphonbklkfaaV
import Derived.WalkKit
import Derived.ProofKit
import Derived.OpenShut
import Derived.ShutString
import Derived.ChangeOld
import Derived.Below
import Derived.SizedLaws
namespace Go.Proofs.Ytfmnphonbklkfaa.fnExactIsDesk
open Go.ChangeShapes Go.WideShapes Go.ChangeAt Go.RowKit Go.Deep
open Go.ChangeMaps (open_string shut_string)
open Go.Proofs.Ytfmnphonbklkfaa.QFnExactIsDesk Go.Proofs.YtfmnphonbklkfaaV
open Go.Proofs.YtfmnphonbklkfaaW.PrintWords Go.Proofs.YtfmnphonbklkfaaW.PrintLast
set_option linter.unusedVariables false
theorem own : ownKnob Try.prog.godebug = none := by kernel_rfl
theorem laidOut : laidOutB Try.prog = true := by kernel_rfl
def mk87 (zs : List Int) : S87 := ⟨zs.getD 0 0, zs.getD 1 0⟩
theorem mkK87 (w : World) (zs : List Int) (h : zs.length = 2) : k87.K w (mk87 zs) (zs.map (Value.int .i64)) := by
  match zs, h with
  | [z0, z1], _ => exact k87_mk w _
theorem mkW87 {L : List (List Int)} (h : ∀ zs ∈ L, zs.length = 2 ∧ ∀ z ∈ zs, (Lit.int .i64 z).wf = true) : ∀ x ∈ L.map mk87, (Lit.int .i64 x.f0).wf = true ∧ (Lit.int .i64 x.f1).wf = true := by
  intro x hx
  obtain ⟨zs, hz, rfl⟩ := List.mem_map.1 hx
  obtain ⟨h1, h2⟩ := h zs hz
  match zs, h1 with
  | [z0, z1], _ => exact ⟨h2 z0 (by simp), h2 z1 (by simp)⟩
theorem ints87 : ∀ {fs : Array Field}, Try.prog.underlying 87 = some (.struct fs) → AllInts Try.prog fs := by
  intro fs h j f hj
  rw [Try.underlying87] at h
  obtain rfl := TypeDesc.struct.inj (Option.some.inj h)
  rcases j with _ | _ | j
  · obtain rfl := Option.some.inj hj; exact Try.underlying3
  · obtain rfl := Option.some.inj hj; exact Try.underlying3
  · simp at hj
set_option maxRecDepth 100000 in
theorem lifted (os : Os) (started : os.Started) (H : Type) (enc : TypeId × Value → H) :
    ReturnsInHanded {} Try.checked os 14 .any (Rows.fnExactIsDeskSpec.pre6 enc Try.prog Try.f14 Rows.fnExactIsDeskRow.domain false) (Rows.fnExactIsDeskSpec.post enc Try.prog Try.f14 false true false false) := by
  refine returnsInHanded_of_change_sized (C := Try.checked) own started (by kernel_rfl) Try.func14
    (ChangeSpec.witness6 (enc := enc) (C := Try.checked) false ⟨#[], #[.agg #[.slice none 0 0, .int .i64 0]], []⟩ 8 (by kernel_rfl) (by kernel_rfl) (by kernel_rfl) (by kernel_rfl)) ?_
  intro W base args ds gs before hval0 hW hcnd hsz0 _
  have hsz : (DataW.weightsEach Try.prog (Try.f14.params.toList ++ Rows.fnExactIsDeskSpec.plain.varTypes Try.prog) (ds ++ gs)).all (· ≤ reachBytes) = true := hsz0
  have hval : ∀ (j : Nat) t v, Try.f14.params[j]? = some t → args[j]? = some v → Value.okWide Try.prog W .any base t v := hval0
  have hW' := hW
  obtain ⟨p, q, hA0, hV, rfl, hfz, hnd⟩ := hW
  have hA : DataW.TrodAll enc Try.prog W 0 (fun _ => true) true Try.f14.params.toList args.toList ds p := hA0
  rw [Try.params14] at hA hval hsz
  obtain ⟨v0, vs0, d0, ds0, p0, q0, hargs, rfl, rfl, h0, r0⟩ := trodAll_cons hA
  obtain ⟨rfl, rfl, rfl⟩ := trodAll_nil r0
  obtain rfl : args = #[v0] := by cases args; simp_all
  obtain ⟨rfl, rfl⟩ := trodVars_none hV
  have k0 := h0
  have lt0 : ∀ x ∈ p0, x.block < W.heap.size := by obtain ⟨m, hm⟩ := k0; exact DataW.trod_lt m _ _ _ hm
  obtain ⟨cs0, n0, rfl, hl0, hf0⟩ := open_aggs Try.underlying58 (by kernel_rfl) (by kernel_rfl) (hval 0 58 v0 rfl rfl) h0
  obtain ⟨u0_0, _, hg0_0, ht0_0⟩ := hf0 0 _ rfl
  obtain ⟨u0_1, _, hg0_1, ht0_1⟩ := hf0 1 _ rfl
  obtain rfl : cs0 = [u0_0, u0_1] := by
    apply List.ext_getElem? 
    intro j
    rcases j with _ | _ | j
    · exact hg0_0
    · exact hg0_1
    · rw [List.getElem?_eq_none (by rw [hl0]; exact Nat.le_add_left _ _), List.getElem?_eq_none (by exact Nat.le_add_left _ _)]
  obtain ⟨A0_0, c0_0, L0_0, rfl, hc0_0, hm0_0, hr0_0, hw0_0⟩ := open_int_structs k87 mk87 Try.underlying56 Try.underlying87 (by kernel_rfl) (by kernel_rfl) (ints87 Try.underlying87) rfl (mkK87 W) ht0_0
  obtain ⟨a0_1, e0_1, _, w0_1⟩ := DataW.trod_int Try.underlying3 ht0_1
  obtain rfl : u0_1 = .int .i64 a0_1 := by simpa using e0_1
  clear hA0 hval0 hsz0 hsz
  obtain ⟨k, hk⟩ := Pure.FnExactIsDesk (L0_0.map mk87) a0_1 hm0_0 (mkW87 hw0_0) w0_1
  refine (QFnExactIsDesk.laws_FnExactIsDesk.calls k A0_0 c0_0 (L0_0.map mk87) a0_1 true W hr0_0 hc0_0 hk).mono ?_
  rintro e W' ⟨rfl, bel0⟩
  have bel : Below W.heap.size W W' := bel0
  exact ⟨_, rfl, _, _, _, [], _, [], hW', trodAll_mk1 (shut_bool Try.underlying4 _), (trodAll_cons_mk (Below.trod laidOut (by kernel_rfl) (of_decide_eq_true (by kernel_rfl)) k0 bel lt0) trodAll_mk0), rfl, bel.frame _, fun h => by cases h⟩
theorem over : Rows.fnExactIsDeskRow.holds Try.pinned (OpenSpec.ofChange Rows.fnExactIsDeskSpec) :=
  OpenClaim.holds_of_wide 14 Try.f14 rfl rfl rfl rfl rfl rfl rfl ⟨rfl, rfl, rfl, rfl, rfl⟩ rfl rfl rfl rfl rfl (by kernel_rfl) Try.func14 (by kernel_rfl)
    (of_decide_eq_true (by kernel_rfl)) (by unfold Func.isWrapper; first | (rw [if_pos (by decide +kernel)]; kernel_rfl) | (rw [if_neg (by decide +kernel)]; exact ⟨rfl, rfl⟩))
    (fun os started H enc _ => lifted os started H enc)
theorem proved : Rows.FnExactIsDeskSaid := over
#print axioms proved
end Go.Proofs.Ytfmnphonbklkfaa.fnExactIsDesk
namespace Go.Proofs.Ytfmnphonbklkfaa
/-- The row, under a short name, for the claim. -/
theorem fnExactIsDesk_holds : Rows.FnExactIsDeskSaid := fnExactIsDesk.proved
end Go.Proofs.Ytfmnphonbklkfaa
